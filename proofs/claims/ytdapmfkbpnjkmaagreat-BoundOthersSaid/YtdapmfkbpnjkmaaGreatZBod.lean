
import Derived.Test.YtdapmfkbpnjkmaaGreatZBoc
import Derived.Laws.Shifts
import Derived.Scope
namespace Go.Proofs.YtdapmfkbpnjkmaaGreat
open Go Go.Sx
set_option linter.all false
set_option maxRecDepth 20000
set_option maxHeartbeats 4000000
instance T.by_359:Has (a2y Tryz.prog 359) ([.int .i64 0,.int .i64 0,.string ⟨#[]⟩,.string ⟨#[]⟩,.string ⟨#[]⟩,.string ⟨#[]⟩,.string ⟨#[]⟩,.string ⟨#[]⟩,.int .i64 0,.int .i64 0,.int .i64 0,.int .i64 0,.int .i64 0,.int .i64 0,.int .i64 0],15,168):=⟨by kernel_rfl⟩
instance T.elt_357:Has (a8D Tryz.prog 357) (359,15):=⟨by kernel_rfl⟩
instance T.fld_359_0:Has (a3G Tryz.prog 359 0) (0,true,14):=⟨by kernel_rfl⟩
instance T.fld_359_1:Has (a3G Tryz.prog 359 1) (14,false,1):=⟨by kernel_rfl⟩
instance T.pl_359:Has (plK Tryz.prog 359) [(0,14),(14,1)]:=⟨by kernel_rfl⟩
instance T.ty_359:Has (tyK Tryz.prog 359) (true,15):=⟨by kernel_rfl⟩
instance T.und_357:Has (Tryz.prog.underlying 357) (.slice 359):=⟨by kernel_rfl⟩
instance T.zero_359:Has (a1Z Tryz.prog 359) [.int .i64 0,.int .i64 0,.string ⟨#[]⟩,.string ⟨#[]⟩,.string ⟨#[]⟩,.string ⟨#[]⟩,.string ⟨#[]⟩,.string ⟨#[]⟩,.int .i64 0,.int .i64 0,.int .i64 0,.int .i64 0,.int .i64 0,.int .i64 0,.int .i64 0]:=⟨by kernel_rfl⟩
theorem a8i (I:IMap) {rest:Rst 15} {cap:Nat} (l:List Pkd) (N:Nat) (hN:l.length=N) (g a b n:Nat) (f:FuncId) (h:a+n≤b) (hb:b+n≤l.length) (hl:l.length≤1000000) :
    FnM Tryz.prog 358 #[.slice (some ⟨g,0,none⟩) N cap,.int .i64 ((a:Nat):Int),.int .i64 ((b:Nat):Int),.int .i64 ((n:Nat):Int),.func (.func f) #[] #[]] I (.blk g 359 (a1O (l)++rest.l).flatten) (.blk g 359 (a1O (a9i l a b n)++rest.l).flatten):=by
 refine enter Tryz.func358 Tryz.call358 rfl Tryz.ntmps358 rfl (fun w0=>?_);refine go 6 ?_
 refine a0L (α:=Nat) 0 (fun i=>I)
  (fun i=>[(0,.slice (some ⟨g,0,none⟩) N cap),(1,.int .i64 ((a:Nat):Int)),(2,.int .i64 ((b:Nat):Int)),(3,.int .i64 ((n:Nat):Int)),(10,.int .i64 ((i:Nat):Int))])
  (fun i=>[.blk g 359 (a1O (a9i l a b i)++rest.l).flatten])
  (fun i=>i≤n)
  (fun i=>n-i) (Nat.zero_le _) rfl sb rfl ?_
 intro i hi;refine go 8 ?_;refine cb rfl (fun h13 p13=>?_) (fun h13 p13=>?_)
 ·have hlt:i<n:=by omega
  have hm:=a3T l a b i
  have h1:a+i<(a9i l a b i).length:=by omega
  have h2:b+i<(a9i l a b i).length:=by omega
  refine go 4 ?_;refine a1t T.mixed ?_;refine a0f 0 rfl rfl (by kernel_rfl) rfl (.cons _ .slnil) rfl (a0c rfl) ?_;refine a0f 1 rfl rfl (by kernel_rfl) rfl (.cons _ .slnil) rfl (a0c rfl) ?_;refine a0f 2 rfl rfl (by kernel_rfl) rfl (.cons _ .slnil) rfl (a0c rfl) ?_;refine a0f 3 rfl rfl (by kernel_rfl) rfl (.cons _ .slnil) rfl (a2c rfl rfl ⟨by omega,by omega⟩) ?_;refine a0f 4 rfl rfl (by kernel_rfl) rfl (.cons _ .slnil) rfl (a0c rfl) ?_;refine a0f 5 rfl rfl (by kernel_rfl) rfl (.cons _ .slnil) rfl (a0c rfl) ?_;refine a0f 6 rfl rfl (by kernel_rfl) rfl (.cons _ .slnil) rfl (a0c rfl) ?_;refine a0f 7 rfl rfl (by kernel_rfl) rfl (.cons _ .slnil) rfl (a2c rfl rfl ⟨by omega,by omega⟩) ?_;refine a0f 8 rfl rfl (by kernel_rfl) rfl (.cons _ .slnil) rfl (a0c rfl) ?_;refine a0f 9 rfl rfl (by kernel_rfl) rfl (.cons _ .slnil) rfl (a0c rfl) ?_;refine a0f 10 rfl rfl (by kernel_rfl) rfl (.cons _ .slnil) rfl (a0c rfl) ?_;refine a0f 11 rfl rfl (by kernel_rfl) rfl (.cons _ .slnil) rfl (a2c rfl rfl ⟨by omega,by omega⟩) ?_;refine a0f 12 rfl rfl (by kernel_rfl) rfl (.cons _ .slnil) rfl (a0n he rfl rfl rfl (b+i) (by omega) (by omega)) ?_;refine a0f 14 rfl rfl (by kernel_rfl) rfl (.cons _ .slnil) rfl (a0c rfl) ?_;refine a0f 15 rfl rfl (by kernel_rfl) rfl (.cons _ .slnil) rfl (a0c rfl) ?_;refine a0f 16 rfl rfl (by kernel_rfl) rfl (.cons _ .slnil) rfl (a0c rfl) ?_;refine a0f 17 rfl rfl (by kernel_rfl) rfl (.cons _ .slnil) rfl (a2c rfl rfl ⟨by omega,by omega⟩) ?_;refine a0f 18 rfl rfl (by kernel_rfl) rfl (.cons _ .slnil) rfl (a0n he rfl rfl rfl (a+i) (by omega) (by omega)) ?_;refine a2A 13 19 (by kernel_rfl) rfl rfl ?_ ?_
  ·refine a0l rfl (a1S m0 ((a0z _).append rest.uk) he rfl (b+i) (by omega) (a0Q h2)) ?_;refine a0r (fun _ m=>m.keeps (.cons _ .slnil)) ?_;refine a0i 19 (by kernel_rfl) rfl ?_;refine a0l rfl (a1S m0 ((a0z _).append rest.uk) he rfl (a+i) (by omega) (a0Q h1)) ?_;refine a0r (fun _ m=>m.keeps (.cons _ .slnil)) ?_;refine a0f 20 rfl rfl (by kernel_rfl) rfl (.cons _ .slnil) rfl (a0n he rfl rfl rfl (a+i) (by omega) (by omega)) ?_;refine a0i 21 (by kernel_rfl) rfl ?_;refine a2b _ (a+i) (by first|exact (a0z _).append rest.uk|exact ((a0z _).append rest.uk).set rfl _) he rfl rfl rfl rfl rfl (by omega) (by simp[a0D];omega) ?_;refine a0r (fun _ m=>m.keeps (.cons _ .slnil)) ?_;refine a0f 22 rfl rfl (by kernel_rfl) rfl (.cons _ .slnil) rfl (a0n he rfl rfl rfl (b+i) (by omega) (by omega)) ?_;refine a0i 23 (by kernel_rfl) rfl ?_;refine a2b _ (b+i) (by first|exact (a0z _).append rest.uk|exact ((a0z _).append rest.uk).set rfl _) he rfl rfl rfl rfl rfl (by omega) (by simp[a0D];omega) ?_;refine a0r (fun _ m=>m.keeps (.cons _ .slnil)) ?_;refine a0w (by kernel_rfl) ?_;refine go 8 ?_;exact a0J (i+1) (by omega) (by omega) rfl sb (by rw[a9i];first|rw[←a3X h1 h2] | rw[←a3u h1 h2 (by omega)])
  ·refine a0l rfl (a1S m0 ((a0z _).append rest.uk) he rfl (a+i) (by omega) (a0Q h1)) ?_;refine a0r (fun _ m=>m.keeps (.cons _ .slnil)) ?_;refine a0i 13 (by kernel_rfl) rfl ?_;refine a0l rfl (a1S m0 ((a0z _).append rest.uk) he rfl (b+i) (by omega) (a0Q h2)) ?_;refine a0r (fun _ m=>m.keeps (.cons _ .slnil)) ?_;refine a0f 20 rfl rfl (by kernel_rfl) rfl (.cons _ .slnil) rfl (a0n he rfl rfl rfl (a+i) (by omega) (by omega)) ?_;refine a0i 21 (by kernel_rfl) rfl ?_;refine a2b _ (a+i) (by first|exact (a0z _).append rest.uk|exact ((a0z _).append rest.uk).set rfl _) he rfl rfl rfl rfl rfl (by omega) (by simp[a0D];omega) ?_;refine a0r (fun _ m=>m.keeps (.cons _ .slnil)) ?_;refine a0f 22 rfl rfl (by kernel_rfl) rfl (.cons _ .slnil) rfl (a0n he rfl rfl rfl (b+i) (by omega) (by omega)) ?_;refine a0i 23 (by kernel_rfl) rfl ?_;refine a2b _ (b+i) (by first|exact (a0z _).append rest.uk|exact ((a0z _).append rest.uk).set rfl _) he rfl rfl rfl rfl rfl (by omega) (by simp[a0D];omega) ?_;refine a0r (fun _ m=>m.keeps (.cons _ .slnil)) ?_;refine a0w (by kernel_rfl) ?_;refine go 8 ?_;exact a0J (i+1) (by omega) (by omega) rfl sb (by rw[a9i];first|rw[←a3X h1 h2] | rw[←a3u h1 h2 (by omega)])
 ·refine go 4 ?_;refine a4y rfl ?_;obtain rfl:i=n:=by omega
  exact q_m
theorem b6v (I:IMap) {rest:Rst 15} {cap:Nat} (l:List Pkd) (N:Nat) (hN:l.length=N) (g a b:Nat) (f:FuncId) (hp:∀x y:Pkd,FnV Tryz.prog f #[.agg (Day.ch x).toArray,.agg (Day.ch y).toArray] I (.int .i64 ((Day.day x-Day.day y)))) (hab:a≤b) (hb:b≤l.length) (hl:l.length≤1000000) :
    FnX Tryz.prog 347 #[.slice (some ⟨g,0,none⟩) N cap,.int .i64 ((a:Nat):Int),.int .i64 ((b:Nat):Int),.func (.func f) #[] #[]] I [.blk g 359 (a1O (l)++rest.l).flatten] (fun u r=>u = .tuple #[]∧∃m,r = .blk g 359 (a1O (m)++rest.l).flatten∧Seg l m a b):=by
 refine enter Tryz.func347 Tryz.call347 rfl Tryz.ntmps347 rfl (fun w0=>?_);refine go 3 ?_;refine o_v rfl (OV.cast (u:=.int .i64 ((a+1:Nat):Int)) (a2c rfl rfl ⟨by omega,by omega⟩) (congrArg (Value.int .i64) (by omega))) ?_;refine go 4 ?_
 refine a1w (a+1) (l) (fun i m=>I)
  (fun i m=>[(0,.slice (some ⟨g,0,none⟩) N cap),(1,.int .i64 ((a:Nat):Int)),(2,.int .i64 ((b:Nat):Int)),(3,.func (.func f) #[] #[]),(8,.int .i64 ((i:Nat):Int))])
  (fun i m=>[.blk g 359 (a1O (m)++rest.l).flatten])
  (fun i m=>a+1≤i∧(i≤b∨(m=l∧i=a+1))∧Seg l m a i)
  (fun i m=>b-i) ⟨Nat.le_refl _,.inr ⟨rfl,rfl⟩,Seg.one l a⟩ rfl sb rfl ?_
 intro i m ⟨h1,h2,hs⟩;refine go 8 ?_;refine cb rfl (fun h14 p14=>?_) (fun h14 p14=>?_)
 ·have hlt:i<b:=by omega
  refine go 11 ?_
  refine a1w (i) (m) (fun j k=>I)
   (fun j k=>[(0,.slice (some ⟨g,0,none⟩) N cap),(1,.int .i64 ((a:Nat):Int)),(2,.int .i64 ((b:Nat):Int)),(3,.func (.func f) #[] #[]),(8,.int .i64 ((i:Nat):Int)),(9,.int .i64 ((j:Nat):Int))])
   (fun j k=>[.blk g 359 (a1O (k)++rest.l).flatten])
   (fun j k=>a≤j∧j≤i∧Ins l k a i j)
   (fun j k=>j) ⟨by omega,Nat.le_refl _,Ins.start hs⟩ rfl sb rfl ?_
  intro j k ⟨hj1,hj2,hk⟩
  have hkl:=hk.len
  refine go 2 ?_;refine a1h T.mixed ?_;refine a0f 0 rfl rfl (by kernel_rfl) rfl (.refl _) rfl (a0c rfl) ?_;refine a0f 1 rfl rfl (by kernel_rfl) rfl (.refl _) rfl (a0c rfl) ?_;refine a0f 2 rfl rfl (by kernel_rfl) rfl (.refl _) rfl (b8U rfl rfl) ?_;refine a0f 3 rfl rfl (by kernel_rfl) rfl (.refl _) rfl (a0c rfl) ?_;refine sxb 21 rfl (fun h21 p21=>?_) (fun h21 p21=>?_)
  ·have hjk:j<k.length:=by omega
   have hjk1:j-1<k.length:=by omega
   refine d_t 4 rfl rfl (by kernel_rfl) rfl (fun _ m=>m.keeps (.refl _)) (a1L rfl rfl h21 (a0c rfl)) ?_;refine d_t 5 rfl rfl (by kernel_rfl) rfl (fun _ m=>m.keeps (.refl _)) (a1L rfl rfl h21 (a0c rfl)) ?_;refine d_t 6 rfl rfl (by kernel_rfl) rfl (fun _ m=>m.keeps (.refl _)) (a1L rfl rfl h21 (a0c rfl)) ?_;refine d_t 7 rfl rfl (by kernel_rfl) rfl (fun _ m=>m.keeps (.refl _)) (a1L rfl rfl h21 (a0n he rfl rfl rfl (j) (by omega) (by omega))) ?_;refine d_t 8 rfl rfl (by kernel_rfl) rfl (fun _ m=>m.keeps (.refl _)) (a1L rfl rfl h21 (a1S m0 ((a0z _).append rest.uk) he rfl (j) (by omega) (a0Q hjk))) ?_;refine d_t 9 rfl rfl (by kernel_rfl) rfl (fun _ m=>m.keeps (.refl _)) (a1L rfl rfl h21 (a0c rfl)) ?_;refine d_t 10 rfl rfl (by kernel_rfl) rfl (fun _ m=>m.keeps (.refl _)) (a1L rfl rfl h21 (a0c rfl)) ?_;refine d_t 11 rfl rfl (by kernel_rfl) rfl (fun _ m=>m.keeps (.refl _)) (a1L rfl rfl h21 (a1v rfl rfl ⟨by omega,by omega⟩)) ?_;refine d_t 12 rfl rfl (by kernel_rfl) rfl (fun _ m=>m.keeps (.refl _)) (a1L rfl rfl h21 (a0n he rfl rfl rfl (j-1) (by omega) (by omega))) ?_;refine d_t 13 rfl rfl (by kernel_rfl) rfl (fun _ m=>m.keeps (.refl _)) (a1L rfl rfl h21 (a1S m0 ((a0z _).append rest.uk) he rfl (j-1) (by omega) (a0Q hjk1))) ?_;refine a0i 14 (by kernel_rfl) rfl ?_;refine a0y rfl rfl h21 (a0a (hp _ _) rfl rfl ?_);refine a0r (fun _ m=>m.keeps (.refl _)) ?_;refine d_t 15 rfl rfl (by kernel_rfl) rfl (fun _ m=>m.keeps (.refl _)) (a1L rfl rfl h21 (a8n rfl rfl)) ?_;refine a0f 16 rfl rfl (by kernel_rfl) rfl (.refl _) rfl (a8m h21 rfl rfl) ?_;refine a0w (by kernel_rfl) ?_;refine go 1 ?_;refine cb rfl (fun h34 p34=>?_) (fun h34 p34=>?_)
   ·refine go 4 ?_;refine a1t T.mixed ?_;refine a0f 0 rfl rfl (by kernel_rfl) rfl (.cons _ .slnil) rfl (a0c rfl) ?_;refine a0f 1 rfl rfl (by kernel_rfl) rfl (.cons _ .slnil) rfl (a0c rfl) ?_;refine a0f 2 rfl rfl (by kernel_rfl) rfl (.cons _ .slnil) rfl (a0c rfl) ?_;refine a0f 3 rfl rfl (by kernel_rfl) rfl (.cons _ .slnil) rfl (a0c rfl) ?_;refine a0f 4 rfl rfl (by kernel_rfl) rfl (.cons _ .slnil) rfl (a1v rfl rfl ⟨by omega,by omega⟩) ?_;refine a0f 5 rfl rfl (by kernel_rfl) rfl (.cons _ .slnil) rfl (a0c rfl) ?_;refine a0f 6 rfl rfl (by kernel_rfl) rfl (.cons _ .slnil) rfl (a0c rfl) ?_;refine a0f 7 rfl rfl (by kernel_rfl) rfl (.cons _ .slnil) rfl (a1v rfl rfl ⟨by omega,by omega⟩) ?_;refine a0f 8 rfl rfl (by kernel_rfl) rfl (.cons _ .slnil) rfl (a0n he rfl rfl rfl (j-1) (by omega) (by omega)) ?_;refine a0f 10 rfl rfl (by kernel_rfl) rfl (.cons _ .slnil) rfl (a0c rfl) ?_;refine a0f 11 rfl rfl (by kernel_rfl) rfl (.cons _ .slnil) rfl (a0c rfl) ?_;refine a0f 12 rfl rfl (by kernel_rfl) rfl (.cons _ .slnil) rfl (a0n he rfl rfl rfl (j) (by omega) (by omega)) ?_;refine a2A 9 13 (by kernel_rfl) rfl rfl ?_ ?_
    ·refine a0l rfl (a1S m0 ((a0z _).append rest.uk) he rfl (j-1) (by omega) (a0Q hjk1)) ?_;refine a0r (fun _ m=>m.keeps (.cons _ .slnil)) ?_;refine a0i 13 (by kernel_rfl) rfl ?_;refine a0l rfl (a1S m0 ((a0z _).append rest.uk) he rfl (j) (by omega) (a0Q hjk)) ?_;refine a0r (fun _ m=>m.keeps (.cons _ .slnil)) ?_;refine a0f 14 rfl rfl (by kernel_rfl) rfl (.cons _ .slnil) rfl (a0n he rfl rfl rfl (j) (by omega) (by omega)) ?_;refine a0i 15 (by kernel_rfl) rfl ?_;refine a2b _ (j) (by first|exact (a0z _).append rest.uk|exact ((a0z _).append rest.uk).set rfl _) he rfl rfl rfl rfl rfl (by omega) (by simp[a0D];omega) ?_;refine a0r (fun _ m=>m.keeps (.cons _ .slnil)) ?_;refine a0f 16 rfl rfl (by kernel_rfl) rfl (.cons _ .slnil) rfl (a0n he rfl rfl rfl (j-1) (by omega) (by omega)) ?_;refine a0i 17 (by kernel_rfl) rfl ?_;refine a2b _ (j-1) (by first|exact (a0z _).append rest.uk|exact ((a0z _).append rest.uk).set rfl _) he rfl rfl rfl rfl rfl (by omega) (by simp[a0D];omega) ?_;refine a0r (fun _ m=>m.keeps (.cons _ .slnil)) ?_;refine a0w (by kernel_rfl) ?_;refine go 4 ?_;refine o_v rfl (OV.cast (u:=.int .i64 ((j-1:Nat):Int)) (a1v rfl rfl ⟨by omega,by omega⟩) (congrArg (Value.int .i64) (by omega))) ?_;refine go 3 ?_;exact a0M (j-1) (swp k j (j-1)) ⟨by omega,by omega,hk.step (by omega) (by omega) (by omega) (by have:=p34;simp only[a7G]at this;rw[a1z (by omega),a1z (by omega)];exact this)⟩ (by omega) rfl sb (by first|rw[←a3X (show j<k.length by omega) (show j-1<k.length by omega)] | rw[←a3u (show j<k.length by omega) (show j-1<k.length by omega) (by omega)])
    ·refine a0l rfl (a1S m0 ((a0z _).append rest.uk) he rfl (j) (by omega) (a0Q hjk)) ?_;refine a0r (fun _ m=>m.keeps (.cons _ .slnil)) ?_;refine a0i 9 (by kernel_rfl) rfl ?_;refine a0l rfl (a1S m0 ((a0z _).append rest.uk) he rfl (j-1) (by omega) (a0Q hjk1)) ?_;refine a0r (fun _ m=>m.keeps (.cons _ .slnil)) ?_;refine a0f 14 rfl rfl (by kernel_rfl) rfl (.cons _ .slnil) rfl (a0n he rfl rfl rfl (j) (by omega) (by omega)) ?_;refine a0i 15 (by kernel_rfl) rfl ?_;refine a2b _ (j) (by first|exact (a0z _).append rest.uk|exact ((a0z _).append rest.uk).set rfl _) he rfl rfl rfl rfl rfl (by omega) (by simp[a0D];omega) ?_;refine a0r (fun _ m=>m.keeps (.cons _ .slnil)) ?_;refine a0f 16 rfl rfl (by kernel_rfl) rfl (.cons _ .slnil) rfl (a0n he rfl rfl rfl (j-1) (by omega) (by omega)) ?_;refine a0i 17 (by kernel_rfl) rfl ?_;refine a2b _ (j-1) (by first|exact (a0z _).append rest.uk|exact ((a0z _).append rest.uk).set rfl _) he rfl rfl rfl rfl rfl (by omega) (by simp[a0D];omega) ?_;refine a0r (fun _ m=>m.keeps (.cons _ .slnil)) ?_;refine a0w (by kernel_rfl) ?_;refine go 4 ?_;refine o_v rfl (OV.cast (u:=.int .i64 ((j-1:Nat):Int)) (a1v rfl rfl ⟨by omega,by omega⟩) (congrArg (Value.int .i64) (by omega))) ?_;refine go 3 ?_;exact a0M (j-1) (swp k j (j-1)) ⟨by omega,by omega,hk.step (by omega) (by omega) (by omega) (by have:=p34;simp only[a7G]at this;rw[a1z (by omega),a1z (by omega)];exact this)⟩ (by omega) rfl sb (by first|rw[←a3X (show j<k.length by omega) (show j-1<k.length by omega)] | rw[←a3u (show j<k.length by omega) (show j-1<k.length by omega) (by omega)])
   ·refine go 12 ?_;exact a0M (i+1) (k) ⟨by omega,.inl (by omega),hk.done (by omega) (by omega) (.inr (by have:=p34;simp only[a7G]at this;rw[a1z (by omega),a1z (by omega)];omega))⟩ (by omega) rfl sb rfl
  ·refine d_t 4 rfl rfl (by kernel_rfl) rfl (fun _ m=>m.keeps (.refl _)) (a3h rfl rfl h21) ?_;refine d_t 5 rfl rfl (by kernel_rfl) rfl (fun _ m=>m.keeps (.refl _)) (a3h rfl rfl h21) ?_;refine d_t 6 rfl rfl (by kernel_rfl) rfl (fun _ m=>m.keeps (.refl _)) (a3h rfl rfl h21) ?_;refine d_t 7 rfl rfl (by kernel_rfl) rfl (fun _ m=>m.keeps (.refl _)) (a3h rfl rfl h21) ?_;refine d_t 8 rfl rfl (by kernel_rfl) rfl (fun _ m=>m.keeps (.refl _)) (a3h rfl rfl h21) ?_;refine d_t 9 rfl rfl (by kernel_rfl) rfl (fun _ m=>m.keeps (.refl _)) (a3h rfl rfl h21) ?_;refine d_t 10 rfl rfl (by kernel_rfl) rfl (fun _ m=>m.keeps (.refl _)) (a3h rfl rfl h21) ?_;refine d_t 11 rfl rfl (by kernel_rfl) rfl (fun _ m=>m.keeps (.refl _)) (a3h rfl rfl h21) ?_;refine d_t 12 rfl rfl (by kernel_rfl) rfl (fun _ m=>m.keeps (.refl _)) (a3h rfl rfl h21) ?_;refine d_t 13 rfl rfl (by kernel_rfl) rfl (fun _ m=>m.keeps (.refl _)) (a3h rfl rfl h21) ?_;refine d_t 14 rfl rfl (by kernel_rfl) rfl (fun _ m=>m.keeps (.refl _)) (a3h rfl rfl h21) ?_;refine d_t 15 rfl rfl (by kernel_rfl) rfl (fun _ m=>m.keeps (.refl _)) (a3h rfl rfl h21) ?_;refine a0f 16 rfl rfl (by kernel_rfl) rfl (.refl _) rfl (a8l h21 rfl) ?_;refine a0w (by kernel_rfl) ?_;refine go 1 ?_;refine a0P rfl ?_;refine go 12 ?_;exact a0M (i+1) (k) ⟨by omega,.inl (by omega),hk.done (by omega) (by omega) (.inl (by omega))⟩ (by omega) rfl sb rfl
 ·refine go 4 ?_;refine a4y rfl ?_;exact q_x (by refine⟨rfl,m,rfl,?_⟩;rcases h2 with h2|⟨rfl,h2⟩;exact (show i=b by omega)▸hs;exact Seg.none (by omega))
theorem c8b (I:IMap) {rest:Rst 15} {cap:Nat} (l:List Pkd) (N:Nat) (hN:l.length=N) (g a m b:Nat) (f:FuncId) (ham:a<m) (hmb:m<b) (hb:b≤l.length) (hl:l.length≤1000000) :
    FnX Tryz.prog 355 #[.slice (some ⟨g,0,none⟩) N cap,.int .i64 ((a:Nat):Int),.int .i64 ((m:Nat):Int),.int .i64 ((b:Nat):Int),.func (.func f) #[] #[]] I [.blk g 359 (a1O (l)++rest.l).flatten] (fun u r=>u = .tuple #[]∧∃k,r = .blk g 359 (a1O (k)++rest.l).flatten∧k.length=l.length∧∀q,k[q]? = a8f (l[·]?) m (m-a) (b-m) q):=by
 refine enter Tryz.func355 Tryz.call355 rfl Tryz.ntmps355 rfl (fun w0=>?_);refine go 4 ?_;refine o_v rfl (OV.cast (u:=.int .i64 ((m-a:Nat):Int)) (a1v rfl rfl ⟨by omega,by omega⟩) (congrArg (Value.int .i64) (by omega))) ?_;refine go 7 ?_;refine o_v rfl (OV.cast (u:=.int .i64 ((b-m:Nat):Int)) (a1v rfl rfl ⟨by omega,by omega⟩) (congrArg (Value.int .i64) (by omega))) ?_;refine go 5 ?_
 refine a3B (m-a) (b-m) (l) (fun i j k=>I)
  (fun i j k=>[(0,.slice (some ⟨g,0,none⟩) N cap),(1,.int .i64 ((a:Nat):Int)),(2,.int .i64 ((m:Nat):Int)),(3,.int .i64 ((b:Nat):Int)),(4,.func (.func f) #[] #[]),(10,.int .i64 ((i:Nat):Int)),(11,.int .i64 ((j:Nat):Int))])
  (fun i j k=>[.blk g 359 (a1O (k)++rest.l).flatten])
  (fun i j k=>1≤i∧1≤j∧i≤m∧m+j≤l.length∧k.length=l.length∧∀q,a8f (k[·]?) m i j q=a8f (l[·]?) m (m-a) (b-m) q)
  (fun i j k=>i+j) ⟨by omega,by omega,by omega,by omega,rfl,fun q=>rfl⟩ rfl sb rfl ?_
 intro i j k ⟨hi1,hj1,him,hmj,hkl,hk⟩;refine go 8 ?_;refine cb rfl (fun h20 p20=>?_) (fun h20 p20=>?_)
 ·refine go 10 ?_;refine cb rfl (fun h23 p23=>?_) (fun h23 p23=>?_)
  ·refine go 5 ?_;refine o_v rfl (OV.cast (u:=.int .i64 ((m-i:Nat):Int)) (a1v rfl rfl ⟨by omega,by omega⟩) (congrArg (Value.int .i64) (by omega))) ?_;refine go 4 ?_;refine a4G (a8i _ k N (by omega) g (m-i) m j f (by omega) (by omega) (by omega)) rfl rfl ?_;refine go 5 ?_;refine o_v rfl (OV.cast (u:=.int .i64 ((i-j:Nat):Int)) (a1v rfl rfl ⟨by omega,by omega⟩) (congrArg (Value.int .i64) (by omega))) ?_;refine go 4 ?_;exact a1X (i-j) (j) (a9i k (m-i) m j) ⟨by omega,by omega,by omega,by omega,(a3T _ _ _ _).trans hkl,fun q=>(c5C (by omega) (by omega) (a5K _ (by omega) (by omega)) q).trans (hk q)⟩ (by omega) rfl sb rfl
  ·refine go 5 ?_;refine o_v rfl (OV.cast (u:=.int .i64 ((m-i:Nat):Int)) (a1v rfl rfl ⟨by omega,by omega⟩) (congrArg (Value.int .i64) (by omega))) ?_;refine go 4 ?_;refine o_v rfl (OV.cast (u:=.int .i64 ((m+j-i:Nat):Int)) (a1v rfl rfl ⟨by omega,by omega⟩) (congrArg (Value.int .i64) (by omega))) ?_;refine go 3 ?_;refine a4G (a8i _ k N (by omega) g (m-i) (m+j-i) i f (by omega) (by omega) (by omega)) rfl rfl ?_;refine go 5 ?_;refine o_v rfl (OV.cast (u:=.int .i64 ((j-i:Nat):Int)) (a1v rfl rfl ⟨by omega,by omega⟩) (congrArg (Value.int .i64) (by omega))) ?_;refine go 4 ?_;exact a1X (i) (j-i) (a9i k (m-i) (m+j-i) i) ⟨by omega,by omega,by omega,by omega,(a3T _ _ _ _).trans hkl,fun q=>(c5D (by omega) (by omega) (a5K _ (by omega) (by omega)) q).trans (hk q)⟩ (by omega) rfl sb rfl
 ·obtain rfl:i=j:=by have:=p20;omega
  refine go 9 ?_;refine o_v rfl (OV.cast (u:=.int .i64 ((m-i:Nat):Int)) (a1v rfl rfl ⟨by omega,by omega⟩) (congrArg (Value.int .i64) (by omega))) ?_;refine go 4 ?_;refine a4G (a8i _ k N (by omega) g (m-i) m i f (by omega) (by omega) (by omega)) rfl rfl ?_;refine go 1 ?_;refine a4y rfl ?_;exact q_x ⟨rfl,a9i k (m-i) m i,rfl,(a3T _ _ _ _).trans hkl,fun q=>(c5B him (a5K _ (by omega) (by omega)) q).trans (hk q)⟩
theorem b8R (I:IMap) {rest:Rst 15} {cap:Nat} (N g:Nat) (f:FuncId) (hp:∀x y:Pkd,FnV Tryz.prog f #[.agg (Day.ch x).toArray,.agg (Day.ch y).toArray] I (.int .i64 ((Day.day x-Day.day y)))) (hN0:N≤1000000) (W:Nat) (ih:∀(l:List Pkd) (a m b:Nat),l.length=N→b-a<W→a<m→m<b→b≤l.length→SrtD l a m→SrtD l m b→FnX Tryz.prog 348 #[.slice (some ⟨g,0,none⟩) N cap,.int .i64 ((a:Nat):Int),.int .i64 ((m:Nat):Int),.int .i64 ((b:Nat):Int),.func (.func f) #[] #[]] I [.blk g 359 (a1O (l)++rest.l).flatten] (fun u r=>u = .tuple #[]∧∃m,r = .blk g 359 (a1O (m)++rest.l).flatten∧Seg l m a b)) (l:List Pkd) (a m b:Nat) (hN:l.length=N) (hW:b-a≤W) (ham:a<m) (hmb:m<b) (hb:b≤l.length) (m1:SrtD l a m) (m2:SrtD l m b) :
    FnX Tryz.prog 348 #[.slice (some ⟨g,0,none⟩) N cap,.int .i64 ((a:Nat):Int),.int .i64 ((m:Nat):Int),.int .i64 ((b:Nat):Int),.func (.func f) #[] #[]] I [.blk g 359 (a1O (l)++rest.l).flatten] (fun u r=>u = .tuple #[]∧∃m,r = .blk g 359 (a1O (m)++rest.l).flatten∧Seg l m a b):=by
 refine enter Tryz.func348 Tryz.call348 rfl Tryz.ntmps348 rfl (fun w0=>?_);refine go 5 ?_;refine o_v rfl (OV.cast (u:=.int .i64 ((m-a:Nat):Int)) (a1v rfl rfl ⟨by omega,by omega⟩) (congrArg (Value.int .i64) (by omega))) ?_;refine go 3 ?_;refine cb rfl (fun h28 p28=>?_) (fun h28 p28=>?_)
 ·obtain rfl:m=a+1:=by omega
  refine go 14 ?_
  refine a1w (a+1) (b) (fun i j=>I)
   (fun i j=>[(0,.slice (some ⟨g,0,none⟩) N cap),(1,.int .i64 ((a:Nat):Int)),(2,.int .i64 ((a+1:Nat):Int)),(3,.int .i64 ((b:Nat):Int)),(4,.func (.func f) #[] #[]),(10,.int .i64 ((i:Nat):Int)),(11,.int .i64 ((j:Nat):Int))])
   (fun i j=>[.blk g 359 (a1O (l)++rest.l).flatten])
   (fun i j=>a+1≤i∧i≤j∧j≤b∧(∀q,a+1≤q→q<i→a0C l q<a0C l a)∧(∀q,j≤q→q<b→a0C l a≤a0C l q))
   (fun i j=>j-i) ⟨by omega,by omega,by omega,fun q _ _=>by omega,fun q _ _=>by omega⟩ rfl sb rfl ?_
  intro i j ⟨hi1,hij,hjb,hlo,hhi⟩;refine go 8 ?_;refine cb rfl (fun h33 p33=>?_) (fun h33 p33=>?_)
  ·have hh:(i+j) / 2<l.length:=by omega
   have ha0:a<l.length:=by omega
   refine go 8 ?_;refine o_v rfl (a2k he he rfl (m:=(i:Int)+(j:Int)) (wrap_u64 _ (by omega) (by omega))) ?_;refine o_v rfl (a6A rfl (by decide)) ?_;refine o_v rfl (a2k he he rfl (m:=(((i+j) / 2:Nat):Int)) (by rw[IntKind.wrap_i64];omega)) ?_;refine go 4 ?_;refine a1h T.mixed ?_;refine a0f 0 rfl rfl (by kernel_rfl) rfl (.refl _) rfl (a0c rfl) ?_;refine a0f 1 rfl rfl (by kernel_rfl) rfl (.refl _) rfl (a0c rfl) ?_;refine a0f 2 rfl rfl (by kernel_rfl) rfl (.refl _) rfl (a0c rfl) ?_;refine a0f 3 rfl rfl (by kernel_rfl) rfl (.refl _) rfl (a0n he rfl rfl rfl ((i+j) / 2) (by omega) (by omega)) ?_;refine a0f 4 rfl rfl (by kernel_rfl) rfl (.refl _) rfl (a1S m0 ((a0z _).append rest.uk) he rfl ((i+j) / 2) (by omega) (a0Q hh)) ?_;refine a0f 5 rfl rfl (by kernel_rfl) rfl (.refl _) rfl (a0c rfl) ?_;refine a0f 6 rfl rfl (by kernel_rfl) rfl (.refl _) rfl (a0c rfl) ?_;refine a0f 7 rfl rfl (by kernel_rfl) rfl (.refl _) rfl (a0n he rfl rfl rfl (a) (by omega) (by omega)) ?_;refine a0f 8 rfl rfl (by kernel_rfl) rfl (.refl _) rfl (a1S m0 ((a0z _).append rest.uk) he rfl (a) (by omega) (a0Q ha0)) ?_;refine a0i 9 (by kernel_rfl) rfl ?_;refine a0a (hp _ _) rfl rfl ?_;refine a0r (fun _ m=>m.keeps (.refl _)) ?_;refine a0f 10 rfl rfl (by kernel_rfl) rfl (.refl _) rfl (a8n rfl rfl) ?_;refine a0w (by kernel_rfl) ?_;refine go 1 ?_;refine cb rfl (fun h50 p50=>?_) (fun h50 p50=>?_)
   ·refine go 7 ?_;exact a0M ((i+j) / 2+1) (j) ⟨by omega,by omega,by omega,fun q q1 q2=>by have:=m2.le (p:=q) (q:=(i+j) / 2) q1 (by omega) (by omega);have:=b4N p50;omega,hhi⟩ (by omega) rfl sb rfl
   ·refine go 6 ?_;exact a0M (i) ((i+j) / 2) ⟨by omega,by omega,by omega,hlo,fun q q1 q2=>by have:=m2.le (p:=(i+j) / 2) (q:=q) (by omega) q1 q2;have:=b4M p50;omega⟩ (by omega) rfl sb rfl
  ·obtain rfl:i=j:=by omega
   refine go 13 ?_
   refine a0L (α:=Nat) 0 (fun t=>I)
    (fun t=>[(0,.slice (some ⟨g,0,none⟩) N cap),(1,.int .i64 ((a:Nat):Int)),(2,.int .i64 ((a+1:Nat):Int)),(3,.int .i64 ((b:Nat):Int)),(4,.func (.func f) #[] #[]),(10,.int .i64 ((i:Nat):Int)),(13,.int .i64 ((a+t:Nat):Int))])
    (fun t=>[.blk g 359 (a1O (bub l a t)++rest.l).flatten])
    (fun t=>a+t+1≤i)
    (fun t=>i-t) (by omega) rfl sb rfl ?_
   intro t ht;refine go 5 ?_;refine o_v rfl (OV.cast (u:=.int .i64 ((i-1:Nat):Int)) (a1v rfl rfl ⟨by omega,by omega⟩) (congrArg (Value.int .i64) (by omega))) ?_;refine go 3 ?_;refine cb rfl (fun h58 p58=>?_) (fun h58 p58=>?_)
   ·have hbl:=a9s l a t
    have hk1:a+t<(bub l a t).length:=by omega
    have hk2:a+t+1<(bub l a t).length:=by omega
    refine go 4 ?_;refine a1t T.mixed ?_;refine a0f 0 rfl rfl (by kernel_rfl) rfl (.cons _ .slnil) rfl (a0c rfl) ?_;refine a0f 1 rfl rfl (by kernel_rfl) rfl (.cons _ .slnil) rfl (a0c rfl) ?_;refine a0f 2 rfl rfl (by kernel_rfl) rfl (.cons _ .slnil) rfl (a0c rfl) ?_;refine a0f 3 rfl rfl (by kernel_rfl) rfl (.cons _ .slnil) rfl (a0c rfl) ?_;refine a0f 4 rfl rfl (by kernel_rfl) rfl (.cons _ .slnil) rfl (OV.cast (u:=.int .i64 ((a+t+1:Nat):Int)) (a2c rfl rfl ⟨by omega,by omega⟩) (congrArg (Value.int .i64) (by omega))) ?_;refine a0f 5 rfl rfl (by kernel_rfl) rfl (.cons _ .slnil) rfl (a0c rfl) ?_;refine a0f 6 rfl rfl (by kernel_rfl) rfl (.cons _ .slnil) rfl (a0c rfl) ?_;refine a0f 7 rfl rfl (by kernel_rfl) rfl (.cons _ .slnil) rfl (OV.cast (u:=.int .i64 ((a+t+1:Nat):Int)) (a2c rfl rfl ⟨by omega,by omega⟩) (congrArg (Value.int .i64) (by omega))) ?_;refine a0f 8 rfl rfl (by kernel_rfl) rfl (.cons _ .slnil) rfl (a0n he rfl rfl rfl (a+t+1) (by omega) (by omega)) ?_;refine a0f 10 rfl rfl (by kernel_rfl) rfl (.cons _ .slnil) rfl (a0c rfl) ?_;refine a0f 11 rfl rfl (by kernel_rfl) rfl (.cons _ .slnil) rfl (a0c rfl) ?_;refine a0f 12 rfl rfl (by kernel_rfl) rfl (.cons _ .slnil) rfl (a0n he rfl rfl rfl (a+t) (by omega) (by omega)) ?_;refine a2A 9 13 (by kernel_rfl) rfl rfl ?_ ?_
    ·refine a0l rfl (a1S m0 ((a0z _).append rest.uk) he rfl (a+t+1) (by omega) (a0Q hk2)) ?_;refine a0r (fun _ m=>m.keeps (.cons _ .slnil)) ?_;refine a0i 13 (by kernel_rfl) rfl ?_;refine a0l rfl (a1S m0 ((a0z _).append rest.uk) he rfl (a+t) (by omega) (a0Q hk1)) ?_;refine a0r (fun _ m=>m.keeps (.cons _ .slnil)) ?_;refine a0f 14 rfl rfl (by kernel_rfl) rfl (.cons _ .slnil) rfl (a0n he rfl rfl rfl (a+t) (by omega) (by omega)) ?_;refine a0i 15 (by kernel_rfl) rfl ?_;refine a2b _ (a+t) (by first|exact (a0z _).append rest.uk|exact ((a0z _).append rest.uk).set rfl _) he rfl rfl rfl rfl rfl (by omega) (by simp[a0D];omega) ?_;refine a0r (fun _ m=>m.keeps (.cons _ .slnil)) ?_;refine a0f 16 rfl rfl (by kernel_rfl) rfl (.cons _ .slnil) rfl (a0n he rfl rfl rfl (a+t+1) (by omega) (by omega)) ?_;refine a0i 17 (by kernel_rfl) rfl ?_;refine a2b _ (a+t+1) (by first|exact (a0z _).append rest.uk|exact ((a0z _).append rest.uk).set rfl _) he rfl rfl rfl rfl rfl (by omega) (by simp[a0D];omega) ?_;refine a0r (fun _ m=>m.keeps (.cons _ .slnil)) ?_;refine a0w (by kernel_rfl) ?_;refine go 4 ?_;refine o_v rfl (OV.cast (u:=.int .i64 ((a+(t+1):Nat):Int)) (a2c rfl rfl ⟨by omega,by omega⟩) (congrArg (Value.int .i64) (by omega))) ?_;refine go 3 ?_;exact a0J (t+1) (by omega) (by omega) rfl sb (by rw[bub];first|rw[←a3X hk1 hk2] | rw[←a3u hk1 hk2 (by omega)])
    ·refine a0l rfl (a1S m0 ((a0z _).append rest.uk) he rfl (a+t) (by omega) (a0Q hk1)) ?_;refine a0r (fun _ m=>m.keeps (.cons _ .slnil)) ?_;refine a0i 9 (by kernel_rfl) rfl ?_;refine a0l rfl (a1S m0 ((a0z _).append rest.uk) he rfl (a+t+1) (by omega) (a0Q hk2)) ?_;refine a0r (fun _ m=>m.keeps (.cons _ .slnil)) ?_;refine a0f 14 rfl rfl (by kernel_rfl) rfl (.cons _ .slnil) rfl (a0n he rfl rfl rfl (a+t) (by omega) (by omega)) ?_;refine a0i 15 (by kernel_rfl) rfl ?_;refine a2b _ (a+t) (by first|exact (a0z _).append rest.uk|exact ((a0z _).append rest.uk).set rfl _) he rfl rfl rfl rfl rfl (by omega) (by simp[a0D];omega) ?_;refine a0r (fun _ m=>m.keeps (.cons _ .slnil)) ?_;refine a0f 16 rfl rfl (by kernel_rfl) rfl (.cons _ .slnil) rfl (a0n he rfl rfl rfl (a+t+1) (by omega) (by omega)) ?_;refine a0i 17 (by kernel_rfl) rfl ?_;refine a2b _ (a+t+1) (by first|exact (a0z _).append rest.uk|exact ((a0z _).append rest.uk).set rfl _) he rfl rfl rfl rfl rfl (by omega) (by simp[a0D];omega) ?_;refine a0r (fun _ m=>m.keeps (.cons _ .slnil)) ?_;refine a0w (by kernel_rfl) ?_;refine go 4 ?_;refine o_v rfl (OV.cast (u:=.int .i64 ((a+(t+1):Nat):Int)) (a2c rfl rfl ⟨by omega,by omega⟩) (congrArg (Value.int .i64) (by omega))) ?_;refine go 3 ?_;exact a0J (t+1) (by omega) (by omega) rfl sb (by rw[bub];first|rw[←a3X hk1 hk2] | rw[←a3u hk1 hk2 (by omega)])
   ·refine go 7 ?_;refine c3i rfl ?_;exact q_x ⟨rfl,_,rfl,(show i-1-a=t by omega)▸b6I m2 hi1 hjb hb hlo hhi⟩
 ·have hma:a+2≤m:=by omega
  refine go 7 ?_;refine o_v rfl (OV.cast (u:=.int .i64 ((b-m:Nat):Int)) (a1v rfl rfl ⟨by omega,by omega⟩) (congrArg (Value.int .i64) (by omega))) ?_;refine go 3 ?_;refine cb rfl (fun h80 p80=>?_) (fun h80 p80=>?_)
  ·obtain rfl:b=m+1:=by omega
   refine go 14 ?_
   refine a1w (a) (m) (fun i j=>I)
    (fun i j=>[(0,.slice (some ⟨g,0,none⟩) N cap),(1,.int .i64 ((a:Nat):Int)),(2,.int .i64 ((m:Nat):Int)),(3,.int .i64 ((m+1:Nat):Int)),(4,.func (.func f) #[] #[]),(14,.int .i64 ((i:Nat):Int)),(15,.int .i64 ((j:Nat):Int))])
    (fun i j=>[.blk g 359 (a1O (l)++rest.l).flatten])
    (fun i j=>a≤i∧i≤j∧j≤m∧(∀q,a≤q→q<i→a0C l q≤a0C l m)∧(∀q,j≤q→q<m→a0C l m<a0C l q))
    (fun i j=>j-i) ⟨by omega,by omega,by omega,fun q _ _=>by omega,fun q _ _=>by omega⟩ rfl sb rfl ?_
   intro i j ⟨hi1,hij,hjb,hlo,hhi⟩;refine go 8 ?_;refine cb rfl (fun h85 p85=>?_) (fun h85 p85=>?_)
   ·have hh:(i+j) / 2<l.length:=by omega
    have hm0:m<l.length:=by omega
    refine go 8 ?_;refine o_v rfl (a2k he he rfl (m:=(i:Int)+(j:Int)) (wrap_u64 _ (by omega) (by omega))) ?_;refine o_v rfl (a6A rfl (by decide)) ?_;refine o_v rfl (a2k he he rfl (m:=(((i+j) / 2:Nat):Int)) (by rw[IntKind.wrap_i64];omega)) ?_;refine go 4 ?_;refine a1h T.mixed ?_;refine a0f 0 rfl rfl (by kernel_rfl) rfl (.refl _) rfl (a0c rfl) ?_;refine a0f 1 rfl rfl (by kernel_rfl) rfl (.refl _) rfl (a0c rfl) ?_;refine a0f 2 rfl rfl (by kernel_rfl) rfl (.refl _) rfl (a0c rfl) ?_;refine a0f 3 rfl rfl (by kernel_rfl) rfl (.refl _) rfl (a0n he rfl rfl rfl (m) (by omega) (by omega)) ?_;refine a0f 4 rfl rfl (by kernel_rfl) rfl (.refl _) rfl (a1S m0 ((a0z _).append rest.uk) he rfl (m) (by omega) (a0Q hm0)) ?_;refine a0f 5 rfl rfl (by kernel_rfl) rfl (.refl _) rfl (a0c rfl) ?_;refine a0f 6 rfl rfl (by kernel_rfl) rfl (.refl _) rfl (a0c rfl) ?_;refine a0f 7 rfl rfl (by kernel_rfl) rfl (.refl _) rfl (a0n he rfl rfl rfl ((i+j) / 2) (by omega) (by omega)) ?_;refine a0f 8 rfl rfl (by kernel_rfl) rfl (.refl _) rfl (a1S m0 ((a0z _).append rest.uk) he rfl ((i+j) / 2) (by omega) (a0Q hh)) ?_;refine a0i 9 (by kernel_rfl) rfl ?_;refine a0a (hp _ _) rfl rfl ?_;refine a0r (fun _ m=>m.keeps (.refl _)) ?_;refine a0f 10 rfl rfl (by kernel_rfl) rfl (.refl _) rfl (a8n rfl rfl) ?_;refine a0f 11 rfl rfl (by kernel_rfl) rfl (.refl _) rfl (b8V rfl) ?_;refine a0w (by kernel_rfl) ?_;refine go 1 ?_;refine cb rfl (fun h103 p103=>?_) (fun h103 p103=>?_)
    ·refine go 7 ?_;exact a0M ((i+j) / 2+1) (j) ⟨by omega,by omega,by omega,fun q q1 q2=>by have:=m1.le (p:=q) (q:=(i+j) / 2) q1 (by omega) (by omega);have:=b4M p103;omega,hhi⟩ (by omega) rfl sb rfl
    ·refine go 6 ?_;exact a0M (i) ((i+j) / 2) ⟨by omega,by omega,by omega,hlo,fun q q1 q2=>by have:=m1.le (p:=(i+j) / 2) (q:=q) (by omega) q1 q2;have:=b4N p103;omega⟩ (by omega) rfl sb rfl
   ·obtain rfl:i=j:=by omega
    refine go 13 ?_
    refine a0L (α:=Nat) 0 (fun t=>I)
     (fun t=>[(0,.slice (some ⟨g,0,none⟩) N cap),(1,.int .i64 ((a:Nat):Int)),(2,.int .i64 ((m:Nat):Int)),(3,.int .i64 ((m+1:Nat):Int)),(4,.func (.func f) #[] #[]),(14,.int .i64 ((i:Nat):Int)),(17,.int .i64 ((m-t:Nat):Int))])
     (fun t=>[.blk g 359 (a1O (bud l m t)++rest.l).flatten])
     (fun t=>t+i≤m)
     (fun t=>m-t) (by omega) rfl ⟨rfl,rfl,rfl,rfl,rfl,rfl,congrArg (fun z:Int=>some (Value.int .i64 z)) (by omega),trivial⟩ rfl ?_
    intro t ht;refine go 8 ?_;refine cb rfl (fun h110 p110=>?_) (fun h110 p110=>?_)
    ·have hbl:=a9t l m t
     have hk1:m-t<(bud l m t).length:=by omega
     have hk2:m-t-1<(bud l m t).length:=by omega
     refine go 4 ?_;refine a1t T.mixed ?_;refine a0f 0 rfl rfl (by kernel_rfl) rfl (.cons _ .slnil) rfl (a0c rfl) ?_;refine a0f 1 rfl rfl (by kernel_rfl) rfl (.cons _ .slnil) rfl (a0c rfl) ?_;refine a0f 2 rfl rfl (by kernel_rfl) rfl (.cons _ .slnil) rfl (a0c rfl) ?_;refine a0f 3 rfl rfl (by kernel_rfl) rfl (.cons _ .slnil) rfl (a0c rfl) ?_;refine a0f 4 rfl rfl (by kernel_rfl) rfl (.cons _ .slnil) rfl (OV.cast (u:=.int .i64 ((m-t-1:Nat):Int)) (a1v rfl rfl ⟨by omega,by omega⟩) (congrArg (Value.int .i64) (by omega))) ?_;refine a0f 5 rfl rfl (by kernel_rfl) rfl (.cons _ .slnil) rfl (a0c rfl) ?_;refine a0f 6 rfl rfl (by kernel_rfl) rfl (.cons _ .slnil) rfl (a0c rfl) ?_;refine a0f 7 rfl rfl (by kernel_rfl) rfl (.cons _ .slnil) rfl (OV.cast (u:=.int .i64 ((m-t-1:Nat):Int)) (a1v rfl rfl ⟨by omega,by omega⟩) (congrArg (Value.int .i64) (by omega))) ?_;refine a0f 8 rfl rfl (by kernel_rfl) rfl (.cons _ .slnil) rfl (a0n he rfl rfl rfl (m-t-1) (by omega) (by omega)) ?_;refine a0f 10 rfl rfl (by kernel_rfl) rfl (.cons _ .slnil) rfl (a0c rfl) ?_;refine a0f 11 rfl rfl (by kernel_rfl) rfl (.cons _ .slnil) rfl (a0c rfl) ?_;refine a0f 12 rfl rfl (by kernel_rfl) rfl (.cons _ .slnil) rfl (a0n he rfl rfl rfl (m-t) (by omega) (by omega)) ?_;refine a2A 9 13 (by kernel_rfl) rfl rfl ?_ ?_
     ·refine a0l rfl (a1S m0 ((a0z _).append rest.uk) he rfl (m-t-1) (by omega) (a0Q hk2)) ?_;refine a0r (fun _ m=>m.keeps (.cons _ .slnil)) ?_;refine a0i 13 (by kernel_rfl) rfl ?_;refine a0l rfl (a1S m0 ((a0z _).append rest.uk) he rfl (m-t) (by omega) (a0Q hk1)) ?_;refine a0r (fun _ m=>m.keeps (.cons _ .slnil)) ?_;refine a0f 14 rfl rfl (by kernel_rfl) rfl (.cons _ .slnil) rfl (a0n he rfl rfl rfl (m-t) (by omega) (by omega)) ?_;refine a0i 15 (by kernel_rfl) rfl ?_;refine a2b _ (m-t) (by first|exact (a0z _).append rest.uk|exact ((a0z _).append rest.uk).set rfl _) he rfl rfl rfl rfl rfl (by omega) (by simp[a0D];omega) ?_;refine a0r (fun _ m=>m.keeps (.cons _ .slnil)) ?_;refine a0f 16 rfl rfl (by kernel_rfl) rfl (.cons _ .slnil) rfl (a0n he rfl rfl rfl (m-t-1) (by omega) (by omega)) ?_;refine a0i 17 (by kernel_rfl) rfl ?_;refine a2b _ (m-t-1) (by first|exact (a0z _).append rest.uk|exact ((a0z _).append rest.uk).set rfl _) he rfl rfl rfl rfl rfl (by omega) (by simp[a0D];omega) ?_;refine a0r (fun _ m=>m.keeps (.cons _ .slnil)) ?_;refine a0w (by kernel_rfl) ?_;refine go 4 ?_;refine o_v rfl (OV.cast (u:=.int .i64 ((m-(t+1):Nat):Int)) (a1v rfl rfl ⟨by omega,by omega⟩) (congrArg (Value.int .i64) (by omega))) ?_;refine go 3 ?_;exact a0J (t+1) (by omega) (by omega) rfl sb (by rw[bud];first|rw[←a3X hk1 hk2] | rw[←a3u hk1 hk2 (by omega)])
     ·refine a0l rfl (a1S m0 ((a0z _).append rest.uk) he rfl (m-t) (by omega) (a0Q hk1)) ?_;refine a0r (fun _ m=>m.keeps (.cons _ .slnil)) ?_;refine a0i 9 (by kernel_rfl) rfl ?_;refine a0l rfl (a1S m0 ((a0z _).append rest.uk) he rfl (m-t-1) (by omega) (a0Q hk2)) ?_;refine a0r (fun _ m=>m.keeps (.cons _ .slnil)) ?_;refine a0f 14 rfl rfl (by kernel_rfl) rfl (.cons _ .slnil) rfl (a0n he rfl rfl rfl (m-t) (by omega) (by omega)) ?_;refine a0i 15 (by kernel_rfl) rfl ?_;refine a2b _ (m-t) (by first|exact (a0z _).append rest.uk|exact ((a0z _).append rest.uk).set rfl _) he rfl rfl rfl rfl rfl (by omega) (by simp[a0D];omega) ?_;refine a0r (fun _ m=>m.keeps (.cons _ .slnil)) ?_;refine a0f 16 rfl rfl (by kernel_rfl) rfl (.cons _ .slnil) rfl (a0n he rfl rfl rfl (m-t-1) (by omega) (by omega)) ?_;refine a0i 17 (by kernel_rfl) rfl ?_;refine a2b _ (m-t-1) (by first|exact (a0z _).append rest.uk|exact ((a0z _).append rest.uk).set rfl _) he rfl rfl rfl rfl rfl (by omega) (by simp[a0D];omega) ?_;refine a0r (fun _ m=>m.keeps (.cons _ .slnil)) ?_;refine a0w (by kernel_rfl) ?_;refine go 4 ?_;refine o_v rfl (OV.cast (u:=.int .i64 ((m-(t+1):Nat):Int)) (a1v rfl rfl ⟨by omega,by omega⟩) (congrArg (Value.int .i64) (by omega))) ?_;refine go 3 ?_;exact a0J (t+1) (by omega) (by omega) rfl sb (by rw[bud];first|rw[←a3X hk1 hk2] | rw[←a3u hk1 hk2 (by omega)])
    ·refine go 7 ?_;refine c3i rfl ?_;exact q_x ⟨rfl,_,rfl,(show m-i=t by omega)▸b0V m1 hi1 hjb (by omega) hlo hhi⟩
  ·have hmb2:m+2≤b:=by omega
   refine go 7 ?_;refine o_v rfl (a2k he he rfl (m:=(a:Int)+(b:Int)) (wrap_u64 _ (by omega) (by omega))) ?_;refine o_v rfl (a6A rfl (by decide)) ?_;refine o_v rfl (a2k he he rfl (m:=(((a+b) / 2:Nat):Int)) (by rw[IntKind.wrap_i64];omega)) ?_;refine go 7 ?_;refine o_v rfl (OV.cast (u:=.int .i64 ((((a+b) / 2)+m:Nat):Int)) (a2c rfl rfl ⟨by omega,by omega⟩) (congrArg (Value.int .i64) (by omega))) ?_;refine go 10 ?_;refine a9u (Ix:=(fun S R=>I)) (Lx:=(fun S R=>[(0,.slice (some ⟨g,0,none⟩) N cap),(1,.int .i64 ((a:Nat):Int)),(2,.int .i64 ((m:Nat):Int)),(3,.int .i64 ((b:Nat):Int)),(4,.func (.func f) #[] #[]),(18,.int .i64 ((((a+b) / 2):Nat):Int)),(19,.int .i64 ((((a+b) / 2)+m:Nat):Int)),(20,.int .i64 ((S:Nat):Int)),(21,.int .i64 ((R:Nat):Int))])) (Hx:=(fun S R=>[.blk g 359 (a1O (l)++rest.l).flatten])) (p:=(fun S R=>(((a+b) / 2)<m∧S=((a+b) / 2)+m-b∧R=((a+b) / 2))∨(m≤((a+b) / 2)∧S=a∧R=m))) ?_ ?_
   ·refine go 7 ?_;refine cb rfl (fun h140 p140=>?_) (fun h140 p140=>?_)
    ·refine go 4 ?_;refine o_v rfl (OV.cast (u:=.int .i64 ((((a+b) / 2)+m-b:Nat):Int)) (a1v rfl rfl ⟨by omega,by omega⟩) (congrArg (Value.int .i64) (by omega))) ?_;refine go 8 ?_;exact a3N (((a+b) / 2)+m-b) (((a+b) / 2)) (.inl ⟨by omega,rfl,rfl⟩) sb rfl rfl
    ·refine go 11 ?_;exact a3N (a) (m) (.inr ⟨by omega,rfl,rfl⟩) sb rfl rfl
   ·intro S R hS;refine go 3 ?_;refine o_v rfl (OV.cast (u:=.int .i64 ((((a+b) / 2)+m-1:Nat):Int)) (a1v rfl rfl ⟨by omega,by omega⟩) (congrArg (Value.int .i64) (by omega))) ?_;refine go 5 ?_
    refine a1w (S) (R) (fun s r=>I)
     (fun s r=>[(0,.slice (some ⟨g,0,none⟩) N cap),(1,.int .i64 ((a:Nat):Int)),(2,.int .i64 ((m:Nat):Int)),(3,.int .i64 ((b:Nat):Int)),(4,.func (.func f) #[] #[]),(18,.int .i64 ((((a+b) / 2):Nat):Int)),(19,.int .i64 ((((a+b) / 2)+m:Nat):Int)),(20,.int .i64 ((s:Nat):Int)),(21,.int .i64 ((r:Nat):Int)),(22,.int .i64 ((((a+b) / 2)+m-1:Nat):Int))])
     (fun s r=>[.blk g 359 (a1O (l)++rest.l).flatten])
     (fun s r=>S≤s∧s≤r∧r≤R∧(∀q,S≤q→q<s→a0C l q≤a0C l (((a+b) / 2)+m-1-q))∧(∀q,r≤q→q<R→a0C l (((a+b) / 2)+m-1-q)<a0C l q))
     (fun s r=>r-s) ⟨by omega,by omega,by omega,fun q _ _=>by omega,fun q _ _=>by omega⟩ rfl sb rfl ?_
    intro s r ⟨hs1,hsr,hrR,hlo,hhi⟩;refine go 8 ?_;refine cb rfl (fun h151 p151=>?_) (fun h151 p151=>?_)
    ·have hh:(s+r) / 2<l.length:=by omega
     have hh2:((a+b) / 2)+m-1-(s+r) / 2<l.length:=by omega
     refine go 8 ?_;refine o_v rfl (a2k he he rfl (m:=(s:Int)+(r:Int)) (wrap_u64 _ (by omega) (by omega))) ?_;refine o_v rfl (a6A rfl (by decide)) ?_;refine o_v rfl (a2k he he rfl (m:=(((s+r) / 2:Nat):Int)) (by rw[IntKind.wrap_i64];omega)) ?_;refine go 4 ?_;refine a1h T.mixed ?_;refine a0f 0 rfl rfl (by kernel_rfl) rfl (.refl _) rfl (a0c rfl) ?_;refine a0f 1 rfl rfl (by kernel_rfl) rfl (.refl _) rfl (a0c rfl) ?_;refine a0f 2 rfl rfl (by kernel_rfl) rfl (.refl _) rfl (a0c rfl) ?_;refine a0f 3 rfl rfl (by kernel_rfl) rfl (.refl _) rfl (a0c rfl) ?_;refine a0f 4 rfl rfl (by kernel_rfl) rfl (.refl _) rfl (OV.cast (u:=.int .i64 ((((a+b) / 2)+m-1-(s+r) / 2:Nat):Int)) (a1v rfl rfl ⟨by omega,by omega⟩) (congrArg (Value.int .i64) (by omega))) ?_;refine a0f 5 rfl rfl (by kernel_rfl) rfl (.refl _) rfl (a0n he rfl rfl rfl (((a+b) / 2)+m-1-(s+r) / 2) (by omega) (by omega)) ?_;refine a0f 6 rfl rfl (by kernel_rfl) rfl (.refl _) rfl (a1S m0 ((a0z _).append rest.uk) he rfl (((a+b) / 2)+m-1-(s+r) / 2) (by omega) (a0Q hh2)) ?_;refine a0f 7 rfl rfl (by kernel_rfl) rfl (.refl _) rfl (a0c rfl) ?_;refine a0f 8 rfl rfl (by kernel_rfl) rfl (.refl _) rfl (a0c rfl) ?_;refine a0f 9 rfl rfl (by kernel_rfl) rfl (.refl _) rfl (a0n he rfl rfl rfl ((s+r) / 2) (by omega) (by omega)) ?_;refine a0f 10 rfl rfl (by kernel_rfl) rfl (.refl _) rfl (a1S m0 ((a0z _).append rest.uk) he rfl ((s+r) / 2) (by omega) (a0Q hh)) ?_;refine a0i 11 (by kernel_rfl) rfl ?_;refine a0a (hp _ _) rfl rfl ?_;refine a0r (fun _ m=>m.keeps (.refl _)) ?_;refine a0f 12 rfl rfl (by kernel_rfl) rfl (.refl _) rfl (a8n rfl rfl) ?_;refine a0f 13 rfl rfl (by kernel_rfl) rfl (.refl _) rfl (b8V rfl) ?_;refine a0w (by kernel_rfl) ?_;refine go 1 ?_;refine cb rfl (fun h171 p171=>?_) (fun h171 p171=>?_)
     ·refine go 7 ?_;exact a0M ((s+r) / 2+1) (r) ⟨by omega,by omega,by omega,c5H m1 m2 ham hmb rfl hS (h:=(s+r) / 2) (r:=r) (by omega) (by omega) hrR (b4M p171),hhi⟩ (by omega) rfl sb rfl
     ·refine go 6 ?_;exact a0M (s) ((s+r) / 2) ⟨by omega,by omega,by omega,hlo,c5G m1 m2 ham hmb rfl hS (h:=(s+r) / 2) (s:=s) hs1 (by omega) (by omega) (b4N p171)⟩ (by omega) rfl sb rfl
    ·obtain rfl:s=r:=by omega
     obtain⟨hx,hy⟩:=c1z m1 m2 ham hmb rfl hS hs1 hrR hlo hhi
     have g0:a≤s:=by omega
     have g1:s≤m:=by omega
     have g2:m≤((a+b) / 2+m-s):=by omega
     have g3:((a+b) / 2+m-s)≤b:=by omega
     have hc:s+(((a+b) / 2+m-s)-m)=((a+b) / 2):=by omega
     refine go 9 ?_;refine o_v rfl (OV.cast (u:=.int .i64 ((((a+b) / 2+m-s):Nat):Int)) (a1v rfl rfl ⟨by omega,by omega⟩) (congrArg (Value.int .i64) (by omega))) ?_;refine go 4 ?_;refine a7a (α:=List Pkd) (Ix:=(fun k=>I)) (Lx:=(fun k=>[(0,.slice (some ⟨g,0,none⟩) N cap),(1,.int .i64 ((a:Nat):Int)),(2,.int .i64 ((m:Nat):Int)),(3,.int .i64 ((b:Nat):Int)),(4,.func (.func f) #[] #[]),(18,.int .i64 ((((a+b) / 2):Nat):Int)),(20,.int .i64 ((s:Nat):Int)),(24,.int .i64 ((((a+b) / 2+m-s):Nat):Int))])) (Hx:=(fun k=>[.blk g 359 (a1O (k)++rest.l).flatten])) (p:=(fun k=>Rot l k a s m ((a+b) / 2+m-s) b)) ?_ ?_
     ·refine go 6 ?_;refine sxb 181 rfl (fun h181 p181=>?_) (fun h181 p181=>?_)
      ·refine go 6 ?_;refine cb rfl (fun h185 p185=>?_) (fun h185 p185=>?_)
       ·refine go 7 ?_;refine a1u (c8b _ l N hN g s m ((a+b) / 2+m-s) f (by omega) (by omega) (by omega) (by omega)) rfl rfl (fun v191 s191 q191=>?_);obtain⟨rfl,k,rfl,hkl,hk⟩:=q191;refine go 2 ?_;exact a2T k (Rot.of g1 g2 (by omega) hkl hk hx) sb rfl rfl
       ·refine go 2 ?_;exact a2T l (Rot.id (by omega) g1 g2) sb rfl rfl
      ·refine go 6 ?_;refine a0P rfl ?_;refine go 2 ?_;exact a2T l (Rot.id (by omega) g1 g2) sb rfl rfl
     ·intro k hk;refine go 1 ?_;refine a7a (α:=List Pkd) (Ix:=(fun k1=>I)) (Lx:=(fun k1=>[(0,.slice (some ⟨g,0,none⟩) N cap),(1,.int .i64 ((a:Nat):Int)),(2,.int .i64 ((m:Nat):Int)),(3,.int .i64 ((b:Nat):Int)),(4,.func (.func f) #[] #[]),(18,.int .i64 ((((a+b) / 2):Nat):Int)),(20,.int .i64 ((s:Nat):Int)),(24,.int .i64 ((((a+b) / 2+m-s):Nat):Int))])) (Hx:=(fun k1=>[.blk g 359 (a1O (k1)++rest.l).flatten])) (p:=(fun k1=>Seg k k1 a ((a+b) / 2))) ?_ ?_
      ·refine go 6 ?_;refine sxb 195 rfl (fun h195 p195=>?_) (fun h195 p195=>?_)
       ·refine go 6 ?_;refine cb rfl (fun h199 p199=>?_) (fun h199 p199=>?_)
        ·refine go 7 ?_;refine a1u (ih k a s ((a+b) / 2) (hk.len.trans hN) (by omega) (by omega) (by omega) (by have:=hk.len;omega) (hk.p1 m1 g1) ((hk.p2 m2 g1 g2 g3).sub (Nat.le_refl _) (by omega))) rfl rfl (fun v205 s205 q205=>?_);obtain⟨rfl,k1,rfl,hk1⟩:=q205;refine go 2 ?_;exact a2T k1 hk1 sb rfl rfl
        ·refine go 2 ?_;exact a2T k (Seg.refl' (hk.left m1 m2 g1 g2 g3 hc (by omega) g0)) sb rfl rfl
       ·refine go 6 ?_;refine a0P rfl ?_;refine go 2 ?_;exact a2T k (Seg.refl' (hk.left m1 m2 g1 g2 g3 hc (by omega) g0)) sb rfl rfl
      ·intro k1 hk1
       have hl1:k1.length=N:=hk1.len.trans (hk.len.trans hN)
       refine go 6 ?_;refine sxb 209 rfl (fun h209 p209=>?_) (fun h209 p209=>?_)
       ·refine go 6 ?_;refine cb rfl (fun h213 p213=>?_) (fun h213 p213=>?_)
        ·refine go 7 ?_;refine a1u (ih k1 ((a+b) / 2) ((a+b) / 2+m-s) b hl1 (by omega) (by omega) (by omega) (by omega) (hk1.keepD (Nat.le_refl _) ((hk.p3 m1 g0 g1 g2).sub (by omega) (Nat.le_refl _))) (hk1.keepD (by omega) (hk.p4 m2 g1 g2))) rfl rfl (fun v219 s219 q219=>?_);obtain⟨rfl,k2,rfl,hk2⟩:=q219;refine go 1 ?_;refine a4y rfl ?_;exact q_x ⟨rfl,k2,rfl,hk.done m1 m2 g0 g1 g2 g3 hb hc hx hy hk1 hk2⟩
        ·refine go 1 ?_;refine a4y rfl ?_;exact q_x ⟨rfl,k1,rfl,hk.done m1 m2 g0 g1 g2 g3 hb hc hx hy hk1 (Seg.refl' (hk1.keepD (Nat.le_refl _) (hk.right m1 m2 g0 g1 g2 hc (by omega) g3)))⟩
       ·refine go 6 ?_;refine a0P rfl ?_;refine go 1 ?_;refine a4y rfl ?_;exact q_x ⟨rfl,k1,rfl,hk.done m1 m2 g0 g1 g2 g3 hb hc hx hy hk1 (Seg.refl' (hk1.keepD (Nat.le_refl _) (hk.right m1 m2 g0 g1 g2 hc (by omega) g3)))⟩
theorem b4j (I:IMap) {rest:Rst 15} {cap:Nat} (N g:Nat) (f:FuncId) (hp:∀x y:Pkd,FnV Tryz.prog f #[.agg (Day.ch x).toArray,.agg (Day.ch y).toArray] I (.int .i64 ((Day.day x-Day.day y)))) (hN0:N≤1000000) (W:Nat):∀(l:List Pkd) (a m b:Nat),l.length=N→b-a≤W→a<m→m<b→b≤l.length→SrtD l a m→SrtD l m b→FnX Tryz.prog 348 #[.slice (some ⟨g,0,none⟩) N cap,.int .i64 ((a:Nat):Int),.int .i64 ((m:Nat):Int),.int .i64 ((b:Nat):Int),.func (.func f) #[] #[]] I [.blk g 359 (a1O (l)++rest.l).flatten] (fun u r=>u = .tuple #[]∧∃m,r = .blk g 359 (a1O (m)++rest.l).flatten∧Seg l m a b):=by
 induction W using Nat.strongRecOn with
 |_ W ih=>exact fun l a m b hN hW ham hmb hb m1 m2=>b8R I N g f hp hN0 W (fun l' a' m' b' h1 h2 h3 h4 h5 h6 h7=>ih (b'-a') h2 l' a' m' b' h1 (Nat.le_refl _) h3 h4 h5 h6 h7) l a m b hN hW ham hmb hb m1 m2
theorem c8p (I:IMap) {rest:Rst 15} {cap:Nat} (N g:Nat) (f:FuncId) (hp:∀x y:Pkd,FnV Tryz.prog f #[.agg (Day.ch x).toArray,.agg (Day.ch y).toArray] I (.int .i64 ((Day.day x-Day.day y)))) (hN0:N≤1000000) (l:List Pkd) (hN:l.length=N) :
    FnX Tryz.prog 333 #[.slice (some ⟨g,0,none⟩) N cap,.int .i64 ((N:Nat):Int),.func (.func f) #[] #[]] I [.blk g 359 (a1O (l)++rest.l).flatten] (fun u r=>u = .tuple #[]∧∃m,r = .blk g 359 (a1O (m)++rest.l).flatten∧Stb l m∧SrtD m 0 N):=by
 refine enter Tryz.func333 Tryz.call333 rfl Tryz.ntmps333 rfl (fun w0=>?_);refine go 14 ?_
 refine a1w (0) (l) (fun a m=>I)
  (fun a m=>[(0,.slice (some ⟨g,0,none⟩) N cap),(1,.int .i64 ((N:Nat):Int)),(2,.func (.func f) #[] #[]),(6,.int .i64 20),(7,.int .i64 ((a:Nat):Int)),(8,.int .i64 ((a+20:Nat):Int))])
  (fun a m=>[.blk g 359 (a1O (m)++rest.l).flatten])
  (fun a m=>a≤N∧Stb l m∧Pre m 20 a)
  (fun a m=>N-a) ⟨Nat.zero_le _,Stb.refl l,.zero⟩ rfl sb rfl ?_
 intro a m ⟨ha,hs,hP⟩
 have hmN:m.length=N:=hs.1.symm.trans hN
 refine go 8 ?_;refine cb rfl (fun h13 p13=>?_) (fun h13 p13=>?_)
 ·refine go 10 ?_;refine a1u (b6v _ m N hmN g a (a+20) f hp (by omega) (by omega) (by omega)) rfl rfl (fun v18 s18 q18=>?_);obtain⟨rfl,k18,rfl,h18⟩:=q18;refine go 11 ?_;refine o_v rfl (OV.cast (u:=.int .i64 ((a+20+20:Nat):Int)) (a2c rfl rfl ⟨by omega,by omega⟩) (congrArg (Value.int .i64) (by omega))) ?_;refine go 4 ?_;exact a0M (a+20) (k18) ⟨by omega,hs.trans h18.stb,hP.put h18⟩ (by omega) rfl sb rfl
 ·refine go 12 ?_;refine a1u (b6v _ m N hmN g a N f hp ha (by omega) (by omega)) rfl rfl (fun v27 s27 q27=>?_);obtain⟨rfl,m3,rfl,h27⟩:=q27;refine go 3 ?_
  refine a1w (20) (m3) (fun q m=>I)
   (fun q m=>[(0,.slice (some ⟨g,0,none⟩) N cap),(1,.int .i64 ((N:Nat):Int)),(2,.func (.func f) #[] #[]),(6,.int .i64 ((q:Nat):Int))])
   (fun q m=>[.blk g 359 (a1O (m)++rest.l).flatten])
   (fun q m=>1≤q∧Stb l m∧Blk m q N 0)
   (fun q m=>N-q) ⟨by omega,hs.trans h27.stb,hP.last h27 ha (by omega)⟩ rfl sb rfl ?_
  intro q m ⟨hq,hs,hB⟩
  have hmN:m.length=N:=hs.1.symm.trans hN
  refine go 8 ?_;refine cb rfl (fun h30 p30=>?_) (fun h30 p30=>?_)
  ·refine go 6 ?_;refine o_v rfl (OV.cast (u:=.int .i64 ((2 * q:Nat):Int)) (b4o rfl rfl ⟨by omega,by omega⟩) (congrArg (Value.int .i64) (by omega))) ?_;refine go 6 ?_
   refine a1w (0) (m) (fun a k=>I)
    (fun a k=>[(0,.slice (some ⟨g,0,none⟩) N cap),(1,.int .i64 ((N:Nat):Int)),(2,.func (.func f) #[] #[]),(6,.int .i64 ((q:Nat):Int)),(7,.int .i64 ((a:Nat):Int)),(8,.int .i64 ((a+2 * q:Nat):Int))])
    (fun a k=>[.blk g 359 (a1O (k)++rest.l).flatten])
    (fun a k=>a≤N∧Stb l k∧Pre k (2 * q) a∧Blk k q N a)
    (fun a k=>N-a) ⟨Nat.zero_le _,hs,.zero,hB⟩ rfl ⟨rfl,rfl,rfl,rfl,rfl,congrArg (fun z:Int=>some (Value.int .i64 z)) (by omega),trivial⟩ rfl ?_
   intro a k ⟨ha,hkS,hkP,hkB⟩
   have hkN:k.length=N:=hkS.1.symm.trans hN
   refine go 8 ?_;refine cb rfl (fun h35 p35=>?_) (fun h35 p35=>?_)
   ·obtain⟨t1,t2,t3⟩:=hkB.two (by omega) hq;refine go 9 ?_;refine o_v rfl (OV.cast (u:=.int .i64 ((a+q:Nat):Int)) (a2c rfl rfl ⟨by omega,by omega⟩) (congrArg (Value.int .i64) (by omega))) ?_;refine go 3 ?_;refine a1u (b4j _ N g f hp hN0 _ k a (a+q) (a+2 * q) hkN (Nat.le_refl _) (by omega) (by omega) (by omega) t1 t2) rfl rfl (fun v43 s43 q43=>?_);obtain⟨rfl,k43,rfl,h43⟩:=q43;refine go 11 ?_;refine o_v rfl (OV.cast (u:=.int .i64 ((2 * q:Nat):Int)) (b4o rfl rfl ⟨by omega,by omega⟩) (congrArg (Value.int .i64) (by omega))) ?_;refine o_v rfl (OV.cast (u:=.int .i64 ((a+2 * q+2 * q:Nat):Int)) (a2c rfl rfl ⟨by omega,by omega⟩) (congrArg (Value.int .i64) (by omega))) ?_;refine go 4 ?_;exact a0M (a+2 * q) (k43) ⟨by omega,hkS.trans h43.stb,hkP.put h43,t3.same fun z z1 z2=>h43.out z (.inr (by omega))⟩ (by omega) rfl sb rfl
   ·refine go 6 ?_;refine a7a (α:=List Pkd) (Ix:=(fun k=>I)) (Lx:=(fun k=>[(0,.slice (some ⟨g,0,none⟩) N cap),(1,.int .i64 ((N:Nat):Int)),(2,.func (.func f) #[] #[]),(6,.int .i64 ((q:Nat):Int))])) (Hx:=(fun k=>[.blk g 359 (a1O (k)++rest.l).flatten])) (p:=(fun k=>Stb l k∧Blk k (2 * q) N 0)) ?_ ?_
    ·refine go 4 ?_;refine o_v rfl (OV.cast (u:=.int .i64 ((a+q:Nat):Int)) (a2c rfl rfl ⟨by omega,by omega⟩) (congrArg (Value.int .i64) (by omega))) ?_;refine go 10 ?_;refine cb rfl (fun h54 p54=>?_) (fun h54 p54=>?_)
     ·obtain⟨t1,t2⟩:=hkB.one (by omega);refine go 7 ?_;refine a1u (b4j _ N g f hp hN0 _ k a (a+q) N hkN (Nat.le_refl _) (by omega) (by omega) (by omega) t1 (t2 (by omega))) rfl rfl (fun v60 s60 q60=>?_);obtain⟨rfl,k60,rfl,h60⟩:=q60;refine go 2 ?_;exact a2T k60 ⟨hkS.trans h60.stb,hkP.last h60 ha (by omega)⟩ sb rfl rfl
     ·refine go 2 ?_;exact a2T k ⟨hkS,hkP.last (Seg.refl' (hkB.all (by omega))) ha (by omega)⟩ sb rfl rfl
    ·intro k ⟨hkS,hkB⟩;refine go 2 ?_;refine o_v rfl (OV.cast (u:=.int .i64 ((2 * q:Nat):Int)) (b4o rfl rfl ⟨by omega,by omega⟩) (congrArg (Value.int .i64) (by omega))) ?_;refine go 4 ?_;exact a0M (2 * q) (k) ⟨by omega,hkS,hkB⟩ (by omega) rfl sb rfl
  ·refine go 4 ?_;refine a4y rfl ?_;exact q_x ⟨rfl,m,rfl,hs,hB.all (by omega)⟩
theorem b5H (I:IMap) {rest:Rst 15} {cap:Nat} (N g:Nat) (f:FuncId) (hp:∀x y:Pkd,FnV Tryz.prog f #[.agg (Day.ch x).toArray,.agg (Day.ch y).toArray] I (.int .i64 ((Day.day x-Day.day y)))) (hN0:N≤1000000) (l:List Pkd) (hN:l.length=N) :
    FnX Tryz.prog 301 #[.slice (some ⟨g,0,none⟩) N cap,.func (.func f) #[] #[]] I [.blk g 359 (a1O (l)++rest.l).flatten] (fun u r=>u = .tuple #[]∧∃m,r = .blk g 359 (a1O (m)++rest.l).flatten∧Stb l m∧SrtD m 0 N):=by
 refine enter Tryz.func301 Tryz.call301 rfl Tryz.ntmps301 rfl (fun w0=>?_);refine go 6 ?_;refine a1u (c8p _ N g f hp hN0 l hN) rfl rfl (fun v8 s8 q8=>?_);obtain⟨rfl,m8,rfl,h8⟩:=q8;refine go 1 ?_;refine a4y rfl ?_;exact q_x ⟨rfl,m8,rfl,h8⟩
theorem b8m (I:IMap) (f:FuncId) :
    FnV Tryz.prog 347 #[.slice none 0 0,.int .i64 0,.int .i64 0,.func (.func f) #[] #[]] I (.tuple #[]):=by
 refine enter Tryz.func347 Tryz.call347 rfl Tryz.ntmps347 rfl (fun w0=>?_);refine go 3 ?_;refine o_v rfl (OV.cast (u:=.int .i64 1) (a2c rfl rfl ⟨by omega,by omega⟩) rfl) ?_;refine go 4 ?_
 refine a0L (α:=Nat) 0 (fun i=>I)
  (fun i=>[(0,.slice none 0 0),(1,.int .i64 0),(2,.int .i64 0),(3,.func (.func f) #[] #[]),(8,.int .i64 1)])
  (fun i=>[])
  (fun i=>True)
  (fun i=>0) trivial rfl sb rfl ?_
 intro i _;refine go 8 ?_;refine cb rfl (fun h14 p14=>?_) (fun h14 p14=>?_)
 ·exact absurd p14 (by decide)
 ·refine go 4 ?_;refine a4y rfl ?_;exact q_v rfl
theorem c1A (I:IMap) (f:FuncId) :
    FnV Tryz.prog 333 #[.slice none 0 0,.int .i64 0,.func (.func f) #[] #[]] I (.tuple #[]):=by
 refine enter Tryz.func333 Tryz.call333 rfl Tryz.ntmps333 rfl (fun w0=>?_);refine go 14 ?_
 refine a0L (α:=Nat) 0 (fun i=>I)
  (fun i=>[(0,.slice none 0 0),(1,.int .i64 0),(2,.func (.func f) #[] #[]),(6,.int .i64 20),(7,.int .i64 0),(8,.int .i64 20)])
  (fun i=>[])
  (fun i=>True)
  (fun i=>0) trivial rfl sb rfl ?_
 intro i _;refine go 8 ?_;refine cb rfl (fun h13 p13=>?_) (fun h13 p13=>?_)
 ·exact absurd p13 (by decide)
 ·refine go 12 ?_;refine a0a (b8m _ f) rfl rfl ?_;refine go 3 ?_
  refine a0L (α:=Nat) 0 (fun i=>I)
   (fun i=>[(0,.slice none 0 0),(1,.int .i64 0),(2,.func (.func f) #[] #[]),(6,.int .i64 20)])
   (fun i=>[])
   (fun i=>True)
   (fun i=>0) trivial rfl sb rfl ?_
  intro i _;refine go 8 ?_;refine cb rfl (fun h30 p30=>?_) (fun h30 p30=>?_)
  ·exact absurd p30 (by decide)
  ·refine go 4 ?_;refine a4y rfl ?_;exact q_v rfl
theorem c8k (I:IMap) (f:FuncId) :
    FnV Tryz.prog 301 #[.slice none 0 0,.func (.func f) #[] #[]] I (.tuple #[]):=by
 refine enter Tryz.func301 Tryz.call301 rfl Tryz.ntmps301 rfl (fun w0=>?_);refine go 6 ?_;refine a0a (c1A _ f) rfl rfl ?_;refine go 1 ?_;refine a4y rfl ?_;exact q_v rfl
theorem d0E (I:IMap) (v:Value) (l:List Pkd) (hN0:l.length≤1000000) (f:FuncId) (hp:∀x y:Pkd,FnV Tryz.prog f #[.agg (Day.ch x).toArray,.agg (Day.ch y).toArray] I (.int .i64 (Day.day x-Day.day y))) :
  FnX Tryz.prog 301 #[v,.func (.func f) #[] #[]] I [.row v 359 15 l.length (a1O l).flatten] (fun u r=>u = .tuple #[]∧r = .row v 359 15 l.length (a1O (a1m l)).flatten):=
 FnX.of_rowV (args:=fun v=>[v,.func (.func f) #[] #[]]) (a0z l) (a0D l)
  (fun h0 hv=>by
   obtain rfl:=List.eq_nil_of_length_eq_zero h0;subst hv
   exact FnX.of_V (c8k I f))
  (fun g cap rest hv hR hc hl=>by
   subst hv;refine FnX.back (yss:=a1O (a1m l)) (a0z _) hR (by rw[a0D,a4c]) hc hl ?_;refine FnH.mono (b5H I (rest:=⟨rest,hR⟩) (cap:=cap) l.length g f hp hN0 l rfl) fun u I' H' hI h=>?_
   obtain⟨h1,r',h2,h3,m,h4,h5,h6⟩:=h
   have hml:m.length=l.length:=h5.1.symm
   obtain rfl:=b7v h5 (SrtD.pw (by rw[hml];exact h6))
   exact⟨h1,r',h2,⟨h3,rfl⟩,h4⟩)
theorem c7K (I:IMap) (x y:Pkd) :
    FnV Tryz.prog 302 #[.agg (Day.ch x).toArray,.agg (Day.ch y).toArray] I (.int .i64 (Day.day x-Day.day y)):=by
 refine enter Tryz.func302 Tryz.call302 rfl Tryz.ntmps302 rfl (fun w0=>?_)
 show SX _ _ _ (b1J [.agg x.cells.toArray,.agg y.cells.toArray] 0) _ _
 refine go 3 ?_;refine a0B _ rfl rfl rfl (fun g2=>?_);refine go 1 ?_;refine a0B _ rfl rfl rfl (fun g3=>?_);refine go 11 ?_;refine o_v rfl (a1v rfl rfl ⟨by have:=x.lo;have:=x.hi;have:=y.lo;have:=y.hi;omega,by have:=x.lo;have:=x.hi;have:=y.lo;have:=y.hi;omega⟩) ?_;refine go 4 ?_;refine a0x rfl rfl ?_;exact q_v rfl
theorem b8i (I:IMap) (vc:Value) (c:List Kind) (hvc:RdS I vc c) (hsc:SmC c) (g1:Nat) (c1:ICells I g1 0 [vc]) (g2:Nat) (v:Value) (st:List Part) (hv:RdS I v st) (hsf:SmF st) (e:Evt) (hse:SmE e) :
    FnG Tryz.prog 303 #[.agg e.cells.toArray,.pointer (some ⟨g1,0,none⟩),.pointer (some ⟨g2,0,none⟩)] I (.blk g2 53 [v]) (fun u J r=>u = .int .i64 (a0p c st e).2∧∃w,r = .blk g2 53 [w]∧RdS J w (a0p c st e).1):=by
 refine enter Tryz.func303 Tryz.call303 rfl Tryz.ntmps303 rfl (fun w0=>?_);refine go 3 ?_;refine a0B _ rfl rfl rfl (fun g3=>?_);refine go 5 ?_;refine o_v rfl (a0H he rfl c1 rfl) ?_;refine go 3 ?_;refine a0F (c0b _ vc c hvc hsc v st hv hsf e hse) rfl rfl (fun v9 I9 j9 q9=>?_);obtain⟨w9,rfl,hw9⟩:=q9;refine go 4 ?_;refine a0g ?_;refine a0m _ he rfl rfl rfl rfl rfl (by simp[hw9.one]) ?_;refine go 10 ?_;refine a0x rfl rfl ?_;refine a0g ?_;refine a0b ?_;exact q_g ⟨rfl,w9,rfl,hw9⟩
theorem b6q (I:IMap) (vc:Value) (c:List Kind) (hvc:RdS I vc c) (hsc:SmC c) (v:Value) (l:List Rep) (hv:RdS I v l) (hl:l.length≤1000000) (hsl:∀r∈l,∀e∈r.options,SmE e) (hgd:∀r∈l,a0t r=true) (w:Value) (ch:List Int) (hw:RdS I w ch) (hlc:ch.length=l.length) (day:Int) :
    FnI Tryz.prog 243 #[.agg #[vc],v,w,.int .i64 day] I (fun u J=>u = .tuple #[.int .i64 (a4E c l ch day).1,.int .i64 (a4E c l ch day).2]):=by
 obtain⟨A,c0,rfl,hA,hc,hm⟩:=hv;obtain⟨B,c1,rfl,hB,hc1,hm1⟩:=hw;refine enter Tryz.func243 Tryz.call243 rfl Tryz.ntmps243 rfl (fun w0=>?_);refine go 3 ?_;refine a0B _ rfl rfl rfl (fun g4=>?_);refine go 6 ?_;refine a1s 359 15 ?_;refine go 12 ?_
 refine a5b ((0:Nat)) (_) ([]) ([]) (fun i v xs out=>I)
  (fun i v xs out=>[(4,.pointer (some ⟨g4,0,none⟩)),(2,.slice B ch.length c1),(3,.int .i64 day),(10,v),(19,.slice A l.length c0),(20,.int .i64 ((l.length:Nat):Int)),(21,.int .i64 ((i:Nat):Int))])
  (fun i v xs out=>[.row v 359 15 out.length xs,.blk g4 24 [vc]])
  (fun i v xs out=>i≤l.length∧a3k day l ch i=out∧Flat I xs out)
  (fun i v xs out=>l.length-i) ⟨Nat.zero_le _,rfl,.nil⟩ rfl sb rfl ?_
 intro i v xs out ⟨hi,hw,hF⟩
 have hol:out.length≤i:=by rw[←hw];exact c3Z _ _ _ _
 refine go 6 ?_;refine cb rfl (fun h22 p22=>?_) (fun h22 p22=>?_)
 ·have hlt:i<l.length:=by omega
  have hlt2:i<ch.length:=by omega
  refine go 7 ?_;obtain⟨b24,o24,w24,e24,c24,r24⟩:=RdA.at_ hA (i:=i) hlt;obtain⟨q24,rfl,S24,d24,rfl,hS24,hd24,hm24⟩:=r24;refine o_v rfl (a0n he rfl rfl e24 (i) (by omega) hlt) ?_;refine o_v rfl (a0H he rfl c24 rfl) ?_;refine go 1 ?_;refine a0h he rfl (fun g12=>?_);refine go 2 ?_;refine a0m _ he rfl rfl rfl rfl rfl rfl ?_;refine go 6 ?_;obtain⟨b28,o28,w28,e28,c28,r28⟩:=RdA.at_ hB (i:=i) hlt2;obtain rfl:=r28;refine o_v rfl (a0n he rfl rfl e28 (i) (by omega) hlt2) ?_;refine o_v rfl (a0W he rfl (c28 0 _ rfl)) ?_;refine go 8 ?_;refine sxb 32 rfl (fun h32 p32=>?_) (fun h32 p32=>?_)
  ·refine go 7 ?_;refine sxb 39 rfl (fun h39 p39=>?_) (fun h39 p39=>?_)
   ·have hk:ch[i].toNat<l[i].options.length:=by omega
    have hday:=b1z (a3b (hgd _ (List.getElem_mem hlt)) _ (List.getElem_mem hk))
    refine go 3 ?_;obtain⟨b43,o43,w43,e43,c43,r43⟩:=RdA.at_ hS24 (i:=ch[i].toNat) hk;obtain rfl:=r43;refine a0v (a0y rfl rfl h39 (a0l rfl (a0n he rfl rfl e43 (ch[i].toNat) (by omega) hk) ?_));refine go 1 ?_;refine a0v (a0y rfl rfl h39 (a0l rfl (a0W he rfl (c43 1 _ rfl)) ?_));refine go 5 ?_;refine cb rfl (fun h48 p48=>?_) (fun h48 p48=>?_)
    ·refine go 5 ?_;obtain⟨b53,o53,w53,e53,c53,r53⟩:=RdA.at_ hS24 (i:=ch[i].toNat) hk;obtain rfl:=r53;refine o_v rfl (a0n he rfl rfl e53 (ch[i].toNat) (by omega) hk) ?_;refine o_v rfl (a0H he rfl c53 rfl) ?_;refine go 2 ?_;refine a0l rfl (a0A (pl:=[(0,14),(14,1)]) he he rfl rfl) ?_;refine go 1 ?_;refine a0e he he rfl rfl rfl rfl rfl rfl rfl (fun v57=>?_);refine go 1 ?_;refine a0u ?_;refine a1r he he rfl rfl rfl rfl rfl (by omega) (by omega) rfl (fun v58=>?_);refine go 9 ?_;refine a0g ?_;refine a0b ?_;refine a0g ?_;refine a0b ?_;exact a2U (i+1) (_) (_) (out++[⟨l[i].options[ch[i].toNat],i,hday.1,hday.2⟩]) ⟨by omega,d0f hlt hlt2 hw p32 hk p48 hday,hF.append (.one rfl)⟩ (by omega) rfl sb (by first|rfl|(simp only[List.length_append,List.length_singleton];rfl)|simp only[List.length_append,List.length_singleton])
    ·refine go 8 ?_;refine a0b ?_;exact a2U (i+1) (_) (_) (out) ⟨by omega,c7L hlt hlt2 hw hk p48,hF⟩ (by omega) rfl sb (by first|rfl|(simp only[List.length_append,List.length_singleton];rfl)|simp only[List.length_append,List.length_singleton])
   ·refine go 11 ?_;refine a0P rfl ?_;refine go 8 ?_;refine a0b ?_;exact a2U (i+1) (_) (_) (out) ⟨by omega,d0d hlt hlt2 hw p39,hF⟩ (by omega) rfl sb (by first|rfl|(simp only[List.length_append,List.length_singleton];rfl)|simp only[List.length_append,List.length_singleton])
  ·refine go 18 ?_;refine a0P rfl ?_;refine go 8 ?_;refine a0b ?_;exact a2U (i+1) (_) (_) (out) ⟨by omega,d0e hlt hlt2 hw p32,hF⟩ (by omega) rfl sb (by first|rfl|(simp only[List.length_append,List.length_singleton];rfl)|simp only[List.length_append,List.length_singleton])
 ·have e:i=l.length:=(by omega)
  subst e;refine go 9 ?_;obtain⟨xss,rfl,hx⟩:=FlatC.of hF;obtain rfl:=c2Y hx;refine a1u (d0E _ v out (by omega) 302 (fun x y=>c7K _ x y)) rfl rfl (fun v61 s61 q61=>?_);obtain⟨rfl,rfl⟩:=q61
  have hso:=a4c out
  refine a0o (l:=a1m out) rfl (by rw[a4c]) ((b8b _).flat) (fun I61 j61 R61=>?_)
  have hvc:=hvc.le j61
  refine go 5 ?_;refine a0h he rfl (fun g14=>?_);refine go 4 ?_;obtain⟨A6,c6,rfl,hA6,_,_⟩:=R61;refine a0g ?_;refine a2f (fun Ig4 jg4 cg4=>?_)
  have hvc:=hvc.le jg4
  have hA6:=hA6.le jg4
  refine o_v rfl (a1a rfl rfl) ?_;refine go 12 ?_
  refine a5b (0) ([]) (.slice none 0 0) (Ig4) (fun i st v14 J=>J)
   (fun i st v14 J=>[(15,.func (.func 303) #[] #[.pointer (some ⟨g4,0,none⟩),.pointer (some ⟨g14,0,none⟩)]),(63,.slice A6 (a1m out).length c6),(64,.int .i64 (((a1m out).length:Nat):Int)),(65,.int .i64 ((i:Nat):Int))])
   (fun i st v14 J=>[.blk g14 53 [v14]])
   (fun i st v14 J=>i≤(a1m out).length∧ILe Ig4 J∧RdS J v14 st∧SmF st∧a3m c [] (a1m out)=a3m c st ((a1m out).drop i))
   (fun i st v14 J=>(a1m out).length-i) ⟨Nat.zero_le _,ILe.refl _,RdS.nil',SmF.nil,rfl⟩ rfl sb rfl ?_
  intro i st v14 J ⟨hi,hJ,hv14,hsf,hgo⟩
  have hvc:=hvc.le hJ
  have hA6:=hA6.le hJ
  have cg4:=cg4.le hJ
  refine go 6 ?_;refine cb rfl (fun h66 p66=>?_) (fun h66 p66=>?_)
  ·have hlt:i<(a1m out).length:=by omega
   have hse:SmE (a1m out)[i].e:=by
     obtain⟨r,hr,he⟩:=c4a (day:=day) (l:=l) (ch:=ch) (n:=l.length) (p:=(a1m out)[i]) (by rw[hw];exact a5w.1 (List.getElem_mem hlt));exact hsl r hr _ he
   refine go 6 ?_;obtain⟨b67,o67,w67,e67,c67,r67⟩:=RdA.at_ hA6 (i:=i) hlt;obtain rfl:=r67;refine o_v rfl (a0n he rfl rfl e67 (i) (by omega) hlt) ?_;refine o_v rfl (a0H he rfl c67 rfl) ?_;refine go 1 ?_;refine a0h he rfl (fun g17=>?_);refine go 1 ?_;refine a0m _ he rfl rfl rfl rfl rfl rfl ?_;refine go 6 ?_;refine o_v rfl (a2o ((a1m out)[i].e.cells) m0 he rfl rfl rfl) ?_;refine go 1 ?_;refine a0g ?_;refine a8a (b8i _ vc c hvc hsc g4 cg4 g14 v14 st hv14 hsf (a1m out)[i].e hse) rfl rfl (fun v72 I72 s72 j72 q72=>?_);obtain⟨rfl,w72,rfl,hw72⟩:=q72;refine go 9 ?_;refine cb rfl (fun h74 p74=>?_) (fun h74 p74=>?_)
   ·have hok:¬(a0p c st (a1m out)[i].e).2=0:=by simpa using p74
    refine go 15 ?_;refine a2D rfl rfl rfl ?_;exact q_i (by simp only[a4E,hw,hgo,a9D hlt,if_neg hok])
   ·have hok:(a0p c st (a1m out)[i].e).2=0:=by simpa using p74
    refine go 8 ?_;refine a0g ?_;refine a0b ?_;exact a2U (i+1) (_) (_) (I72) ⟨by omega,hJ.trans j72,hw72,b2N hsf hse,by rw[hgo,a9D hlt,if_pos hok]⟩ (by omega) rfl sb rfl
  ·refine go 12 ?_;refine a2D rfl rfl rfl ?_;exact q_i (by simp only[a4E,hw,hgo,List.drop_eq_nil_of_le (show (a1m out).length≤i by omega)];rfl)
theorem c7c (I:IMap) (vc:Value) (c:List Kind) (hvc:RdS I vc c) (hsc:SmC c) (v:Value) (l:List Rep) (hv:RdS I v l) (hl:l.length≤1000000) (hsl:∀r∈l,∀e∈r.options,SmE e) (w:Value) (ch:List Int) (hw:RdS I w ch) :
    FnI Tryz.prog 244 #[.agg #[vc],v,w] I (fun u J=>u = .tuple #[.int .i64 (a8u c l ch).1,.int .i64 (a8u c l ch).2]):=by
 refine enter Tryz.func244 Tryz.call244 rfl Tryz.ntmps244 rfl (fun w0=>?_);refine go 3 ?_;refine a0B _ rfl rfl rfl (fun g3=>?_);refine go 11 ?_;refine a0a (c0n _ vc c hvc hsc _ l hv hsl _ ch hw 0) rfl rfl ?_;refine go 3 ?_;refine cb rfl (fun h12 p12=>?_) (fun h12 p12=>?_)
 ·refine go 8 ?_;refine a2D rfl rfl rfl ?_;exact q_i (by rw[a8u,if_pos (by simpa using h12)])
 ·obtain⟨hlc,hgd⟩:=a2B (c:=c) (l:=l) (ch:=ch) (n:=0) (by simpa using h12);refine go 8 ?_;refine a0F (b6q _ vc c hvc hsc _ l hv hl hsl hgd _ ch hw hlc 40001) rfl rfl (fun v16 I16 j16 q16=>?_);obtain rfl:=q16;refine go 7 ?_;refine a2D rfl rfl rfl ?_;exact q_i (by rw[a8u,if_neg (by simp[show a1T c l ch 0=true by simpa using h12])];rfl)
theorem d2h (I:IMap) (vc:Value) (c:List Kind) (hvc:RdS I vc c) (hsc:SmC c) (v:Value) (l:List Rep) (hv:RdS I v l) (hl:l.length≤1000000) (hsl:∀r∈l,∀e∈r.options,SmE e) (w:Value) (ch:List Int) (hw:RdS I w ch) :
    FnI Tryz.prog 193 #[.agg #[vc],v,w] I (fun u J=>u = .bool (isF c l ch)):=by
 refine enter Tryz.func193 Tryz.call193 rfl Tryz.ntmps193 rfl (fun w0=>?_);refine go 3 ?_;refine a0B _ rfl rfl rfl (fun g3=>?_);refine go 9 ?_;refine a0F (c7c _ vc c hvc hsc _ l hv hl hsl _ ch hw) rfl rfl (fun v13 I13 j13 q13=>?_);obtain rfl:=q13;refine go 15 ?_;refine a0x rfl rfl ?_;exact q_i rfl
theorem c7d (I:IMap) (vc:Value) (c:List Kind) (hvc:RdS I vc c) (hsc:SmC c) (v:Value) (l:List Rep) (hv:RdS I v l) (hl:l.length≤1000000) (hsl:∀r∈l,∀e∈r.options,SmE e) (w:Value) (ch:List Int) (hw:RdS I w ch) :
    FnI Tryz.prog 192 #[.agg #[vc],v,w] I (fun u J=>u = .bool (a7g c l ch)):=by
 have hv0:=hv
 have hw0:=hw
 obtain⟨A,c0,rfl,_,_,_⟩:=hv0;obtain⟨B,c1,rfl,_,_,_⟩:=hw0;refine enter Tryz.func192 Tryz.call192 rfl Tryz.ntmps192 rfl (fun w0=>?_);refine go 3 ?_;refine a0B _ rfl rfl rfl (fun g3=>?_);refine go 10 ?_;refine a0a (c0n _ vc c hvc hsc _ l hv hsl _ ch hw (-1)) rfl rfl ?_;refine go 3 ?_;refine cb rfl (fun h15 p15=>?_) (fun h15 p15=>?_)
 ·refine go 7 ?_;refine a0x rfl rfl ?_;exact q_i (by rw[a7g,if_pos (by simpa using h15)])
 ·obtain⟨hlc,hgd⟩:=a2B (c:=c) (l:=l) (ch:=ch) (n:=(-1)) (by simpa using h15);refine go 5 ?_;refine a0h he rfl (fun g7=>?_);refine go 1 ?_;refine a0m _ he rfl rfl rfl rfl rfl rfl ?_;refine go 8 ?_;refine a0F (c9G _ A B _ c0 _ c1) rfl rfl (fun v18 I18 j18 q18=>?_)
  have hvc:=hvc.le j18
  have hv:=hv.le j18
  have hw:=hw.le j18
  obtain⟨g2,g5,rfl,c2,c3⟩:=q18;refine go 3 ?_;refine b1P (σ:=Int) (ps:=[19]) 40001 (fun m=>[.blk g7 3 [ci m]]) (fun pre I m=>m=a5o pre) (fun pre I m cd=>False) rfl Tryz.call300 (c9v _ _ l hv _ ch hw hlc g2 g5 c2 c3) (fun I vs x h=>by rw[h];rfl) rfl (fun pre I I' s hI h=>h) (fun _ _ _ _ _ _ h=>h) (rfl) rfl ?_ ?_ ?_
  ·rintro r E1 pre x vs I1 m hI1 rfl rfl hpf;refine c8u ?_;refine go 3 ?_;refine b2u ?_;refine go 4 ?_;refine o_v rfl (b0i rfl rfl) ?_;refine go 1 ?_;refine a0u ?_;refine a0m _ he rfl rfl rfl rfl rfl rfl ?_;refine go 2 ?_;refine a0u ?_;refine a0u ?_;exact b1l (_) (hI1) ((by rw[b8r])) rfl
  ·rintro D pre I1 m hI1 hfull rfl;refine c8t ?_;refine go 9 ?_;refine a0F (b6q _ vc c (hvc.le hI1) hsc _ l (hv.le hI1) hl hsl hgd _ ch (hw.le hI1) hlc (a5o pre)) rfl rfl (fun v28 I28 j28 q28=>?_);obtain rfl:=q28;refine go 15 ?_;refine a7z ?_;refine a0x rfl rfl ?_;exact q_i (by rw[a7g,if_neg (by simp[show a1T c l ch (-1)=true by simpa using h15]),hfull])
  ·rintro D pre I1 m cd hI1 hpart h;exact h.elim
end Go.Proofs.YtdapmfkbpnjkmaaGreat
set_option linter.all false
namespace Go.Sx
open Go
section
variable {P:Program} {n:Sz} {E:Ent} {I:IMap} {L:LL} {H:List Res}
variable {d ty:Nat} {pos:String} {af:Array Edge} {tx tyy:Nat} {x y:Operand}
end
def b5n (ch:List Int) (a:Nat):List Int:=ch.mapIdx fun i k=>if a.testBit i=true then -1 else k
theorem b3F (ch:List Int) (a:Nat):(b5n ch a).length=ch.length:=by simp[b5n]
theorem b4Z {l:List Evt} {e:Evt} {m i:Nat} (hq:∀j x,j<m→l[j]? = some x→decide (x=e)=false) (hi:i≤m):hit id (l.take i) e=false:=by
 rw[c0q,List.any_eq_false];intro x hx;obtain⟨j,hj,rfl⟩:=List.getElem_of_mem hx;rw[List.length_take]at hj
 rw[List.getElem_take]
 simpa using hq j _ (by omega) (List.getElem?_eq_getElem (by omega))
theorem b3j {l:List Evt} {e:Evt} {m i:Nat} (hm:m<i) (hl:m<l.length) (h:decide (l[m]=e)=true):hit id (l.take i) e=true:=by
 rw[c0q,List.any_eq_true];exact⟨l[m],List.mem_iff_getElem.2 ⟨m,by rw[List.length_take];omega,List.getElem_take⟩,h⟩
def c5q (l:List Rep) (n:Int):Bool:=a3A (fun _ r=>c3d r.options 6) l l.length&&decide (((l.length:Nat):Int)≤n)
theorem b4T {l:List Rep} {n:Int} (h:c5q l n=true):(∀r∈l,∀e∈r.options,SmE e)∧((l.length:Nat):Int)≤n:=by
 simp only[c5q,Bool.and_eq_true,decide_eq_true_eq]at h
 refine⟨fun r hr=>?_,h.2⟩;obtain⟨_,h1⟩:=a4S h.1 hr;exact (c6N h1).1
end Go.Sx
namespace Go.Proofs.YtdapmfkbpnjkmaaGreat
open Go Go.Sx
set_option linter.all false
set_option maxRecDepth 20000
set_option maxHeartbeats 4000000
theorem a8d (I:IMap) (r:Rep) (S:Option Addr) (d:Nat) (hr:RdS I (.slice S r.options.length d) r.options) (hs:∀e∈r.options,SmE e) :
    FnV Tryz.prog 46 #[.agg (r.cells (.slice S r.options.length d)).toArray] I (.bool (a0t r)):=by
 have hSA:RdA I S r.options:=(by obtain⟨_,_,e,h,_⟩:=hr;cases e;exact h)
 have hl4:d≤9223372036854775807:=(by obtain⟨_,_,e,h,h1,h2⟩:=hr;cases e;exact h2)
 have hl5:=hr.lenLe
 refine enter Tryz.func46 Tryz.call46 rfl Tryz.ntmps46 rfl (fun w0=>?_);refine go 3 ?_;refine a0B _ rfl rfl rfl (fun g1=>?_);refine go 5 ?_;refine a2z (I':=I) (L':=[(1,.pointer (some ⟨g1,0,none⟩)),(14,.bool (decide (((r.options.length:Nat):Int)<1)||decide ((4:Int)<(r.options.length:Nat))))]) (H':=[.blk g1 64 (r.cells (.slice S r.options.length d))]) ?_ ?_
 ·refine go 6 ?_;refine sxb 9 rfl (fun h9 p9=>?_) (fun h9 p9=>?_)
  ·refine go 7 ?_;exact a0E ⟨rfl,(congrArg (fun b=>some (Value.bool b)) (by simp only[h9,bS])),trivial⟩ rfl rfl
  ·refine go 7 ?_;exact a0E ⟨rfl,(congrArg (fun b=>some (Value.bool b)) (by simp only[h9,bS])),trivial⟩ rfl rfl
 ·refine cb rfl (fun h14 p14=>?_) (fun h14 p14=>?_)
  ·refine go 7 ?_;refine a0x rfl rfl ?_;exact q_v (congrArg Value.bool (by simp only[a0t,show decide (((r.options.length:Nat):Int)=0)=decide (((r.options.length:Nat):Int)<1) from by rw[decide_eq_decide];omega,h14];rfl))
  ·refine go 9 ?_
   refine a0L (α:=Nat) 0 (fun i=>I)
    (fun i=>[(1,.pointer (some ⟨g1,0,none⟩)),(3,.int .i64 ((i:Nat):Int))])
    (fun i=>[.blk g1 64 (r.cells (.slice S r.options.length d))])
    (fun i=>i≤r.options.length∧a3A a4I r.options i=true)
    (fun i=>r.options.length-i) ⟨Nat.zero_le _,rfl⟩ rfl sb rfl ?_
   intro i ⟨hi,hn⟩;refine go 10 ?_;refine cb rfl (fun h19 p19=>?_) (fun h19 p19=>?_)
   ·have hlt:i<r.options.length:=by omega
    refine go 10 ?_;obtain⟨b25,o25,w25,e25,c25,r25⟩:=RdA.at_ hSA (i:=i) hlt;obtain rfl:=r25;refine o_v rfl (a0n he rfl rfl e25 (i) (by omega) hlt) ?_;refine o_v rfl (a0H he rfl c25 rfl) ?_;refine go 1 ?_;refine a0a (b1m _ r.options[i] (hs _ (List.getElem_mem hlt))) rfl rfl ?_;refine go 3 ?_;refine cb rfl (fun h28 p28=>?_) (fun h28 p28=>?_)
    ·refine go 12 ?_;refine a0x rfl rfl ?_;exact q_v (congrArg Value.bool (by simp only[a0t,show decide (((r.options.length:Nat):Int)=0)=decide (((r.options.length:Nat):Int)<1) from by rw[decide_eq_decide];omega,h14,a1A hlt (show a4I (r.options.take i) r.options[i]=false by simp only[a4I,show a1H r.options[i]=false by simpa using h28,bS]),bS]))
    ·refine go 8 ?_
     refine a0L (α:=Nat) 0 (fun m=>I)
      (fun m=>[(1,.pointer (some ⟨g1,0,none⟩)),(3,.int .i64 ((i:Nat):Int)),(4,.int .i64 ((m:Nat):Int))])
      (fun m=>[.blk g1 64 (r.cells (.slice S r.options.length d))])
      (fun m=>m≤i∧∀j x,j<m→r.options[j]? = some x→decide (x=r.options[i])=false)
      (fun m=>i-m) ⟨Nat.zero_le _,fun j x hj=>absurd hj (Nat.not_lt_zero j)⟩ rfl sb rfl ?_
     intro m ⟨hmm,hq⟩;refine go 8 ?_;refine cb rfl (fun h31 p31=>?_) (fun h31 p31=>?_)
     ·have hlm:m<r.options.length:=by omega
      refine go 5 ?_;refine a1h T.mixed ?_;refine a0f 0 rfl rfl (by kernel_rfl) rfl (.refl _) rfl (a0d he rfl) ?_;refine a0f 1 rfl rfl (by kernel_rfl) rfl (.refl _) rfl (a6t m0 he rfl rfl) ?_;refine a0f 2 rfl rfl (by kernel_rfl) rfl (.refl _) rfl (a0c rfl) ?_;obtain⟨b37,o37,w37,e37,c37,r37⟩:=RdA.at_ hSA (i:=m) hlm;obtain rfl:=r37;refine a0f 3 rfl rfl (by kernel_rfl) rfl (.refl _) rfl (a0n he rfl rfl e37 (m) (by omega) hlm) ?_;refine a0f 4 rfl rfl (by kernel_rfl) rfl (.refl _) rfl (a0H he rfl c37 rfl) ?_;refine a0f 5 rfl rfl (by kernel_rfl) rfl (.refl _) rfl (a0d he rfl) ?_;refine a0f 6 rfl rfl (by kernel_rfl) rfl (.refl _) rfl (a6t m0 he rfl rfl) ?_;refine a0f 7 rfl rfl (by kernel_rfl) rfl (.refl _) rfl (a0c rfl) ?_;obtain⟨b42,o42,w42,e42,c42,r42⟩:=RdA.at_ hSA (i:=i) hlt;obtain rfl:=r42;refine a0f 8 rfl rfl (by kernel_rfl) rfl (.refl _) rfl (a0n he rfl rfl e42 (i) (by omega) hlt) ?_;refine a0f 9 rfl rfl (by kernel_rfl) rfl (.refl _) rfl (a0H he rfl c42 rfl) ?_;refine a0f 10 rfl rfl (by kernel_rfl) rfl (.refl _) rfl (a3Q T.eqg_96 (b1S r.options[m] r.options[i]) rfl rfl) ?_;refine a0w (by kernel_rfl) ?_;refine go 1 ?_;refine cb rfl (fun h44 p44=>?_) (fun h44 p44=>?_)
      ·refine go 15 ?_;refine a0x rfl rfl ?_;exact q_v (congrArg Value.bool (by simp only[a0t,show decide (((r.options.length:Nat):Int)=0)=decide (((r.options.length:Nat):Int)<1) from by rw[decide_eq_decide];omega,h14,a1A hlt (show a4I (r.options.take i) r.options[i]=false by simp only[a4I,b3j (show m<i by omega) hlm h44,bS]),bS]))
      ·refine go 9 ?_;exact a0J (m+1) ⟨by omega,a5E (p:=fun x=>decide (x=r.options[i])) hq (show m<r.options.length by omega) h44⟩ (by omega) rfl sb rfl
     ·refine go 12 ?_;exact a0J (i+1) ⟨by omega,a1M hn hlt (by simp only[a4I,b4Z hq (show i≤m by omega),p28,bS])⟩ (by omega) rfl sb rfl
   ·refine go 11 ?_;refine a0x rfl rfl ?_
    have e:i=r.options.length:=(by omega)
    subst e;exact q_v (congrArg Value.bool (by simp only[a0t,hn,show decide (((r.options.length:Nat):Int)=0)=decide (((r.options.length:Nat):Int)<1) from by rw[decide_eq_decide];omega,h14];rfl))
theorem b3X (I:IMap) (r:Rep) (S:Option Addr) (d:Nat) (hr:RdS I (.slice S r.options.length d) r.options) (hs:∀e∈r.options,SmE e) :
    FnV Tryz.prog 172 #[.agg (r.cells (.slice S r.options.length d)).toArray] I (.int .i64 (chs r)):=by
 have hl5:=hr.lenLe
 refine enter Tryz.func172 Tryz.call172 rfl Tryz.ntmps172 rfl (fun w0=>?_);refine go 3 ?_;refine a0B _ rfl rfl rfl (fun g1=>?_);refine go 8 ?_;refine a0a (a8d _ r S d hr hs) rfl rfl ?_;refine go 3 ?_;refine cb rfl (fun h5 p5=>?_) (fun h5 p5=>?_)
 ·refine go 7 ?_;refine a0x rfl rfl ?_;exact q_v (congrArg (Value.int .i64) (by simp only[chs,show a0t r=false by simpa using h5,Bool.true_eq_false,Bool.false_eq_true,if_true,if_false]))
 ·have hl4:=a2Y (r:=r) (by simpa using h5)
  refine go 9 ?_;refine cb rfl (fun h7 p7=>?_) (fun h7 p7=>?_)
  ·refine go 5 ?_;refine o_v rfl (a2c rfl rfl ⟨by omega,by have:=hl4;omega⟩) ?_;refine go 5 ?_;refine a0x rfl rfl ?_;exact q_v (congrArg (Value.int .i64) (by simp only[chs,show a0t r=true by simpa using h5,h7,Bool.true_eq_false,Bool.false_eq_true,if_true,if_false]))
  ·refine go 11 ?_;refine a0x rfl rfl ?_;exact q_v (congrArg (Value.int .i64) (by simp only[chs,show a0t r=true by simpa using h5,h7,Bool.true_eq_false,Bool.false_eq_true,if_true,if_false]))
theorem c4n (I:IMap) (v:Value) (l:List Rep) (hv:RdS I v l) (n:Int) :
    FnV Tryz.prog 104 #[v,.int .i64 n] I (.bool (c5q l n)):=by
 obtain⟨A,c0,rfl,hA,hc,hm⟩:=hv;refine enter Tryz.func104 Tryz.call104 rfl Tryz.ntmps104 rfl (fun w0=>?_);refine go 12 ?_
 refine a0L (α:=Nat) 0 (fun i=>I)
  (fun i=>[(0,.slice A l.length c0),(1,.int .i64 n),(5,.int .i64 ((i:Nat):Int))])
  (fun i=>[])
  (fun i=>i≤l.length∧a3A (fun _ r=>c3d r.options 6) l i=true)
  (fun i=>l.length-i) ⟨Nat.zero_le _,rfl⟩ rfl sb rfl ?_
 intro i ⟨hi,hn⟩;refine go 8 ?_;refine sxb 10 rfl (fun h10 p10=>?_) (fun h10 p10=>?_)
 ·have hlt:i<l.length:=by omega
  refine go 7 ?_;refine cb rfl (fun h15 p15=>?_) (fun h15 p15=>?_)
  ·have hlt:i<l.length:=by omega
   refine go 8 ?_;obtain⟨b20,o20,w20,e20,c20,r20⟩:=RdA.at_ hA (i:=i) hlt;obtain⟨q20,rfl,S20,d20,rfl,hS20,hd20,hm20⟩:=r20;refine o_v rfl (a0n he rfl rfl e20 (i) (by omega) hlt) ?_;refine go 1 ?_;refine o_v rfl (a0W he rfl (c20 0 _ rfl)) ?_;refine go 1 ?_;refine a0a (c7W _ _ l[i].options ⟨_,_,rfl,hS20,hd20,hm20⟩ 6) rfl rfl ?_;refine go 3 ?_;refine cb rfl (fun h24 p24=>?_) (fun h24 p24=>?_)
   ·refine go 11 ?_;refine a0x rfl rfl ?_;exact q_v (congrArg Value.bool (by simp only[c5q,a1A (f:=fun _ r=>c3d r.options 6) hlt (by simpa using h24),bS]))
   ·refine go 9 ?_;exact a0J (i+1) ⟨by omega,a1M hn hlt (by simpa using h24)⟩ (by omega) rfl sb rfl
  ·refine go 15 ?_;refine a0x rfl rfl ?_;exact q_v (congrArg Value.bool (by rw[c5q,show decide (((l.length:Nat):Int)≤n)=false from decide_eq_false (by omega)];simp))
 ·refine go 7 ?_;refine a0P rfl ?_;refine go 15 ?_;refine a0x rfl rfl ?_
  have e:i=l.length:=(by omega)
  subst e;exact q_v (congrArg Value.bool (by simp only[c5q,hn,bS]))
end Go.Proofs.YtdapmfkbpnjkmaaGreat
set_option linter.all false
namespace Go.Sx
open Go
def okK (r:Rep) (k:Int):Bool:=!(decide (k<0)||decide (chs r≤k))
def c5o (l:List Rep) (ch:List Int) (i:Nat):Option Evt:=(at2 (fun r k=>r.options[k.toNat]?) l ch i).join
def a1Q (l:List Rep) (ch:List Int) (n:Nat):List Evt:=(List.range n).filterMap (c5o l ch)
def a1i (l:List Rep) (ch:List Int):List Evt×Int:=if (decide (((l.length:Nat):Int)=(ch.length:Nat))&&a7N okK l ch l.length)=true then (a1Q l ch l.length,0) else ([],1)
theorem b6k (l:List Rep) (ch:List Int) (i:Nat):a1Q l ch (i+1)=a1Q l ch i++(c5o l ch i).toList:=by
 rw[a1Q,List.range_succ,List.filterMap_append,a1Q]
 congr 1
theorem b4Q {l:List Rep} {ch:List Int} {i:Nat} (h1:i<l.length) (h2:i<ch.length):c5o l ch i=l[i].options[ch[i].toNat]?:=by
 rw[c5o,a2H h1 h2];rfl
theorem c9B {l:List Rep} {ch:List Int} {i:Nat} {out:List Evt} (h1:i<l.length) (h2:i<ch.length) (hw:a1Q l ch i=out) (h:ch[i]=(l[i].options.length:Nat)):a1Q l ch (i+1)=out:=by
 rw[b6k,hw,b4Q h1 h2,List.getElem?_eq_none (by omega)];simp
theorem c6M {l:List Rep} {ch:List Int} {i:Nat} {out:List Evt} (h1:i<l.length) (h2:i<ch.length) (hw:a1Q l ch i=out) (hk:ch[i].toNat<l[i].options.length):a1Q l ch (i+1)=out++[l[i].options[ch[i].toNat]]:=by
 rw[b6k,hw,b4Q h1 h2,List.getElem?_eq_getElem hk];rfl
theorem b4S (l:List Rep) (ch:List Int) (i:Nat):(a1Q l ch i).length≤i:=by
 unfold a1Q;exact Nat.le_trans (List.length_filterMap_le _ _) (by simp)
theorem c9r (r:Rep):chs r≤(r.options.length:Nat)+1:=by
 unfold chs
 split
 ·omega
 ·split<;>omega
theorem b3R {l:List Rep} {ch:List Int} (h:¬((l.length:Nat):Int)=(ch.length:Nat)):a1i l ch=([],1):=by
 simp[a1i,h]
theorem a6o {l:List Rep} {ch:List Int} {i:Nat} (h1:i<l.length) (h2:i<ch.length) (h:okK l[i] ch[i]=false):a1i l ch=([],1):=by
 simp[a1i,b2M h1 h1 h2 h]
theorem b3S {l:List Rep} {ch:List Int} (hl:((l.length:Nat):Int)=(ch.length:Nat)) (h:a7N okK l ch l.length=true):a1i l ch=(a1Q l ch l.length,0):=by
 simp[a1i,hl,h]
end Go.Sx
set_option linter.all false
namespace Go.Sx
open Go
section
variable {P:Program} {n:Sz} {E:Ent} {I:IMap} {L:LL} {H:List Res} {K:Act→World→Prop}
variable {α:Type} [Enc α]
theorem a4O {v:Value} {e k m:Nat} {xs:List Value} (h:∀A c,v = .slice A m c→SX n E I L (.row v e k m xs::H) K):SX n E I L (.row v e k m xs::H) K:=by
 refine c1K (p:=∃h,IsRow h v e k m xs) (fun w mm=>⟨_,mm.holds _ (List.mem_cons_self ..)⟩) fun ⟨_,_,hr⟩=>?_
 rcases hr with ⟨rfl,rfl⟩|⟨g,cap,cur,rfl,_⟩
 ·exact h _ _ rfl
 ·exact h _ _ rfl
end
section
variable {α:Type} [Enc α] {I:IMap} {A:Option Addr} {m c:Nat} {l:List α}
theorem RdS.toA (h:RdS I (.slice A m c) l):RdA I A l:=by
 obtain⟨_,_,e,h,_⟩:=h
 injection e with e1 e2 e3
 subst e1;exact h
end
section
variable {P:Program} {b:Frame} {a:Act} {k:List Item} {cs:List Frame} {w:World} {Q:Exit→Act→World→Prop} {F:Fence}
theorem a3P {c:Code}:step P (lone (b.atR a (.code (.scope c)::k)) cs w) = .next (lone (b.atR a (.code c :: .inScope c::k)) cs w):=
 step_lone_go (by simp[stepG,stepG.exec,Frame.atR])
theorem b2C {c:Code}:step P (lone (b.atR a (.inScope c::k)) cs w) = .next (lone (b.atR a k) cs w):=
 step_lone_go (by simp[stepG,stepG.exec,Frame.atR])
theorem b8Z {n:Nat} {c:Code} (h:c.wpIn F n P (Exit.noGoto Q) a w):(Code.scope c).wpIn F n P Q a w:=by
 intro b k cs hro hb hr
 have h0:(lone (b.atR a (.code (.scope c)::k)) cs w).fenced P F:=fenced_calm hb hr rfl
 obtain⟨e,a₁,w₁,hq,harr⟩:=h b (.inScope c::k) cs hro hb hr
 cases e with
 |normal=>exact⟨.normal,a₁,w₁,hq,.head h0 a3P (StepsIn.trans harr (.one (fenced_calm hb hr rfl) b2C))⟩
 |exit id=>
  have hx:exitTo id (.inScope c::k)=exitTo id k:=by simp[exitTo]
  exact⟨.exit id,a₁,w₁,hq,fun k' hk=>.head h0 a3P (harr.1 k' (by rw[hx];exact hk)),
   fun hr' hk=>let ⟨k₁,h1,h2⟩:=harr.2 hr' (by rw[hx];exact hk);⟨k₁,h1,.head h0 a3P h2⟩⟩
 |goto l=>exact hq.elim
 |ret=>exact⟨_,a₁,w₁,hq,.of_steps (.one h0 a3P) harr⟩
 |panic ch=>exact⟨_,a₁,w₁,hq,.of_steps (.one h0 a3P) harr⟩
 |outgrown=>exact⟨_,a₁,w₁,hq,.of_steps (.one h0 a3P) harr⟩
end
section
variable {P:Program} {ρ:Option Nat} {n:Sz} {E:Ent} {I:IMap} {L:LL} {H:List Res} {Q:Exit→Act→World→Prop}
theorem c6m {c:Code} (h:SX n E I L H (c.wq ρ P (Exit.noGoto Q))):SX n E I L H ((Code.scope c).wq ρ P Q):=fun a w s m=>b8Z (h a w s m)
theorem c6j {l:Nat} (h:SX n E I L H (Q .normal)):SX n E I L H ((Code.label l).wq ρ P Q):=fun a w s m=>wpIn_label (h a w s m)
theorem a9d (h:SX n E I L H (Q .ret)):SX n E I L H (Exit.noGoto Q .ret):=h
end
end Go.Sx
namespace Go.Proofs.YtdapmfkbpnjkmaaGreat
open Go Go.Sx
set_option linter.all false
set_option maxRecDepth 20000
set_option maxHeartbeats 4000000
theorem b3Y (I:IMap) (v:Value) (l:List Rep) (hv:RdS I v l) (hl:l.length≤1000000) (hsl:∀r∈l,∀e∈r.options,SmE e) (w:Value) (ch:List Int) (hw:RdS I w ch) :
    FnI Tryz.prog 43 #[v,w] I (fun u J=>∃z,u = .tuple #[z,.int .i64 (a1i l ch).2]∧RdS J z (a1i l ch).1):=by
 obtain⟨A,c0,rfl,hA,hc,hm⟩:=hv;obtain⟨B,c1,rfl,hB,hc1,hm1⟩:=hw;refine enter Tryz.func43 Tryz.call43 rfl Tryz.ntmps43 rfl (fun w0=>?_);refine go 6 ?_;refine c6m ?_;refine go 10 ?_;refine cb rfl (fun h14 p14=>?_) (fun h14 p14=>?_)
 ·refine go 8 ?_;refine a9d ?_;refine a2D rfl rfl rfl ?_;exact q_i ⟨_,by rw[b3R (by simpa using h14)],by rw[b3R (by simpa using h14)];exact RdS.nil'⟩
 ·have hle:((l.length:Nat):Int)=(ch.length:Nat):=by simpa using h14
  refine go 4 ?_;refine a1s 96 14 ?_;refine go 4 ?_;refine c6j ?_;refine go 10 ?_
  refine a5b ((0:Nat)) (_) ([]) ([]) (fun i v6 xs out=>I)
   (fun i v6 xs out=>[(1,.slice B ch.length c1),(6,v6),(15,.slice A l.length c0),(16,.int .i64 ((l.length:Nat):Int)),(17,.int .i64 ((i:Nat):Int))])
   (fun i v6 xs out=>[.row v6 96 14 out.length xs])
   (fun i v6 xs out=>i≤l.length∧a7N okK l ch i=true∧a1Q l ch i=out∧Flat I xs out)
   (fun i v6 xs out=>l.length-i) ⟨Nat.zero_le _,rfl,rfl,.nil⟩ rfl sb rfl ?_
  intro i v6 xs out ⟨hi,hok,hev,hF⟩
  have hol:out.length≤i:=by rw[←hev];exact b4S _ _ _
  refine go 6 ?_;refine cb rfl (fun h18 p18=>?_) (fun h18 p18=>?_)
  ·have hlt:i<l.length:=by omega
   have hlt2:i<ch.length:=by omega
   refine go 7 ?_;obtain⟨b20,o20,w20,e20,c20,r20⟩:=RdA.at_ hA (i:=i) (by omega);obtain⟨q20,rfl,S20,d20,rfl,hS20,hd20,hm20⟩:=r20;refine o_v rfl (a0n he rfl rfl e20 (i) (by omega) (by omega)) ?_;refine o_v rfl (a0H he rfl c20 rfl) ?_;refine go 1 ?_;refine a0h he rfl (fun g8=>?_);refine go 2 ?_;refine a0m _ he rfl rfl rfl rfl rfl rfl ?_;refine go 6 ?_;obtain⟨b24,o24,w24,e24,c24,r24⟩:=RdA.at_ hB (i:=i) (by omega);obtain rfl:=r24;refine o_v rfl (a0n he rfl rfl e24 (i) (by omega) (by omega)) ?_;refine o_v rfl (a0W he rfl (c24 0 _ rfl)) ?_;refine go 9 ?_;refine sxb 28 rfl (fun h28 p28=>?_) (fun h28 p28=>?_)
   ·have hbad:okK l[i] ch[i]=false:=by simp[okK,h28]
    refine go 7 ?_;refine a3c rfl ?_;refine go 13 ?_;refine a9d ?_;refine a2D rfl rfl rfl ?_;exact q_i ⟨_,by rw[a6o hlt hlt2 hbad],by rw[a6o hlt hlt2 hbad];exact RdS.nil'⟩
   ·refine go 3 ?_;refine a0y rfl rfl h28 (a0a (a4B _ l[i] S20 d20 ⟨_,_,rfl,hS20,hd20,hm20⟩ (hsl _ (List.getElem_mem hlt))) rfl rfl ?_);refine go 4 ?_;refine cb rfl (fun h33 p33=>?_) (fun h33 p33=>?_)
    ·have hbad:okK l[i] ch[i]=false:=by simp_all [okK]
     refine go 13 ?_;refine a9d ?_;refine a2D rfl rfl rfl ?_;exact q_i ⟨_,by rw[a6o hlt hlt2 hbad],by rw[a6o hlt hlt2 hbad];exact RdS.nil'⟩
    ·have hgood:okK l[i] ch[i]=true:=by simp_all [okK]
     have hcl:=c9r l[i]
     refine go 12 ?_;refine cb rfl (fun h38 p38=>?_) (fun h38 p38=>?_)
     ·refine go 9 ?_;refine a0b ?_;exact a2U (i+1) (_) (_) (out) ⟨by omega,a7O hok hlt hlt2 hgood,c9B hlt hlt2 hev (by simpa using h38),hF⟩ (by omega) rfl sb (by first|rfl|(simp only[List.length_append,List.length_singleton];rfl)|simp only[List.length_append,List.length_singleton])
     ·have hk:ch[i].toNat<l[i].options.length:=by simp_all [okK];omega
      refine go 7 ?_;obtain⟨b43,o43,w43,e43,c43,r43⟩:=RdA.at_ hS20 (i:=ch[i].toNat) hk;obtain rfl:=r43;refine o_v rfl (a0n he rfl rfl e43 (ch[i].toNat) (by omega) hk) ?_;refine o_v rfl (a0H he rfl c43 rfl) ?_;refine go 1 ?_;refine a0e he he rfl rfl rfl rfl rfl rfl rfl (fun v45=>?_);refine go 1 ?_;refine a0u ?_;refine a1r he he rfl rfl rfl rfl rfl (by omega) (by omega) rfl (fun v46=>?_);refine go 9 ?_;refine a0g ?_;refine a0b ?_;refine a0g ?_;refine a0b ?_;exact a2U (i+1) (_) (_) (out++[l[i].options[ch[i].toNat]]) ⟨by omega,a7O hok hlt hlt2 hgood,c6M hlt hlt2 hev hk,hF.append (.one rfl)⟩ (by omega) rfl sb (by first|rfl|(simp only[List.length_append,List.length_singleton];rfl)|simp only[List.length_append,List.length_singleton])
  ·refine go 7 ?_;obtain rfl:i=l.length:=by omega
   refine a0o (l:=out) rfl rfl (hF) (fun Ip jp Rp=>?_);refine go 6 ?_;refine a9d ?_;refine a2D rfl rfl rfl ?_;exact q_i ⟨_,by rw[b3S hle hok],by rw[b3S hle hok,hev];exact Rp⟩
end Go.Proofs.YtdapmfkbpnjkmaaGreat
set_option linter.all false
namespace Go.Sx
open Go
def a2G (l:List ByteArray):List (List Value):=l.map fun s=>[.string s]
theorem a2W (l:List ByteArray):Uk 1 (a2G l):=fun c hc=>by obtain⟨e,_,rfl⟩:=List.mem_map.1 hc;rfl
theorem a4k (l:List ByteArray):(a2G l).length=l.length:=by simp[a2G]
theorem a7F (I:IMap):∀l:List ByteArray,FlatC I (a2G l) l
 | []=>.nil
 |s::r=>.cons rfl (a7F I r)
theorem c1E {I:IMap} {xss:List (List Value)} {l:List ByteArray} (h:FlatC I xss l):xss=a2G l:=by
 induction h with
 |nil=>rfl
 |cons h1 _ ih=>rw[ih];simp only[a2G,List.map_cons];rw[show _=_ from h1]
theorem a6g {l:List ByteArray} {rest:List (List Value)} {i:Nat} (h:i<l.length):(a2G l++rest)[i]? = some [.string l[i]]:=by
 rw[List.getElem?_append_left (by rw[a4k];exact h)];simp[a2G,h]
theorem b0e {l:List ByteArray} {rest:List (List Value)} {i:Nat} (h:i<l.length) (s:ByteArray):(a2G l++rest).set i [.string s]=a2G (l.set i s)++rest:=by
 rw[List.set_append_left _ _ (by rw[a4k];exact h)]
 congr 1
 simp[a2G,List.map_set]
def Pm (l m:List ByteArray):Prop:=m.length=l.length∧∀x,x∈m↔x∈l
theorem Pm.refl (l:List ByteArray):Pm l l:=⟨rfl,fun _=>Iff.rfl⟩
theorem Pm.swap {l m:List ByteArray} {i j:Nat} (h:Pm l m) (hi:i<m.length) (hj:j<m.length):Pm l ((m.set i m[j]).set j m[i]):=by
 have hp:((m.set i m[j]).set j m[i]).Perm m:=List.set_set_perm hi hj
 exact⟨by rw[List.length_set,List.length_set];exact h.1,fun x=>by rw[hp.mem_iff];exact h.2 x⟩
theorem c1F {l:List ByteArray} {rest:List (List Value)} {i j:Nat} (hi:i<l.length) (hj:j<l.length):((a2G l++rest).set i [.string l[j]]).set j [.string l[i]]=a2G ((l.set i l[j]).set j l[i])++rest:=by
 rw[b0e hi,b0e (by rw[List.length_set];exact hj)]
theorem b7x {l:List ByteArray} {rest:List (List Value)} {i j:Nat} (hi:i<l.length) (hj:j<l.length) (hij:i≠j):((a2G l++rest).set j [.string l[i]]).set i [.string l[j]]=a2G ((l.set i l[j]).set j l[i])++rest:=by
 rw[b0e hj,b0e (by rw[List.length_set];exact hi),List.set_comm _ _ hij.symm]
theorem a6l {α:Type} {ls:List (List α)} {i:Nat} (h:i<ls.length):(ls.take (i+1)).flatten=(ls.take i).flatten++ls[i]:=by
 rw[←a0q h,List.flatten_append];simp
theorem a6k {α:Type} (ls:List (List α)) (i:Nat):((ls.take i).flatten).length≤ls.flatten.length:=by
 conv=>rhs;rw[←List.take_append_drop i ls,List.flatten_append,List.length_append]
 omega
theorem c6C (b:UInt8):IntKind.i64.wrap ((b.toNat:Nat):Int)=((b.toNat:Nat):Int):=by
 have:=b.toNat_lt;rw[IntKind.wrap_i64];omega
theorem c2O (b:UInt8):I64 (0+((b.toNat:Nat):Int)):=by
 have:=b.toNat_lt;exact⟨by omega,by omega⟩
def a5A (r:Rep) (ns:List ByteArray):Prop:=(∀x,x∈ns↔a0t r=true∧∃e∈r.options,x∈a1R e)∧ns.length≤8
theorem b0Y {e:Evt} (h:a1H e=true):1≤(a1R e).length∧(a1R e).length≤2:=by
 unfold a1R;rw[if_neg (by rw[h];decide)]
 split<;>simp
theorem a7Z:∀(l:List Evt),(∀e∈l,a1H e=true)→l.length≤(l.map a1R).flatten.length∧(l.map a1R).flatten.length≤2 * l.length
 | [],_=>by simp
 |e::r,h=>by
  have h1:=b0Y (h e (by simp))
  have h2:=a7Z r fun x hx=>h x (by simp[hx])
  simp only[List.map_cons,List.flatten_cons,List.length_append,List.length_cons]
  omega
theorem b3y {r:Rep} (hv:a0t r=true) {m:List ByteArray} (hm:∀x,x∈m↔x∈(r.options.map a1R).flatten) (hl:m.length≤(r.options.map a1R).flatten.length):a5A r m:=by
 have h1:=a7Z r.options (a3b hv)
 have h2:=a2Y hv
 refine⟨fun x=>?_,by omega⟩;rw[hm x,List.mem_flatten]
 constructor
 ·rintro⟨ns,hns,hx⟩;obtain⟨e,he,rfl⟩:=List.mem_map.1 hns;exact⟨hv,e,he,hx⟩
 ·rintro⟨_,e,he,hx⟩;exact⟨_,List.mem_map.2 ⟨e,he,rfl⟩,hx⟩
theorem b0Z {r:Rep} (hv:a0t r=false):a5A r []:=⟨fun x=>by simp[hv],by simp⟩
structure Cpt (l B:List ByteArray) (k p:Nat):Prop where
 len:B.length=l.length
 kp:k+1≤p
 pl:p≤l.length
 tail:∀j,p-1≤j→B[j]? = l[j]?
 mem:∀x,x∈B.take k↔x∈l.take p
theorem Cpt.start {l:List ByteArray} {k:Nat} (hk:1≤k) (hl:k<l.length) (h:l[k]=l[k-1]):Cpt l l k (k+1):=by
 refine⟨rfl,Nat.le_refl _,hl,fun _ _=>rfl,fun x=>?_⟩;rw[←a0q hl]
 constructor
 ·intro hx;exact List.mem_append_left _ hx
 ·intro hx
  rcases List.mem_append.1 hx with hx|hx
  ·exact hx
  ·obtain rfl:=List.mem_singleton.1 hx;rw[h];exact List.mem_take_iff_getElem.2 ⟨k-1,by omega,rfl⟩
theorem Cpt.skip {l B:List ByteArray} {k p:Nat} (h:Cpt l B k p) (hp:p<l.length) (he:l[p]=l[p-1]) (h1:1≤p):Cpt l B k (p+1):=by
 refine⟨h.len,by have:=h.kp;omega,hp,fun j hj=>h.tail j (by omega),fun x=>?_⟩;rw[h.mem x,←a0q hp]
 constructor
 ·intro hx;exact List.mem_append_left _ hx
 ·intro hx
  rcases List.mem_append.1 hx with hx|hx
  ·exact hx
  ·obtain rfl:=List.mem_singleton.1 hx;rw[he];exact List.mem_take_iff_getElem.2 ⟨p-1,by omega,rfl⟩
theorem Cpt.keep {l B:List ByteArray} {k p:Nat} (h:Cpt l B k p) (hp:p<l.length):Cpt l (B.set k l[p]) (k+1) (p+1):=by
 have hkp:=h.kp
 have hkB:k<B.length:=by rw[h.len];omega
 refine⟨by rw[List.length_set];exact h.len,by omega,hp,fun j hj=>?_,fun x=>?_⟩
 ·rw[List.getElem?_set_ne (by omega)];exact h.tail j (by omega)
 ·rw[←a0q (l:=B.set k l[p]) (i:=k) (by rw[List.length_set];exact hkB),←a0q hp,List.mem_append,List.mem_append,List.getElem_set_self,List.take_set_of_le (Nat.le_refl _),h.mem x]
theorem Cpt.get {l B:List ByteArray} {k p j:Nat} (h:Cpt l B k p) (hj:p-1≤j) (hl:j<l.length) (hb:j<B.length):B[j]=l[j]:=by
 have:=h.tail j hj
 rw[List.getElem?_eq_getElem hl,List.getElem?_eq_getElem hb]at this
 exact Option.some.inj this
theorem Cpt.done {l B:List ByteArray} {k:Nat} (h:Cpt l B k l.length) (x:ByteArray):x∈B.take k↔x∈l:=by
 rw[h.mem x,List.take_length]
theorem c1D {B:List ByteArray} {rest:List (List Value)} {zs:List Value} {k m:Nat} (hk:k+m=B.length):(a2G B++rest).take k++(List.replicate m zs++(a2G B++rest).drop (k+m))=a2G (B.take k)++(List.replicate m zs++rest):=by
 rw[List.take_append_of_le_length (by rw[a4k];omega),hk,←a4k B,List.drop_left,a2G,a2G,List.map_take]
section
variable {P:Program} {ρ:Option Nat} {n:Sz} {E:Ent} {I:IMap} {L:LL} {H:List Res} {Q:Exit→Act→World→Prop} {ops:Array Oper} {K:Act→World→Prop}
variable {d ty:Nat} {pos:String} {af:Array Edge} {x y z:Operand}
theorem a4w {g off tt t':Nat} {xss:List (List Value)} {v:Value} (hm:Res.blk g t' xss.flatten∈H) (hU:Uk 1 xss) (ht:tyK P tt=some (false,1)) (hx:ev L x=some (.pointer (some ⟨g,off,none⟩))) (i:Nat) (ho:off=i) (hi:xss[i]? = some [v]) :
  OV P n E I L H ⟨some d,.load tt x,ty,pos,af,none⟩ v:=a6t hm ht hx (by
 subst ho
 have h:=b4X hU hi
 rw[Nat.mul_one]at h
 have:=congrArg (fun l:List Value=>l[0]?) h
 simpa using this)
theorem c8H {ts:Nat} {s:ByteArray} {i:Int} {kd:IntKind} (ht:P.underlying ts=some .string) (hx:ev L x=some (.string s)) (hy:ev L y=some (.int kd i)) (q:Nat) (hq:i=(q:Int)) (hlt:q<s.size):OV P n E I L H ⟨some d,.index ts x y,ty,pos,af,none⟩ (.int .u8 ((s[q]!.toNat:Nat):Int)):=
 (fun a w st _=>by
  subst hq
  have hs:s[q]? = some (s[q]!):=by rw[getElem?_pos s q hlt,getElem!_pos s q hlt]
  simp[execOp,st.ev hx,st.ev hy,Instr.index,asIntOf,run_underlying ht,hs])
theorem b2k {tt tn e k bytes q:Nat} {kn kq:IntKind} {zs:List Value} (he:P.underlying tt=some (.slice e)) (hn:P.underlying tn=some (.int kn)) (hb:a2y P e=some (zs,k,bytes)) (hzs:zs.length=k) (hk0:Nat.blt 0 k=true)
  (hx:ev L x=some (.slice none 0 0)) (hy:ev L y=some (.int kq (q:Nat))) (hq:0<q) (hroom:q * bytes≤140737488355328) (hlen:q≤maxLen) (hd:Nat.blt d n.sz=true)
  (kk:∀g' r,q+r≤maxLen→SX n E I ((d,.slice (some ⟨g',0,none⟩) q (q+r))::L) (.blk g' e (List.replicate (q+r) zs).flatten::H) K) :
  SX n E I L H (one P ops Q ⟨some d,.call { callee:=.builtin .append,args:=#[x,y],argTypes:=#[tt,tn] },ty,pos,af,none⟩ K):=
 a8J (fun q':Nat×Nat=>.slice (some ⟨q'.1,0,none⟩) q (q+q'.2)) (fun _=>I) (fun q'=>.blk q'.1 e (List.replicate (q+q'.2) zs).flatten::H) (fun q'=>q+q'.2≤maxLen) hd
  (fun a w st mm=>by
   unfold a2y at hb
   split at hb
   ·rename_i inf hi
    cases hz:inf.zero with
    |none=>simp[hz]at hb
    |some z0=>
     simp only[hz,Option.map_some,Option.some.injEq,Prod.mk.injEq]at hb
     obtain⟨hz1,hz2,hz3⟩:=hb
     have hk':0<k:=by simpa[Nat.blt_eq]using hk0
     have hz0:z0.cells=zs.toArray:=by rw[←hz1]
     have hold:(Builtin.firstCells inf.size 0 (.slice none 0 0)).run P w.drew = .ok ([]:List Value).toArray w.drew:=by
      have hl0:∀(b:Addr),(loadCells b 0).run P w.drew = .ok #[] w.drew:=fun b=>run_loadCells_list (P:=P) w.drew b [] (fun j v hv=>by simp at hv)
      simp[Builtin.firstCells,hl0]
     have hg:0<0+q:=by omega
     have hcapq:grownCap w (0+q) 0 e=q+(grownCap w (0+q) 0 e-q):=by have:=grownCap_ge w (0+q) 0 e;omega
     have h48:Builtin.nextslicecap (0+q) 0 * inf.bytes≤281474976710656:=by
      have h1:Builtin.nextslicecap (0+q) 0 * inf.bytes≤2 * (0+q) * inf.bytes:=Nat.mul_le_mul_right _ (Room.nextslicecap_le' hg)
      rw[Nat.mul_assoc,hz3]at h1
      rw[hz3]
      simp only[Nat.zero_add]at h1 ⊢
      omega
     have h48q:q * inf.bytes≤281474976710656:=by rw[hz3];omega
     have hr:=Lib.run_append_grow_zeros (P:=P) w tt tn ty e inf z0 kq kn he hn hi hz none 0 0 [] hold q hq (by omega) hg (by unfold maxLen at hlen;omega) h48q h48
     have hzc:∀q,Builtin.zeroCells z0.cells q=(List.replicate q zs).flatten.toArray:=fun q=>by
      have h2:Builtin.zeroCells zs.toArray q=madeCells zs.toArray (q * zs.length):=by simp[Builtin.zeroCells,madeCells]
      rw[hz0,h2,a6h zs (by omega),a7M]
     rw[hzc,hzc]at hr
     simp only[Nat.zero_add]at hr hcapq
     refine⟨(w.heap.size,grownCap w q 0 e-q),w.drew.alloc (.cells (List.replicate (q+(grownCap w q 0 e-q)) zs).flatten.toArray e),?_,?_,mm.drew.alloc e _⟩
     ·show q+(grownCap w q 0 e-q)≤maxLen
      rw[←hcapq];exact grownCap_le_maxLen w q 0 e hlen
     ·have e1:([]:List Value).toArray++(List.replicate q zs).flatten.toArray++(List.replicate (grownCap w q 0 e-q) zs).flatten.toArray=(List.replicate (q+(grownCap w q 0 e-q)) zs).flatten.toArray:=by
       rw[List.append_toArray []  ,List.nil_append,List.append_toArray,←List.flatten_append,List.replicate_append_replicate]
      rw[e1]at hr
      simp only[execOp,resolve,invoke,builtin,Sem.run_bind,Sem.run_pure,Result.andThen_ok,List.map_toArray,List.map_cons,List.map_nil,st.ev hx,st.ev hy,hr]
      rw[←hcapq]
   ·cases hb) fun q' hq'=>kk q'.1 q'.2 hq'
theorem FnX.backE {f:FuncId} {args:Array Value} {g e k:Nat} {xs:List Value} {p:Value→Res→Prop}
  (h:FnX P f args I [.blk g e xs] (fun u r=>∃yss rest m cap,Uk k yss∧Uk k rest∧yss.length=m∧m+rest.length=cap∧cap≤maxLen∧r = .blk g e (yss++rest).flatten∧p u (.row (.slice (some ⟨g,0,none⟩) m cap) e k m yss.flatten))):FnX P f args I [.blk g e xs] p:=
 ⟨fun w m'=>(h.go w m').mono fun _ w' ⟨u,I',H',he,hm',hq⟩=>by
  obtain⟨rfl,r',rfl,yss,rest,m,cap,hU,hR,hm,hc,hl,rfl,hp⟩:=hq;refine⟨_,_,_,he,?_,rfl,_,rfl,hp⟩
  have hb:w'.heap[g]? = some (.cells (yss++rest).flatten.toArray e (0,0)):=hm'.blk
  exact hm'.step rfl ⟨rfl,Nat.le_refl _⟩ rfl (Nat.le_refl _) (fun _ _ _=>rfl) (IsRow.shut hb hU hR hm hc hl) (fun g' hg'=>.inl hg')⟩
theorem FnX.weak {f:FuncId} {args:Array Value} {H:List Res} {p q:Value→Res→Prop} (h:FnX P f args I H p) (hpq:∀u r,p u r→q u r):FnX P f args I H q:=
 ⟨fun w m'=>(h.go w m').mono fun _ w' ⟨u,I',H',he,hm',hq⟩=>by
  obtain⟨rfl,r',rfl,hp⟩:=hq
  exact⟨_,_,_,he,hm',rfl,_,rfl,hpq _ _ hp⟩⟩
theorem FnX.of_rowF {α:Type} [Enc α] {f:FuncId} {args:Value→List Value} {p:Value→Res→Prop} {v:Value} {e k m:Nat} {xs:List Value} {l:List α} (hF:Flat I xs l) (hk:k=Enc.k α) (hm:m=l.length) (h0:0<l.length)
  (h1:∀g cap rest xss,v = .slice (some ⟨g,0,none⟩) m cap→FlatC I xss l→Uk k rest→m+rest.length=cap→cap≤maxLen→FnX P f (args (.slice (some ⟨g,0,none⟩) m cap)).toArray I [.blk g e (xss++rest).flatten] p):FnX P f (args v).toArray I [.row v e k m xs] p:=by
 obtain⟨xss,rfl,hC⟩:=FlatC.of hF;exact FnX.of_rowV (by rw[hk];exact hC.uk) (by rw[hC.len,hm]) (fun h _=>absurd h (by omega)) fun g cap rest hv hR hc hl=>h1 g cap rest xss hv hC hR hc hl
end
end Go.Sx
namespace Go.Proofs.YtdapmfkbpnjkmaaGreat
open Go Go.Sx
set_option linter.all false
set_option maxRecDepth 20000
set_option maxHeartbeats 4000000
instance T.und_345:Has (Tryz.prog.underlying 345) (.int .u64):=⟨by kernel_rfl⟩
theorem c9L (I:IMap) (s:ByteArray) :
    FnV Tryz.prog 109 #[.string s] I (.bool false):=by
 refine enter Tryz.func109 Tryz.call109 rfl Tryz.ntmps109 rfl (fun w0=>?_);refine go 14 ?_;refine a0x rfl rfl ?_;exact q_v (congrArg Value.bool (by simp))
theorem d1K (I:IMap) (s t:ByteArray) :
    FnV Tryz.prog 277 #[.string s,.string t] I (.bool (sLt s t)):=by
 refine enter Tryz.func277 Tryz.call277 rfl Tryz.ntmps277 rfl (fun w0=>?_);refine go 9 ?_;refine a0a (c9L _ s) rfl rfl ?_;refine go 14 ?_;refine a0x rfl rfl ?_;exact q_v rfl
theorem c9J (I:IMap) {rest:Rst 1} {cap:Nat} (g:Nat) (l:List ByteArray) (hl2:l.length≤12) (hc:l.length+rest.l.length=cap) (hcm:cap≤maxLen) :
    FnX Tryz.prog 271 #[.slice (some ⟨g,0,none⟩) l.length cap,.int .i64 0,.int .i64 ((l.length:Nat):Int)] I [.blk g 9 (a2G l++rest.l).flatten] (fun u r=>u = .tuple #[]∧∃m,Pm l m∧r = .blk g 9 (a2G m++rest.l).flatten):=by
 refine enter Tryz.func271 Tryz.call271 rfl Tryz.ntmps271 rfl (fun w0=>?_);refine go 3 ?_;refine o_v rfl (OV.cast (u:=.int .i64 ((1:Nat):Int)) (a2c rfl rfl ⟨by omega,by omega⟩) (congrArg (Value.int .i64) (by omega))) ?_;refine go 4 ?_
 refine a1w (1) (l) (fun i m=>I)
  (fun i m=>[(0,.slice (some ⟨g,0,none⟩) l.length cap),(1,.int .i64 0),(2,.int .i64 ((l.length:Nat):Int)),(6,.int .i64 ((i:Nat):Int))])
  (fun i m=>[.blk g 9 (a2G m++rest.l).flatten])
  (fun i m=>(i≤l.length∨i=1)∧Pm l m)
  (fun i m=>l.length-i) ⟨.inr rfl,Pm.refl l⟩ rfl sb rfl ?_
 intro i m ⟨hi,hpm⟩;refine go 8 ?_;refine cb rfl (fun h12 p12=>?_) (fun h12 p12=>?_)
 ·have hlt:i<l.length:=by omega
  refine go 11 ?_
  refine a1w (i) (m) (fun j k=>I)
   (fun j k=>[(0,.slice (some ⟨g,0,none⟩) l.length cap),(1,.int .i64 0),(2,.int .i64 ((l.length:Nat):Int)),(6,.int .i64 ((i:Nat):Int)),(7,.int .i64 ((j:Nat):Int))])
   (fun j k=>[.blk g 9 (a2G k++rest.l).flatten])
   (fun j k=>j≤i∧Pm l k)
   (fun j k=>j) ⟨Nat.le_refl _,hpm⟩ rfl sb rfl ?_
  intro j k ⟨hj,hpk⟩
  have hkl:=hpk.1
  refine go 2 ?_;refine a1h T.mixed ?_;refine a0f 0 rfl rfl (by kernel_rfl) rfl (.refl _) rfl (a0c rfl) ?_;refine a0f 1 rfl rfl (by kernel_rfl) rfl (.refl _) rfl (a0c rfl) ?_;refine a0f 2 rfl rfl (by kernel_rfl) rfl (.refl _) rfl (b8U rfl rfl) ?_;refine a0f 3 rfl rfl (by kernel_rfl) rfl (.refl _) rfl (a0c rfl) ?_;refine sxb 19 rfl (fun h19 p19=>?_) (fun h19 p19=>?_)
  ·have hjk:j<k.length:=by omega
   have hjk1:j-1<k.length:=by omega
   refine d_t 4 rfl rfl (by kernel_rfl) rfl (fun _ m=>m.keeps (.refl _)) (a1L rfl rfl h19 (a0c rfl)) ?_;refine d_t 5 rfl rfl (by kernel_rfl) rfl (fun _ m=>m.keeps (.refl _)) (a1L rfl rfl h19 (a0c rfl)) ?_;refine d_t 6 rfl rfl (by kernel_rfl) rfl (fun _ m=>m.keeps (.refl _)) (a1L rfl rfl h19 (a0n he rfl rfl rfl (j) (by omega) (by omega))) ?_;refine d_t 7 rfl rfl (by kernel_rfl) rfl (fun _ m=>m.keeps (.refl _)) (a1L rfl rfl h19 (a4w m0 (Uk.append (a2W _) rest.uk) he rfl (j) (by omega) (a6g hjk))) ?_;refine d_t 8 rfl rfl (by kernel_rfl) rfl (fun _ m=>m.keeps (.refl _)) (a1L rfl rfl h19 (a0c rfl)) ?_;refine d_t 9 rfl rfl (by kernel_rfl) rfl (fun _ m=>m.keeps (.refl _)) (a1L rfl rfl h19 (a0c rfl)) ?_;refine d_t 10 rfl rfl (by kernel_rfl) rfl (fun _ m=>m.keeps (.refl _)) (a1L rfl rfl h19 (OV.cast (u:=.int .i64 ((j-1:Nat):Int)) (a1v rfl rfl ⟨by omega,by omega⟩) (congrArg (Value.int .i64) (by omega)))) ?_;refine d_t 11 rfl rfl (by kernel_rfl) rfl (fun _ m=>m.keeps (.refl _)) (a1L rfl rfl h19 (a0n he rfl rfl rfl (j-1) (by omega) (by omega))) ?_;refine d_t 12 rfl rfl (by kernel_rfl) rfl (fun _ m=>m.keeps (.refl _)) (a1L rfl rfl h19 (a4w m0 (Uk.append (a2W _) rest.uk) he rfl (j-1) (by omega) (a6g hjk1))) ?_;refine a0i 13 (by kernel_rfl) rfl ?_;refine a0y rfl rfl h19 (a0a (d1K _ _ _) rfl rfl ?_);refine a0r (fun _ m=>m.keeps (.refl _)) ?_;refine a0f 14 rfl rfl (by kernel_rfl) rfl (.refl _) rfl (a8m h19 rfl rfl) ?_;refine a0w (by kernel_rfl) ?_;refine go 1 ?_;refine cb rfl (fun h30 p30=>?_) (fun h30 p30=>?_)
   ·refine go 4 ?_;refine a1t T.mixed ?_;refine a0f 0 rfl rfl (by kernel_rfl) rfl (.cons _ .slnil) rfl (a0c rfl) ?_;refine a0f 1 rfl rfl (by kernel_rfl) rfl (.cons _ .slnil) rfl (a0c rfl) ?_;refine a0f 2 rfl rfl (by kernel_rfl) rfl (.cons _ .slnil) rfl (a0c rfl) ?_;refine a0f 3 rfl rfl (by kernel_rfl) rfl (.cons _ .slnil) rfl (a0c rfl) ?_;refine a0f 4 rfl rfl (by kernel_rfl) rfl (.cons _ .slnil) rfl (OV.cast (u:=.int .i64 ((j-1:Nat):Int)) (a1v rfl rfl ⟨by omega,by omega⟩) (congrArg (Value.int .i64) (by omega))) ?_;refine a0f 5 rfl rfl (by kernel_rfl) rfl (.cons _ .slnil) rfl (a0c rfl) ?_;refine a0f 6 rfl rfl (by kernel_rfl) rfl (.cons _ .slnil) rfl (a0c rfl) ?_;refine a0f 7 rfl rfl (by kernel_rfl) rfl (.cons _ .slnil) rfl (OV.cast (u:=.int .i64 ((j-1:Nat):Int)) (a1v rfl rfl ⟨by omega,by omega⟩) (congrArg (Value.int .i64) (by omega))) ?_;refine a0f 8 rfl rfl (by kernel_rfl) rfl (.cons _ .slnil) rfl (a0n he rfl rfl rfl (j-1) (by omega) (by omega)) ?_;refine a0f 10 rfl rfl (by kernel_rfl) rfl (.cons _ .slnil) rfl (a0c rfl) ?_;refine a0f 11 rfl rfl (by kernel_rfl) rfl (.cons _ .slnil) rfl (a0c rfl) ?_;refine a0f 12 rfl rfl (by kernel_rfl) rfl (.cons _ .slnil) rfl (a0n he rfl rfl rfl (j) (by omega) (by omega)) ?_;refine a2A 9 13 (by kernel_rfl) rfl rfl ?_ ?_
    ·refine a0l rfl (a4w m0 (Uk.append (a2W _) rest.uk) he rfl (j-1) (by omega) (a6g hjk1)) ?_;refine a0r (fun _ m=>m.keeps (.cons _ .slnil)) ?_;refine a0i 13 (by kernel_rfl) rfl ?_;refine a0l rfl (a4w m0 (Uk.append (a2W _) rest.uk) he rfl (j) (by omega) (a6g hjk)) ?_;refine a0r (fun _ m=>m.keeps (.cons _ .slnil)) ?_;refine a0f 14 rfl rfl (by kernel_rfl) rfl (.cons _ .slnil) rfl (a0n he rfl rfl rfl (j) (by omega) (by omega)) ?_;refine a0i 15 (by kernel_rfl) rfl ?_;refine a2b _ (j) (by first|exact Uk.append (a2W _) rest.uk|exact (Uk.append (a2W _) rest.uk).set rfl _) he rfl rfl rfl rfl rfl (by omega) (by simp[a4k];omega) ?_;refine a0r (fun _ m=>m.keeps (.cons _ .slnil)) ?_;refine a0f 16 rfl rfl (by kernel_rfl) rfl (.cons _ .slnil) rfl (a0n he rfl rfl rfl (j-1) (by omega) (by omega)) ?_;refine a0i 17 (by kernel_rfl) rfl ?_;refine a2b _ (j-1) (by first|exact Uk.append (a2W _) rest.uk|exact (Uk.append (a2W _) rest.uk).set rfl _) he rfl rfl rfl rfl rfl (by omega) (by simp[a4k];omega) ?_;refine a0r (fun _ m=>m.keeps (.cons _ .slnil)) ?_;refine a0w (by kernel_rfl) ?_;refine go 4 ?_;refine o_v rfl (OV.cast (u:=.int .i64 ((j-1:Nat):Int)) (a1v rfl rfl ⟨by omega,by omega⟩) (congrArg (Value.int .i64) (by omega))) ?_;refine go 3 ?_;exact a0M (j-1) ((k.set j k[j-1]).set (j-1) k[j]) ⟨by omega,hpk.swap hjk hjk1⟩ (by omega) rfl sb (by first|rw[←c1F hjk hjk1] | rw[←b7x hjk hjk1 (by omega)])
    ·refine a0l rfl (a4w m0 (Uk.append (a2W _) rest.uk) he rfl (j) (by omega) (a6g hjk)) ?_;refine a0r (fun _ m=>m.keeps (.cons _ .slnil)) ?_;refine a0i 9 (by kernel_rfl) rfl ?_;refine a0l rfl (a4w m0 (Uk.append (a2W _) rest.uk) he rfl (j-1) (by omega) (a6g hjk1)) ?_;refine a0r (fun _ m=>m.keeps (.cons _ .slnil)) ?_;refine a0f 14 rfl rfl (by kernel_rfl) rfl (.cons _ .slnil) rfl (a0n he rfl rfl rfl (j) (by omega) (by omega)) ?_;refine a0i 15 (by kernel_rfl) rfl ?_;refine a2b _ (j) (by first|exact Uk.append (a2W _) rest.uk|exact (Uk.append (a2W _) rest.uk).set rfl _) he rfl rfl rfl rfl rfl (by omega) (by simp[a4k];omega) ?_;refine a0r (fun _ m=>m.keeps (.cons _ .slnil)) ?_;refine a0f 16 rfl rfl (by kernel_rfl) rfl (.cons _ .slnil) rfl (a0n he rfl rfl rfl (j-1) (by omega) (by omega)) ?_;refine a0i 17 (by kernel_rfl) rfl ?_;refine a2b _ (j-1) (by first|exact Uk.append (a2W _) rest.uk|exact (Uk.append (a2W _) rest.uk).set rfl _) he rfl rfl rfl rfl rfl (by omega) (by simp[a4k];omega) ?_;refine a0r (fun _ m=>m.keeps (.cons _ .slnil)) ?_;refine a0w (by kernel_rfl) ?_;refine go 4 ?_;refine o_v rfl (OV.cast (u:=.int .i64 ((j-1:Nat):Int)) (a1v rfl rfl ⟨by omega,by omega⟩) (congrArg (Value.int .i64) (by omega))) ?_;refine go 3 ?_;exact a0M (j-1) ((k.set j k[j-1]).set (j-1) k[j]) ⟨by omega,hpk.swap hjk hjk1⟩ (by omega) rfl sb (by first|rw[←c1F hjk hjk1] | rw[←b7x hjk hjk1 (by omega)])
   ·refine go 12 ?_;exact a0M (i+1) (k) ⟨.inl (by omega),hpk⟩ (by omega) rfl sb rfl
  ·refine d_t 4 rfl rfl (by kernel_rfl) rfl (fun _ m=>m.keeps (.refl _)) (a3h rfl rfl h19) ?_;refine d_t 5 rfl rfl (by kernel_rfl) rfl (fun _ m=>m.keeps (.refl _)) (a3h rfl rfl h19) ?_;refine d_t 6 rfl rfl (by kernel_rfl) rfl (fun _ m=>m.keeps (.refl _)) (a3h rfl rfl h19) ?_;refine d_t 7 rfl rfl (by kernel_rfl) rfl (fun _ m=>m.keeps (.refl _)) (a3h rfl rfl h19) ?_;refine d_t 8 rfl rfl (by kernel_rfl) rfl (fun _ m=>m.keeps (.refl _)) (a3h rfl rfl h19) ?_;refine d_t 9 rfl rfl (by kernel_rfl) rfl (fun _ m=>m.keeps (.refl _)) (a3h rfl rfl h19) ?_;refine d_t 10 rfl rfl (by kernel_rfl) rfl (fun _ m=>m.keeps (.refl _)) (a3h rfl rfl h19) ?_;refine d_t 11 rfl rfl (by kernel_rfl) rfl (fun _ m=>m.keeps (.refl _)) (a3h rfl rfl h19) ?_;refine d_t 12 rfl rfl (by kernel_rfl) rfl (fun _ m=>m.keeps (.refl _)) (a3h rfl rfl h19) ?_;refine d_t 13 rfl rfl (by kernel_rfl) rfl (fun _ m=>m.keeps (.refl _)) (a3h rfl rfl h19) ?_;refine a0f 14 rfl rfl (by kernel_rfl) rfl (.refl _) rfl (a8l h19 rfl) ?_;refine a0w (by kernel_rfl) ?_;refine go 1 ?_;refine a0P rfl ?_;refine go 12 ?_;exact a0M (i+1) (k) ⟨.inl (by omega),hpk⟩ (by omega) rfl sb rfl
 ·refine go 4 ?_;refine a4y rfl ?_;exact q_x ⟨rfl,m,hpm,rfl⟩
theorem d0c (I:IMap) {rest:Rst 1} {cap:Nat} (g:Nat) (l:List ByteArray) (hl2:l.length≤12) (hc:l.length+rest.l.length=cap) (hcm:cap≤maxLen) (z:Int) :
    FnX Tryz.prog 225 #[.slice (some ⟨g,0,none⟩) l.length cap,.int .i64 0,.int .i64 ((l.length:Nat):Int),.int .i64 z] I [.blk g 9 (a2G l++rest.l).flatten] (fun u r=>u = .tuple #[]∧∃m,Pm l m∧r = .blk g 9 (a2G m++rest.l).flatten):=by
 refine enter Tryz.func225 Tryz.call225 rfl Tryz.ntmps225 rfl (fun w0=>?_);refine go 11 ?_
 refine a0L (α:=Nat) 0 (fun i=>I)
  (fun i=>[(0,.slice (some ⟨g,0,none⟩) l.length cap),(1,.int .i64 0),(2,.int .i64 ((l.length:Nat):Int))])
  (fun i=>[.blk g 9 (a2G l++rest.l).flatten])
  (fun i=>True)
  (fun i=>0) trivial rfl sb rfl ?_
 intro i _;refine go 5 ?_;refine o_v rfl (OV.cast (u:=.int .i64 ((l.length:Nat):Int)) (a1v rfl rfl ⟨by omega,by omega⟩) (congrArg (Value.int .i64) (by omega))) ?_;refine go 7 ?_;refine o_v rfl (OV.cast (u:=.bool true) (a6T rfl rfl) (congrArg Value.bool (decide_eq_true (by omega)))) ?_;refine go 2 ?_;refine a3c rfl ?_;refine go 6 ?_;refine a1u (c9J _ g l hl2 hc hcm) rfl rfl (fun v27 s27 q27=>?_);obtain⟨rfl,m,hpm,rfl⟩:=q27;refine go 7 ?_;refine c3i rfl ?_;exact q_x ⟨rfl,m,hpm,rfl⟩
theorem d1J (I:IMap) (n:Nat) (hn:n<200) :
    FnE Tryz.prog 281 #[.int .u64 ((n:Nat):Int)] I (fun u=>∃k:Nat,u = .int .i64 (k:Int)):=by
 refine enter Tryz.func281 Tryz.call281 rfl Tryz.ntmps281 rfl (fun w0=>?_);refine go 9 ?_;refine o_v rfl (OV.cast (u:=.bool false) (b4n rfl rfl) (congrArg Value.bool (decide_eq_false (by omega)))) ?_;refine go 2 ?_;refine a0P rfl ?_;refine go 6 ?_;refine o_v rfl (OV.cast (u:=.bool false) (b4n rfl rfl) (congrArg Value.bool (decide_eq_false (by omega)))) ?_;refine go 2 ?_;refine a0P rfl ?_;refine go 6 ?_;refine o_v rfl (OV.cast (u:=.bool false) (b4n rfl rfl) (congrArg Value.bool (decide_eq_false (by omega)))) ?_;refine go 2 ?_;refine a0P rfl ?_;refine go 6 ?_;refine o_v rfl (a2k he he rfl (m:=((n:Nat):Int)) (c2m n (by omega))) ?_;refine o_v rfl (c8H he rfl rfl n rfl (Nat.lt_of_lt_of_le hn (by decide +kernel))) ?_;refine o_v rfl (a2k he he rfl (c6C _)) ?_;refine o_v rfl (a2c rfl rfl (c2O _)) ?_;refine go 4 ?_;refine a0x rfl rfl ?_;exact q_e ⟨_,by rw[Int.zero_add]⟩
theorem b9q (I:IMap) (n:Nat) (hn:n<200) :
    FnE Tryz.prog 226 #[.int .u64 ((n:Nat):Int)] I (fun u=>∃k:Nat,u = .int .i64 (k:Int)):=by
 refine enter Tryz.func226 Tryz.call226 rfl Tryz.ntmps226 rfl (fun w0=>?_);refine go 6 ?_;refine a0P rfl ?_;refine go 6 ?_;refine a5f (d1J _ n hn) rfl rfl (fun v7 q7=>?_);obtain⟨k,rfl⟩:=q7;refine go 4 ?_;refine a0x rfl rfl ?_;exact q_e ⟨_,rfl⟩
theorem c8m (I:IMap) {rest:Rst 1} {cap:Nat} (g:Nat) (l:List ByteArray) (hl2:l.length≤12) (hc:l.length+rest.l.length=cap) (hcm:cap≤maxLen) :
    FnX Tryz.prog 157 #[.slice (some ⟨g,0,none⟩) l.length cap] I [.blk g 9 (a2G l++rest.l).flatten] (fun u r=>u = .tuple #[]∧∃m,Pm l m∧r = .blk g 9 (a2G m++rest.l).flatten):=by
 refine enter Tryz.func157 Tryz.call157 rfl Tryz.ntmps157 rfl (fun w0=>?_);refine go 11 ?_;refine o_v rfl (a2k he he rfl (m:=((l.length:Nat):Int)) (wrap_u64 _ (by omega) (by omega))) ?_;refine go 1 ?_;refine a5f (b9q _ l.length (by omega)) rfl rfl (fun v9 q9=>?_);obtain⟨z,rfl⟩:=q9;refine go 1 ?_;refine a1u (d0c _ g l hl2 hc hcm z) rfl rfl (fun v10 s10 q10=>?_);obtain⟨rfl,m,hpm,rfl⟩:=q10;refine go 1 ?_;refine a4y rfl ?_;exact q_x ⟨rfl,m,hpm,rfl⟩
theorem c9I (I:IMap) :
    FnV Tryz.prog 271 #[.slice none 0 0,.int .i64 0,.int .i64 0] I (.tuple #[]):=by
 refine enter Tryz.func271 Tryz.call271 rfl Tryz.ntmps271 rfl (fun w0=>?_);refine go 3 ?_;refine o_v rfl (OV.cast (u:=.int .i64 ((1:Nat):Int)) (a2c rfl rfl ⟨by omega,by omega⟩) (congrArg (Value.int .i64) (by omega))) ?_;refine go 4 ?_
 refine a0L (α:=Nat) 0 (fun i=>I)
  (fun i=>[(2,.int .i64 0),(6,.int .i64 1)])
  (fun i=>[])
  (fun i=>True)
  (fun i=>0) trivial rfl sb rfl ?_
 intro i _;refine go 5 ?_;refine o_v rfl (OV.cast (u:=.bool false) (a8n rfl rfl) (congrArg Value.bool (decide_eq_false (by omega)))) ?_;refine go 2 ?_;refine a0P rfl ?_;refine go 4 ?_;refine a4y rfl ?_;exact q_v rfl
theorem d0b (I:IMap) (z:Int) :
    FnV Tryz.prog 225 #[.slice none 0 0,.int .i64 0,.int .i64 0,.int .i64 z] I (.tuple #[]):=by
 refine enter Tryz.func225 Tryz.call225 rfl Tryz.ntmps225 rfl (fun w0=>?_);refine go 11 ?_
 refine a0L (α:=Nat) 0 (fun i=>I)
  (fun i=>[(0,.slice none 0 0),(1,.int .i64 0),(2,.int .i64 0)])
  (fun i=>[])
  (fun i=>True)
  (fun i=>0) trivial rfl sb rfl ?_
 intro i _;refine go 5 ?_;refine o_v rfl (OV.cast (u:=.int .i64 0) (a1v rfl rfl ⟨by omega,by omega⟩) rfl) ?_;refine go 7 ?_;refine o_v rfl (OV.cast (u:=.bool true) (a6T rfl rfl) (congrArg Value.bool (decide_eq_true (by omega)))) ?_;refine go 2 ?_;refine a3c rfl ?_;refine go 6 ?_;refine a0a (c9I _) rfl rfl ?_;refine go 7 ?_;refine c3i rfl ?_;exact q_v rfl
theorem c4H (I:IMap) :
    FnV Tryz.prog 157 #[.slice none 0 0] I (.tuple #[]):=by
 refine enter Tryz.func157 Tryz.call157 rfl Tryz.ntmps157 rfl (fun w0=>?_);refine go 11 ?_;refine o_v rfl (a2k he he rfl (m:=((0:Nat):Int)) (wrap_u64 _ (by omega) (by omega))) ?_;refine go 1 ?_;refine a5f (b9q _ 0 (by omega)) rfl rfl (fun v9 q9=>?_);obtain⟨z,rfl⟩:=q9;refine go 1 ?_;refine a0a (d0b _ z) rfl rfl ?_;refine go 1 ?_;refine a4y rfl ?_;exact q_v rfl
theorem b7w (I:IMap) (v:Value) (l:List ByteArray) (xs:List Value) (hF:Flat I xs l) (hl2:l.length≤12) :
  FnX Tryz.prog 157 #[v] I [.row v 9 1 l.length xs] (fun u r=>u = .tuple #[]∧∃m ys,Pm l m∧Flat I ys m∧r = .row v 9 1 l.length ys):=by
 obtain⟨xss,rfl,hC⟩:=FlatC.of hF;refine FnX.of_rowV (args:=fun v=>[v]) hC.uk hC.len (fun h0 h1=>?_) (fun g cap rest hv hR hc hcm=>?_)
 ·obtain rfl:l=[]:=List.eq_nil_of_length_eq_zero h0;subst h1;refine (FnX.of_V (t:=9) (k:=1) (c4H I)).weak ?_;rintro u r ⟨rfl,rfl⟩;exact⟨rfl,[],[],Pm.refl _,.nil,rfl⟩
 ·subst hv;obtain rfl:=c1E hC;refine FnX.backE (k:=1) ((c8m I (rest:=⟨rest,hR⟩) g l hl2 hc hcm).weak ?_);rintro u r ⟨rfl,m,hpm,rfl⟩;exact⟨a2G m,rest,l.length,cap,a2W m,hR,by rw[a4k,hpm.1],hc,hcm,rfl,rfl,m,_,hpm,(a7F I m).flat,rfl⟩
theorem c8l (I:IMap) (v:Value) (l:List ByteArray) (xs:List Value) (hF:Flat I xs l) (hl:0<l.length) (hl2:l.length≤12) :
  FnX Tryz.prog 157 #[v] I [.row v 9 1 l.length xs] (fun u r=>u = .tuple #[]∧∃m ys,Pm l m∧Flat I ys m∧r = .row v 9 1 l.length ys):=b7w I v l xs hF hl2
end Go.Proofs.YtdapmfkbpnjkmaaGreat
namespace Go.Proofs.YtdapmfkbpnjkmaaGreat
open Go Go.Sx
set_option linter.all false
set_option maxRecDepth 20000
set_option maxHeartbeats 4000000
instance T.by_33:Has (a2y Tryz.prog 33) ([.slice none 0 0],1,24):=⟨by kernel_rfl⟩
instance T.elt_242:Has (a8D Tryz.prog 242) (33,1):=⟨by kernel_rfl⟩
instance T.und_242:Has (Tryz.prog.underlying 242) (.slice 33):=⟨by kernel_rfl⟩
instance T.zero_33:Has (a1Z Tryz.prog 33) [.slice none 0 0]:=⟨by kernel_rfl⟩
theorem d1C (I:IMap) (n:Nat) (hn:n≤1000000) :
    FnX Tryz.prog 304 #[.slice none 0 0,.int .i64 ((n:Nat):Int)] I [] (fun u r=>r = .row u 9 1 0 []):=by
 refine enter Tryz.func304 Tryz.call304 rfl Tryz.ntmps304 rfl (fun w0=>?_);refine go 9 ?_;refine o_v rfl (OV.cast (u:=.bool false) (a8n rfl rfl) (congrArg Value.bool (decide_eq_false (by omega)))) ?_;refine go 2 ?_;refine a0P rfl ?_;refine go 7 ?_;refine o_v rfl (c4T he rfl) ?_;refine go 3 ?_;refine o_v rfl (OV.cast (u:=.int .i64 ((n:Nat):Int)) (a1v rfl rfl ⟨by omega,by omega⟩) (congrArg (Value.int .i64) (by omega))) ?_;refine go 9 ?_;refine cb rfl (fun h16 p16=>?_) (fun h16 p16=>?_)
 ·refine go 3 ?_;refine o_v rfl (c4T he rfl) ?_;refine o_v rfl (a2E he rfl rfl 0 rfl (by omega)) ?_;refine go 2 ?_;refine b2k he he he rfl rfl rfl rfl (by omega) (by omega) (by unfold maxLen;omega) rfl (fun g22 r22 hr22=>?_);refine go 2 ?_;refine o_v rfl (a2E he rfl rfl 0 rfl (by omega)) ?_;refine go 10 ?_;refine a0x rfl rfl ?_;refine a2L (xss:=[]) (m:=0) (cap:=n+r22) (k:=1) (by intro c hc;cases hc) (Uk.rep rfl _) rfl (by simp) hr22 ?_;exact q_x rfl
 ·refine go 9 ?_;refine a0x rfl rfl ?_;refine a1s 9 1 ?_;exact q_x rfl
theorem c6B (I:IMap) (v:Value) (ls:List (List ByteArray)) (hv:RdS I v ls) (hb:ls.flatten.length≤1000000) (hl:ls.length≤1000000) :
    FnX Tryz.prog 246 #[v] I [] (fun u r=>∃xs,r = .row u 9 1 ls.flatten.length xs∧Flat I xs ls.flatten):=by
 obtain⟨A,c0,rfl,hA,hc,hm⟩:=hv;refine enter Tryz.func246 Tryz.call246 rfl Tryz.ntmps246 rfl (fun w0=>?_);refine go 19 ?_
 refine a0L (α:=Nat) 0 (fun i=>I)
  (fun i=>[(0,.slice A ls.length c0),(3,.int .i64 (((ls.take (i)).flatten.length:Nat):Int)),(9,.slice A ls.length c0),(10,.int .i64 ((ls.length:Nat):Int)),(11,.int .i64 ((i:Nat):Int))])
  (fun i=>[])
  (fun i=>i≤ls.length)
  (fun i=>ls.length-i) (Nat.zero_le _) rfl sb rfl ?_
 intro i hi
 have hfi:=a6k ls i
 refine go 6 ?_;refine cb rfl (fun h12 p12=>?_) (fun h12 p12=>?_)
 ·have hlt:i<ls.length:=by omega
  have hf1:=congrArg List.length (a6l hlt)
  rw[List.length_append]at hf1
  have hf2:=a6k ls (i+1)
  refine go 6 ?_;obtain⟨b13,o13,w13,e13,c13,r13⟩:=RdA.at_ hA (i:=i) (by omega);obtain⟨q13,rfl,S13,d13,rfl,hS13,hd13,hm13⟩:=r13;refine o_v rfl (a0n he rfl rfl e13 (i) (by omega) (by omega)) ?_;refine o_v rfl (a0W he rfl (c13 0 _ rfl)) ?_;refine go 8 ?_;refine o_v rfl (OV.cast (u:=.int .i64 (((ls.take (i+1)).flatten.length:Nat):Int)) (a2c rfl rfl ⟨by omega,by omega⟩) (congrArg (Value.int .i64) (by omega))) ?_;refine go 6 ?_;refine o_v rfl (OV.cast (u:=.bool false) (a8n rfl rfl) (congrArg Value.bool (decide_eq_false (by omega)))) ?_;refine go 2 ?_;refine a0P rfl ?_;refine go 8 ?_;exact a0J (i+1) (by omega) (by omega) rfl sb rfl
 ·have e:i=ls.length:=by omega
  subst e;rw[List.take_length];refine go 9 ?_;refine a3o (d1C _ ls.flatten.length hb) rfl rfl (fun v24 s24 q24=>?_);obtain rfl:=q24;refine go 12 ?_
  refine a3B ((0:Nat)) (_) ([]) (fun i v6 xs=>I)
   (fun i v6 xs=>[(0,.slice A ls.length c0),(6,v6),(25,.slice A ls.length c0),(26,.int .i64 ((ls.length:Nat):Int)),(27,.int .i64 ((i:Nat):Int))])
   (fun i v6 xs=>[.row v6 9 1 (ls.take (i)).flatten.length xs])
   (fun i v6 xs=>i≤ls.length∧Flat I xs (ls.take i).flatten)
   (fun i v6 xs=>ls.length-i) ⟨Nat.zero_le _,.nil⟩ rfl sb rfl ?_
  intro i v6 xs ⟨hi,hF⟩
  have hfi:=a6k ls i
  refine go 6 ?_;refine cb rfl (fun h28 p28=>?_) (fun h28 p28=>?_)
  ·have hlt:i<ls.length:=by omega
   have hf1:=congrArg List.length (a6l hlt)
   rw[List.length_append]at hf1
   have hf2:=a6k ls (i+1)
   refine go 6 ?_;obtain⟨b29,o29,w29,e29,c29,r29⟩:=RdA.at_ hA (i:=i) (by omega);obtain⟨q29,rfl,S29,d29,rfl,hS29,hd29,hm29⟩:=r29;refine o_v rfl (a0n he rfl rfl e29 (i) (by omega) (by omega)) ?_;refine o_v rfl (a0W he rfl (c29 0 _ rfl)) ?_;refine go 7 ?_;refine a1l (⟨_,_,rfl,hS29,hd29,hm29⟩) rfl he he rfl rfl rfl rfl (by omega) (by omega) rfl (fun v33 x33 f33=>?_);refine go 9 ?_;exact a1X (i+1) (_) (_) ⟨by omega,by rw[a6l hlt];exact hF.append f33⟩ (by omega) rfl sb (by rw[a6l hlt,List.length_append])
  ·refine go 12 ?_;refine a0x rfl rfl ?_
   have e:i=ls.length:=by omega
   subst e;rw[List.take_length]at hF ⊢
   exact q_x ⟨xs,rfl,hF⟩
theorem b7Y (I:IMap) {rest:Rst 1} {cap:Nat} (g:Nat) (l:List ByteArray) (hl:0<l.length) (hl2:l.length≤12) (hc:l.length+rest.l.length=cap) (hcm:cap≤maxLen) :
    FnX Tryz.prog 247 #[.slice (some ⟨g,0,none⟩) l.length cap] I [.blk g 9 (a2G l++rest.l).flatten] (fun u r=>∃m rest2,(∀x,x∈m↔x∈l)∧m.length≤l.length∧u = .slice (some ⟨g,0,none⟩) m.length cap∧r = .blk g 9 (a2G m++rest2).flatten∧Uk 1 rest2∧m.length+rest2.length=cap):=by
 refine enter Tryz.func247 Tryz.call247 rfl Tryz.ntmps247 rfl (fun w0=>?_);refine go 13 ?_;refine cb rfl (fun h8 p8=>?_) (fun h8 p8=>?_)
 ·refine go 8 ?_;refine a0x rfl rfl ?_;exact q_x ⟨l,rest.l,fun _=>Iff.rfl,Nat.le_refl _,rfl,rfl,rest.uk,hc⟩
 ·refine go 9 ?_
  refine a0L (α:=Nat) 1 (fun k0=>I)
   (fun k0=>[(0,.slice (some ⟨g,0,none⟩) l.length cap),(3,.int .i64 ((k0:Nat):Int))])
   (fun k0=>[.blk g 9 (a2G l++rest.l).flatten])
   (fun k0=>1≤k0∧k0≤l.length)
   (fun k0=>l.length-k0) ⟨Nat.le_refl _,hl⟩ rfl sb rfl ?_
  intro k0 ⟨hk1,hk2⟩;refine go 9 ?_;refine cb rfl (fun h13 p13=>?_) (fun h13 p13=>?_)
  ·have hkl:k0<l.length:=by omega
   have hkm:k0-1<l.length:=by omega
   refine go 5 ?_;refine a1h T.mixed ?_;refine a0f 0 rfl rfl (by kernel_rfl) rfl (.refl _) rfl (a0c rfl) ?_;refine a0f 1 rfl rfl (by kernel_rfl) rfl (.refl _) rfl (a0c rfl) ?_;refine a0f 2 rfl rfl (by kernel_rfl) rfl (.refl _) rfl (a0n he rfl rfl rfl (k0) (by omega) (by omega)) ?_;refine a0f 3 rfl rfl (by kernel_rfl) rfl (.refl _) rfl (a4w m0 (Uk.append (a2W _) rest.uk) he rfl (k0) (by omega) (a6g hkl)) ?_;refine a0f 4 rfl rfl (by kernel_rfl) rfl (.refl _) rfl (a0c rfl) ?_;refine a0f 5 rfl rfl (by kernel_rfl) rfl (.refl _) rfl (a0c rfl) ?_;refine a0f 6 rfl rfl (by kernel_rfl) rfl (.refl _) rfl (OV.cast (u:=.int .i64 ((k0-1:Nat):Int)) (a1v rfl rfl ⟨by omega,by omega⟩) (congrArg (Value.int .i64) (by omega))) ?_;refine a0f 7 rfl rfl (by kernel_rfl) rfl (.refl _) rfl (a0n he rfl rfl rfl (k0-1) (by omega) (by omega)) ?_;refine a0f 8 rfl rfl (by kernel_rfl) rfl (.refl _) rfl (a4w m0 (Uk.append (a2W _) rest.uk) he rfl (k0-1) (by omega) (a6g hkm)) ?_;refine a0f 9 rfl rfl (by kernel_rfl) rfl (.refl _) rfl (b4r rfl rfl) ?_;refine a0w (by kernel_rfl) ?_;refine go 1 ?_;refine cb rfl (fun h25 p25=>?_) (fun h25 p25=>?_)
   ·have hst:Cpt l l k0 (k0+1):=Cpt.start hk1 hkl p25
    refine go 4 ?_;refine o_v rfl (OV.cast (u:=.slice (some ⟨g,k0,none⟩) (l.length-k0) (cap-k0)) (a0U he rfl rfl k0 (by omega) (by omega)) (by rw[c2Q,if_neg (by omega)];simp[add_lit])) ?_;refine go 10 ?_
    refine a3B (1) (k0) (l) (fun q k B=>I)
     (fun q k B=>[(0,.slice (some ⟨g,0,none⟩) l.length cap),(3,.int .i64 ((k:Nat):Int)),(4,.slice (some ⟨g,k0,none⟩) (l.length-k0) (cap-k0)),(5,.int .i64 ((q:Nat):Int))])
     (fun q k B=>[.blk g 9 (a2G B++rest.l).flatten])
     (fun q k B=>1≤q∧1≤k∧Cpt l B k (k0+q))
     (fun q k B=>l.length-(k0+q)) ⟨Nat.le_refl _,hk1,hst⟩ rfl sb rfl ?_
    intro q k B ⟨hq,hk,hB⟩
    have hBl:=hB.len
    have hkp:=hB.kp
    have hpl:=hB.pl
    refine go 5 ?_;refine o_v rfl (OV.cast (u:=.int .i64 ((l.length-k0:Nat):Int)) (a6S he rfl) rfl) ?_;refine go 3 ?_;refine cb rfl (fun h32 p32=>?_) (fun h32 p32=>?_)
    ·have hpq:k0+q<l.length:=by omega
     have hpB:k0+q<B.length:=by omega
     have hpm:k0+q-1<B.length:=by omega
     have hg1:=hB.get (j:=k0+q) (by omega) hpq hpB
     have hg2:=hB.get (j:=k0+q-1) (by omega) (by omega) hpm
     refine go 5 ?_;refine a1h T.mixed ?_;refine a0f 0 rfl rfl (by kernel_rfl) rfl (.refl _) rfl (a0c rfl) ?_;refine a0f 1 rfl rfl (by kernel_rfl) rfl (.refl _) rfl (a0c rfl) ?_;refine a0f 2 rfl rfl (by kernel_rfl) rfl (.refl _) rfl (a0n he rfl rfl rfl (q) (by omega) (by omega)) ?_;refine a0f 3 rfl rfl (by kernel_rfl) rfl (.refl _) rfl (a4w m0 (Uk.append (a2W _) rest.uk) he rfl (k0+q) (by omega) (a6g hpB)) ?_;refine a0f 4 rfl rfl (by kernel_rfl) rfl (.refl _) rfl (a0c rfl) ?_;refine a0f 5 rfl rfl (by kernel_rfl) rfl (.refl _) rfl (a0c rfl) ?_;refine a0f 6 rfl rfl (by kernel_rfl) rfl (.refl _) rfl (OV.cast (u:=.int .i64 ((q-1:Nat):Int)) (a1v rfl rfl ⟨by omega,by omega⟩) (congrArg (Value.int .i64) (by omega))) ?_;refine a0f 7 rfl rfl (by kernel_rfl) rfl (.refl _) rfl (a0n he rfl rfl rfl (q-1) (by omega) (by omega)) ?_;refine a0f 8 rfl rfl (by kernel_rfl) rfl (.refl _) rfl (a4w m0 (Uk.append (a2W _) rest.uk) he rfl (k0+q-1) (by omega) (a6g hpm)) ?_;refine a0f 9 rfl rfl (by kernel_rfl) rfl (.refl _) rfl (c5N rfl rfl) ?_;refine a0w (by kernel_rfl) ?_;refine go 1 ?_;refine cb rfl (fun h44 p44=>?_) (fun h44 p44=>?_)
     ·refine go 6 ?_;refine o_v rfl (a0n he rfl rfl rfl (q) (by omega) (by omega)) ?_;refine o_v rfl (a4w m0 (Uk.append (a2W _) rest.uk) he rfl (k0+q) (by omega) (a6g hpB)) ?_;refine o_v rfl (a0n he rfl rfl rfl (k) (by omega) (by omega)) ?_;refine go 1 ?_;refine a2b _ (k) (Uk.append (a2W _) rest.uk) he rfl rfl rfl rfl rfl (by omega) (by simp[a4k];omega) ?_;refine go 15 ?_;exact a1X (q+1) (k+1) (B.set k l[k0+q]) ⟨by omega,by omega,hB.keep hpq⟩ (by omega) rfl sb (by rw[←hg1,←b0e (by omega)])
     ·refine go 9 ?_;exact a1X (q+1) (k) (B) ⟨by omega,hk,hB.skip hpq (by rw[←hg1,←hg2];simpa using h44) (by omega)⟩ (by omega) rfl sb rfl
    ·have hend:k0+q=l.length:=by omega
     have hdone:=fun x=>(hend▸hB).done x
     refine go 9 ?_;refine o_v rfl (OV.cast (u:=.slice (some ⟨g,k,none⟩) (l.length-k) (cap-k)) (a0U he rfl rfl k (by omega) (by omega)) (by rw[c2Q,if_neg (by omega)];simp[add_lit])) ?_;refine go 1 ?_;refine c0X k he he rfl rfl rfl rfl (Uk.append (a2W _) rest.uk) (fun _=>by rw[Nat.mul_one]) (by simp[a4k];omega) ?_;rw[c1D (by omega)];refine go 6 ?_;refine o_v rfl (a2E he rfl rfl k (by omega) (by omega)) ?_;refine go 9 ?_;refine a0x rfl rfl ?_;refine q_x ⟨B.take k,List.replicate (l.length-k) [.string ⟨#[]⟩]++rest.l,hdone,by rw[List.length_take];omega,?_,rfl,(Uk.rep rfl _).append rest.uk,by rw[List.length_take,List.length_append,List.length_replicate];omega⟩;rw[List.length_take,Nat.min_eq_left (by omega)]
   ·refine go 9 ?_;exact a0J (k0+1) ⟨by omega,by omega⟩ (by omega) rfl sb rfl
  ·refine go 12 ?_;refine a0x rfl rfl ?_;exact q_x ⟨l,rest.l,fun _=>Iff.rfl,Nat.le_refl _,rfl,rfl,rest.uk,hc⟩
theorem b7X (I:IMap) (v:Value) (l:List ByteArray) (xs:List Value) (hF:Flat I xs l) (hl:0<l.length) (hl2:l.length≤12) :
  FnX Tryz.prog 247 #[v] I [.row v 9 1 l.length xs] (fun u r=>∃m ys,(∀x,x∈m↔x∈l)∧m.length≤l.length∧Flat I ys m∧r = .row u 9 1 m.length ys):=
 FnX.of_rowF (args:=fun v=>[v]) hF rfl rfl hl fun g cap rest xss hv hC hR hc hcm=>by
  subst hv;obtain rfl:=c1E hC;refine FnX.backE (k:=1) ((b7Y I (rest:=⟨rest,hR⟩) g l hl hl2 hc hcm).weak ?_);rintro u r ⟨m,rest2,hm,hml,rfl,rfl,hR2,hc2⟩;exact⟨a2G m,rest2,m.length,cap,a2W m,hR2,a4k m,hc2,hcm,rfl,m,_,hm,hml,(a7F I m).flat,rfl⟩
theorem c7m (I:IMap) (v:Value) (ls:List (List ByteArray)) (hv:RdS I v ls) (hl:ls.length≤1000000) (h1:0<ls.flatten.length) (h2:ls.flatten.length≤12) :
    FnX Tryz.prog 198 #[v] I [] (fun u r=>∃m ys,(∀x,x∈m↔x∈ls.flatten)∧m.length≤ls.flatten.length∧Flat I ys m∧r = .row u 9 1 m.length ys):=by
 refine enter Tryz.func198 Tryz.call198 rfl Tryz.ntmps198 rfl (fun w0=>?_);refine go 9 ?_;refine a3o (c6B _ v ls hv (by omega) hl) rfl rfl (fun v5 s5 q5=>?_);obtain⟨xs5,rfl,hF5⟩:=q5;refine go 7 ?_;refine a1u (c8l _ _ ls.flatten xs5 hF5 h1 h2) rfl rfl (fun v7 s7 q7=>?_);obtain⟨rfl,m,ys,hpm,hFm,rfl⟩:=q7;rw[←hpm.1];refine go 6 ?_;refine a1u (b7X _ _ m ys hFm (by rw[hpm.1];exact h1) (by rw[hpm.1];exact h2)) rfl rfl (fun v9 s9 q9=>?_);obtain⟨m2,zs,hm2,hl2,hFz,rfl⟩:=q9;refine go 4 ?_;refine a0x rfl rfl ?_;exact q_x ⟨m2,zs,fun x=>(hm2 x).trans (hpm.2 x),by have:=hpm.1;omega,hFz,rfl⟩
theorem c4s (I:IMap) (r:Rep) (S:Option Addr) (d:Nat) (hr:RdS I (.slice S r.options.length d) r.options) (hs:∀e∈r.options,SmE e) :
    FnI Tryz.prog 123 #[.agg (r.cells (.slice S r.options.length d)).toArray] I (fun u J=>∃ns,RdS J u ns∧a5A r ns):=by
 have hSA:RdA I S r.options:=hr.toA
 have hl5:=hr.lenLe
 refine enter Tryz.func123 Tryz.call123 rfl Tryz.ntmps123 rfl (fun w0=>?_);refine go 3 ?_;refine a0B _ rfl rfl rfl (fun g1=>?_);refine go 8 ?_;refine a0a (b2w _ r S d hr hs) rfl rfl ?_;refine go 3 ?_;refine cb rfl (fun h8 p8=>?_) (fun h8 p8=>?_)
 ·refine go 7 ?_;refine a0x rfl rfl ?_;exact q_i ⟨[],RdS.nil',b0Z (by simpa using h8)⟩
 ·have hvr:a0t r=true:=by simpa using h8
  have hvl:=a2Y hvr
  refine go 4 ?_;refine a1s 33 1 ?_;refine go 13 ?_;refine a0g ?_;refine a0b ?_
  refine a5b ((0:Nat)) (_) ([]) (I) (fun i v3 xs J=>J)
   (fun i v3 xs J=>[(3,v3),(10,.slice S r.options.length d),(11,.int .i64 ((r.options.length:Nat):Int)),(12,.int .i64 ((i:Nat):Int))])
   (fun i v3 xs J=>[.row v3 33 1 i xs])
   (fun i v3 xs J=>i≤r.options.length∧ILe I J∧Flat J xs ((r.options.take i).map a1R))
   (fun i v3 xs J=>r.options.length-i) ⟨Nat.zero_le _,ILe.refl _,.nil⟩ rfl sb rfl ?_
  intro i v3 xs J ⟨hi,hJ,hF⟩
  have hSA:=hSA.le hJ
  refine go 6 ?_;refine cb rfl (fun h13 p13=>?_) (fun h13 p13=>?_)
  ·have hlt:i<r.options.length:=by omega
   refine go 6 ?_;obtain⟨b14,o14,w14,e14,c14,r14⟩:=RdA.at_ hSA (i:=i) (by omega);obtain rfl:=r14;refine o_v rfl (a0n he rfl rfl e14 (i) (by omega) (by omega)) ?_;refine o_v rfl (a0H he rfl c14 rfl) ?_;refine go 1 ?_;refine a0h he rfl (fun g5=>?_);refine go 1 ?_;refine a0m _ he rfl rfl rfl rfl rfl rfl ?_;refine go 6 ?_;refine a0F (c6L _ r.options[i] (hs _ (List.getElem_mem hlt))) rfl rfl (fun v18 I18 j18 q18=>?_)
   have q18s:=q18
   obtain⟨A18,c18,rfl,_,_,_⟩:=q18;refine go 1 ?_;refine a0e he he rfl rfl rfl rfl rfl rfl rfl (fun v19=>?_);refine go 1 ?_;refine a0u ?_;refine a1r he he rfl rfl rfl rfl rfl (by omega) (by omega) rfl (fun v20=>?_);refine go 9 ?_;refine a0g ?_;refine a0b ?_;refine a0g ?_;refine a0b ?_;exact a2U (i+1) (_) (_) (_) ⟨by omega,hJ.trans j18,by rw[←a0q hlt,List.map_append];exact (hF.le j18).append (.one ⟨_,rfl,q18s⟩)⟩ (by omega) rfl sb rfl
  ·have e:i=r.options.length:=by omega
   subst e;rw[List.take_length]at hF
   have hnf:=a7Z r.options (a3b hvr)
   refine go 7 ?_;refine a0o (l:=(r.options.map a1R)) rfl (by rw[List.length_map]) (hF) (fun Ip jp Rp=>?_);refine go 2 ?_;refine a3o (c7m _ _ (r.options.map a1R) Rp (by rw[List.length_map];omega) (by omega) (by omega)) rfl rfl (fun v23 s23 q23=>?_);obtain⟨m,ys,hm,hml,hFm,rfl⟩:=q23;refine a0o (l:=m) rfl rfl (hFm) (fun Iq jq Rq=>?_);refine go 4 ?_;refine a0x rfl rfl ?_;exact q_i ⟨m,Rq,b3y hvr hm hml⟩
end Go.Proofs.YtdapmfkbpnjkmaaGreat
set_option linter.all false
namespace Go.Sx
open Go
theorem c6o {r:Rep} (h:a0t r=true):1≤chs r:=by
 have:=a2Y h
 simp only[chs,h,Bool.true_eq_false,if_false]
 split<;>omega
theorem b1G {f:Rep→Int→Bool} {l:List Rep} {ch:List Int} (h:∀i (h1:i<l.length) (h2:i<ch.length),f l[i] ch[i]=true) (hl:ch.length=l.length):a7N f l ch l.length=true:=by
 rw[a7N,List.all_eq_true];intro i hi
 have hi:=List.mem_range.1 hi
 rw[a2H hi (by omega)];exact h i hi (by omega)
theorem a8R {c:List Kind} {l:List Rep} {ch:List Int} {n:Int} (hc:a0Y c=true) (hl:ch.length=l.length) (h:∀i (h1:i<l.length) (h2:i<ch.length),chs l[i]≠0∧n≤ch[i]∧ch[i]<chs l[i]):a1T c l ch n=true:=by
 simp only[a1T,hc,Bool.and_eq_true]
 refine⟨by simp[hl],b1G (fun i h1 h2=>?_) hl⟩;obtain⟨a,b,d⟩:=h i h1 h2
 simp only[a8s,Bool.not_eq_true',Bool.or_eq_false_iff,decide_eq_false_iff_not]
 omega
theorem a7l {c:List Kind} {l:List Rep} {ch:List Int} {n:Int} (h:a1T c l ch n=true) {i:Nat} (h1:i<l.length) (h2:i<ch.length):chs l[i]≠0∧n≤ch[i]∧ch[i]<chs l[i]:=by
 simp only[a1T,Bool.and_eq_true]at h
 have:=b5P h.2 h1 h1 h2
 simp only[a8s,Bool.not_eq_true',Bool.or_eq_false_iff,decide_eq_false_iff_not]at this
 omega
theorem a7m {c:List Kind} {l:List Rep} {ch:List Int} {n:Int} (h:a1T c l ch n=true):a0Y c=true:=by
 simp only[a1T,Bool.and_eq_true,Bool.not_eq_true',Bool.or_eq_false_iff,Bool.not_eq_false']at h
 exact h.1.1
theorem c7H {ch:List Int} {a i:Nat} (h:i<(b5n ch a).length):(b5n ch a)[i]=if a.testBit i=true then -1 else ch[i]'(by simpa[b5n]using h):=by simp[b5n]
theorem given_open {c:List Kind} {l:List Rep} {ch:List Int} (h:a1T c l ch 0=true) (a:Nat):a1T c l (b5n ch a) (-1)=true:=by
 have hl:=(a2B h).1
 refine a8R (a7m h) (by rw[b3F,hl]) fun i h1 h2=>?_
 have:=a7l h h1 (by rw[b3F]at h2;exact h2)
 rw[c7H]
 split<;>omega
theorem b0O {c:List Kind} {l:List Rep} {ch:List Int} (h:a1T c l ch 0=true):a1T c l ch (-1)=true:=by
 refine a8R (a7m h) (a2B h).1 fun i h1 h2=>?_
 have:=a7l h h1 h2
 omega
theorem a8X:∀(l:List Int) (a:Int),l.foldl (fun a d=>if d<a then d else a) a≤a∧∀d∈l,l.foldl (fun a d=>if d<a then d else a) a≤d
 | [],a=>⟨Int.le_refl _,fun d h=>by cases h⟩
 |x::r,a=>by
  obtain⟨h1,h2⟩:=a8X r (if x<a then x else a);rw[List.foldl_cons];refine⟨Int.le_trans h1 (by split<;>omega),fun d hd=>?_⟩
  rcases List.mem_cons.1 hd with rfl|hd
  ·exact Int.le_trans h1 (by split<;>omega)
  ·exact h2 d hd
theorem b6C:∀(l:List Int) (a m:Int),m≤a→(∀d∈l,m≤d)→m≤l.foldl (fun a d=>if d<a then d else a) a
 | [],a,m,h,_=>h
 |x::r,a,m,h,hl=>by
  rw[List.foldl_cons];exact b6C r _ m (by have:=hl x (by simp);split<;>omega) fun d hd=>hl d (by simp[hd])
theorem a8Z {l:List Rep} {ch:List Int} (hl:ch.length=l.length) {d:Int}:d∈a1D l ch l.length↔∃i,∃(h1:i<l.length),∃(h2:i<ch.length),ch[i]<0∧∃e∈l[i].options,e.day=d:=by
 rw[a1D,List.mem_flatMap]
 constructor
 ·rintro⟨i,hi,hd⟩
  have hi:=List.mem_range.1 hi
  rw[a2H hi (by omega)]at hd
  simp only[Option.getD_some]at hd
  split at hd
  ·rename_i hc
   obtain⟨e,he,rfl⟩:=List.mem_map.1 hd;exact⟨i,hi,by omega,hc,e,he,rfl⟩
  ·cases hd
 ·rintro⟨i,h1,h2,hc,e,he,rfl⟩;refine⟨i,List.mem_range.2 h1,?_⟩;rw[a2H h1 h2]
  simp only[Option.getD_some,if_pos hc]
  exact List.mem_map.2 ⟨e,he,rfl⟩
theorem c4c {L1 L2:Int} {l:List Rep} {ch1 ch2:List Int} {i:Nat} (h1:i<l.length) (h2:i<ch1.length) (h3:i<ch2.length) (h:a4b L1 l[i] ch1[i]=(a4b L2 l[i] ch2[i]).filter fun e=>decide (e.day<L1)) :
  pkd L1 l ch1 i=(pkd L2 l ch2 i).filter fun p=>decide (p.e.day<L1):=by
 unfold pkd;rw[a2H h1 h2,a2H h1 h3,h]
 cases hq:a4b L2 l[i] ch2[i]with
 |none=>rfl
 |some e=>
  simp only[Option.join_some,Option.filter_some]
  by_cases hd:e.day<L1
  ·simp only[hd,decide_true,if_true]
   split
   ·simp[Option.filter,hd]
   ·rfl
  ·simp only[hd,decide_false,Bool.false_eq_true,if_false]
   split
   ·simp[Option.filter,hd]
   ·rfl
theorem c1j {L1 L2:Int} {l:List Rep} {ch1 ch2:List Int} (hl1:ch1.length=l.length) (hl2:ch2.length=l.length) (h:∀i (h1:i<l.length) (h2:i<ch1.length) (h3:i<ch2.length),a4b L1 l[i] ch1[i]=(a4b L2 l[i] ch2[i]).filter fun e=>decide (e.day<L1)) :
  ∀n,n≤l.length→a3k L1 l ch1 n=(a3k L2 l ch2 n).filter fun p=>decide (p.e.day<L1):=by
 intro n
 induction n with
 |zero=>intro _;rfl
 |succ n ih=>
  intro hn;rw[a6a,a6a,List.filter_append,←ih (by omega),c4c (by omega) (by omega) (by omega) (h n (by omega) (by omega) (by omega))]
  congr 1
  cases pkd L2 l ch2 n with
  |none=>rfl
  |some p=>by_cases hp:p.e.day<L1<;>simp[Option.filter,hp]
theorem b4h {α:Type} [Day α] (L:Int):∀{l:List α},b4w l→l=l.filter (fun x=>decide (Day.day x<L))++l.filter (fun x=>!decide (Day.day x<L))
 | [],_=>rfl
 |x::r,h=>by
  have h':=List.pairwise_cons.1 h
  by_cases hx:Day.day x<L
  ·simp only[List.filter_cons,hx,decide_true,if_true,Bool.not_true,Bool.false_eq_true,if_false,List.cons_append]
   rw[←b4h L h'.2]
  ·have h0:r.filter (fun x=>decide (Day.day x<L))=[]:=by
    rw[List.filter_eq_nil_iff];intro y hy
    have:=h'.1 y hy
    simp;omega
   have h1:r.filter (fun x=>!decide (Day.day x<L))=r:=by
    rw[List.filter_eq_self];intro y hy
    have:=h'.1 y hy
    simp;omega
   simp[List.filter_cons,hx,h0,h1]
theorem b4Y {c:List Kind} {l:List Rep} {ch1 ch2:List Int} {L1 L2:Int} (h:a3k L1 l ch1 l.length=(a3k L2 l ch2 l.length).filter fun p=>decide (p.e.day<L1)) (hf:(a4E c l ch1 L1).2≠0):(a4E c l ch2 L2).2≠0:=by
 unfold a4E at hf ⊢
 have e1:a1m (a3k L1 l ch1 l.length)=(a1m (a3k L2 l ch2 l.length)).filter (fun p=>decide (Day.day p<L1)):=by
  rw[h,a5v];rfl
 have e2:=b4h L1 (a4M (a3k L2 l ch2 l.length))
 rw[e2,←e1,b0N]
 have e3:a1F c [] ((a1m (a3k L1 l ch1 l.length)).map Pkd.e)=none:=by
  have:=a9C c (a1m (a3k L1 l ch1 l.length)) []
  rw[decide_eq_false hf]at this
  cases hr:a1F c [] ((a1m (a3k L1 l ch1 l.length)).map Pkd.e) with
  |none=>rfl
  |some s=>rw[hr]at this;cases this
 rw[e3];exact hf
theorem a9c {L:Int} {r:Rep} {k:Int} {e:Evt} (h:a4b L r k=some e):e∈r.options:=by
 unfold a4b at h
 split at h
 ·split at h
  ·rename_i x hx
   split at h
   ·cases h;exact List.mem_of_getElem? hx
   ·cases h
  ·cases h
 ·cases h
theorem c3U {L1 L2:Int} (hL:L1≤L2) (r:Rep) (k:Int):a4b L1 r k=(a4b L2 r k).filter fun e=>decide (e.day<L1):=by
 unfold a4b
 split
 ·cases r.options[k.toNat]? with
  |none=>rfl
  |some e=>
   simp only
   by_cases h:e.day<L1
   ·rw[if_pos h,if_pos (by omega)];simp[Option.filter,h]
   ·rw[if_neg h]
    split
    ·simp[Option.filter,h]
    ·rfl
 ·rfl
theorem c3a {c:List Kind} {l:List Rep} {ch:List Int} (hg:a1T c l ch 0=true):a7g c l ch = !isF c l ch:=by
 have hl:=(a2B hg).1
 have h0:a1D l ch l.length=[]:=by
  rw[List.eq_nil_iff_forall_not_mem];intro d hd;obtain⟨i,h1,h2,hc,_⟩:=(a8Z hl).1 hd
  have:=a7l hg h1 h2
  omega
 rw[a7g,if_neg (by rw[b0O hg];decide),isF,a8u,if_neg (by rw[hg];decide),h0]
 rfl
end Go.Sx
set_option linter.all false
namespace Go.Sx
open Go
def b0D (day:Int) (l:List Rep) (ch:List Int):List Evt:=(l.zip ch).filterMap fun p=>a4b day p.1 p.2
theorem b8D (day:Int) (l:List Rep) (ch:List Int) (hl:ch.length=l.length) (hv:∀r∈l,a0t r=true):∀n,n≤l.length→(a3k day l ch n).map Pkd.e=((l.zip ch).take n).filterMap fun p=>a4b day p.1 p.2:=by
 intro n
 induction n with
 |zero=>intro _;rfl
 |succ n ih=>
  intro hn
  have h1:n<l.length:=by omega
  have h2:n<ch.length:=by omega
  have h3:n<(l.zip ch).length:=by simp;omega
  rw[a6a,List.map_append,ih (by omega),←a0q h3,List.filterMap_append]
  congr 1
  have e:(l.zip ch)[n]=(l[n],ch[n]):=by simp
  rw[e,pkd,a2H h1 h2]
  cases hq:a4b day l[n] ch[n]with
  |none=>simp[hq]
  |some x=>
   have hd:=b1z (a3b (hv _ (List.getElem_mem h1)) x (a9c hq))
   simp[hq,hd]
theorem c3X {day:Int} {l:List Rep} {ch:List Int} (hl:ch.length=l.length) (hv:∀r∈l,a0t r=true):(a3k day l ch l.length).map Pkd.e=b0D day l ch:=by
 rw[b8D day l ch hl hv l.length (Nat.le_refl _),b0D,List.take_of_length_le (by simp;omega)]
theorem c0i {c:List Kind} {l:List Rep} {ch:List Int} {day:Int} (hl:ch.length=l.length) (hv:∀r∈l,a0t r=true):decide ((a4E c l ch day).2=0)=(a1F c [] (a1m (b0D day l ch))).isSome:=by
 rw[a4E,a9C,b4g Pkd.e (fun _=>rfl),c3X hl hv]
theorem c3x {c:List Kind} {l:List Rep} {ch:List Int} (hg:a1T c l ch 0=true):isF c l ch=(a1F c [] (a1m (b0D 40001 l ch))).isSome:=by
 obtain⟨hl,hv⟩:=a2B hg;rw[isF,a8u,if_neg (by rw[hg];decide),c0i hl hv]
theorem d1D {c:List Kind} {l:List Rep} {ch:List Int} (hg:a1T c l ch 0=false):isF c l ch=false:=by
 rw[isF,a8u,if_pos hg];rfl
end Go.Sx
set_option linter.all false
namespace Go.Sx
open Go
def a2d:List Rep→List (List Int)
 | []=>[[]]
 |r::l=>(List.range (chs r).toNat).flatMap fun (k:Nat)=>(a2d l).map fun t=>(k:Int)::t
def a2O (c:List Kind) (l:List Rep):List (List Int):=(a2d l).filter (isF c l)
theorem a3H:∀{l:List Rep} {t:List Int},t∈a2d l↔t.length=l.length∧∀i (h1:i<l.length) (h2:i<t.length),0≤t[i]∧t[i]<chs l[i]
 | [],t=>by
  simp only[a2d,List.mem_singleton,List.length_nil]
  constructor
  ·rintro rfl;exact⟨rfl,fun i h=>absurd h (Nat.not_lt_zero i)⟩
  ·rintro⟨h,_⟩;exact List.eq_nil_of_length_eq_zero h
 |r::l,t=>by
  simp only[a2d,List.mem_flatMap,List.mem_range,List.mem_map]
  constructor
  ·rintro⟨k,hk,s,hs,rfl⟩;obtain⟨h1,h2⟩:=a3H.1 hs;refine⟨by simp[h1],fun i h3 h4=>?_⟩
   cases i with
   |zero=>simp only[List.getElem_cons_zero];omega
   |succ i=>simpa using h2 i (by simpa using h3) (by simpa using h4)
  ·rintro⟨h1,h2⟩
   cases t with
   |nil=>simp at h1
   |cons x s=>
    have h0:=h2 0 (by simp) (by simp)
    simp only[List.getElem_cons_zero]at h0
    refine⟨x.toNat,by omega,s,a3H.2 ⟨by simpa using h1,fun i h3 h4=>?_⟩,by rw[Int.toNat_of_nonneg h0.1]⟩;exact h2 (i+1) (by simpa using h3) (by simpa using h4)
theorem b8c {c:List Kind} {l:List Rep} {ch1 ch2:List Int} (g1:a1T c l ch1 (-1)=true) (g2:a1T c l ch2 (-1)=true) (hs:∀i (h1:i<ch1.length) (h2:i<ch2.length),ch1[i]=ch2[i]∨ch1[i]<0) (h:a7g c l ch1=true):a7g c l ch2=true:=by
 have la:=(a2B g1).1
 have lb:=(a2B g2).1
 unfold a7g at h ⊢
 rw[if_neg (by rw[g1];decide)]at h
 rw[if_neg (by rw[g2];decide)]
 simp only[Bool.not_eq_true',decide_eq_false_iff_not]at h ⊢
 have hL:a5o (a1D l ch1 l.length)≤a5o (a1D l ch2 l.length):=by
  refine b6C _ _ _ (a8X _ _).1 fun d hd=>?_
  refine (a8X _ _).2 d ?_;rw[a8Z lb]at hd
  obtain⟨i,h1,h2,hc,e,he,rfl⟩:=hd;refine (a8Z la).2 ⟨i,h1,by omega,?_,e,he,rfl⟩
  rcases hs i (by omega) h2 with h3|h3
  ·rw[h3];exact hc
  ·exact h3
 refine b4Y (c1j la lb (fun i h1 h2 h3=>?_) _ (Nat.le_refl _)) h
 rcases hs i h2 h3 with h4|h4
 ·rw[h4];exact c3U hL _ _
 ·have e1:a4b (a5o (a1D l ch1 l.length)) l[i] ch1[i]=none:=by unfold a4b;rw[if_neg (by omega)]
  rw[e1]
  cases hq:a4b (a5o (a1D l ch2 l.length)) l[i] ch2[i]with
  |none=>rfl
  |some e=>
   have h5:a5o (a1D l ch1 l.length)≤e.day:=(a8X _ _).2 _ ((a8Z la).2 ⟨i,h1,h2,h4,e,a9c hq,rfl⟩)
   have h6:¬e.day<a5o (a1D l ch1 l.length):=by omega
   simp[Option.filter,h6]
def a3a (rs:List Rep):List Int:=rs.map fun r=>if 1<chs r then -1 else 0
def b2x (c:List Kind) (l:List Rep) (pre:List Int) (rs:List Rep):List (List Int):=((a2d rs).map (pre ++ ·)).filter (isF c l)
theorem b5y (c:List Kind) (l:List Rep) (pre:List Int):b2x c l pre []=if isF c l pre=true then [pre] else []:=by
 simp only[b2x,a2d,List.map_cons,List.map_nil,List.append_nil,List.filter_cons,List.filter_nil]
theorem b2y (c:List Kind) (l:List Rep) (pre:List Int) (r:Rep) (rs:List Rep):b2x c l pre (r::rs)=(List.range (chs r).toNat).flatMap fun (k:Nat)=>b2x c l (pre++[(k:Int)]) rs:=by
 simp only[b2x,a2d,List.map_flatMap,List.filter_flatMap,List.map_map]
 congr 1
 funext k
 congr 2
 funext t
 simp
theorem c7X {c:List Kind} {l:List Rep} {pre:List Int} {r:Rep} {rs:List Rep} (h:chs r=1):b2x c l pre (r::rs)=b2x c l (pre++[0]) rs:=by
 rw[b2y,h];simp
theorem c3t (c:List Kind) (l:List Rep):a2O c l=b2x c l [] l:=by
 simp[a2O,b2x]
structure Mid (c:List Kind) (l:List Rep) (pre:List Int) (rs:List Rep):Prop where
 cat:a0Y c=true
 pos:∀r∈l,chs r≠0
 is:∃a,l=a++rs∧pre.length=a.length∧∀i (h1:i<a.length) (h2:i<pre.length),0≤pre[i]∧pre[i]<chs a[i]
theorem b6a (r:Rep):0≤chs r:=by
 unfold chs;split
 ·omega
 ·split<;>omega
theorem c0O {c:List Kind} {l:List Rep} (hc:a0Y c=true) (hp:∀r∈l,chs r≠0):Mid c l [] l:=⟨hc,hp,[],rfl,rfl,fun i h=>absurd h (Nat.not_lt_zero i)⟩
theorem Mid.next {c:List Kind} {l:List Rep} {pre:List Int} {r:Rep} {rs:List Rep} (h:Mid c l pre (r::rs)) {k:Int} (h0:0≤k) (hk:k<chs r):Mid c l (pre++[k]) rs:=by
 obtain⟨a,e1,e2,e3⟩:=h.is;refine⟨h.cat,h.pos,a++[r],by rw[e1];simp,by simp[e2],fun i h1 h2=>?_⟩
 by_cases hi:i<a.length
 ·rw[List.getElem_append_left hi,List.getElem_append_left (by omega)];exact e3 i hi (by omega)
 ·have:i=a.length:=by simp at h1;omega
  subst this
  simp[←e2,h0,hk]
theorem Mid.len {c:List Kind} {l:List Rep} {pre:List Int} {rs:List Rep} (h:Mid c l pre rs):pre.length+rs.length=l.length:=by
 obtain⟨a,e1,e2,_⟩:=h.is;rw[e1,List.length_append,e2]
theorem Mid.given {c:List Kind} {l:List Rep} {pre:List Int} {rs:List Rep} (h:Mid c l pre rs) {t:List Int} (ht:t.length=rs.length) {n:Int} (hn:n≤0) (hb:∀i (h1:i<rs.length) (h2:i<t.length),n≤t[i]∧t[i]<chs rs[i]):a1T c l (pre++t) n=true:=by
 obtain⟨a,e1,e2,e3⟩:=h.is;refine a8R h.cat (by rw[List.length_append,ht];exact h.len) fun i h1 h2=>?_
 refine⟨h.pos _ (List.getElem_mem h1),?_⟩;subst e1
 by_cases hi:i<a.length
 ·rw[List.getElem_append_left hi,List.getElem_append_left (by omega)]
  have:=e3 i hi (by omega)
  omega
 ·rw[List.length_append]at h1
  rw[List.getElem_append_right (by omega),List.getElem_append_right (by omega)]
  have:=hb (i-a.length) (by omega) (by omega)
  simpa[e2]using this
theorem Mid.given_open {c:List Kind} {l:List Rep} {pre:List Int} {rs:List Rep} (h:Mid c l pre rs):a1T c l (pre++a3a rs) (-1)=true:=by
 refine h.given (by simp[a3a]) (by omega) fun i h1 h2=>?_
 have hp:=h.pos rs[i] (by obtain⟨a,e1,_⟩:=h.is;rw[e1];exact List.mem_append_right _ (List.getElem_mem h1))
 have:=b6a rs[i]
 simp only[a3a,List.getElem_map]
 split<;>omega
theorem c1q {c:List Kind} {l:List Rep} {pre:List Int} {rs:List Rep} (h:Mid c l pre rs) (hf:a7g c l (pre++a3a rs)=true):b2x c l pre rs=[]:=by
 rw[b2x,List.filter_eq_nil_iff];intro x hx;obtain⟨t,ht,rfl⟩:=List.mem_map.1 hx;obtain⟨h1,h2⟩:=a3H.1 ht
 have g0:a1T c l (pre++t) 0=true:=h.given h1 (Int.le_refl _) h2
 have g1:=b0O g0
 have hl:=(a2B h.given_open).1
 have:=b8c h.given_open g1 (fun i h3 h4=>by
  by_cases hi:i<pre.length
  ·left;rw[List.getElem_append_left hi,List.getElem_append_left hi]
  ·rw[List.getElem_append_right (by omega),List.getElem_append_right (by omega)]
   have h5:i-pre.length<rs.length:=by simp[a3a]at h3;omega
   have:=h2 (i-pre.length) h5 (by omega)
   simp only[a3a,List.getElem_map]
   split
   ·right;omega
   ·left;omega) hf
 rw[c3a g0]at this
 simpa using this
end Go.Sx
set_option linter.all false
namespace Go.Sx
open Go
def c2S (l:List Rep):Nat:=(l.filter fun r=>decide (1<chs r)).length
def a7U (c:List Kind) (l:List Rep):Int:=if a0Y c=false then 1 else if l.any (fun r=>decide (chs r=0))=true then 1 else if (30:Int)<(c2S l:Nat) then 7 else 0
def a3z (c:List Kind) (l:List Rep) (most:Int):List (List Int)×Int:=
 if (decide (most<1)||decide (4096<most))=true then ([],1) else if a7U c l≠0 then ([],a7U c l) else if (a2O c l).take most.toNat=[] then ([],21) else ((a2O c l).take most.toNat,0)
theorem c2X {c:List Kind} {l:List Rep} (h:a7U c l=0):a0Y c=true∧∀r∈l,chs r≠0:=by
 unfold a7U at h
 split at h
 ·cases h
 ·rename_i hc
  split at h
  ·cases h
  ·rename_i ha
   exact⟨by simpa using hc,fun r hr h0=>ha (List.any_eq_true.2 ⟨r,hr,by simp[h0]⟩)⟩
theorem a6U {c:List Kind} {l:List Rep} (hc:a0Y c=true) (hp:∀r∈l,chs r≠0) (t:List Int):a1T c l t 0=true↔t∈a2d l:=by
 rw[a3H]
 constructor
 ·intro h;exact⟨(a2B h).1,fun i h1 h2=>by have:=a7l h h1 h2;omega⟩
 ·rintro⟨h1,h2⟩;exact a8R hc h1 fun i h3 h4=>⟨hp _ (List.getElem_mem h3),h2 i h3 h4⟩
theorem b6x {c:List Kind} {l:List Rep} {t:List Int} (h:isF c l t=true):a1T c l t 0=true:=by
 cases hg:a1T c l t 0 with
 |true=>rfl
 |false=>rw[d1D hg]at h;cases h
theorem a7n {c:List Kind} {l:List Rep} (t:List Int):t∈a2O c l↔isF c l t=true:=by
 rw[a2O,List.mem_filter]
 constructor
 ·exact fun h=>h.2
 ·intro h
  have hg:=b6x h
  refine⟨?_,h⟩
  exact (a6U (a7m hg) (fun r hr h0=>by
   obtain⟨i,hi,rfl⟩:=List.getElem_of_mem hr
   exact (a7l hg hi (by have:=(a2B hg).1;omega)).1 h0) t).1 hg
def b0n:List Rep→Nat
 | []=>1
 |r::l=>(chs r).toNat * b0n l
theorem b4x:∀l:List Rep,(a2d l).length=b0n l
 | []=>rfl
 |r::l=>by
  rw[a2d,List.length_flatMap,b0n]
  simp only[List.length_map,b4x l]
  rw[List.map_const',List.sum_replicate_nat,List.length_range]
theorem b9f {c:List Kind} {l:List Rep} {most:Int} (h1:1≤most) (h2:most≤4096) (he:a7U c l=0):a3z c l most=if (a2O c l).take most.toNat=[] then ([],21) else ((a2O c l).take most.toNat,0):=by
 unfold a3z;rw[if_neg (by simp;omega),if_neg (by simp[he])]
theorem c5T {c:List Kind} {l:List Rep} {most:Int} (h1:1≤most) (h2:most≤4096) (he:a7U c l≠0):a3z c l most=([],a7U c l):=by
 unfold a3z;rw[if_neg (by simp;omega),if_pos he]
theorem b1H {c:List Kind} {l:List Rep} {most:Int} (h1:1≤most) (h2:most≤4096):(a3z c l most).2=if a7U c l≠0 then a7U c l else if a2O c l=[] then 21 else 0:=by
 by_cases he:a7U c l=0
 ·rw[b9f h1 h2 he,if_neg (show ¬(a7U c l≠0) by simp[he])]
  have:(a2O c l).take most.toNat=[]↔a2O c l=[]:=by
   rw[List.take_eq_nil_iff]
   constructor
   ·rintro (h|h)
    ·omega
    ·exact h
   ·exact .inr
  by_cases hh:a2O c l=[]
  ·rw[if_pos (this.2 hh),if_pos hh]
  ·rw[if_neg (fun h=>hh (this.1 h)),if_neg hh]
 ·rw[c5T h1 h2 he,if_pos he]
theorem c2v {c:List Kind} {l:List Rep} {most:Int} (h1:1≤most) (h2:most≤4096) (he:a7U c l=0):(a3z c l most).1=(a2O c l).take most.toNat:=by
 rw[b9f h1 h2 he]
 split
 ·rename_i h;exact h.symm
 ·rfl
end Go.Sx
set_option linter.all false
namespace Go.Sx
open Go
def c8Q (P:Program) (o:Oper) (Q:Exit→Act→World→Prop):Exit→Act→World→Prop
 |.normal,a,w=>∃d,(execOp a.eval o).run P w = .ok (.defer d) w∧Q .normal { a with defers:=d::a.defers } w
 |e,a,w=>Q e a w
theorem c2l {P:Program} {ops:Array Oper} {Q:Exit→Act→World→Prop} {o:Oper} (hn:o.dst=none) (hg:o.guard=none):∀(l:List Oper) (a:Act) (w:World),wpL P ops (c8Q P o Q) l a w→wpListIn (fen none) 0 P ops Q (l++[o]) a w
 | [],a,w,h=>by
  obtain⟨d,h1,h2⟩:∃d,(execOp a.eval o).run P w = .ok (.defer d) w∧Q .normal { a with defers:=d::a.defers } w:=h
  show wpListIn (fen none) 0 P ops Q [o] a w
  unfold wpListIn;rw[if_pos (by simp[Region.wanted,hg])];refine⟨fun _ _=>trivial,?_⟩
  have e:Oper.semAt (fen none).round a.eval o=execOp a.eval o:=rfl
  rw[e,h1]
  show wpListIn (fen none) 0 P ops Q [] (Act.put { a with defers:=d::a.defers } o.dst undef) w
  rw[hn];exact h2
 |o'::rest,a,w,h=>by
  have h:one P ops (c8Q P o Q) o' (wpL P ops (c8Q P o Q) rest) a w:=h
  have h:one P ops Q o' (wpListIn (fen none) 0 P ops Q (rest++[o])) a w:=b2m (fun a w h=>c2l hn hg rest a w h) h
  unfold one at h
  show wpListIn (fen none) 0 P ops Q (o'::(rest++[o])) a w
  unfold wpListIn
  split
  ·rename_i hw;rw[if_pos hw]at h;exact b5M h
  ·rename_i hw;rw[if_neg hw]at h;exact⟨fun _ _=>trivial,h⟩
structure FnDf (P:Program) (f:FuncId) (args:Array Value) (I:IMap) (H:List Res) (post:IMap→List Res→Prop):Prop where
 go:∀w,Mem ⟨a2l H,I,w⟩ I H w→CallsDIn Fence.wide 0 P f args .returning w fun e u w'=>u = .returning∧∃v I' H',e = .returned v∧Mem ⟨a2l H,I,w⟩ I' H' w'∧post I' H'
section
variable {P:Program} {ρ:Option Nat} {n:Sz} {E:Ent} {I:IMap} {L:LL} {H:List Res} {Q:Exit→Act→World→Prop} {ops:Array Oper}
variable {ty:Nat} {pos:String} {af:Array Edge} {fo:Operand} {as_:List Operand} {ats:Array TypeId} {f:FuncId}
theorem b7T {id:Nat} {o1 o2:Oper} (hn:o2.dst=none) (hg:o2.guard=none) (h:SX n E I L H (wpL P [o1,o2].toArray (c8Q P o2 Q) [o1])):SX n E I L H ((Code.region id [o1,o2].toArray false).wq none P Q):=
 fun a w s m=>wpIn_region_lit (c2l (l:=[o1]) hn hg _ _ (h a w s m))
theorem d0r {fs cs:Array Value} {vs:List Value} (hf:ev L fo=some (.func (.func f) fs cs)) (ha:evs L as_=some vs)
  (h:SX ⟨n.sz,.f { target:=.fn (.func f) cs,args:=fs++vs.toArray } :: n.D⟩ E I L H (Q .normal)):SX n E I L H (c8Q P ⟨none,.defer { callee:=.value fo,args:=as_.toArray,argTypes:=ats },ty,pos,af,none⟩ Q .normal):=fun a w s m=>by
 refine⟨_,?_,h { a with defers:=_ } w ⟨s.size,by show _::a.defers=_;rw[s.defers];rfl,s.get⟩ m⟩
 have e:=a6j s as_ vs ha
 simp only[execOp,resolve,s.ev hf]
 simp[Deferred.ofValue,e,go_sem]
 rfl
theorem b7j {k:Nat} {D:List Mk} {fn:Func} {R:Ending→World→Prop} {Hc H0:List Res} {args cap:Array Value} {post:IMap→List Res→Prop} (hcall:∀(args:Array Value) (w:World),(callFunc f args).run P w = .ok (.enter f args) w)
  (hc:FnDf P f (args++cap) I Hc post) (kk:∀I' H',ILe I I'→post I' H'→SX ⟨k,D⟩ E I' L (H'++H0) (b7K P fn R .ret)) :
  SX ⟨k,.f { target:=.fn (.func f) cap,args:=args } :: D⟩ E I L (Hc++H0) (b7K P fn R .ret):=fun a w s m=>by
 show LeavesInM Fence.wide 0 P fn a.tmps R a.defers .returning w
 rw[s.defers];refine⟨by simp,.inr ⟨fun h=>by simp[Fence.wide]at h,.func f,cap,f,args++cap,rfl,?_,fun _ _=>trivial,CallsDIn.mono (hc.go w m.call) ?_⟩⟩
 ·simp[invoke,go_sem,hcall,Mk.of]
 ·rintro e u w' ⟨rfl,v,I',H',rfl,hm,hp⟩
  have:=kk I' H' hm.mono hp { a with defers:=(Sz.mk k D).marks } w' ⟨s.size,rfl,s.get⟩ (m.back hm)
  exact this
def d2a (P:Program) (fn:Func) (R:Ending→World→Prop):Exit→Act→World→Prop:=bodyPost P fn R
theorem c9x {fn:Func} {c:Code} {args:List Value} {k:Nat} {post:IMap→List Res→Prop} (hf:P.funcs[f]? = some fn) (hb:fn.body=some c) (hn:fn.ntmps=k)
  (hl:Nat.ble args.length k=true) (h:∀w,SX ⟨k,[]⟩ ⟨a2l H,I,w⟩ I (b1J args 0) H (c.wq none P (d2a P fn (a8L ⟨a2l H,I,w⟩ fun _ I' H'=>post I' H')))):FnDf P f args.toArray I H post:=by
 refine⟨fun w m=>?_⟩;refine CallsDIn.mono (callsDIn_of_wp (F:=Fence.wide) hf hb trivial (h w _ _ ⟨?_,rfl,?_⟩ m)) ?_
 ·simp only[List.size_toArray,Array.size_append,Array.size_replicate,hn]
  have:args.length≤k:=by simpa using hl
  omega
 ·intro i v hv;obtain⟨_,h2⟩:=b0S args 0 i v hv
  have hlt:i<args.length:=by
   rcases Nat.lt_or_ge i args.length with h|h
   ·exact h
   ·simp[List.getElem?_eq_none h]at h2
  rw[Array.getElem?_append_left (by simpa using hlt)]
  simpa using h2
 ·rintro e u w' ⟨rfl,v,I',H',rfl,hm,hp⟩;exact⟨rfl,v,I',H',rfl,hm,hp⟩
theorem d1z {k:Nat} {fn:Func} {R:Ending→World→Prop} (hf:fn.results=#[]) (h:SX ⟨k,[]⟩ E I L H fun _ w=>R (.returned (.tuple #[])) w):SX ⟨k,[]⟩ E I L H (d2a P fn R .normal):=fun a w s m=>
 ⟨by rw[s.defers];rfl,_,d1T hf a w,h a w s m⟩
end
end Go.Sx
set_option linter.all false
namespace Go.Sx
open Go
section
variable {P:Program} {ρ:Option Nat} {n:Sz} {E:Ent} {I:IMap} {L:LL} {H:List Res} {Q:Exit→Act→World→Prop} {ops:Array Oper} {K:Act→World→Prop}
variable {d ty:Nat} {pos:String} {af:Array Edge} {fo:Operand} {as_:List Operand} {ats:Array TypeId} {f:FuncId} {args:List Value} {g t:Nat} {cs:List Value} {w:World}
theorem b6D (mm:Mem E I H w) (hm:Res.blk g t cs∈H):ILe I (I.pub g (.cells cs.toArray t (0,0))):=IMap.pub_le _ (mm.priv _ hm g rfl).1
theorem b0Q:ICells (I.pub g (.cells cs.toArray t (0,0))) g 0 cs:=fun j u hu=>⟨_,t,(0,0),IMap.pub_same _ _ _,by rw[Nat.zero_add];simpa using hu⟩
theorem b6E (mm:Mem E I H w) (hm:Res.blk g t cs∈H):Mem ⟨[],I.pub g (.cells cs.toArray t (0,0)),w⟩ (I.pub g (.cells cs.toArray t (0,0))) [] w:=
 ⟨Upd.refl _ _,fun b o hb=>by
  have hg:w.heap[g]? = some (.cells cs.toArray t (0,0)):=mm.holds _ hm
  unfold IMap.pub at hb
  split at hb
  ·rename_i e;subst e;cases hb;exact hg
  ·exact mm.con b o hb,ILe.refl _,fun b hb=>.inl hb,fun _ h=>(by cases h),fun _ h=>(by cases h),List.nodup_nil⟩
theorem c0Y {v:Value} (hm:Res.blk g t cs∈H) (hc:∀I2,ILe I I2→ICells I2 g 0 cs→FnI P f args.toArray I2 fun u _=>u=v) (h:a1P L fo as_=some (f,args)) (hd:Nat.blt d n.sz=true)
  (kk:SX n E I ((d,v)::L) H K):SX n E I L H (one P ops Q ⟨some d,.call { callee:=.value fo,args:=as_.toArray,argTypes:=ats },ty,pos,af,none⟩ K):=by
 intro a w s mm
 have h1:=(hc _ (b6D mm hm) b0Q).go w (b6E mm hm)
 unfold one;rw[if_pos (by rfl)];refine a7L ?_;unfold After at h1 ⊢
 rw[a7D s h ⟨some d,.call { callee:=.value fo,args:=as_.toArray,argTypes:=ats },ty,pos,af,none⟩ rfl (ats:=ats)]
 have key:∀e w'',a8L ⟨[],(I.pub g (.cells cs.toArray t (0,0))),w⟩ (fun u I' H'=>u=v∧H'=[]) e w''→(match e with | .returned v=>K (a.put (some d) v) w''|_=>False):=by
  rintro e w'' ⟨u,I',H',rfl,hm',rfl,rfl⟩;exact kk _ _ (s.put hd) (mm.other hm'.upd.os hm'.upd.tape hm'.upd.output hm'.upd.size (fun k hk=>hm'.upd.block k hk (by simp)))
 split at h1
 ·rename_i v w' hr;exact key _ _ h1
 ·rename_i f' args' w' hr;exact Calls.mono h1 key
 ·rename_i l f' tmps assign body w' hr;exact RoundIn.mono h1 key
 ·exact h1.elim
theorem c7E {p:Value→Res→Prop} (hm:Res.blk g t cs∈H) (hc:∀I2,ILe I I2→ICells I2 g 0 cs→FnX P f args.toArray I2 [] p) (h:a1P L fo as_=some (f,args)) (hd:Nat.blt d n.sz=true)
  (kk:∀u r,p u r→SX n E I ((d,u)::L) (r::H) K):SX n E I L H (one P ops Q ⟨some d,.call { callee:=.value fo,args:=as_.toArray,argTypes:=ats },ty,pos,af,none⟩ K):=by
 intro a w s mm
 have h1:=(hc _ (b6D mm hm) b0Q).go w (b6E mm hm)
 unfold one;rw[if_pos (by rfl)];refine a7L ?_;unfold After at h1 ⊢
 rw[a7D s h ⟨some d,.call { callee:=.value fo,args:=as_.toArray,argTypes:=ats },ty,pos,af,none⟩ rfl (ats:=ats)]
 have key:∀e w'',a8L ⟨[],(I.pub g (.cells cs.toArray t (0,0))),w⟩ (fun u I' H'=>I'=(I.pub g (.cells cs.toArray t (0,0)))∧∃r,H'=[r]∧p u r) e w''→(match e with | .returned v=>K (a.put (some d) v) w''|_=>False):=by
  rintro e w'' ⟨u,I',H',rfl,hm',rfl,r,rfl,hp⟩;refine kk u r hp _ _ (s.put hd) (mm.new hm'.upd.os hm'.upd.tape hm'.upd.output hm'.upd.size (fun k hk=>hm'.upd.block k hk (by simp)) (hm'.holds r (List.mem_cons_self ..)) fun b hb=>?_)
  rcases (hm'.priv r (List.mem_cons_self ..) b hb).2 with h|h
  ·exact h
  ·cases h
 split at h1
 ·rename_i v w' hr;exact key _ _ h1
 ·rename_i f' args' w' hr;exact Calls.mono h1 key
 ·rename_i l f' tmps assign body w' hr;exact RoundIn.mono h1 key
 ·exact h1.elim
theorem c7C {r0:Res} {Hc:List Res} {post:Value→IMap→List Res→Prop} (hc:FnH P f args.toArray I Hc post) (h:a1P L fo as_=some (f,args)) (hd:Nat.blt d n.sz=true)
  (k:∀u I' H',ILe I I'→post u I' H'→SX n E I' ((d,u)::L) (r0::H') K) :
  SX n E I L (r0::Hc) (one P ops Q ⟨some d,.call { callee:=.value fo,args:=as_.toArray,argTypes:=ats },ty,pos,af,none⟩ K):=by
 refine a4l (H':=Hc++[r0]) (by simpa using List.perm_append_comm (l₁:=[r0]) (l₂:=Hc)) ?_;refine a3M (Hc:=Hc) (H0:=[r0]) hc h hd fun u I' H' hI hp=>?_
 exact a4l (H':=r0::H') (by simpa using List.perm_append_comm (l₁:=H') (l₂:=[r0])) (k u I' H' hI hp)
theorem c0W {Hc:List Res} {post:Value→IMap→List Res→Prop} (hc:FnH P f args.toArray I Hc post) (h:a1P L fo as_=some (f,args)) (hd:Nat.blt d n.sz=true)
  (k:∀u I' H',ILe I I'→post u I' H'→SX n E I' ((d,u)::L) H' K) :
  SX n E I L Hc (one P ops Q ⟨some d,.call { callee:=.value fo,args:=as_.toArray,argTypes:=ats },ty,pos,af,none⟩ K):=by
 refine a4l (H':=Hc++[]) (by simp) ?_;refine a3M (Hc:=Hc) (H0:=[]) hc h hd fun u I' H' hI hp=>?_
 exact a4l (H':=H') (by simp) (k u I' H' hI hp)
end
section
variable {P:Program} {n:Sz} {E:Ent} {I:IMap} {L:LL} {H:List Res} {K:Act→World→Prop}
theorem b9K {ρ:Option Nat} {Q:Exit→Act→World→Prop} {l:List Oper} {r1 r2:Res} {id:Nat} (hm:P.follows .mixedOrders=true)
  (h:SX n E I L (r1::r2::H) (a2M P l.toArray (NQ Q) (a2N E I [r1,r2]) l.length (Array.replicate l.length false))):SX n E I L (r1::r2::H) ((Code.region id l.toArray true).wq ρ P Q):=b4K [r1,r2] hm h
theorem a2K {g t:Nat} {cs:List Value} (cs2:List Value) (e:cs=cs2) (h:SX n E I L (.blk g t cs2::H) K):SX n E I L (.blk g t cs::H) K:=e▸h
theorem b7y {a:Res} (h:SX n E I L (a::H) K):SX n E I L ([a]++H) K:=h
theorem b7z {a b:Res} (h:SX n E I L (a::b::H) K):SX n E I L ([a,b]++H) K:=h
end
def a3j (ch:List Int):List Value:=ch.map ci
theorem a9G (ch:List Int):(a3j ch).length=ch.length:=by simp[a3j]
theorem c3v {ch:List Int} {i:Nat} (h:i<ch.length):(a3j ch)[i]? = some (ci ch[i]):=by simp[a3j,h]
theorem a9H (ch:List Int) (i:Nat) (x:Int):(a3j ch).set i (ci x)=a3j (ch.set i x):=by simp[a3j,List.map_set]
theorem c3w {I:IMap} {g:Nat} {ch:List Int} (h:ICells I g 0 (a3j ch)) (hl:ch.length≤9223372036854775807):RdS I (.slice (some ⟨g,0,none⟩) ch.length ch.length) ch:=by
 refine⟨some ⟨g,0,none⟩,ch.length,rfl,fun hp=>⟨g,0,rfl,fun i x hi=>⟨[ci x],fun j u hu=>?_,rfl⟩⟩,Nat.le_refl _,hl⟩
 have h1:(a3j ch)[i]? = some (ci x):=by simp[a3j,hi]
 cases j with
 |zero=>
  have e:u=ci x:=by simpa using hu.symm
  subst e
  have:=h i _ h1
  have e2:0+i * Enc.k Int+0=0+i:=by show 0+i * 1+0=0+i;omega
  rw[e2];exact this
 |succ j=>simp at hu
theorem b3n (n:Nat):(List.replicate n [ci 0]).flatten=a3j (List.replicate n 0):=by
 induction n with
 |zero=>rfl
 |succ n ih=>rw[List.replicate_succ,List.flatten_cons,ih];rfl
theorem a7X {I:IMap} (ch:List Int):Flat I (a3j ch) ch:=by
 induction ch with
 |nil=>exact .nil
 |cons x r ih=>exact .cons rfl ih
theorem c0c {I:IMap} {xs:List Value} {l:List Int} (h:Flat I xs l):xs=a3j l:=by
 induction h with
 |nil=>rfl
 |cons h1 _ ih=>rw[ih];rw[show _=_ from h1];rfl
section
variable {P:Program} {ρ:Option Nat} {n:Sz} {E:Ent} {I I':IMap} {L:LL} {H H0:List Res} {Q:Exit→Act→World→Prop} {ops:Array Oper} {K:Act→World→Prop}
variable {d ty:Nat} {pos:String} {af:Array Edge} {fo:Operand} {as_:List Operand} {ats:Array TypeId} {f:FuncId} {args:List Value}
theorem b6Q {post:Value→IMap→List Res→Prop} (hc:FnH P f args.toArray I [] post) (h:a1P L fo as_=some (f,args)) (hd:Nat.blt d n.sz=true)
  (k:∀v I' H',ILe I I'→post v I' H'→SX n E I' ((d,v)::L) (H'++H0) K) :
  SX n E I L H0 (one P ops Q ⟨some d,.call { callee:=.value fo,args:=as_.toArray,argTypes:=ats },ty,pos,af,none⟩ K):=a3M (Hc:=[]) hc h hd k
end
end Go.Sx
set_option linter.all false
namespace Go.Sx
open Go
theorem a7p {I:IMap} {g n:Nat} {ch:List Int} (h:ICells I g 0 (a3j ch)) (e:ch.length=n) (hl:n≤1000000):RdS I (.slice (some ⟨g,0,none⟩) n n) ch:=by
 subst e;exact c3w h (by omega)
section
variable {c:List Kind} {l:List Rep} {pre:List Int} {r:Rep} {rs:List Rep}
theorem Mid.get (h:Mid c l pre (r::rs)):∃hp:pre.length<l.length,l[pre.length]=r:=by
 obtain⟨a,e1,e2,_⟩:=h.is;refine⟨by rw[e1,e2];simp,?_⟩;subst e1
 simp[e2]
theorem Mid.more (h:Mid c l pre rs) (hp:pre.length<l.length):∃r rs',rs=r::rs':=by
 cases rs with
 |nil=>have:=h.len;simp at this;omega
 |cons r rs'=>exact⟨r,rs',rfl⟩
theorem Mid.full (h:Mid c l pre rs) (hp:¬pre.length<l.length):rs=[]:=by
 have:=h.len
 exact List.eq_nil_of_length_eq_zero (by omega)
theorem Mid.pos1 (h:Mid c l pre (r::rs)):chs r≠0:=h.pos r (by obtain⟨a,e1,_⟩:=h.is;rw[e1];simp)
theorem b6X {ch:List Int} (he:pre++a3a (r::rs)=ch) (hp:pre.length<ch.length):ch[pre.length]=if 1<chs r then -1 else 0:=by
 subst he;simp[a3a]
theorem b2n:(a3a rs).length=rs.length:=by simp[a3a]
theorem Mid.chlen (h:Mid c l pre rs) {ch:List Int} (he:pre++a3a rs=ch):ch.length=l.length:=by
 rw[←he,List.length_append,b2n];exact h.len
theorem c1d (h1:¬1<chs r):(pre++[0])++a3a rs=pre++a3a (r::rs):=by
 simp[a3a,h1]
theorem a7x {ch:List Int} (he:pre++a3a (r::rs)=ch) (k:Int):ch.set pre.length k=(pre++[k])++a3a rs:=by
 subst he;rw[List.set_append_right _ _ (Nat.le_refl _),Nat.sub_self]
 simp[a3a]
theorem b7t {ch:List Int} {p:Nat} (hp:p<ch.length) (h:ch[p] = -1) (z:Int):(ch.set p z).set p (-1)=ch:=by
 rw[List.set_set,←h,List.set_getElem_self]
theorem c4C {ch:List Int} {p:Nat} (hp:p<ch.length):ch=ch.set p ch[p]:=by rw[List.set_getElem_self]
theorem c3n {α:Type} (f:Nat→List α) (done:List α) {k K:Nat} (h:k<K) {x:List α} (hx:x <+: (done++(List.range k).flatMap f)++f k):x <+: done++(List.range K).flatMap f:=by
 refine hx.trans ?_
 have e:(done++(List.range k).flatMap f)++f k=done++(List.range (k+1)).flatMap f:=by rw[List.range_succ,List.flatMap_append];simp
 rw[e];refine (List.prefix_append_right_inj _).2 ?_
 have e2:List.range K=List.range (k+1)++(List.range (K-(k+1))).map (k+1 + ·):=by
  rw[←List.range_add];congr 1;omega
 rw[e2,List.flatMap_append];exact List.prefix_append _ _
theorem c0d {α:Type} (f:Nat→List α) (done:List α) (k:Nat):(done++(List.range k).flatMap f)++f k=done++(List.range (k+1)).flatMap f:=by
 rw[List.range_succ,List.flatMap_append];simp
end
theorem b5Z (r:Rep):chs r≤5:=by
 unfold chs
 split
 ·omega
 ·rename_i h
  have:=a2Y (r:=r) (by simpa using h)
  split<;>omega
def b1C (c:List Kind) (l:List Rep) (J:Bool→List (List Int)→IMap→List Res→Prop) (g t:Nat) (ch:List Int) (pre:List Int) (rs:List Rep) (done:List (List Int)) (u:Value) (I:IMap) (H:List Res):Prop:=
 ∃b dn Hc,u = .bool b∧H = .blk g t (a3j ch)::Hc∧J b dn I Hc∧(b=true→dn=done++b2x c l pre rs)∧(b=false→dn <+: done++b2x c l pre rs)
theorem b6g {l:List Rep} {i:Nat} (h:i<l.length):c2S (l.take (i+1))=c2S (l.take i)+if 1<chs l[i] then 1 else 0:=by
 rw[←a0q h,c2S,List.filter_append,List.length_append,c2S]
 by_cases hc:1<chs l[i]<;>simp[hc]
theorem c6J {c:List Kind} {l:List Rep} {i:Nat} (hc:a0Y c=true) (h:i<l.length) (h0:chs l[i]=0):a7U c l=1:=by
 unfold a7U;rw[if_neg (by rw[hc];decide),if_pos (List.any_eq_true.2 ⟨_,List.getElem_mem h,by simp[h0]⟩)]
theorem c6K {c:List Kind} {l:List Rep} (hc:a0Y c=false):a7U c l=1:=by unfold a7U;rw[if_pos hc]
theorem b4P {c:List Kind} {l:List Rep} (hc:a0Y c=true) (hp:∀r∈l,chs r≠0):a7U c l=if (30:Int)<(c2S l:Nat) then 7 else 0:=by
 unfold a7U;rw[if_neg (by rw[hc];decide),if_neg (by rw[List.any_eq_true];rintro⟨r,hr,h0⟩;exact hp r hr (by simpa using h0))]
theorem b7e {l:List Rep} {i:Nat} (h:i<l.length) (hp:∀r∈l.take i,chs r≠0) (h0:chs l[i]≠0):∀r∈l.take (i+1),chs r≠0:=fun r hr=>by
 rw[←a0q h]at hr
 rcases List.mem_append.1 hr with hr|hr
 ·exact hp r hr
 ·obtain rfl:=List.mem_singleton.1 hr;exact h0
def a4h (l:List Rep) (i:Nat):List Int:=a3a (l.take i)++List.replicate (l.length-i) 0
theorem b8z (l:List Rep) {i:Nat} (h:i≤l.length):(a4h l i).length=l.length:=by
 simp[a4h,b2n];omega
theorem a9R {l:List Rep} {i:Nat} (h:i<l.length):a4h l (i+1)=if 1<chs l[i] then (a4h l i).set i (-1) else a4h l i:=by
 have e:(a3a (l.take i)).length=i:=by rw[b2n,List.length_take];omega
 have e2:List.replicate (l.length-i) (0:Int)=0::List.replicate (l.length-(i+1)) 0:=by
  rw[show l.length-i=(l.length-(i+1))+1 by omega,List.replicate_succ]
 have e3:a3a (l.take i++[l[i]])=a3a (l.take i)++[if 1<chs l[i] then -1 else 0]:=by simp only[a3a,List.map_append,List.map_cons,List.map_nil]
 unfold a4h;rw[←a0q h,e3,List.append_assoc]
 by_cases hc:1<chs l[i]
 ·rw[if_pos hc,if_pos hc,List.set_append_right _ _ (by omega),e,Nat.sub_self,e2];rfl
 ·rw[if_neg hc,if_neg hc,e2];rfl
theorem b5o (l:List Rep):a4h l l.length=a3a l:=by simp[a4h]
end Go.Sx
namespace Go.Proofs.YtdapmfkbpnjkmaaGreat
open Go Go.Sx
set_option linter.all false
set_option maxRecDepth 20000
set_option maxHeartbeats 4000000
instance T.by_3:Has (a2y Tryz.prog 3) ([.int .i64 0],1,8):=⟨by kernel_rfl⟩
instance T.ty_256:Has (tyK Tryz.prog 256) (false,1):=⟨by kernel_rfl⟩
instance T.ty_257:Has (tyK Tryz.prog 257) (false,1):=⟨by kernel_rfl⟩
theorem c1x (I:IMap) (vc:Value) (c:List Kind) (hvc:RdS I vc c) (hsc:SmC c) (v:Value) (l:List Rep) (hv:RdS I v l) (hl:l.length≤1000000) (hsl:∀r∈l,∀e∈r.options,SmE e)  :
    FnV Tryz.prog 119 #[.agg #[vc],v] I (.int .i64 (a7U c l)):=by
 obtain⟨A,c0,rfl,hA,hc,hm⟩:=hv;refine enter Tryz.func119 Tryz.call119 rfl Tryz.ntmps119 rfl (fun w0=>?_);refine go 3 ?_;refine a0B _ rfl rfl rfl (fun g2=>?_);refine go 8 ?_;refine a0a (a8N _ vc c hvc hsc) rfl rfl ?_;refine go 3 ?_;refine cb rfl (fun h11 p11=>?_) (fun h11 p11=>?_)
 ·refine go 7 ?_;refine a0x rfl rfl ?_;exact q_v (congrArg (Value.int .i64) (c6K (by simpa using h11)).symm)
 ·have hC:a0Y c=true:=by simpa using h11
  refine go 16 ?_;refine a0b ?_
  refine a0L (α:=Nat) 0 (fun i=>I)
   (fun i=>[(5,.int .i64 ((c2S (l.take i):Nat):Int)),(12,.slice A l.length c0),(13,.int .i64 ((l.length:Nat):Int)),(14,.int .i64 ((i:Nat):Int))])
   (fun i=>[])
   (fun i=>i≤l.length∧∀r∈l.take i,chs r≠0)
   (fun i=>l.length-i) ⟨Nat.zero_le _,fun r hr=>by simp at hr⟩ rfl sb rfl ?_
  intro i ⟨hi,hp⟩
  have hdi:c2S (l.take i)≤(l.take i).length:=List.length_filter_le _ _
  rw[List.length_take]at hdi
  refine go 6 ?_;refine cb rfl (fun h15 p15=>?_) (fun h15 p15=>?_)
  ·have hlt:i<l.length:=by omega
   refine go 6 ?_;obtain⟨b16,o16,w16,e16,c16,r16⟩:=RdA.at_ hA (i:=i) (by omega);obtain⟨q16,rfl,S16,d16,rfl,hS16,hd16,hm16⟩:=r16;refine o_v rfl (a0n he rfl rfl e16 (i) (by omega) (by omega)) ?_;refine o_v rfl (a0H he rfl c16 rfl) ?_;refine go 1 ?_;refine a0h he rfl (fun g7=>?_);refine go 1 ?_;refine a0m _ he rfl rfl rfl rfl rfl rfl ?_;refine go 6 ?_;refine a0a (a4B _ l[i] S16 d16 ⟨_,_,rfl,hS16,hd16,hm16⟩ (hsl _ (List.getElem_mem hlt))) rfl rfl ?_;refine go 11 ?_;refine cb rfl (fun h20 p20=>?_) (fun h20 p20=>?_)
   ·refine go 12 ?_;refine a0x rfl rfl ?_;exact q_v (congrArg (Value.int .i64) (c6J hC hlt (by simpa using h20)).symm)
   ·refine go 7 ?_;refine cb rfl (fun h23 p23=>?_) (fun h23 p23=>?_)
    ·refine go 13 ?_;refine a0b ?_;exact a0J (i+1) ⟨by omega,b7e hlt hp (by simpa using h20)⟩ (by omega) rfl ⟨(congrArg (fun z=>some (Value.int .i64 z)) (by rw[b6g hlt,if_pos (by omega)];omega)),rfl,rfl,rfl,trivial⟩ rfl
    ·refine go 9 ?_;refine a0b ?_;exact a0J (i+1) ⟨by omega,b7e hlt hp (by simpa using h20)⟩ (by omega) rfl ⟨(congrArg (fun z=>some (Value.int .i64 z)) (by rw[b6g hlt,if_neg (by omega)];omega)),rfl,rfl,rfl,trivial⟩ rfl
  ·have e:i=l.length:=by omega
   subst e;rw[List.take_length]at hp hdi
   rw[List.take_length];refine go 12 ?_;refine cb rfl (fun h30 p30=>?_) (fun h30 p30=>?_)
   ·refine go 7 ?_;refine a0x rfl rfl ?_;exact q_v (congrArg (Value.int .i64) (by rw[b4P hC hp,if_pos p30]))
   ·refine go 8 ?_;refine a0x rfl rfl ?_;exact q_v (congrArg (Value.int .i64) (by rw[b4P hC hp,if_neg p30]))
theorem c6D (I:IMap) (v:Value) (l:List Int) (hv:RdS I v l) (hl:l.length≤1000000) :
    FnX Tryz.prog 194 #[v] I [] (fun u r=>r = .row u 3 1 l.length (a3j l)):=by
 refine enter Tryz.func194 Tryz.call194 rfl Tryz.ntmps194 rfl (fun w0=>?_);refine go 8 ?_;refine a0e he he rfl rfl rfl rfl rfl rfl rfl (fun v3=>?_);refine go 2 ?_;refine a1l (hv) rfl he he rfl rfl rfl rfl (by omega) (by omega) rfl (fun v5 x5 f5=>?_);refine go 4 ?_;refine a0x rfl rfl ?_;refine b7B (ys:=x5) rfl ?_;rw[Nat.zero_add,c0c f5];exact q_x rfl
theorem c5F (I:IMap) (g3 g6 gc n:Nat) (k3:ICells I g3 0 [.slice (some ⟨gc,0,none⟩) n n]) (ch:List Int) (p:Nat) (hp:p<ch.length) (hn:ch.length=n) :
    FnDf Tryz.prog 195 #[.pointer (some ⟨g3,0,none⟩),.pointer (some ⟨g6,0,none⟩)] I [.blk gc 3 (a3j ch),.blk g6 3 [.int .i64 ((p:Nat):Int)]] (fun I2 H2=>I2=I∧H2=[.blk gc 3 (a3j (ch.set p (-1))),.blk g6 3 [.int .i64 ((p:Nat):Int)]]):=by
 refine c9x Tryz.func195 rfl Tryz.ntmps195 rfl (fun w0=>?_);refine go 1 ?_;refine o_v rfl (a0W he rfl (k3 0 _ rfl)) ?_;refine go 1 ?_;refine o_v rfl (a0n he rfl rfl rfl (p) (by omega) (by omega)) ?_;refine go 1 ?_;refine a3r he rfl rfl rfl (by rw[a9G,Nat.blt_eq];omega) ?_;refine a2K (a3j (ch.set (p) (-1))) (by rw[Nat.zero_add,Nat.mul_one,a9H]) ?_;refine go 1 ?_;refine d1z rfl ?_;exact a4Y (fun _ m=>m) ⟨rfl,rfl⟩
theorem d0B (I:IMap) (g1 g2 g3 g4 g5 gc:Nat) (vc:Value) (c:List Kind) (hvc:RdS I vc c) (hsc:SmC c) (l:List Rep) (A:Option Addr) (c0:Nat) (hv:RdS I (.slice A l.length c0) l) (hl:l.length≤1000000) (hsl:∀r∈l,∀e∈r.options,SmE e) (ly:Nat) (J:Bool→List (List Int)→IMap→List Res→Prop) (hJm:c2q J) (hY:a6B Tryz.prog ly (fun I vs (x:List Int)=>∃v,vs=[v]∧RdS I v x) (fun _ _=>True) J) (k1:ICells I g1 0 [vc]) (k2:ICells I g2 0 [.slice A l.length c0]) (k3:ICells I g3 0 [.slice (some ⟨gc,0,none⟩) l.length l.length]) (k4:ICells I g4 0 [.func (.yield ly) #[] #[]]) (k5:ICells I g5 0 [.func (.func 191) #[] #[.pointer (some ⟨g1,0,none⟩),.pointer (some ⟨g2,0,none⟩),.pointer (some ⟨g3,0,none⟩),.pointer (some ⟨g4,0,none⟩),.pointer (some ⟨g5,0,none⟩)]]) (rs:List Rep) (ih:∀(I2:IMap),ILe I I2→∀(pr:List Int) (rr:List Rep),rr.length<rs.length→Mid c l pr rr→∀(dn:List (List Int)) (Hq:List Res),J true dn I2 Hq→FnH Tryz.prog 191 #[.int .i64 ((pr.length:Nat):Int),.pointer (some ⟨g1,0,none⟩),.pointer (some ⟨g2,0,none⟩),.pointer (some ⟨g3,0,none⟩),.pointer (some ⟨g4,0,none⟩),.pointer (some ⟨g5,0,none⟩)] I2 (.blk gc 3 (a3j (pr++a3a rr))::Hq) (b1C c l J gc 3 (pr++a3a rr) pr rr dn)) (pre:List Int) (hmid:Mid c l pre rs) (ch:List Int) (hch:pre++a3a rs=ch) (done:List (List Int)) (Hc:List Res) (hJt:J true done I Hc) :
    FnH Tryz.prog 191 #[.int .i64 ((pre.length:Nat):Int),.pointer (some ⟨g1,0,none⟩),.pointer (some ⟨g2,0,none⟩),.pointer (some ⟨g3,0,none⟩),.pointer (some ⟨g4,0,none⟩),.pointer (some ⟨g5,0,none⟩)] I (.blk gc 3 (a3j ch)::Hc) (b1C c l J gc 3 ch pre rs done):=by
 have hv0:=hv
 have hA:=hv.toA
 have hcl:=hmid.chlen hch
 refine enter Tryz.func191 Tryz.call191 rfl Tryz.ntmps191 rfl (fun w0=>?_);refine go 3 ?_;refine a0B _ rfl rfl rfl (fun g6=>?_);refine go 6 ?_;refine o_v rfl (a0H he rfl k1 rfl) ?_;refine o_v rfl (a0W he rfl (k2 0 _ rfl)) ?_;refine o_v rfl (a0W he rfl (k3 0 _ rfl)) ?_;refine go 1 ?_;refine c0Y m1 (fun I2 hI hC=>c7d I2 vc c (hvc.le hI) hsc _ l (hv0.le hI) hl hsl _ ch (a7p hC hcl hl)) rfl rfl ?_;refine go 2 ?_;refine cb rfl (fun h12 p12=>?_) (fun h12 p12=>?_)
 ·refine go 7 ?_;refine a0x rfl rfl ?_;refine a0b ?_;exact a4Y (fun _ m=>m) ⟨true,done,_,rfl,rfl,hJt,fun _=>by rw[c1q hmid (by rw[hch];exact h12),List.append_nil],fun h=>(by cases h)⟩
 ·refine go 3 ?_;refine a9u (Ix:=(fun pr rr=>I)) (Lx:=(fun pr rr=>[(1,.pointer (some ⟨g1,0,none⟩)),(2,.pointer (some ⟨g2,0,none⟩)),(3,.pointer (some ⟨g3,0,none⟩)),(4,.pointer (some ⟨g4,0,none⟩)),(5,.pointer (some ⟨g5,0,none⟩)),(6,.pointer (some ⟨g6,0,none⟩))])) (Hx:=(fun pr rr=>.blk gc 3 (a3j ch) :: .blk g6 3 [.int .i64 ((pr.length:Nat):Int)]::Hc)) (p:=(fun pr rr=>Mid c l pr rr∧pr++a3a rr=ch∧b2x c l pre rs=b2x c l pr rr∧rr.length≤rs.length∧∀q0 q1,rr=q0::q1→1<chs q0)) ?_ ?_
  ·refine go 1 ?_;refine a0g ?_
   refine a1w (pre) (rs) (fun pr rr=>I)
    (fun pr rr=>[(1,.pointer (some ⟨g1,0,none⟩)),(2,.pointer (some ⟨g2,0,none⟩)),(3,.pointer (some ⟨g3,0,none⟩)),(4,.pointer (some ⟨g4,0,none⟩)),(5,.pointer (some ⟨g5,0,none⟩)),(6,.pointer (some ⟨g6,0,none⟩))])
    (fun pr rr=>.blk gc 3 (a3j ch) :: .blk g6 3 [.int .i64 ((pr.length:Nat):Int)]::Hc)
    (fun pr rr=>Mid c l pr rr∧pr++a3a rr=ch∧b2x c l pre rs=b2x c l pr rr∧rr.length≤rs.length)
    (fun pr rr=>rr.length) ⟨hmid,hch,rfl,Nat.le_refl _⟩ rfl sb rfl ?_
   intro pr rr ⟨hm,hee,hr,hle⟩
   have hml:=hm.len
   have hcl:=hm.chlen hee
   refine go 4 ?_;refine o_v rfl (a0W he rfl (k2 0 _ rfl)) ?_;refine go 3 ?_;refine sxb 17 rfl (fun h17 p17=>?_) (fun h17 p17=>?_)
   ·obtain⟨q0,q1,rfl⟩:=hm.more (by omega)
    have hop:=b6X hee (by omega)
    have hp1:=hm.pos1
    have hnn:=b6a q0
    refine a0v (a0y rfl rfl h17 (a0l rfl (a0W he rfl (k3 0 _ rfl)) ?_));refine go 1 ?_;refine a0v (a0y rfl rfl h17 (a0l rfl (a0n he rfl rfl rfl (pr.length) (by omega) (by omega)) ?_));refine a0v (a0y rfl rfl h17 (a0l rfl (OV.cast (u:=.int .i64 (if 1<chs q0 then -1 else 0)) (a6t m0 he rfl (by rw[Nat.zero_add,Nat.mul_one];exact c3v (by omega))) (congrArg (Value.int .i64) hop)) ?_));refine go 4 ?_;refine cb rfl (fun h23 p23=>?_) (fun h23 p23=>?_)
    ·have h1c:chs q0=1:=by
       by_cases h1:1<chs q0
       · rw[if_pos h1]at p23;omega
       · omega
     refine go 7 ?_;refine a0g ?_;refine a0m _ he rfl rfl rfl rfl rfl rfl ?_;refine go 3 ?_;refine a0g ?_;exact a0M (pr++[0]) (q1) ⟨hm.next (r:=q0) (Int.le_refl _) (by omega),by rw[c1d (r:=q0) (by omega)];exact hee,by rw[hr,c7X h1c],by simp at hle;omega⟩ (by simp) rfl sb (by rw[List.length_append];rfl)
    ·have h1c:1<chs q0:=by
       by_cases h1:1<chs q0
       · exact h1
       · rw[if_neg h1]at p23;omega
     refine go 5 ?_;exact a3N (_) (_) ⟨hm,hee,hr,hle,fun _ _ e=>by cases e;exact h1c⟩ sb rfl rfl
   ·refine go 8 ?_;refine a0P rfl ?_;refine go 5 ?_;exact a3N (_) (_) ⟨hm,hee,hr,hle,fun q0 q1 e=>by subst e;simp at hml;omega⟩ sb rfl rfl
  ·intro pr rr ⟨hm,hee,hr,hle,h1c⟩
   have hml:=hm.len
   have hcl:=hm.chlen hee
   refine go 4 ?_;refine o_v rfl (a0W he rfl (k2 0 _ rfl)) ?_;refine go 4 ?_;refine cb rfl (fun h29 p29=>?_) (fun h29 p29=>?_)
   ·obtain rfl:=hm.full (by omega)
    have hpc:pr=ch:=by rw[←hee];simp[a3a]
    rw[hpc]at hm hr
    refine go 1 ?_;refine a7H (fun hE6 hf6=>?_);refine b9K T.mixed ?_;refine a0f 0 rfl rfl (by kernel_rfl) rfl (.cons₂ _ (.cons₂ _ (List.nil_sublist _))) rfl (a0H he rfl k1 rfl) ?_;refine a0f 1 rfl rfl (by kernel_rfl) rfl (.cons₂ _ (.cons₂ _ (List.nil_sublist _))) rfl (a0W he rfl (k2 0 _ rfl)) ?_;refine a0f 2 rfl rfl (by kernel_rfl) rfl (.cons₂ _ (.cons₂ _ (List.nil_sublist _))) rfl (a0W he rfl (k3 0 _ rfl)) ?_;refine a0i 3 (by kernel_rfl) rfl ?_;refine c0Y m0 (fun I2 hI hC=>d2h I2 vc c (hvc.le hI) hsc _ l (hv0.le hI) hl hsl _ ch (a7p hC hcl hl)) rfl rfl ?_;refine a0r (fun _ m=>m.keeps (.cons₂ _ (.cons₂ _ (List.nil_sublist _)))) ?_;refine a0f 4 rfl rfl (by kernel_rfl) rfl (.cons₂ _ (.cons₂ _ (List.nil_sublist _))) rfl (b8V rfl) ?_;refine a0f 5 rfl rfl (by kernel_rfl) rfl (.cons₂ _ (.cons₂ _ (List.nil_sublist _))) rfl (a0c rfl) ?_;refine sxb 35 rfl (fun h35 p35=>?_) (fun h35 p35=>?_)
    ·refine d_t 6 rfl rfl (by kernel_rfl) rfl (fun _ m=>m.keeps (.cons₂ _ (.cons₂ _ (List.nil_sublist _)))) (a3h rfl rfl h35) ?_;refine d_t 7 rfl rfl (by kernel_rfl) rfl (fun _ m=>m.keeps (.cons₂ _ (.cons₂ _ (List.nil_sublist _)))) (a3h rfl rfl h35) ?_;refine d_t 8 rfl rfl (by kernel_rfl) rfl (fun _ m=>m.keeps (.cons₂ _ (.cons₂ _ (List.nil_sublist _)))) (a3h rfl rfl h35) ?_;refine d_t 9 rfl rfl (by kernel_rfl) rfl (fun _ m=>m.keeps (.cons₂ _ (.cons₂ _ (List.nil_sublist _)))) (a3h rfl rfl h35) ?_;refine a0f 10 rfl rfl (by kernel_rfl) rfl (.cons₂ _ (.cons₂ _ (List.nil_sublist _))) rfl (b1y h35 rfl) ?_;refine a0f 11 rfl rfl (by kernel_rfl) rfl (.cons₂ _ (.cons₂ _ (List.nil_sublist _))) rfl (a0I rfl) ?_;refine a0w (by kernel_rfl) ?_;refine go 3 ?_;refine a0x rfl rfl ?_;refine a0g ?_;refine a0b ?_;exact a4Y (fun _ m=>m) ⟨true,done,_,rfl,rfl,hJt,fun _=>by rw[hr,b5y,if_neg (by simpa using h35),List.append_nil],fun h=>(by cases h)⟩
    ·refine d_t 6 rfl rfl (by kernel_rfl) rfl (fun _ m=>m.keeps (.cons₂ _ (.cons₂ _ (List.nil_sublist _)))) (a1L rfl rfl h35 (a0W he rfl (k4 0 _ rfl))) ?_;refine d_t 7 rfl rfl (by kernel_rfl) rfl (fun _ m=>m.keeps (.cons₂ _ (.cons₂ _ (List.nil_sublist _)))) (a1L rfl rfl h35 (a0W he rfl (k3 0 _ rfl))) ?_;refine a0i 8 (by kernel_rfl) rfl ?_;refine a0y rfl rfl h35 (c7E m0 (fun I2 hI hC=>c6D I2 _ ch (a7p hC hcl hl) (by omega)) rfl rfl (fun v38 s38 q38=>?_));obtain rfl:=q38;refine a0o (l:=ch) rfl rfl (a7X _) (fun I38 j38 R38=>?_)
     try have hvc:=hvc.le j38
     try have hv0:=hv0.le j38
     try have hA:=hA.le j38
     try have k1:=k1.le j38
     try have k2:=k2.le j38
     try have k3:=k3.le j38
     try have k4:=k4.le j38
     try have k5:=k5.le j38
     try have hJt:=hJt.le j38
     refine a0r (fun _ m=>m.keepsI (.cons₂ _ (.cons₂ _ (List.nil_sublist _))) (j38) hE6 hf6) ?_;refine a0i 9 (by kernel_rfl) rfl ?_;refine a0y rfl rfl h35 (b6W (ch) hY (hJm _ _ _ _ _ j38 hJt) (⟨_,rfl,R38⟩) (trivial) rfl rfl rfl (fun b39 I39 Hc39 j39 hJ39=>?_));refine a0r (fun _ m=>m.keepsI (.cons₂ _ (.cons₂ _ (List.nil_sublist _))) ((j38).trans j39) hE6 hf6) ?_;refine d_t 10 rfl rfl (by kernel_rfl) rfl (fun _ m=>m.keepsI (.cons₂ _ (.cons₂ _ (List.nil_sublist _))) ((j38).trans j39) hE6 hf6) (y_v rfl (b4q h35 rfl rfl)) ?_;refine d_t 11 rfl rfl (by kernel_rfl) rfl (fun _ m=>m.keepsI (.cons₂ _ (.cons₂ _ (List.nil_sublist _))) ((j38).trans j39) hE6 hf6) (y_v rfl (a0I rfl)) ?_;refine a0w (by kernel_rfl) ?_;refine go 3 ?_;refine a0x rfl rfl ?_;refine a0g ?_;refine a0b ?_;exact a4Y (fun _ m=>m) ⟨b39,done++[ch],_,rfl,rfl,hJ39,fun _=>by rw[hr,b5y,if_pos (by simpa using h35)],fun _=>by rw[hr,b5y,if_pos (by simpa using h35)];exact List.prefix_refl _⟩
   ·obtain⟨q0,q1,rfl⟩:=hm.more (by omega)
    have h1c:=h1c q0 q1 rfl
    obtain⟨hpl,rfl⟩:=hm.get
    have hop:=b6X hee (by omega)
    rw[if_pos h1c]at hop
    have hc5:=b5Z l[pr.length]
    refine go 3 ?_;refine b7T rfl rfl ?_;refine o_v rfl (a1a rfl rfl) ?_;refine go 1 ?_;refine d0r rfl rfl ?_;refine go 4 ?_;refine o_v rfl (a0W he rfl (k2 0 _ rfl)) ?_;refine go 1 ?_;obtain⟨b44,o44,w44,e44,c44,r44⟩:=RdA.at_ hA (i:=pr.length) (by omega);obtain⟨q44,rfl,S44,d44,rfl,hS44,hd44,hm44⟩:=r44;refine o_v rfl (a0n he rfl rfl e44 (pr.length) (by omega) (by omega)) ?_;refine o_v rfl (a0H he rfl c44 rfl) ?_;refine go 1 ?_;refine a0a (a4B _ l[pr.length] S44 d44 ⟨_,_,rfl,hS44,hd44,hm44⟩ (hsl _ (List.getElem_mem hpl))) rfl rfl ?_;refine go 4 ?_
    refine b1O ((0:Nat)) (ch) (done) (Hc) (I) (fun k cc dn Hq J2=>J2)
     (fun k cc dn Hq J2=>[(1,.pointer (some ⟨g1,0,none⟩)),(2,.pointer (some ⟨g2,0,none⟩)),(3,.pointer (some ⟨g3,0,none⟩)),(4,.pointer (some ⟨g4,0,none⟩)),(5,.pointer (some ⟨g5,0,none⟩)),(6,.pointer (some ⟨g6,0,none⟩)),(46,.int .i64 (chs l[pr.length])),(47,.int .i64 ((k:Nat):Int))])
     (fun k cc dn Hq J2=>.blk gc 3 (a3j cc) :: .blk g6 3 [.int .i64 ((pr.length:Nat):Int)]::Hq)
     (fun k cc dn Hq J2=>((k:Nat):Int)≤chs l[pr.length]∧(∃z,cc=ch.set pr.length z)∧ILe I J2∧J true dn J2 Hq∧dn=done++(List.range k).flatMap (fun (q:Nat)=>b2x c l (pr++[(q:Int)]) q1))
     (fun k cc dn Hq J2=>(chs l[pr.length]).toNat-k) ⟨by omega,⟨_,c4C (by omega)⟩,ILe.refl _,hJt,by simp⟩ rfl sb rfl ?_
    intro k cc dn Hq J2 ⟨hk,⟨z,hz⟩,hJ2,hJt2,hdn⟩;subst hz
    have hcz:(ch.set pr.length z).length=ch.length:=List.length_set
    have hvc:=hvc.le hJ2
    have hv0:=hv0.le hJ2
    have hA:=hA.le hJ2
    have k1:=k1.le hJ2
    have k2:=k2.le hJ2
    have k3:=k3.le hJ2
    have k4:=k4.le hJ2
    have k5:=k5.le hJ2
    refine go 6 ?_;refine cb rfl (fun h48 p48=>?_) (fun h48 p48=>?_)
    ·have hkk:((k:Nat):Int)<chs l[pr.length]:=by omega
     refine go 12 ?_;refine o_v rfl (a0W he rfl (k3 0 _ rfl)) ?_;refine go 2 ?_;refine o_v rfl (a0n he rfl rfl rfl (pr.length) (by omega) (by omega)) ?_;refine go 1 ?_;refine a3r he rfl rfl rfl (by rw[a9G,Nat.blt_eq];omega) ?_;refine a2K (a3j ((pr++[((k:Nat):Int)])++a3a q1)) (by rw[Nat.zero_add,Nat.mul_one];show (a3j _).set _ (ci _)=_;rw[a9H,List.set_set,a7x hee]) ?_;refine go 4 ?_;refine o_v rfl (a0W he rfl (k5 0 _ rfl)) ?_;refine go 1 ?_;refine o_v rfl (OV.cast (u:=.int .i64 (((pr++[((k:Nat):Int)]).length:Nat):Int)) (a2c rfl rfl ⟨by omega,by omega⟩) (congrArg (Value.int .i64) (by simp))) ?_;refine go 1 ?_;refine a0g ?_;refine c7C (ih J2 hJ2 (pr++[((k:Nat):Int)]) q1 (by simp at hle;omega) (hm.next (by omega) hkk) dn Hq hJt2) rfl rfl (fun v57 I57 H57 j57 q57=>?_)
     try have hvc:=hvc.le j57
     try have hv0:=hv0.le j57
     try have hA:=hA.le j57
     try have k1:=k1.le j57
     try have k2:=k2.le j57
     try have k3:=k3.le j57
     try have k4:=k4.le j57
     try have k5:=k5.le j57
     obtain⟨b57,dn2,Hd,rfl,rfl,hJt3,hbt,hbf⟩:=q57;refine go 3 ?_;refine cb rfl (fun h58 p58=>?_) (fun h58 p58=>?_)
     ·have hb:b57=false:=by simpa using h58
      refine go 11 ?_;refine a0g ?_;refine b7j (Hc:=[_,_]) Tryz.call195 (c5F _ g3 g6 gc l.length k3 ((pr++[((k:Nat):Int)])++a3a q1) pr.length (by rw[←a7x hee,List.length_set];omega) (by rw[←a7x hee,List.length_set];omega)) (fun I7 H7 j7 q7=>?_);obtain⟨rfl,rfl⟩:=q7;refine b7z ?_;refine a0x rfl rfl ?_;refine a0g ?_;refine a0b ?_;refine a2K (a3j ch) (by rw[←a7x hee,b7t (by omega) hop]) ?_;exact a4Y (fun _ m=>m) ⟨false,dn2,Hd,rfl,rfl,hb▸hJt3,fun h=>(by cases h),fun _=>by rw[hr,b2y];exact c3n (fun (q:Nat)=>b2x c l (pr++[(q:Int)]) q1) done (k:=k) (by omega) (by have:=hbf hb;rwa[hdn]at this)⟩
     ·have hb:b57=true:=by simpa using h58
      refine go 8 ?_;refine a0g ?_;exact a6P (k+1) (_) (_) (_) (_) ⟨by omega,⟨_,(a7x hee _).symm⟩,hJ2.trans j57,hb▸hJt3,by rw[hbt hb,hdn];exact c0d _ _ _⟩ (by omega) rfl sb rfl
    ·refine go 11 ?_;refine a0g ?_;refine a0g ?_;refine b7j (Hc:=[_,_]) Tryz.call195 (c5F _ g3 g6 gc l.length k3 (ch.set pr.length z) pr.length (by omega) (by omega)) (fun I7 H7 j7 q7=>?_);obtain⟨rfl,rfl⟩:=q7;refine b7z ?_;refine a0x rfl rfl ?_;refine a0g ?_;refine a0b ?_;refine a2K (a3j ch) (by rw[b7t (by omega) hop]) ?_;exact a4Y (fun _ m=>m) ⟨true,dn,Hq,rfl,rfl,hJt2,fun _=>by rw[hr,b2y,hdn,show (chs l[pr.length]).toNat=k by omega],fun h=>(by cases h)⟩
end Go.Proofs.YtdapmfkbpnjkmaaGreat
set_option linter.all false
namespace Go.Sx
open Go
section
variable {c:List Kind} {l:List Rep}
theorem b7L {most:Int} (h:(a3z c l most).2≠0):(a3z c l most).1=[]:=by
 unfold a3z at h ⊢
 split
 ·rfl
 ·rename_i h1
  split
  ·rfl
  ·rename_i h2
   rw[if_neg h1,if_neg h2]at h
   split
   ·rfl
   ·rename_i h3;rw[if_neg h3]at h;exact absurd rfl h
theorem b9g {most:Int} (h1:1≤most) (h2:most≤4096) (h:(a3z c l most).2=0):a7U c l=0∧a2O c l≠[]∧(a3z c l most).1=(a2O c l).take most.toNat:=by
 rw[b1H h1 h2]at h
 by_cases he:a7U c l=0
 ·rw[if_neg (show ¬(a7U c l≠0) by simp[he])]at h
  refine⟨he,fun hn=>?_,c2v h1 h2 he⟩;rw[if_pos hn]at h;cases h
 ·rw[if_pos he]at h;exact absurd h he
theorem b4B {a b:Int} (ha:1≤a∧a≤4096) (hb:1≤b∧b≤4096):(a3z c l a).2=(a3z c l b).2:=by
 rw[b1H ha.1 ha.2,b1H hb.1 hb.2]
theorem b7S {a b:Int} (ha:1≤a∧a≤4096) (hb:1≤b∧b≤4096) (hab:a≤b):(a3z c l a).1=(a3z c l b).1.take (a3z c l a).1.length∧(a3z c l a).1.length≤(a3z c l b).1.length∧((a3z c l a).1.length:Int)≤a∧((a3z c l a).1.length=(a3z c l b).1.length∨((a3z c l a).1.length:Int)=a∨(a3z c l a).2≠0):=by
 have hc:=b4B (c:=c) (l:=l) ha hb
 by_cases h:(a3z c l a).2=0
 ·obtain⟨_,_,e1⟩:=b9g ha.1 ha.2 h;obtain⟨_,_,e2⟩:=b9g hb.1 hb.2 (by rw[←hc];exact h);rw[e1,e2]
  have hm:a.toNat≤b.toNat:=by omega
  refine⟨?_,?_,?_,?_⟩
  ·rw[List.take_take,List.length_take]
   rcases Nat.le_total a.toNat (a2O c l).length with h1|h1
   ·rw[Nat.min_eq_left h1,Nat.min_eq_left hm]
   ·rw[Nat.min_eq_right h1,List.take_of_length_le h1,List.take_of_length_le (by omega)]
  ·rw[List.length_take,List.length_take];omega
  ·rw[List.length_take];omega
  ·rw[List.length_take,List.length_take];omega
 ·rw[b7L h];exact⟨by simp,by simp,by simp;omega,.inr (.inr h)⟩
theorem b1I:∀{l:List Rep},(∀r∈l,chs r=1)→a2d l=[List.replicate l.length 0]
 | [],_=>rfl
 |r::l,h=>by
  rw[a2d,h r (by simp),b1I fun x hx=>h x (by simp[hx])]
  simp[List.replicate_succ]
end
end Go.Sx
namespace Go.Proofs.YtdapmfkbpnjkmaaGreat
open Go Go.Sx
set_option linter.all false
set_option maxRecDepth 20000
set_option maxHeartbeats 4000000
instance T.by_65:Has (a2y Tryz.prog 65) ([.slice none 0 0],1,24):=⟨by kernel_rfl⟩
instance T.elt_112:Has (a8D Tryz.prog 112) (65,1):=⟨by kernel_rfl⟩
instance T.ty_112:Has (tyK Tryz.prog 112) (false,1):=⟨by kernel_rfl⟩
instance T.und_112:Has (Tryz.prog.underlying 112) (.slice 65):=⟨by kernel_rfl⟩
instance T.zero_112:Has (a1Z Tryz.prog 112) [.slice none 0 0]:=⟨by kernel_rfl⟩
instance T.zero_257:Has (a1Z Tryz.prog 257) [.nilFunc]:=⟨by kernel_rfl⟩
instance T.zero_65:Has (a1Z Tryz.prog 65) [.slice none 0 0]:=⟨by kernel_rfl⟩
theorem c8j (I:IMap) (g1 g2 g3 g4 g5 gc:Nat) (vc:Value) (c:List Kind) (hvc:RdS I vc c) (hsc:SmC c) (l:List Rep) (A:Option Addr) (c0:Nat) (hv:RdS I (.slice A l.length c0) l) (hl:l.length≤1000000) (hsl:∀r∈l,∀e∈r.options,SmE e) (ly:Nat) (J:Bool→List (List Int)→IMap→List Res→Prop) (hJm:c2q J) (hY:a6B Tryz.prog ly (fun I vs (x:List Int)=>∃v,vs=[v]∧RdS I v x) (fun _ _=>True) J) (k1:ICells I g1 0 [vc]) (k2:ICells I g2 0 [.slice A l.length c0]) (k3:ICells I g3 0 [.slice (some ⟨gc,0,none⟩) l.length l.length]) (k4:ICells I g4 0 [.func (.yield ly) #[] #[]]) (k5:ICells I g5 0 [.func (.func 191) #[] #[.pointer (some ⟨g1,0,none⟩),.pointer (some ⟨g2,0,none⟩),.pointer (some ⟨g3,0,none⟩),.pointer (some ⟨g4,0,none⟩),.pointer (some ⟨g5,0,none⟩)]]) (n:Nat):∀(I2:IMap),ILe I I2→∀(rs:List Rep),rs.length<n→∀(pre:List Int),Mid c l pre rs→∀(dn:List (List Int)) (Hq:List Res),J true dn I2 Hq →
    FnH Tryz.prog 191 #[.int .i64 ((pre.length:Nat):Int),.pointer (some ⟨g1,0,none⟩),.pointer (some ⟨g2,0,none⟩),.pointer (some ⟨g3,0,none⟩),.pointer (some ⟨g4,0,none⟩),.pointer (some ⟨g5,0,none⟩)] I2 (.blk gc 3 (a3j (pre++a3a rs))::Hq) (b1C c l J gc 3 (pre++a3a rs) pre rs dn):=by
 induction n with
 |zero=>intro _ _ rs h;exact absurd h (Nat.not_lt_zero _)
 |succ n ih=>
  intro I2 hI rs hrs pre hm dn Hq hJ;exact d0B I2 g1 g2 g3 g4 g5 gc vc c (hvc.le hI) hsc l A c0 (hv.le hI) hl hsl ly J hJm hY (k1.le hI) (k2.le hI) (k3.le hI) (k4.le hI) (k5.le hI) rs (fun I3 hI3 pr rr hlt hm3 dn3 Hq3 hJ3=>ih I3 (hI.trans hI3) rr (by omega) pr hm3 dn3 Hq3 hJ3) pre hm _ rfl dn Hq hJ
theorem c9H (I:IMap) (vc:Value) (c:List Kind) (hvc:RdS I vc c) (hsc:SmC c) (A:Option Addr) (c0:Nat) (l:List Rep) (hv:RdS I (.slice A l.length c0) l) (hl:l.length≤1000000) (hsl:∀r∈l,∀e∈r.options,SmE e) (hC:a0Y c=true) (hP:∀r∈l,chs r≠0) (gl gv:Nat) (k2:ICells I gl 0 [.slice A l.length c0]) (k1:ICells I gv 0 [vc]) :
    d0Y Tryz.prog 190 [.pointer (some ⟨gl,0,none⟩),.pointer (some ⟨gv,0,none⟩)] I (fun I vs (x:List Int)=>∃v,vs=[v]∧RdS I v x) (fun _ _=>True) (fun pre=>pre=a2O c l) (fun pre=>pre <+: a2O c l):=by
 intro ly J I1 Hc hI1 hJm hY hJ0
 have hvc:=hvc.le hI1
 have hv:=hv.le hI1
 have hA:=hv.toA
 have k1:=k1.le hI1
 have k2:=k2.le hI1
 refine enter Tryz.func190 Tryz.call190 rfl Tryz.ntmps190 rfl (fun w0=>?_);refine go 3 ?_;refine a0B _ rfl rfl rfl (fun g3=>?_);refine go 4 ?_;refine o_v rfl (a0W he rfl (k2 0 _ rfl)) ?_;refine go 2 ?_;refine a4H he he rfl rfl rfl (by omega) (by omega) rfl (fun g10=>?_);refine go 1 ?_;refine a0h he rfl (fun g4=>?_);refine go 1 ?_;refine a0m _ he rfl rfl rfl rfl rfl rfl ?_;refine go 5 ?_;refine a0g ?_;refine a2K (a3j (a4h l 0)) ((b3n l.length).trans (by simp[a4h,a3a])) ?_;refine o_v rfl (a0W he rfl (k2 0 _ rfl)) ?_;refine go 5 ?_
 refine a0L (α:=Nat) 0 (fun i=>I1)
  (fun i=>[(1,.pointer (some ⟨gl,0,none⟩)),(2,.pointer (some ⟨gv,0,none⟩)),(3,.pointer (some ⟨g3,0,none⟩)),(4,.pointer (some ⟨g4,0,none⟩)),(11,.slice A l.length c0),(12,.int .i64 ((l.length:Nat):Int)),(13,.int .i64 ((i:Nat):Int))])
  (fun i=>.blk g10 3 (a3j (a4h l i)) :: .blk g4 65 [.slice (some ⟨g10,0,none⟩) l.length l.length] :: .blk g3 256 [.func (.yield ly) #[] #[]]::Hc)
  (fun i=>i≤l.length)
  (fun i=>l.length-i) (Nat.zero_le _) rfl sb rfl ?_
 intro i hi
 have hol:=b8z l hi
 refine go 6 ?_;refine cb rfl (fun h14 p14=>?_) (fun h14 p14=>?_)
 ·have hlt:i<l.length:=by omega
  refine go 7 ?_;obtain⟨b16,o16,w16,e16,c16,r16⟩:=RdA.at_ hA (i:=i) (by omega);obtain⟨q16,rfl,S16,d16,rfl,hS16,hd16,hm16⟩:=r16;refine o_v rfl (a0n he rfl rfl e16 (i) (by omega) (by omega)) ?_;refine o_v rfl (a0H he rfl c16 rfl) ?_;refine go 1 ?_;refine a0h he rfl (fun g6=>?_);refine go 2 ?_;refine a0m _ he rfl rfl rfl rfl rfl rfl ?_;refine go 6 ?_;refine a0a (a4B _ l[i] S16 d16 ⟨_,_,rfl,hS16,hd16,hm16⟩ (hsl _ (List.getElem_mem hlt))) rfl rfl ?_;refine go 3 ?_;refine cb rfl (fun h20 p20=>?_) (fun h20 p20=>?_)
  ·refine go 3 ?_;refine o_v rfl (a0n he rfl rfl rfl (i) (by omega) (by omega)) ?_;refine go 1 ?_;refine a0g ?_;refine a3r he rfl rfl rfl (by rw[a9G,Nat.blt_eq];omega) ?_;refine a2K (a3j ((a4h l i).set i (-1))) (by rw[Nat.zero_add,Nat.mul_one,a9H]) ?_;refine go 8 ?_;refine a0g ?_;refine a0b ?_;exact a0J (i+1) (by omega) (by omega) rfl sb (by rw[a9R hlt,if_pos (by omega)])
  ·refine go 8 ?_;refine a0b ?_;exact a0J (i+1) (by omega) (by omega) rfl sb (by rw[a9R hlt,if_neg (by omega)])
 ·obtain rfl:i=l.length:=by omega
  rw[b5o];refine go 8 ?_;refine a0h he rfl (fun g7=>?_);refine go 4 ?_;refine o_v rfl (a1a rfl rfl) ?_;refine go 1 ?_;refine a0m _ he rfl rfl rfl rfl rfl rfl ?_;refine go 3 ?_;refine a1k ?_;refine a2f (fun Ig3 jg3 cg3=>?_)
  have hvc:=hvc.le jg3
  have hv:=hv.le jg3
  have k1:=k1.le jg3
  have k2:=k2.le jg3
  have hJ0:=hJm _ _ _ _ _ jg3 hJ0
  refine a0u ?_;refine a2f (fun Ig4 jg4 cg4=>?_)
  have hvc:=hvc.le jg4
  have hv:=hv.le jg4
  have k1:=k1.le jg4
  have k2:=k2.le jg4
  have cg3:=cg3.le jg4
  have hJ0:=hJm _ _ _ _ _ jg4 hJ0
  refine a2f (fun Ig7 jg7 cg7=>?_)
  have hvc:=hvc.le jg7
  have hv:=hv.le jg7
  have k1:=k1.le jg7
  have k2:=k2.le jg7
  have cg3:=cg3.le jg7
  have cg4:=cg4.le jg7
  have hJ0:=hJm _ _ _ _ _ jg7 hJ0
  refine o_v rfl (a0W he rfl (cg7 0 _ rfl)) ?_;refine go 1 ?_;refine c0W (c8j _ gv gl g4 g3 g7 g10 vc c hvc hsc l A c0 hv hl hsl ly J hJm hY k1 k2 cg4 cg3 cg7 (l.length+1) _ (ILe.refl _) l (Nat.lt_succ_self _) [] (c0O hC hP) [] Hc hJ0) rfl rfl (fun v27 I27 H27 j27 q27=>?_);obtain⟨b27,dn,Hd,rfl,rfl,hJd,hbt,hbf⟩:=q27;refine go 1 ?_;refine a4y rfl ?_;refine a0b ?_;rw[c3t]
  exact c8N b27 _ hJd (by cases b27 with
    |false=>exact hbf rfl
    |true=>exact hbt rfl)
theorem b5F (I:IMap) (A:Option Addr) (m k:Nat) (vc:Value) :
    FnI Tryz.prog 120 #[.agg #[vc],.slice A m k] I (fun u J=>∃gl gv,u = .func (.func 190) #[] #[.pointer (some ⟨gl,0,none⟩),.pointer (some ⟨gv,0,none⟩)]∧ICells J gl 0 [.slice A m k]∧ICells J gv 0 [vc]):=by
 refine enter Tryz.func120 Tryz.call120 rfl Tryz.ntmps120 rfl (fun w0=>?_);refine go 3 ?_;refine a0B _ rfl rfl rfl (fun g2=>?_);refine go 1 ?_;refine a0B _ rfl rfl rfl (fun g3=>?_);refine go 5 ?_;refine a2f (fun Ig3 jg3 cg3=>?_);refine a2f (fun Ig2 jg2 cg2=>?_)
 have cg3:=(cg3).le jg2
 refine o_v rfl (a1a rfl rfl) ?_;refine go 4 ?_;refine a0x rfl rfl ?_;exact q_i ⟨_,_,rfl,cg3,cg2⟩
theorem d1U (I:IMap) (vc:Value) (c:List Kind) (hvc:RdS I vc c) (hsc:SmC c) (v:Value) (l:List Rep) (hv:RdS I v l) (hl:l.length≤1000000) (hsl:∀r∈l,∀e∈r.options,SmE e) (most:Int) :
    FnI Tryz.prog 65 #[.agg #[vc],v,.int .i64 most] I (fun u J=>∃w,u = .tuple #[w,.int .i64 (a3z c l most).2]∧RdS J w (a3z c l most).1):=by
 have hv0:=hv
 obtain⟨A,c0,rfl,hA,hc,hm⟩:=hv;refine enter Tryz.func65 Tryz.call65 rfl Tryz.ntmps65 rfl (fun w0=>?_);refine go 3 ?_;refine a0B _ rfl rfl rfl (fun g3=>?_);refine go 1 ?_;refine a0B _ rfl rfl rfl (fun g5=>?_);refine go 10 ?_;refine sxb 13 rfl (fun h13 p13=>?_) (fun h13 p13=>?_)
 ·refine go 5 ?_;refine a3c rfl ?_;refine go 8 ?_;refine a2D rfl rfl rfl ?_
  have hr:a3z c l most=([],1):=by unfold a3z;rw[if_pos (by simp;omega)]
  exact q_i ⟨_,by rw[hr],by rw[hr];exact RdS.nil'⟩
 ·refine go 5 ?_;refine cb rfl (fun h16 p16=>?_) (fun h16 p16=>?_)
  ·refine go 8 ?_;refine a2D rfl rfl rfl ?_
   have hr:a3z c l most=([],1):=by unfold a3z;rw[if_pos (by simp;omega)]
   exact q_i ⟨_,by rw[hr],by rw[hr];exact RdS.nil'⟩
  ·have hb2:1≤most∧most≤4096:=by omega
   have hb:¬(decide (most<1)||decide (4096<most))=true:=by simp;omega
   refine go 8 ?_;refine a0a (c1x _ vc c hvc hsc _ l hv0 hl hsl) rfl rfl ?_;refine go 9 ?_;refine cb rfl (fun h21 p21=>?_) (fun h21 p21=>?_)
   ·refine go 9 ?_;refine a2D rfl rfl rfl ?_
    have hr:a3z c l most=([],a7U c l):=by unfold a3z;rw[if_neg hb,if_pos p21]
    exact q_i ⟨_,by rw[hr],by rw[hr];exact RdS.nil'⟩
   ·have her:a7U c l=0:=by simpa using h21
    obtain⟨hC,hP⟩:=c2X her;refine go 5 ?_;refine a0h he rfl (fun g9=>?_);refine go 6 ?_;refine a1s 65 1 ?_;refine go 2 ?_;refine a0F (b5F _ A _ c0 vc) rfl rfl (fun v25 I25 j25 q25=>?_)
    have hvc:=hvc.le j25
    have hv0:=hv0.le j25
    obtain⟨gl,gv,rfl,k2,k1⟩:=q25;refine go 3 ?_;refine a0u ?_;refine a0u ?_;refine a0u ?_;refine b1P (σ:=Option Addr×Nat×List Value) (ps:=[26]) (none,0,[]) (fun ⟨A9,c9,xs⟩=>[.row (.slice A9 xs.length c9) 65 1 xs.length xs,.blk g9 112 [.slice A9 xs.length c9],.blk g5 3 [.int .i64 most]]) (fun pre I ⟨A9,c9,xs⟩=>Flat I xs pre∧(pre.length:Int)<most) (fun pre I ⟨A9,c9,xs⟩ cd=>cd = .exit 0∧Flat I xs pre∧(pre.length:Int)=most) rfl Tryz.call190 (c9H _ vc c hvc hsc A c0 l hv0 hl hsl hC hP gl gv k2 k1) (fun I vs x h=>by obtain⟨w,rfl,_⟩:=h;rfl) rfl (fun pre I I' s hI h=>by obtain⟨A9,c9,xs⟩:=s;exact⟨h.1.le hI,h.2⟩) (fun pre I I' s c hI h=>by obtain⟨A9,c9,xs⟩:=s;exact⟨h.1,h.2.1.le hI,h.2.2⟩) (⟨.nil,by simp;omega⟩) rfl ?_ ?_ ?_
    ·rintro r E1 pre x vs I1 ⟨A9,c9,xs⟩ hI1 ⟨hF,hlt⟩ ⟨w,rfl,hw⟩ _
     have hw0:=hw
     obtain⟨B,cB,rfl,_,_,_⟩:=hw
     have hxl:xs.length=pre.length:=hF.len.trans (Nat.mul_one _)
     refine c8v ?_;refine go 3 ?_;refine b2u ?_;refine go 6 ?_;refine a0e he he rfl rfl rfl rfl rfl rfl rfl (fun v29=>?_);refine go 1 ?_;refine a1k ?_;refine a1r he he rfl rfl rfl rfl rfl (by omega) (by omega) rfl (fun v30=>?_);refine a4O (fun A30 c30 hv30=>?_);subst hv30;refine go 1 ?_;refine a1o ?_;refine a0m _ he rfl rfl rfl rfl rfl rfl ?_;refine go 10 ?_;refine cb rfl (fun h34 p34=>?_) (fun h34 p34=>?_)
     ·refine go 2 ?_;refine a0u ?_;refine a0b ?_;refine a1o ?_;refine a0g ?_;refine a0u ?_;refine a1o ?_;refine a1o ?_;exact d0t ((A30,c30,xs++[.slice B x.length cB])) (hI1) (⟨rfl,hF.append (.one ⟨_,rfl,hw0⟩),by simp only[List.length_append,List.length_singleton];omega⟩) (by simp only[List.length_append,List.length_singleton];rfl)
     ·refine go 2 ?_;refine a0u ?_;refine a0b ?_;refine a1o ?_;refine a0g ?_;refine a0u ?_;refine a1o ?_;refine a1o ?_;exact b1l ((A30,c30,xs++[.slice B x.length cB])) (hI1) (⟨hF.append (.one ⟨_,rfl,hw0⟩),by simp only[List.length_append,List.length_singleton]at *;omega⟩) (by simp only[List.length_append,List.length_singleton];rfl)
    ·rintro D pre I1 ⟨A9,c9,xs⟩ hI1 hfull ⟨hF,hlt⟩
     have hxl:xs.length=pre.length:=hF.len.trans (Nat.mul_one _)
     have hpre:pre=(a2O c l).take most.toNat:=by rw[←hfull,List.take_of_length_le (by omega)]
     refine c1H ?_;refine go 10 ?_;refine cb rfl (fun h37 p37=>?_) (fun h37 p37=>?_)
     ·refine go 8 ?_;refine a7z ?_;refine a2D rfl rfl rfl ?_
      have hr:a3z c l most=([],21):=by unfold a3z;rw[if_neg hb,if_neg (by simpa using her),if_pos (by rw[←hpre];exact List.eq_nil_of_length_eq_zero (by omega))]
      exact q_i ⟨_,by rw[hr],by rw[hr];exact RdS.nil'⟩
     ·refine go 4 ?_;refine a0g ?_;refine a0o (l:=pre) rfl hxl (hF) (fun Ip jp Rp=>?_);refine go 6 ?_;refine a7z ?_;refine a2D rfl rfl rfl ?_
      have hr:a3z c l most=(pre,0):=by unfold a3z;rw[if_neg hb,if_neg (by simpa using her),←hpre,if_neg (fun e=>by rw[e,List.length_nil]at hxl;omega)]
      exact q_i ⟨_,by rw[hr],by rw[hr];exact Rp⟩
    ·rintro D pre I1 ⟨A9,c9,xs⟩ cd hI1 hpart ⟨rfl,hF,heq⟩
     have hxl:xs.length=pre.length:=hF.len.trans (Nat.mul_one _)
     have hpre:pre=(a2O c l).take most.toNat:=by rw[show most.toNat=pre.length by omega];exact List.prefix_iff_eq_take.1 hpart
     refine c1H ?_;refine go 11 ?_;refine cb rfl (fun h37 p37=>?_) (fun h37 p37=>?_)
     ·refine go 8 ?_;refine a7z ?_;refine a2D rfl rfl rfl ?_
      have hr:a3z c l most=([],21):=by unfold a3z;rw[if_neg hb,if_neg (by simpa using her),if_pos (by rw[←hpre];exact List.eq_nil_of_length_eq_zero (by omega))]
      exact q_i ⟨_,by rw[hr],by rw[hr];exact RdS.nil'⟩
     ·refine go 4 ?_;refine a0g ?_;refine a0o (l:=pre) rfl hxl (hF) (fun Ip jp Rp=>?_);refine go 6 ?_;refine a7z ?_;refine a2D rfl rfl rfl ?_
      have hr:a3z c l most=(pre,0):=by unfold a3z;rw[if_neg hb,if_neg (by simpa using her),←hpre,if_neg (fun e=>by rw[e,List.length_nil]at hxl;omega)]
      exact q_i ⟨_,by rw[hr],by rw[hr];exact Rp⟩
end Go.Proofs.YtdapmfkbpnjkmaaGreat
set_option linter.all false
namespace Go.Sx
open Go
section
variable {P:Program} {n:Sz} {E:Ent} {I:IMap} {L:LL} {H:List Res} {d ty t1 t2:Nat} {pos:String} {af:Array Edge} {x y:Operand} {a b:Int}
theorem c8F (hx:ev L x=some (.int .i64 a)) (hy:ev L y=some (.int .i64 b)):OV P n E I L H ⟨some d,.call { callee:=.builtin .max,args:=#[x,y],argTypes:=#[t1,t2] },ty,pos,af,none⟩ (.int .i64 (if b>a then b else a)):=
 (fun a w st _=>by simp[execOp,st.ev hx,st.ev hy,resolve,invoke,builtin,Builtin.max_,Builtin.max2])
theorem d0M (hx:ev L x=some (.int .i64 a)) (hy:ev L y=some (.int .i64 b)):OV P n E I L H ⟨some d,.call { callee:=.builtin .min,args:=#[x,y],argTypes:=#[t1,t2] },ty,pos,af,none⟩ (.int .i64 (if b<a then b else a)):=
 (fun a w st _=>by simp[execOp,st.ev hx,st.ev hy,resolve,invoke,builtin,Builtin.min_,Builtin.min2])
end
def a5z (most:Int):Nat→List Rep→Nat
 |n,[]=>n
 |n,r::rs=>if ((n:Nat):Int)≤most then a5z most (n * max 1 (chs r).toNat) rs else n
theorem c2i {most:Int} {l:List Rep} {i n:Nat} (h:i<l.length) (hn:((n:Nat):Int)≤most):a5z most n (l.drop i)=a5z most (n * max 1 (chs l[i]).toNat) (l.drop (i+1)):=by
 rw[List.drop_eq_getElem_cons h,a5z,if_pos hn]
theorem c4X {most:Int} {n:Nat} (hn:¬((n:Nat):Int)≤most):∀l:List Rep,a5z most n l=n
 | []=>rfl
 |r::l=>by rw[a5z,if_neg hn]
theorem c2h {most:Int}:∀(l:List Rep) (n:Nat),((a5z most n l:Nat):Int)≤most→((n * b0n l:Nat):Int)≤most
 | [],n,h=>by simpa[a5z,b0n]using h
 |r::l,n,h=>by
  rw[a5z]at h
  split at h
  ·have h1:=c2h l _ h
   have h2:n * b0n (r::l)≤n * max 1 (chs r).toNat * b0n l:=by
    rw[b0n,←Nat.mul_assoc];exact Nat.mul_le_mul_right _ (Nat.mul_le_mul_left _ (Nat.le_max_right _ _))
   omega
  ·rename_i h1;exact absurd h h1
def b8e (l:List Rep) (n:Int):Bool:=c5q l 12&&decide (((a5z n 1 l:Nat):Int)≤n)
theorem c3b {l:List Rep} {n:Int} (h:b8e l n=true):c5q l 12=true∧((b0n l:Nat):Int)≤n:=by
 simp only[b8e,Bool.and_eq_true,decide_eq_true_eq]at h
 refine⟨h.1,?_⟩
 have:=c2h l 1 h.2
 rwa[Nat.one_mul]at this
end Go.Sx
set_option linter.all false
namespace Go.Sx
open Go
section
variable {P:Program} {ρ:Option Nat} {n:Sz} {E:Ent} {I:IMap} {L:LL} {H:List Res} {Q:Exit→Act→World→Prop} {ops:Array Oper} {K:Act→World→Prop}
variable {α:Type} [Enc α] {d ty:Nat} {pos:String} {af:Array Edge} {x y:Operand}
theorem Flat.rda {I:IMap} {g:Nat} {ws:List Value} {l:List α} (hF:Flat I ws l) (hc:ICells I g 0 ws):RdA I (some ⟨g,0,none⟩) l:=fun _=>
 ⟨g,0,rfl,fun i x hi=>by
  obtain⟨vs,h1,h2⟩:=hF.at_ i x hi;refine⟨vs,fun j u hu=>?_,h1⟩
  have h3:=hc _ _ (h2 j u hu)
  rw[Nat.zero_add]at h3
  rw[Nat.zero_add]
  exact h3⟩
end
end Go.Sx
namespace Go.Proofs.YtdapmfkbpnjkmaaGreat
open Go Go.Sx
set_option linter.all false
set_option maxRecDepth 20000
set_option maxHeartbeats 4000000
theorem c1o (I:IMap) (v:Value) (l:List Rep) (hv:RdS I v l) (hl:l.length≤1000000) (hsl:∀r∈l,∀e∈r.options,SmE e) (most:Int) (hmo:most≤4096) :
    FnV Tryz.prog 105 #[v,.int .i64 most] I (.int .i64 ((a5z most 1 l:Nat):Int)):=by
 obtain⟨A,c0,rfl,hA,hc,hm⟩:=hv;refine enter Tryz.func105 Tryz.call105 rfl Tryz.ntmps105 rfl (fun w0=>?_);refine go 17 ?_
 refine a1w (0) (1) (fun i n=>I)
  (fun i n=>[(0,.slice A l.length c0),(1,.int .i64 most),(5,.int .i64 ((n:Nat):Int)),(6,.int .i64 ((i:Nat):Int))])
  (fun i n=>[])
  (fun i n=>i≤l.length∧n≤1000000∧a5z most 1 l=a5z most n (l.drop i))
  (fun i n=>l.length-i) ⟨Nat.zero_le _,by omega,rfl⟩ rfl sb rfl ?_
 intro i n ⟨hi,hn,hw⟩;refine go 8 ?_;refine sxb 11 rfl (fun h11 p11=>?_) (fun h11 p11=>?_)
 ·refine go 6 ?_;refine cb rfl (fun h15 p15=>?_) (fun h15 p15=>?_)
  ·have hlt:i<l.length:=by omega
   have hnm:((n:Nat):Int)≤most:=by omega
   have hc5:=b5Z l[i]
   have hcn:=b6a l[i]
   have hpn:n * max 1 (chs l[i]).toNat≤4096 * 5:=Nat.mul_le_mul (by omega) (by omega)
   have hpi:(n:Int) * ((max 1 (chs l[i]).toNat:Nat):Int)=((n * max 1 (chs l[i]).toNat:Nat):Int):=(Int.natCast_mul _ _).symm
   generalize hmx:max 1 (chs l[i]).toNat=mx at hpn hpi
   refine go 8 ?_;obtain⟨b21,o21,w21,e21,c21,r21⟩:=RdA.at_ hA (i:=i) (by omega);obtain⟨q21,rfl,S21,d21,rfl,hS21,hd21,hm21⟩:=r21;refine o_v rfl (a0n he rfl rfl e21 (i) (by omega) (by omega)) ?_;refine o_v rfl (a0H he rfl c21 rfl) ?_;refine go 1 ?_;refine a0a (b3X _ l[i] S21 d21 ⟨_,_,rfl,hS21,hd21,hm21⟩ (hsl _ (List.getElem_mem hlt))) rfl rfl ?_;refine o_v rfl (OV.cast (u:=.int .i64 ((mx:Nat):Int)) (c8F rfl rfl) (congrArg (Value.int .i64) (by split<;>omega))) ?_;refine o_v rfl (OV.cast (u:=.int .i64 ((n * mx:Nat):Int)) (b4o rfl rfl ⟨by omega,by omega⟩) (congrArg (Value.int .i64) (by rw[hpi]))) ?_;refine go 10 ?_;exact a0M (i+1) (n * mx) ⟨by omega,by omega,by rw[hw,c2i hlt (by omega),hmx]⟩ (by omega) rfl sb rfl
  ·refine go 12 ?_;refine a0x rfl rfl ?_;exact q_v (congrArg (Value.int .i64) (by rw[hw,c4X (by omega)]))
 ·refine go 6 ?_;refine a0P rfl ?_;refine go 12 ?_;refine a0x rfl rfl ?_;obtain rfl:i=l.length:=by omega
  exact q_v (congrArg (Value.int .i64) (by rw[hw,List.drop_length];rfl))
theorem c4p (I:IMap) (v:Value) (l:List Rep) (hv:RdS I v l) (most:Int) (hmo:most≤4096) :
    FnV Tryz.prog 52 #[v,.int .i64 most] I (.bool (b8e l most)):=by
 refine enter Tryz.func52 Tryz.call52 rfl Tryz.ntmps52 rfl (fun w0=>?_);refine go 9 ?_;refine a0a (c4n _ v l hv 12) rfl rfl ?_;refine go 1 ?_;refine sxb 7 rfl (fun h7 p7=>?_) (fun h7 p7=>?_)
 ·refine go 3 ?_;refine a0y rfl rfl h7 (a0a (c1o _ v l hv (by have:=(b4T h7).2;omega) (b4T h7).1 most hmo) rfl rfl ?_);refine go 7 ?_;refine a0x rfl rfl ?_;exact q_v (congrArg Value.bool (by simp only[b8e,h7,bS]))
 ·refine go 10 ?_;refine a0x rfl rfl ?_;exact q_v (congrArg Value.bool (by simp only[b8e,h7,bS]))
end Go.Proofs.YtdapmfkbpnjkmaaGreat
set_option linter.all false
namespace Go.Sx
open Go
def d2f (l:List Rep) (ch:List Int):Bool:=decide (((l.length:Nat):Int)=(ch.length:Nat))&&a7N okK l ch l.length
theorem b1j (l:List Rep) (ch:List Int):a1i l ch=if d2f l ch=true then (a1Q l ch l.length,0) else ([],1):=rfl
theorem c9C {l:List Rep} {ch:List Int} {n:Nat} {e:Evt} (hsl:∀r∈l,∀e∈r.options,SmE e) (h:e∈a1Q l ch n):SmE e:=by
 rw[a1Q,List.mem_filterMap]at h
 obtain⟨i,_,h⟩:=h;unfold c5o at2 at h
 split at h
 ·rename_i r k h1 h2
  exact hsl r (List.mem_of_getElem? h1) e (List.mem_of_getElem? (by simpa using h))
 ·simp at h
end Go.Sx
set_option linter.all false
namespace Go.Sx
open Go
def b0B:List Rep→List Int→List Int×Bool
 |r::l,x::t=>if (b0B l t).2=true then (x::(b0B l t).1,true) else if x+1<chs r then ((x+1)::(b0B l t).1,true) else (0::(b0B l t).1,false)
 |_,_=>([],false)
def b5N (n:Nat):List Int:=List.replicate n 0
structure Chn (l:List Rep) (xs:List (List Int)):Prop where
 pos:0<xs.length
 first:xs[0]? = some (b5N l.length)
 step:∀k (h:k+1<xs.length),b0B l xs[k]=(xs[k+1],true)
 last:∀(h:xs.length-1<xs.length),b0B l xs[xs.length-1]=(b5N l.length,false)
theorem c3m {α:Type} {xs:List α} {n m:Nat} (f:Nat→α→List Int) (hm:xs.length=m):∀{q i:Nat} (hq:q<n) (hi:i<m),((List.range n).flatMap fun k=>xs.map (f k))[q * m+i]? = (xs[i]?).map (f q):=by
 induction n with
 |zero=>intro q i hq;omega
 |succ n ih=>
  intro q i hq hi;rw[List.range_succ,List.flatMap_append]
  have hlen:((List.range n).flatMap fun k=>xs.map (f k)).length=n * m:=by
   rw[List.length_flatMap]
   simp only[List.length_map,hm]
   rw[List.map_const',List.sum_replicate_nat,List.length_range]
  by_cases h:q<n
  ·rw[List.getElem?_append_left (by
    rw[hlen]
    have:(q+1) * m≤n * m:=Nat.mul_le_mul_right _ h
    rw[Nat.add_mul]at this;omega)]
   exact ih h hi
  ·obtain rfl:q=n:=by omega
   rw[List.getElem?_append_right (by rw[hlen];omega),hlen]
   simp
theorem b9e:∀{l:List Rep},(∀r∈l,1≤chs r)→Chn l (a2d l)
 | [],_=>⟨by simp[a2d],rfl,fun k h=>by simp[a2d]at h,fun h=>rfl⟩
 |r::l,hp=>by
  have ih:=b9e (l:=l) fun x hx=>hp x (List.mem_cons_of_mem _ hx)
  have hr:=hp r (by simp)
  obtain⟨m,hm⟩:∃m,(a2d l).length=m:=⟨_,rfl⟩;obtain⟨n,hn⟩:∃n,(chs r).toNat=n:=⟨_,rfl⟩
  have hm0:0<m:=by rw[←hm];exact ih.pos
  have hlen:(a2d (r::l)).length=n * m:=by rw[b4x,b0n,hn,←b4x,hm]
  have hat:∀{q i:Nat} (hq:q<n) (hi:i<m),(a2d (r::l))[q * m+i]? = ((a2d l)[i]?).map fun t=>(q:Int)::t:=fun hq hi=>by
   rw[a2d,hn];exact c3m (fun (k:Nat) t=>(k:Int)::t) hm hq hi
  have hn0:0<n:=by omega
  have hge:∀{k:Nat} (h:k<(a2d (r::l)).length),∃(q i:Nat) (hq:q<n) (hi:i<(a2d l).length),k=q * m+i∧(a2d (r::l))[k]=(q:Int)::(a2d l)[i]:=fun {k} h=>by
   rw[hlen]at h
   have hq:k / m<n:=(Nat.div_lt_iff_lt_mul hm0).2 h
   have hi:k % m<m:=Nat.mod_lt _ hm0
   have he:k=k / m * m+k % m:=by rw[Nat.mul_comm];exact (Nat.div_add_mod k m).symm
   refine⟨k / m,k % m,hq,by rw[hm];exact hi,he,?_⟩
   have h1:=hat hq hi
   rw[←he,List.getElem?_eq_getElem (by rw[hlen];exact h),List.getElem?_eq_getElem (by rw[hm];exact hi)]at h1
   exact Option.some.inj h1
  refine⟨by rw[hlen];exact Nat.mul_pos hn0 hm0,?_,fun k h=>?_,fun h=>?_⟩
  ·have:=hat hn0 hm0
   rw[Nat.zero_mul,Nat.zero_add,ih.first]at this
   rw[this];simp[b5N,List.replicate_succ]
  ·obtain⟨q,i,hq,hi,hk,e1⟩:=hge (k:=k) (by omega);rw[e1]
   simp only[b0B]
   rw[hm]at hi
   by_cases hl:i+1<m
   ·have e2:=ih.step i (by rw[hm];exact hl)
    rw[e2]
    simp only[if_true]
    have h3:=hat hq hl
    rw[show q * m+(i+1)=k+1 by omega,List.getElem?_eq_getElem h,List.getElem?_eq_getElem (by rw[hm];exact hl)]at h3
    rw[Option.some.inj h3]
   ·have hi1:i=m-1:=by omega
    have e2:b0B l ((a2d l)[i]'(by rw[hm];exact hi))=(b5N l.length,false):=by
     have:=ih.last (by omega)
     simp only[hm]at this
     subst hi1;exact this
    rw[e2];rw[hlen]at h
    have hq1:q+1<n:=by
     rcases Nat.lt_or_ge (q+1) n with h1|h1
     ·exact h1
     ·have:n * m≤(q+1) * m:=Nat.mul_le_mul_right _ h1
      rw[Nat.add_mul]at this;omega
    have h3:=hat hq1 hm0
    rw[show (q+1) * m+0=k+1 by rw[Nat.add_mul];omega,List.getElem?_eq_getElem (by rw[hlen];exact h),ih.first]at h3
    rw[Option.some.inj h3];rw[if_neg (show ¬(false=true) by decide),if_pos (by omega)]
    simp
  ·obtain⟨q,i,hq,hi,hk,e1⟩:=hge h;rw[e1];rw[hm]at hi
   rw[hlen]at hk
   have hqm:q+1=n:=by
    rcases Nat.lt_or_ge (q+1) n with h1|h1
    ·have h2:(q+2) * m≤n * m:=Nat.mul_le_mul_right _ h1
     rw[Nat.add_mul]at h2;omega
    ·omega
   have hi1:i=m-1:=by
    subst hqm;rw[Nat.add_mul]at hk;omega
   have e2:b0B l ((a2d l)[i]'(by rw[hm];exact hi))=(b5N l.length,false):=by
    have:=ih.last (by omega)
    simp only[hm]at this
    subst hi1;exact this
   simp only[b0B]
   rw[e2,if_neg (show ¬(false=true) by decide),if_neg (by omega)]
   simp[b5N,List.replicate_succ]
end Go.Sx
set_option linter.all false
namespace Go.Sx
open Go
section
variable {r:Rep} {j:Nat}
end
section
variable {c:List Kind} {A B:List Rep} {r r':Rep} {P:Int→Bool} {f:Int→Int} {k:Nat}
end
section
variable {c:List Kind} {l:List Rep} {k j:Nat}
theorem c2W {q:List Rep} (hq:q.length≤30) (hc:a0Y c=true) (hp:∀r∈q,chs r≠0):a7U c q=0:=by
 have:c2S q≤q.length:=List.length_filter_le _ _
 rw[b4P hc hp,if_neg (by omega)]
end
end Go.Sx
set_option linter.all false
namespace Go.Sx
open Go
theorem c3R {l:List Rep} {i:Nat} (hlt:i<l.length) (h:∀r∈l.take i,chs r=1) (h2:chs l[i]=1):∀r∈l.take (i+1),chs r=1:=fun r hr=>by
 rw[←a0q hlt]at hr
 rcases List.mem_append.1 hr with hr|hr
 ·exact h r hr
 ·rw[List.mem_singleton.1 hr];exact h2
section
variable {c:List Kind} {l:List Rep} {most:Int}
end
end Go.Sx
set_option linter.all false
namespace Go.Sx
open Go
section
variable {P:Program} {ρ:Option Nat} {n:Sz} {E:Ent} {I I':IMap} {L:LL} {H:List Res} {K:Act→World→Prop} {Q:Exit→Act→World→Prop} {N:Act→World→Prop}
variable {α β γ δ ε ζ η θ:Type}
def c5e (n:Sz) (E:Ent) (Ix:α→β→γ→δ→ε→ζ→IMap) (Lx:α→β→γ→δ→ε→ζ→LL) (Hx:α→β→γ→δ→ε→ζ→List Res) (p:α→β→γ→δ→ε→ζ→Prop) (μ:α→β→γ→δ→ε→ζ→Nat) (x0:α) (x1:β) (x2:γ) (x3:δ) (x4:ε) (x5:ζ):Act→World→Prop:=
 fun a w=>∃y0 y1 y2 y3 y4 y5,p y0 y1 y2 y3 y4 y5∧μ y0 y1 y2 y3 y4 y5<μ x0 x1 x2 x3 x4 x5∧St n a (Lx y0 y1 y2 y3 y4 y5)∧Mem E (Ix y0 y1 y2 y3 y4 y5) (Hx y0 y1 y2 y3 y4 y5) w
theorem c6k (a0:α) (a1:β) (a2:γ) (a3:δ) (a4:ε) (a5:ζ) (Ix:α→β→γ→δ→ε→ζ→IMap) (Lx:α→β→γ→δ→ε→ζ→LL) (Hx:α→β→γ→δ→ε→ζ→List Res) (p:α→β→γ→δ→ε→ζ→Prop) (μ:α→β→γ→δ→ε→ζ→Nat) {c:Code}
  (h0:p a0 a1 a2 a3 a4 a5) (hI:Ix a0 a1 a2 a3 a4 a5=I) (hL:Sub (Lx a0 a1 a2 a3 a4 a5) L) (hH:Hx a0 a1 a2 a3 a4 a5=H)
  (round:∀x0 x1 x2 x3 x4 x5,p x0 x1 x2 x3 x4 x5→SX n E (Ix x0 x1 x2 x3 x4 x5) (Lx x0 x1 x2 x3 x4 x5) (Hx x0 x1 x2 x3 x4 x5) (c.wq ρ P (Exit.then (c5e n E Ix Lx Hx p μ x0 x1 x2 x3 x4 x5) Q))):SX n E I L H ((Code.loop c).wq ρ P Q):=
 a0L (α:=α×β×γ×δ×ε×ζ) (a0,a1,a2,a3,a4,a5) (fun q=>Ix q.1 q.2.1 q.2.2.1 q.2.2.2.1 q.2.2.2.2.1 q.2.2.2.2.2) (fun q=>Lx q.1 q.2.1 q.2.2.1 q.2.2.2.1 q.2.2.2.2.1 q.2.2.2.2.2) (fun q=>Hx q.1 q.2.1 q.2.2.1 q.2.2.2.1 q.2.2.2.2.1 q.2.2.2.2.2) (fun q=>p q.1 q.2.1 q.2.2.1 q.2.2.2.1 q.2.2.2.2.1 q.2.2.2.2.2) (fun q=>μ q.1 q.2.1 q.2.2.1 q.2.2.2.1 q.2.2.2.2.1 q.2.2.2.2.2) h0 hI hL hH
  fun ⟨x0,x1,x2,x3,x4,x5⟩ hp=>b2E (round x0 x1 x2 x3 x4 x5 hp) fun a w h=>a4o (fun e a w q=>by
   cases e with
   |normal=>obtain⟨y0,y1,y2,y3,y4,y5,h1,h2,h3,h4⟩:=q;exact⟨(y0,y1,y2,y3,y4,y5),h1,h2,h3,h4⟩
   |_=>exact q) h
theorem c7U {Ix:α→β→γ→δ→ε→ζ→IMap} {Lx:α→β→γ→δ→ε→ζ→LL} {Hx:α→β→γ→δ→ε→ζ→List Res} {p:α→β→γ→δ→ε→ζ→Prop} {μ:α→β→γ→δ→ε→ζ→Nat} {x0:α} {x1:β} {x2:γ} {x3:δ} {x4:ε} {x5:ζ} (y0:α) (y1:β) (y2:γ) (y3:δ) (y4:ε) (y5:ζ) (hp:p y0 y1 y2 y3 y4 y5) (hμ:μ y0 y1 y2 y3 y4 y5<μ x0 x1 x2 x3 x4 x5)
  (hI:Ix y0 y1 y2 y3 y4 y5=I) (hL:Sub (Lx y0 y1 y2 y3 y4 y5) L) (hH:Hx y0 y1 y2 y3 y4 y5=H):SX n E I L H (c5e n E Ix Lx Hx p μ x0 x1 x2 x3 x4 x5):=
 fun a w s m=>⟨y0,y1,y2,y3,y4,y5,hp,hμ,s.sub hL,by rw[hI,hH];exact m⟩
def c5f (n:Sz) (E:Ent) (Ix:α→β→γ→δ→ε→ζ→η→θ→IMap) (Lx:α→β→γ→δ→ε→ζ→η→θ→LL) (Hx:α→β→γ→δ→ε→ζ→η→θ→List Res) (p:α→β→γ→δ→ε→ζ→η→θ→Prop) (μ:α→β→γ→δ→ε→ζ→η→θ→Nat) (x0:α) (x1:β) (x2:γ) (x3:δ) (x4:ε) (x5:ζ) (x6:η) (x7:θ):Act→World→Prop:=
 fun a w=>∃y0 y1 y2 y3 y4 y5 y6 y7,p y0 y1 y2 y3 y4 y5 y6 y7∧μ y0 y1 y2 y3 y4 y5 y6 y7<μ x0 x1 x2 x3 x4 x5 x6 x7∧St n a (Lx y0 y1 y2 y3 y4 y5 y6 y7)∧Mem E (Ix y0 y1 y2 y3 y4 y5 y6 y7) (Hx y0 y1 y2 y3 y4 y5 y6 y7) w
theorem c6l (a0:α) (a1:β) (a2:γ) (a3:δ) (a4:ε) (a5:ζ) (a6:η) (a7:θ) (Ix:α→β→γ→δ→ε→ζ→η→θ→IMap) (Lx:α→β→γ→δ→ε→ζ→η→θ→LL) (Hx:α→β→γ→δ→ε→ζ→η→θ→List Res) (p:α→β→γ→δ→ε→ζ→η→θ→Prop) (μ:α→β→γ→δ→ε→ζ→η→θ→Nat) {c:Code}
  (h0:p a0 a1 a2 a3 a4 a5 a6 a7) (hI:Ix a0 a1 a2 a3 a4 a5 a6 a7=I) (hL:Sub (Lx a0 a1 a2 a3 a4 a5 a6 a7) L) (hH:Hx a0 a1 a2 a3 a4 a5 a6 a7=H)
  (round:∀x0 x1 x2 x3 x4 x5 x6 x7,p x0 x1 x2 x3 x4 x5 x6 x7→SX n E (Ix x0 x1 x2 x3 x4 x5 x6 x7) (Lx x0 x1 x2 x3 x4 x5 x6 x7) (Hx x0 x1 x2 x3 x4 x5 x6 x7) (c.wq ρ P (Exit.then (c5f n E Ix Lx Hx p μ x0 x1 x2 x3 x4 x5 x6 x7) Q))):SX n E I L H ((Code.loop c).wq ρ P Q):=
 a0L (α:=α×β×γ×δ×ε×ζ×η×θ) (a0,a1,a2,a3,a4,a5,a6,a7) (fun q=>Ix q.1 q.2.1 q.2.2.1 q.2.2.2.1 q.2.2.2.2.1 q.2.2.2.2.2.1 q.2.2.2.2.2.2.1 q.2.2.2.2.2.2.2) (fun q=>Lx q.1 q.2.1 q.2.2.1 q.2.2.2.1 q.2.2.2.2.1 q.2.2.2.2.2.1 q.2.2.2.2.2.2.1 q.2.2.2.2.2.2.2) (fun q=>Hx q.1 q.2.1 q.2.2.1 q.2.2.2.1 q.2.2.2.2.1 q.2.2.2.2.2.1 q.2.2.2.2.2.2.1 q.2.2.2.2.2.2.2) (fun q=>p q.1 q.2.1 q.2.2.1 q.2.2.2.1 q.2.2.2.2.1 q.2.2.2.2.2.1 q.2.2.2.2.2.2.1 q.2.2.2.2.2.2.2) (fun q=>μ q.1 q.2.1 q.2.2.1 q.2.2.2.1 q.2.2.2.2.1 q.2.2.2.2.2.1 q.2.2.2.2.2.2.1 q.2.2.2.2.2.2.2) h0 hI hL hH
  fun ⟨x0,x1,x2,x3,x4,x5,x6,x7⟩ hp=>b2E (round x0 x1 x2 x3 x4 x5 x6 x7 hp) fun a w h=>a4o (fun e a w q=>by
   cases e with
   |normal=>obtain⟨y0,y1,y2,y3,y4,y5,y6,y7,h1,h2,h3,h4⟩:=q;exact⟨(y0,y1,y2,y3,y4,y5,y6,y7),h1,h2,h3,h4⟩
   |_=>exact q) h
theorem c7V {Ix:α→β→γ→δ→ε→ζ→η→θ→IMap} {Lx:α→β→γ→δ→ε→ζ→η→θ→LL} {Hx:α→β→γ→δ→ε→ζ→η→θ→List Res} {p:α→β→γ→δ→ε→ζ→η→θ→Prop} {μ:α→β→γ→δ→ε→ζ→η→θ→Nat} {x0:α} {x1:β} {x2:γ} {x3:δ} {x4:ε} {x5:ζ} {x6:η} {x7:θ} (y0:α) (y1:β) (y2:γ) (y3:δ) (y4:ε) (y5:ζ) (y6:η) (y7:θ) (hp:p y0 y1 y2 y3 y4 y5 y6 y7) (hμ:μ y0 y1 y2 y3 y4 y5 y6 y7<μ x0 x1 x2 x3 x4 x5 x6 x7)
  (hI:Ix y0 y1 y2 y3 y4 y5 y6 y7=I) (hL:Sub (Lx y0 y1 y2 y3 y4 y5 y6 y7) L) (hH:Hx y0 y1 y2 y3 y4 y5 y6 y7=H):SX n E I L H (c5f n E Ix Lx Hx p μ x0 x1 x2 x3 x4 x5 x6 x7):=
 fun a w s m=>⟨y0,y1,y2,y3,y4,y5,y6,y7,hp,hμ,s.sub hL,by rw[hI,hH];exact m⟩
end
end Go.Sx
set_option linter.all false
namespace Go.Sx
open Go
section
variable {l:List Rep} {t m:List Int} {j:Nat}
end
structure Evy (c:List Kind) (l:List Rep) (most:Int) (k:Nat) (b:Bool) (ch:List Int) (out:List (List Int)):Prop where
 is:out=((a2d l).take k).filter (isF c l)
 le:(out.length:Int)≤most
 at_:(b=true∧∃h:k<(a2d l).length,ch=(a2d l)[k])∨(b=false∧k=(a2d l).length)
section
variable {c:List Kind} {l:List Rep} {most:Int} {k:Nat} {b:Bool} {ch:List Int} {out:List (List Int)}
theorem c7O (hp:∀r∈l,chs r≠0):∀r∈l,1≤chs r:=fun r hr=>by have:=hp r hr;have:=b6a r;omega
theorem Evy.start (hp:∀r∈l,chs r≠0) (h:1≤most):Evy c l most 0 true (b5N l.length) []:=by
 have hC:=b9e (c7O hp)
 refine⟨rfl,by simp;omega,.inl ⟨rfl,hC.pos,?_⟩⟩
 have:=hC.first
 rw[List.getElem?_eq_getElem hC.pos]at this
 exact (Option.some.inj this).symm
theorem Evy.mem (h:Evy c l most k true ch out):ch∈a2d l:=by
 rcases h.at_ with ⟨_,h1,rfl⟩|⟨h1,_⟩
 ·exact List.getElem_mem h1
 ·cases h1
theorem Evy.lt (h:Evy c l most k true ch out):k<(a2d l).length:=by
 rcases h.at_ with ⟨_,h1,_⟩|⟨h1,_⟩
 ·exact h1
 ·cases h1
end
theorem b3Q (l:List Rep) (ch:List Int):(a1i l ch).1.length≤l.length:=by
 rw[b1j]
 split
 ·exact b4S _ _ _
 ·simp
theorem a9Y {l:List Rep} {ch:List Int} (hsl:∀r∈l,∀e∈r.options,SmE e):∀e∈(a1i l ch).1,SmE e:=fun e he=>by
 rw[b1j]at he
 split at he
 ·exact c9C hsl he
 ·cases he
section
variable {c:List Kind} {l:List Rep}
end
end Go.Sx
set_option linter.all false
namespace Go.Sx
open Go
theorem b1F {α:Type} {f:List α→α→Bool} {l:List α}:a3A f l l.length=true↔∀(i:Nat) (h:i<l.length),f (l.take i) l[i]=true:=by
 rw[a3A,List.all_eq_true]
 constructor
 ·intro h i hi
  have:=h i (List.mem_range.2 hi)
  simpa only[List.getElem?_eq_getElem hi]using this
 ·intro h i hi
  have hi:=List.mem_range.1 hi
  simp only[List.getElem?_eq_getElem hi]
  exact h i hi
theorem c2u {α:Type} {f:α→Bool} {l:List α}:a3A (fun _ x=>f x) l l.length=true↔∀x∈l,f x=true:=by
 rw[b1F]
 constructor
 ·intro h x hx;obtain⟨i,hi,rfl⟩:=List.getElem_of_mem hx;exact h i hi
 ·intro h i hi;exact h _ (List.getElem_mem hi)
theorem c1e {α:Type} {nm:α→ByteArray} {l:List α}:b6Y nm l=true↔Inc nm l:=by
 constructor
 ·exact fun h=>c5u (Srt.of_ord h)
 ·intro h;unfold b6Y;rw[b1F];intro i hi;unfold a8K
  cases i with
  |zero=>simp
  |succ i=>
   have:(l.take (i+1)).getLast? = some l[i]:=by
    rw[List.getLast?_eq_getElem?,List.length_take,Nat.min_eq_left (by omega),List.getElem?_take,if_pos (by omega)]
    simp
   rw[this];exact (List.pairwise_iff_getElem.1 h) i (i+1) (by omega) hi (by omega)
structure Sits (c:List Kind) (st:List Part) (p:Part):Prop where
 alive:p.scrapped=false
 host:∃q,q∈st∧q.name=p.into∧q.scrapped=false∧a6z c q.kind p.slot p.kind=true
structure VS (c:List Kind) (st:List Part):Prop where
 cat:a0Y c=true
 len:st.length≤20000
 inc:Inc Part.name st
 right:∀p∈st,a4n c p=true
 both:∀p∈st,(p.into=a1g↔p.slot=a1g)
 sits:∀p∈st,p.into≠a1g→Sits c st p
 apart:∀p∈st,∀q∈st,p.into≠a1g→p.into=q.into→p.slot=q.slot→p=q
theorem b1s {pre:List Part} {x:ByteArray×ByteArray}:hit a2C (a2V pre) x=true↔∃q∈pre,q.into≠a1g∧a2C q=x:=by
 rw[c0q,List.any_eq_true]
 constructor
 ·rintro⟨q,hq,he⟩;rw[a2V,List.mem_filter]at hq
  exact⟨q,hq.1,by simpa using hq.2,by simpa using he⟩
 ·rintro⟨q,h1,h2,h3⟩;exact⟨q,by rw[a2V,List.mem_filter];exact⟨h1,by simpa using h2⟩,by simpa using h3⟩
theorem c7h {l:List Part} (h:Inc Part.name l) {i j:Nat} {hi:i<l.length} {hj:j<l.length} (he:l[i]=l[j]):i=j:=by
 rw[Inc,List.pairwise_iff_getElem]at h
 rcases Nat.lt_trichotomy i j with hij|hij|hij
 ·have:=h i j hi hj hij;rw[he,a1U]at this;cases this
 ·exact hij
 ·have:=h j i hj hi hij;rw[he,a1U]at this;cases this
theorem a2F {c:List Kind} {st:List Part}:a3x c st=true↔VS c st:=by
 unfold a3x b2P
 simp only[Bool.and_eq_true,Bool.not_eq_true',Bool.or_eq_false_iff,Bool.not_eq_false',decide_eq_false_iff_not]
 rw[c1e,b1F]
 constructor
 ·rintro⟨⟨⟨h1,h2⟩,h3⟩,h4⟩
  have key:∀(i:Nat) (hi:i<st.length),a4n c st[i]=true∧(st[i].into=a1g↔st[i].slot=a1g)∧(st[i].into≠a1g→Sits c st st[i]∧∀q∈st.take i,q.into≠a1g→a2C q≠a2C st[i]):=by
   intro i hi
   have h5:=h4 i hi
   simp only[a2J,b2R,Bool.and_eq_true,Bool.not_eq_true',Bool.or_eq_false_iff,Bool.not_eq_false',Bool.or_eq_true,decide_eq_true_eq]at h5
   obtain⟨⟨h6,h7⟩,h8⟩:=h5;refine⟨h6,?_,fun hne=>?_⟩
   ·have h7:decide (st[i].into=a1g)=decide (st[i].slot=a1g):=by simpa using h7
    by_cases ha:st[i].into=a1g<;>by_cases hb:st[i].slot=a1g<;>simp[ha,hb]at h7 ⊢
   ·rcases h8 with h8|h8
    ·exact absurd h8 hne
    ·simp only[a7P,Bool.or_eq_false_iff,Bool.not_eq_false']at h8
     obtain⟨⟨⟨⟨h9,h10⟩,h11⟩,h12⟩,h13⟩:=h8;obtain⟨q,hq⟩:=Option.isSome_iff_exists.1 h9;rw[hq]at h11 h13
     have hq':=(a1J h3).1 hq
     refine⟨⟨h10,q,hq'.1,hq'.2,h11,h13⟩,fun q' hq' hn he=>?_⟩
     have:hit a2C (a2V (st.take i)) (a2C st[i])=true:=b1s.2 ⟨q',hq',hn,he⟩
     rw[h12]at this;cases this
  refine⟨h1,by omega,h3,fun p hp=>?_,fun p hp=>?_,fun p hp=>?_,fun p hp q hq hn he hs=>?_⟩
  ·obtain⟨i,hi,rfl⟩:=List.getElem_of_mem hp;exact (key i hi).1
  ·obtain⟨i,hi,rfl⟩:=List.getElem_of_mem hp;exact (key i hi).2.1
  ·obtain⟨i,hi,rfl⟩:=List.getElem_of_mem hp;exact fun h=>((key i hi).2.2 h).1
  ·obtain⟨i,hi,rfl⟩:=List.getElem_of_mem hp;obtain⟨j,hj,rfl⟩:=List.getElem_of_mem hq
   have hse:a2C st[i]=a2C st[j]:=by simp[a2C,he,hs]
   rcases Nat.lt_trichotomy i j with hij|rfl|hij
   ·exact absurd hse (((key j hj).2.2 (by rw[←he];exact hn)).2 st[i] (by rw[List.mem_iff_getElem?];exact⟨i,by rw[List.getElem?_take,if_pos hij];simp⟩) hn)
   ·rfl
   ·exact absurd hse.symm (((key i hi).2.2 hn).2 st[j] (by rw[List.mem_iff_getElem?];exact⟨j,by rw[List.getElem?_take,if_pos hij];simp⟩) (by rw[←he];exact hn))
 ·intro h;refine⟨⟨⟨h.cat,by have:=h.len;omega⟩,h.inc⟩,fun i hi=>?_⟩
  have hm:=List.getElem_mem hi
  have hb:=h.both _ hm
  simp only[a2J,b2R,Bool.and_eq_true,Bool.not_eq_true',Bool.or_eq_false_iff,Bool.not_eq_false',Bool.or_eq_true,decide_eq_true_eq]
  refine⟨⟨h.right _ hm,?_⟩,?_⟩
  ·by_cases ha:st[i].into=a1g
   ·simp[ha,hb.1 ha]
   ·have:¬st[i].slot=a1g:=fun hs=>ha (hb.2 hs)
    simp[ha,this]
  ·by_cases ha:st[i].into=a1g
   ·exact .inl ha
   ·right
    obtain⟨h1,q,h2,h3,h4,h5⟩:=h.sits _ hm ha
    have hf:a0O st st[i].into=some q:=(a1J h.inc).2 ⟨h2,h3⟩
    simp only[a7P,Bool.or_eq_false_iff,Bool.not_eq_false']
    rw[hf];refine⟨⟨⟨⟨rfl,h1⟩,h4⟩,?_⟩,h5⟩;rw[Bool.eq_false_iff];intro hh;obtain⟨q',h6,h7,h8⟩:=b1s.1 hh
    have h9:q'∈st:=List.mem_of_mem_take h6
    have h10:q'=st[i]:=h.apart _ h9 _ hm h7 (congrArg (·.1) h8) (congrArg (·.2) h8)
    obtain⟨j,hj,hje⟩:=List.getElem_of_mem h6;rw[List.length_take]at hj
    rw[List.getElem_take,h10]at hje
    have:=c7h h.inc hje
    omega
structure Step (c:List Kind) (st:List Part) (e:Evt) (p':Part):Prop where
  vs:VS c st
  ve:a1H e=true
  how:(e.op=1∧a0O st e.part=none∧(a7h c e.kind).isSome=true∧st.length≠20000∧p'=c3M e) ∨
    ∃p,a0O st e.part=some p∧p.scrapped=false ∧
      ((e.op=2∧∃q,a0O st e.into=some q∧q.scrapped=false∧((a7h c p.kind).getD b0G).vehicle=false∧a6z c q.kind e.slot p.kind=true∧p.into=a1g∧a0X st e=false∧p' = { p with into:=e.into,slot:=e.slot }) ∨
       (e.op=3∧p.into≠a1g∧p' = { p with into:=a1g,slot:=a1g }) ∨
       (e.op=4∧((a7h c p.kind).getD b0G).vehicle=true∧p'=p) ∨
       (e.op=5∧p'=a2q e p) ∨
       (e.op=6∧(a4g e p).props.length≤60∧p'=a4g e p) ∨
       (e.op=7∧p.into=a1g∧a1p st p.name=false∧p' = { p with scrapped:=true }))
theorem b4s {e:Evt} (h:a1H e=true):1≤e.op∧e.op<8:=by
 simp only[a1H,a8E,Bool.and_eq_true,Bool.not_eq_true',Bool.or_eq_false_iff,decide_eq_false_iff_not]at h
 have:=h.1.1.1.1.1.1
 rw[a8C]at this
 omega
theorem a2Z {c:List Kind} {st:List Part} {e:Evt} {p':Part} (h:Step c st e p'):a0p c st e=b2r st p':=by
 have hv:=a2F.2 h.vs
 unfold a0p;rw[if_neg (by simp[hv,h.ve])]
 rcases h.how with ⟨h1,h2,h3,h4,rfl⟩|⟨p,h1,h2,h3⟩
 ·rw[if_pos h1];unfold a2P;rw[if_neg (by simp[h2]),if_neg (by simp[h3]),if_neg (by omega)]
 ·have hpp:a1I st e=p:=by simp[a1I,h1]
  have h5:=b4s h.ve
  rcases h3 with ⟨h3,q,h4,h6,h7,h8,h9,h10,rfl⟩|⟨h3,h4,rfl⟩|⟨h3,h4,rfl⟩|⟨h3,rfl⟩|⟨h3,h4,rfl⟩|⟨h3,h4,h6,rfl⟩
  ·have ho:a2p st e=some q:=by simp[a2p,h3,h4]
   simp only[a0G,h3,ho,h1,hpp,a2I,a3D,h2,h6,a1C,a1B,h7,h8,h9,h10,Option.isSome_some,Option.getD_some]
   simp
  ·have ho:a2p st e=some p:=by simp[a2p,h3,h1]
   simp only[a0G,h3,ho,h1,hpp,a2I,a3D,h2,a1C,a0K,Option.isSome_some,Option.getD_some]
   simp[h4]
  ·have ho:a2p st e=some p':=by simp[a2p,h3,h1]
   simp only[a0G,h3,ho,h1,hpp,a2I,a3D,h2,a1C,a1y,h4,Option.isSome_some,Option.getD_some]
   simp
  ·have ho:a2p st e=some p:=by simp[a2p,h3,h1]
   simp only[a0G,h3,ho,h1,hpp,a2I,a3D,h2,a1C,Option.isSome_some,Option.getD_some]
   simp
  ·have ho:a2p st e=some p:=by simp[a2p,h3,h1]
   simp only[a0G,h3,ho,h1,hpp,a2I,a3D,h2,a1C,a1f,Option.isSome_some,Option.getD_some]
   simp;omega
  ·have ho:a2p st e=some p:=by simp[a2p,h3,h1]
   simp only[a0G,h3,ho,h1,hpp,a2I,a3D,h2,a1C,a0T,h4,h6,Option.isSome_some,Option.getD_some]
   simp
theorem a4u {c:List Kind} {st:List Part} {e:Evt} (h:(a0p c st e).2=0):∃p',Step c st e p':=by
 unfold a0p at h
 split at h
 ·cases h
 ·rename_i hv
  have hv:a3x c st=true∧a1H e=true:=by simpa using hv
  have hop:=b4s hv.2
  split at h
  ·rename_i h1
   unfold a2P at h
   split at h
   ·cases h
   ·rename_i h2
    split at h
    ·cases h
    ·rename_i h3
     split at h
     ·cases h
     ·rename_i h4
      exact⟨_,a2F.1 hv.1,hv.2,.inl ⟨h1,by simpa using h2,by rw[Option.isSome_iff_ne_none];simpa using h3,by omega,rfl⟩⟩
  ·rename_i h1
   unfold a0G at h
   split at h
   ·cases h
   ·rename_i h2
    split at h
    ·cases h
    ·rename_i h3
     have h2:(a0O st e.part).isSome=true∧(a2p st e).isSome=true:=by rw[Option.isSome_iff_ne_none,Option.isSome_iff_ne_none];simpa using h2
     obtain⟨p,hp⟩:=Option.isSome_iff_exists.1 h2.1;obtain⟨q,hq⟩:=Option.isSome_iff_exists.1 h2.2
     have hpp:a1I st e=p:=by simp[a1I,hp]
     have hqq:a2I st e=q:=by simp[a2I,hq]
     have hkk:a3D c st e=(a7h c p.kind).getD b0G:=by simp[a3D,hpp]
     rw[hpp,hqq]at h3
     have h3:p.scrapped=false∧q.scrapped=false:=by simpa using h3
     rw[hpp,hqq,hkk]at h
     unfold a1C at h
     split at h
     ·rename_i h4
      unfold a1B at h
      split at h
      ·cases h
      ·rename_i h5
       split at h
       ·cases h
       ·rename_i h6
        split at h
        ·cases h
        ·rename_i h7
         have h5:((a7h c p.kind).getD b0G).vehicle=false∧a6z c q.kind e.slot p.kind=true:=by simpa using h5
         exact⟨_,a2F.1 hv.1,hv.2,.inr ⟨p,hp,h3.1,.inl ⟨h4,q,by simpa[a2p,h4]using hq,h3.2,h5.1,h5.2,by simpa using h6,by simpa using h7,rfl⟩⟩⟩
     ·rename_i h4
      split at h
      ·rename_i h5
       unfold a0K at h
       split at h
       ·cases h
       ·rename_i h6;exact⟨_,a2F.1 hv.1,hv.2,.inr ⟨p,hp,h3.1,.inr (.inl ⟨h5,h6,rfl⟩)⟩⟩
      ·rename_i h5
       split at h
       ·rename_i h6
        unfold a1y at h
        split at h
        ·cases h
        ·rename_i h7;exact⟨_,a2F.1 hv.1,hv.2,.inr ⟨p,hp,h3.1,.inr (.inr (.inl ⟨h6,by simpa using h7,rfl⟩))⟩⟩
       ·rename_i h6
        split at h
        ·rename_i h7;exact⟨_,a2F.1 hv.1,hv.2,.inr ⟨p,hp,h3.1,.inr (.inr (.inr (.inl ⟨h7,rfl⟩)))⟩⟩
        ·rename_i h7
         split at h
         ·rename_i h8
          unfold a1f at h
          split at h
          ·cases h
          ·rename_i h9;exact⟨_,a2F.1 hv.1,hv.2,.inr ⟨p,hp,h3.1,.inr (.inr (.inr (.inr (.inl ⟨h8,by omega,rfl⟩))))⟩⟩
         ·rename_i h8
          split at h
          ·rename_i h9
           unfold a0T at h
           split at h
           ·cases h
           ·rename_i h10
            have h10:p.into=a1g∧a1p st p.name=false:=by simpa using h10
            exact⟨_,a2F.1 hv.1,hv.2,.inr ⟨p,hp,h3.1,.inr (.inr (.inr (.inr (.inr ⟨h9,h10.1,h10.2,rfl⟩))))⟩⟩
          ·exfalso;omega
theorem a2x {e:Evt} (h:a1H e=true):a2v e.part=true∧0≤e.day∧e.day≤40000∧(e.op=2→a2v e.into=true∧a2v e.slot=true∧e.into≠e.part)∧(e.op=6→a2v e.key=true∧e.value≠a1g∧((e.value.size:Nat):Int)≤200):=by
 simp only[a1H,a8E,Bool.and_eq_true,Bool.not_eq_true',Bool.or_eq_false_iff,decide_eq_false_iff_not,Bool.not_eq_false']at h
 obtain⟨⟨⟨⟨⟨⟨h1,h2⟩,h3⟩,h4⟩,h5⟩,h6⟩,h7⟩:=h;refine⟨h4,by omega,by omega,fun h8=>?_,fun h8=>?_⟩
 ·have h9:a2a e=[e.into,e.slot]:=by simp[a2a,h8]
  rw[h9]at h7
  simp only[List.any_cons,List.any_nil,Bool.or_eq_false_iff,Bool.not_eq_false']at h7
  have h10:a5O e=decide (e.into=e.part):=by simp[a5O,h8]
  rw[h10,decide_eq_false_iff_not]at h5
  exact⟨h7.1,h7.2.1,h5⟩
 ·have h9:a2a e=[e.key]:=by simp[a2a,h8]
  rw[h9]at h7
  simp only[List.any_cons,List.any_nil,Bool.or_eq_false_iff,Bool.not_eq_false']at h7
  have h10:a5O e=(decide (e.value=a1g)||decide ((200:Int)<(e.value.size:Nat))):=by simp[a5O,h8]
  rw[h10,Bool.or_eq_false_iff,decide_eq_false_iff_not,decide_eq_false_iff_not]at h5
  exact⟨h7.1,h5.1,by omega⟩
theorem a5e {s:ByteArray} (h:a2v s=true):s≠a1g:=by
 rintro rfl
 simp[a2v]at h
structure RP (c:List Kind) (p:Part):Prop where
 kind:(a7h c p.kind).isSome=true
 name:a2v p.name=true
 made:0≤p.made
 since:p.made≤p.since
 since2:p.since≤40000
 few:p.props.length≤60
 props:∀q∈p.props,a6w q=true
 inc:Inc Prp.key p.props
 km:a3v p.life.km=true
 cycles:a3v p.life.cycles=true
 damage:a3v p.life.damage=true
theorem b0c {c:List Kind} {p:Part}:a4n c p=true↔RP c p:=by
 unfold a4n a5h
 simp only[Bool.and_eq_true,Bool.not_eq_true',Bool.or_eq_false_iff,Bool.not_eq_false',decide_eq_false_iff_not]
 rw[c1e,c2u]
 constructor
 ·rintro⟨⟨⟨⟨⟨⟨⟨h1,h2⟩,h3⟩,h4⟩,h5⟩,h6⟩,h7⟩,⟨⟨h8,h9⟩,h10⟩,h11⟩;exact⟨h1,h2,by omega,by omega,by omega,by omega,h7,h8,h9,h10,h11⟩
 ·rintro⟨h1,h2,h3,h4,h5,h6,h7,h8,h9,h10,h11⟩;exact⟨⟨⟨⟨⟨⟨⟨h1,h2⟩,by omega⟩,by omega⟩,by omega⟩,by omega⟩,h7⟩,⟨⟨h8,h9⟩,h10⟩,h11⟩
theorem Step.name {c:List Kind} {st:List Part} {e:Evt} {p':Part} (h:Step c st e p'):p'.name=e.part:=by
 rcases h.how with ⟨_,_,_,_,rfl⟩|⟨p,h1,_,h3⟩
 ·rfl
 ·have hn:p.name=e.part:=((a1J h.vs.inc).1 h1).2
  rcases h3 with ⟨_,q,_,_,_,_,_,_,rfl⟩|⟨_,_,rfl⟩|⟨_,_,rfl⟩|⟨_,rfl⟩|⟨_,_,rfl⟩|⟨_,_,_,rfl⟩<;>exact hn
theorem Step.kind {c:List Kind} {st:List Part} {e:Evt} {p' p:Part} (h:Step c st e p') (hp:a0O st e.part=some p):p'.kind=p.kind:=by
 rcases h.how with ⟨_,h2,_,_,rfl⟩|⟨p0,h1,_,h3⟩
 ·rw[hp]at h2;cases h2
 ·rw[hp]at h1;cases h1
  rcases h3 with ⟨_,q,_,_,_,_,_,_,rfl⟩|⟨_,_,rfl⟩|⟨_,_,rfl⟩|⟨_,rfl⟩|⟨_,_,rfl⟩|⟨_,_,_,rfl⟩<;>rfl
theorem Step.right {c:List Kind} {st:List Part} {e:Evt} {p':Part} (h:Step c st e p'):RP c p':=by
 obtain⟨v1,v2,v3,v4,v5⟩:=a2x h.ve
 rcases h.how with ⟨_,_,h3,_,rfl⟩|⟨p,h1,_,h3⟩
 ·exact⟨h3,v1,v2,Int.le_refl _,v3,by simp[c3M],fun _ h=>by simp[c3M]at h,by simp[c3M,Inc],rfl,rfl,rfl⟩
 ·have hr:=b0c.1 (h.vs.right p ((a1J h.vs.inc).1 h1).1)
  rcases h3 with ⟨_,q,_,_,_,_,_,_,rfl⟩|⟨_,_,rfl⟩|⟨_,_,rfl⟩|⟨_,rfl⟩|⟨h6,h7,rfl⟩|⟨_,_,_,rfl⟩
  ·exact⟨hr.kind,hr.name,hr.made,hr.since,hr.since2,hr.few,hr.props,hr.inc,hr.km,hr.cycles,hr.damage⟩
  ·exact⟨hr.kind,hr.name,hr.made,hr.since,hr.since2,hr.few,hr.props,hr.inc,hr.km,hr.cycles,hr.damage⟩
  ·exact hr
  ·have hs:=hr.since
   have hs2:=hr.since2
   refine⟨hr.kind,hr.name,hr.made,?_,?_,hr.few,hr.props,hr.inc,rfl,rfl,rfl⟩
   ·show p.made≤(if e.day>p.since then e.day else p.since);split<;>omega
   ·show (if e.day>p.since then e.day else p.since)≤40000;split<;>omega
  ·obtain⟨k1,k2,k3⟩:=v5 h6;refine⟨hr.kind,hr.name,hr.made,hr.since,hr.since2,h7,fun q hq=>?_,a4j _ hr.inc,hr.km,hr.cycles,hr.damage⟩
   rcases (a3e hr.inc).1 hq with rfl|⟨hq,_⟩
   ·simp only[a6w,k1,Bool.true_and,Bool.and_eq_true,Bool.not_eq_true',decide_eq_false_iff_not,decide_eq_true_eq]
    exact⟨k2,k3⟩
   ·exact hr.props q hq
  ·exact⟨hr.kind,hr.name,hr.made,hr.since,hr.since2,hr.few,hr.props,hr.inc,hr.km,hr.cycles,hr.damage⟩
theorem a4P {st:List Part} {e:Evt}:a0X st e=false↔∀x∈st,¬(x.into=e.into∧x.slot=e.slot):=by
 unfold a0X;rw[List.any_eq_false]
 simp
theorem a4F {st:List Part} {s:ByteArray}:a1p st s=false↔∀x∈st,x.into≠s:=by
 unfold a1p;rw[List.any_eq_false]
 simp
theorem Step.valid {c:List Kind} {st:List Part} {e:Evt} {p':Part} (h:Step c st e p'):VS c (a4i Part.name st p'):=by
 have hv:=h.vs
 have hi:=hv.inc
 have hn:=h.name
 obtain⟨v1,v2,v3,v4,v5⟩:=a2x h.ve
 have hm:∀z,z∈a4i Part.name st p'↔z=p'∨(z∈st∧z.name≠e.part):=fun z=>by rw[a3e hi,hn]
 -- the new part in its place
 have hpl:(p'.into=a1g↔p'.slot=a1g)∧(p'.into≠a1g→p'.scrapped=false∧∃q,q∈st∧q.name=p'.into∧q.scrapped=false∧a6z c q.kind p'.slot p'.kind=true) ∧
   (p'.into≠a1g→∀z∈st,z.name≠e.part→¬(z.into=p'.into∧z.slot=p'.slot))∧(p'.scrapped=true→∀z∈st,z.into≠e.part):=by
  rcases h.how with ⟨_,h2,_,_,rfl⟩|⟨p,h1,h2,h3⟩
  ·exact⟨⟨fun _=>rfl,fun _=>rfl⟩,fun h=>absurd rfl h,fun h=>absurd rfl h,fun h=>by cases h⟩
  ·have hp:=(a1J hi).1 h1
   have hb:=hv.both p hp.1
   have hold:p.into≠a1g→p.scrapped=false∧∃q,q∈st∧q.name=p.into∧q.scrapped=false∧a6z c q.kind p.slot p.kind=true:=fun hne=>by
    obtain⟨s1,q,s2,s3,s4,s5⟩:=hv.sits p hp.1 hne;exact⟨s1,q,s2,s3,s4,s5⟩
   have hap:p.into≠a1g→∀z∈st,z.name≠e.part→¬(z.into=p.into∧z.slot=p.slot):=fun hne z hz hzn ⟨e1,e2⟩=>by
    have:=hv.apart p hp.1 z hz hne e1.symm e2.symm
    subst this;exact hzn hp.2
   rcases h3 with ⟨o1,q,o2,o3,o4,o5,o6,o7,rfl⟩|⟨_,_,rfl⟩|⟨_,_,rfl⟩|⟨_,rfl⟩|⟨_,_,rfl⟩|⟨_,o2,o3,rfl⟩
   ·obtain⟨k1,k2,k3⟩:=v4 o1
    have hq:=(a1J hi).1 o2
    exact⟨⟨fun hh=>absurd hh (a5e k1),fun hh=>absurd hh (a5e k2)⟩,fun _=>⟨h2,q,hq.1,hq.2,o3,o5⟩,fun _ z hz _=>a4P.1 o7 z hz,fun hh=>by
     have:p.scrapped=true:=hh
     rw[h2]at this;cases this⟩
   ·exact⟨⟨fun _=>rfl,fun _=>rfl⟩,fun h=>absurd rfl h,fun h=>absurd rfl h,fun hh=>by
     have:p.scrapped=true:=hh
     rw[h2]at this;cases this⟩
   ·exact⟨hb,hold,hap,fun hh=>by rw[h2]at hh;cases hh⟩
   ·exact⟨hb,hold,hap,fun hh=>by
     have:p.scrapped=true:=hh
     rw[h2]at this;cases this⟩
   ·exact⟨hb,hold,hap,fun hh=>by
     have:p.scrapped=true:=hh
     rw[h2]at this;cases this⟩
   ·exact⟨hb,fun hne=>absurd o2 hne,fun hne=>absurd o2 hne,fun _ z hz=>by rw[←hp.2];exact a4F.1 o3 z hz⟩
 obtain⟨c1,c2,c3,c4⟩:=hpl
 have hk:∀q∈st,q.name=e.part→p'.kind=q.kind:=fun q hq hqn=>h.kind ((a1J hi).2 ⟨hq,hqn⟩)
 refine⟨hv.cat,?_,a4j _ hi,fun z hz=>?_,fun z hz=>?_,fun z hz hne=>?_,fun z hz w hw hne e1 e2=>?_⟩
 ·rw[a9Z hi,a9p hi,hn]
  split
  ·exact hv.len
  ·rename_i hnf
   rcases h.how with ⟨_,_,_,h4,_⟩|⟨p,h1,_,_⟩
   ·have:=hv.len;omega
   ·exact absurd (by rw[show st.find? (fun y=>decide (y.name=e.part))=some p from h1];rfl) hnf
 ·rcases (hm z).1 hz with rfl|⟨hz,_⟩
  ·exact b0c.2 h.right
  ·exact hv.right z hz
 ·rcases (hm z).1 hz with rfl|⟨hz,_⟩
  ·exact c1
  ·exact hv.both z hz
 ·rcases (hm z).1 hz with rfl|⟨hz,hzn⟩
  ·obtain⟨d1,q,d2,d3,d4,d5⟩:=c2 hne
   by_cases hq:q.name=e.part
   ·exact⟨d1,z,(hm z).2 (.inl rfl),by rw[hn,←hq,d3],d1,by rw[hk q d2 hq];rw[hk q d2 hq]at d5;exact d5⟩
   ·exact⟨d1,q,(hm q).2 (.inr ⟨d2,hq⟩),d3,d4,d5⟩
  ·obtain⟨d1,q,d2,d3,d4,d5⟩:=hv.sits z hz hne
   by_cases hq:q.name=e.part
   ·have hsc:p'.scrapped=false:=by
     cases hs:p'.scrapped with
     |false=>rfl
     |true=>exact absurd (by rw[←d3,hq]) (c4 hs z hz)
    exact⟨d1,p',(hm p').2 (.inl rfl),by rw[hn,←hq,d3],hsc,by rw[hk q d2 hq];exact d5⟩
   ·exact⟨d1,q,(hm q).2 (.inr ⟨d2,hq⟩),d3,d4,d5⟩
 ·rcases (hm z).1 hz with hz1|⟨hz1,hzn⟩<;>rcases (hm w).1 hw with hw1|⟨hw1,hwn⟩
  ·rw[hz1,hw1]
  ·subst hz1;exact absurd ⟨e1.symm,e2.symm⟩ (c3 hne w hw1 hwn)
  ·subst hw1;exact absurd ⟨e1,e2⟩ (c3 (by rw[←e1];exact hne) z hz1 hzn)
  ·exact hv.apart z hz1 w hw1 hne e1 e2
def a0Z (e:Evt):List ByteArray:=if e.op=2 then [e.part,e.into] else [e.part]
theorem Step.swap {c:List Kind} {st:List Part} {x y:Evt} {p1 p2:Part} (hx:Step c st x p1) (hy:Step c (a4i Part.name st p1) y p2) (h3:x.op≠3) (h3':y.op≠3) (hd:∀s∈a0Z x,s∉a0Z y) :
  Step c st y p2∧Step c (a4i Part.name st p2) x p1:=by
 have hi:=hx.vs.inc
 have n1:=hx.name
 have n2:=hy.name
 have xp:x.part∈a0Z x:=by unfold a0Z;split<;>simp
 have yp:y.part∈a0Z y:=by unfold a0Z;split<;>simp
 have hne:x.part≠y.part:=fun e=>hd _ xp (by rw[e];exact yp)
 have vx:=a2x hx.ve
 have vy:=a2x hy.ve
 have f1:∀s,s≠x.part→a0O (a4i Part.name st p1) s=a0O st s:=fun s hs=>by
  unfold a0O;rw[b7h hi,n1,if_neg (fun e=>hs e.symm)]
 have f2:∀s,s≠y.part→a0O (a4i Part.name st p2) s=a0O st s:=fun s hs=>by
  unfold a0O;rw[b7h hi,n2,if_neg (fun e=>hs e.symm)]
 have m1:∀z,z∈a4i Part.name st p1↔z=p1∨(z∈st∧z.name≠x.part):=fun z=>by rw[a3e hi,n1]
 have m2:∀z,z∈a4i Part.name st p2↔z=p2∨(z∈st∧z.name≠y.part):=fun z=>by rw[a3e hi,n2]
 -- where the part of x was,and is
 have wx:∀z∈st,z.name=x.part→z.into≠a1g→p1.into=z.into∧p1.slot=z.slot:=fun z hz hzn hzi=>by
  rcases hx.how with ⟨_,h2,_,_,_⟩|⟨p,h1,_,h3x⟩
  ·exact absurd hzn (a9x.1 h2 z hz)
  ·have hp:=(a1J hi).1 h1
   have:z=p:=b1Z hi hz hp.1 (by rw[hzn,hp.2])
   subst this
   rcases h3x with ⟨_,q,_,_,_,_,o6,_,rfl⟩|⟨o1,_,_⟩|⟨_,_,rfl⟩|⟨_,rfl⟩|⟨_,_,rfl⟩|⟨_,_,_,rfl⟩
   ·exact absurd o6 hzi
   ·exact absurd o1 h3
   all_goals exact⟨rfl,rfl⟩
 have hyst:Step c st y p2:=by
  refine⟨hx.vs,hy.ve,?_⟩
  rcases hy.how with ⟨o1,o2,o3,o4,o5⟩|⟨p,h1,h2,h3y⟩
  ·rw[f1 _ (Ne.symm hne)]at o2
   refine .inl ⟨o1,o2,o3,fun hl=>o4 ?_,o5⟩
   have:=hx.vs.len
   rw[a9Z hi,a9p hi,n1]
   split
   ·exact hl
   ·rename_i hnf
    rcases hx.how with ⟨_,_,_,h4,_⟩|⟨p,h1,_,_⟩
    ·exact absurd hl h4
    ·exact absurd (by rw[show st.find? (fun y=>decide (y.name=x.part))=some p from h1];rfl) hnf
  ·rw[f1 _ (Ne.symm hne)]at h1
   refine .inr ⟨p,h1,h2,?_⟩
   rcases h3y with ⟨o1,q,o2,o3,o4,o5,o6,o7,o8⟩|⟨o1,_,_⟩|h|h|h|⟨o1,o2,o3,o4⟩
   ·have hyi:y.into∈a0Z y:=by simp[a0Z,o1]
    have hni:y.into≠x.part:=fun e=>hd _ xp (by rw[←e];exact hyi)
    rw[f1 _ hni]at o2
    refine .inl ⟨o1,q,o2,o3,o4,o5,o6,a4P.2 fun z hz ⟨e1,e2⟩=>?_,o8⟩
    by_cases hzn:z.name=x.part
    ·obtain⟨w1,w2⟩:=wx z hz hzn (by rw[e1];exact a5e (vy.2.2.2.1 o1).1);exact a4P.1 o7 p1 ((m1 _).2 (.inl rfl)) ⟨by rw[w1,e1],by rw[w2,e2]⟩
    ·exact a4P.1 o7 z ((m1 _).2 (.inr ⟨hz,hzn⟩)) ⟨e1,e2⟩
   ·exact absurd o1 h3'
   ·exact .inr (.inr (.inl h))
   ·exact .inr (.inr (.inr (.inl h)))
   ·exact .inr (.inr (.inr (.inr (.inl h))))
   ·refine .inr (.inr (.inr (.inr (.inr ⟨o1,o2,a4F.2 fun z hz e1=>?_,o4⟩))))
    have hp:=(a1J hi).1 h1
    by_cases hzn:z.name=x.part
    ·obtain⟨w1,w2⟩:=wx z hz hzn (by rw[e1,hp.2];exact a5e vy.1);exact a4F.1 o3 p1 ((m1 _).2 (.inl rfl)) (by rw[w1,e1])
    ·exact a4F.1 o3 z ((m1 _).2 (.inr ⟨hz,hzn⟩)) e1
 refine⟨hyst,hyst.valid,hx.ve,?_⟩
 -- where the part of y is
 have wy:∀s,s∈a0Z x→s≠a1g→p2.into=s→∃z∈st,z.into=s∧z.slot=p2.slot∧z.name=y.part:=fun s hs hsn he=>by
  rcases hyst.how with ⟨_,h2,_,_,rfl⟩|⟨p,h1,_,h3y⟩
  ·exact absurd he.symm hsn
  ·have hp:=(a1J hi).1 h1
   rcases h3y with ⟨o1,q,_,_,_,_,o6,_,rfl⟩|⟨o1,_,_⟩|⟨_,_,rfl⟩|⟨_,rfl⟩|⟨_,_,rfl⟩|⟨_,_,_,rfl⟩
   ·exact absurd (by rw[←he];simp[a0Z,o1]) (hd s hs)
   ·exact absurd o1 h3'
   all_goals exact⟨_,hp.1,he,rfl,hp.2⟩
 rcases hx.how with ⟨o1,o2,o3,o4,o5⟩|⟨p,h1,h2,h3x⟩
 ·refine .inl ⟨o1,by rw[f2 _ hne];exact o2,o3,fun hl=>?_,o5⟩;rw[a9Z hi,a9p hi,n2]at hl
  split at hl
  ·exact o4 hl
  ·rename_i hnf
   rcases hy.how with ⟨_,_,_,h4,_⟩|⟨p,h1,_,_⟩
   ·apply h4
    rw[a9Z hi,a9p hi,n1,if_neg]
    ·exact hl
    ·rw[show st.find? (fun y=>decide (y.name=x.part))=none from o2];simp
   ·rw[f1 _ (Ne.symm hne)]at h1
    exact hnf (by rw[show st.find? (fun z=>decide (z.name=y.part))=some p from h1];rfl)
 ·refine .inr ⟨p,by rw[f2 _ hne];exact h1,h2,?_⟩
  have hp:=(a1J hi).1 h1
  rcases h3x with ⟨o1,q,o2,o3,o4,o5,o6,o7,o8⟩|⟨o1,_,_⟩|h|h|h|⟨o1,o2,o3,o4⟩
  ·have hxi:x.into∈a0Z x:=by simp[a0Z,o1]
   have hni:x.into≠y.part:=fun e=>hd _ hxi (by rw[e];exact yp)
   refine .inl ⟨o1,q,by rw[f2 _ hni];exact o2,o3,o4,o5,o6,a4P.2 fun z hz ⟨e1,e2⟩=>?_,o8⟩
   rcases (m2 z).1 hz with rfl|⟨hz,_⟩
   ·obtain⟨w,hw,w1,w2,_⟩:=wy _ hxi (a5e (vx.2.2.2.1 o1).1) e1;exact a4P.1 o7 w hw ⟨w1,by rw[w2,e2]⟩
   ·exact a4P.1 o7 z hz ⟨e1,e2⟩
  ·exact absurd o1 h3
  ·exact .inr (.inr (.inl h))
  ·exact .inr (.inr (.inr (.inl h)))
  ·exact .inr (.inr (.inr (.inr (.inl h))))
  ·refine .inr (.inr (.inr (.inr (.inr ⟨o1,o2,a4F.2 fun z hz e1=>?_,o4⟩))))
   rcases (m2 z).1 hz with rfl|⟨hz,_⟩
   ·obtain⟨w,hw,w1,_,_⟩:=wy _ xp (a5e vx.1) (by rw[e1,hp.2]);exact a4F.1 o3 w hw (by rw[w1,hp.2])
   ·exact a4F.1 o3 z hz e1
end Go.Sx
set_option linter.all false
namespace Go.Sx
open Go
theorem b6M {e:Evt} (hv:a1H e=true) (s:ByteArray):s∈a1R e↔s∈a0Z e:=by
 unfold a1R a0Z;rw[if_neg (by simp[hv])]
 split
 ·unfold d1f d1e
  cases h1:sLt e.part e.into with
  |true=>simp
  |false=>
   by_cases h2:e.part=e.into
   ·rw[h2];simp
   ·simp[h2]
    constructor
    ·rintro (h|h)
     ·exact .inr h
     ·exact .inl h
    ·rintro (h|h)
     ·exact .inr h
     ·exact .inl h
 ·rfl
end Go.Sx
set_option linter.all false
namespace Go.Sx
open Go
structure Spl (D:ByteArray→Bool) (s a b:List Part):Prop where
 is:Inc Part.name s
 ia:Inc Part.name a
 ib:Inc Part.name b
 mem:∀x,x∈s↔x∈a∨x∈b
 na:∀x∈a,D x.name=true∧(x.into=a1g∨D x.into=true)
 nb:∀x∈b,D x.name=false∧(x.into=a1g∨D x.into=false)
theorem Spl.nil (D:ByteArray→Bool):Spl D [] [] []:=⟨.nil,.nil,.nil,by simp,by simp,by simp⟩
theorem Spl.turn {D:ByteArray→Bool} {s a b:List Part} (h:Spl D s a b):Spl (fun n=>!D n) s b a:=
 ⟨h.is,h.ib,h.ia,fun x=>by rw[h.mem x];exact Or.comm,fun x hx=>by simpa using h.nb x hx,fun x hx=>by simpa using h.na x hx⟩
theorem Spl.find {D:ByteArray→Bool} {s a b:List Part} (h:Spl D s a b) {n:ByteArray} (hn:D n=true):a0O s n=a0O a n:=by
 refine Option.ext fun x=>?_
 show s.find? _=some x↔a.find? _=some x
 rw[a1J h.is,a1J h.ia,h.mem x]
 constructor
 ·rintro⟨h1|h1,h2⟩
  ·exact⟨h1,h2⟩
  ·have:=(h.nb x h1).1
   rw[h2,hn]at this;cases this
 ·rintro⟨h1,h2⟩;exact⟨.inl h1,h2⟩
def Dev (D:ByteArray→Bool) (e:Evt):Prop:=∀z∈a0Z e,D z=true
theorem Dev.part {D:ByteArray→Bool} {e:Evt} (h:Dev D e):D e.part=true:=h _ (by unfold a0Z;split<;>simp)
theorem Dev.into {D:ByteArray→Bool} {e:Evt} (h:Dev D e) (ho:e.op=2):D e.into=true:=h _ (by simp[a0Z,ho])
theorem Spl.taken {D:ByteArray→Bool} {s a b:List Part} (h:Spl D s a b) {e:Evt} (hn:D e.into=true) (h0:e.into≠a1g):a0X s e=a0X a e:=by
 unfold a0X;rw[Bool.eq_iff_iff,List.any_eq_true,List.any_eq_true]
 constructor
 ·rintro⟨x,hx,hp⟩
  rcases (h.mem x).1 hx with h1|h1
  ·exact⟨x,h1,hp⟩
  ·have hi:x.into=e.into:=by simp at hp;exact hp.1
   rcases (h.nb x h1).2 with h2|h2
   ·exact absurd (hi.symm.trans h2) h0
   ·rw[hi,hn]at h2;cases h2
 ·rintro⟨x,hx,hp⟩;exact⟨x,(h.mem x).2 (.inl hx),hp⟩
theorem Spl.holds {D:ByteArray→Bool} {s a b:List Part} (h:Spl D s a b) {n:ByteArray} (hn:D n=true) (h0:n≠a1g):a1p s n=a1p a n:=by
 unfold a1p;rw[Bool.eq_iff_iff,List.any_eq_true,List.any_eq_true]
 constructor
 ·rintro⟨x,hx,hp⟩
  rcases (h.mem x).1 hx with h1|h1
  ·exact⟨x,h1,hp⟩
  ·have hi:x.into=n:=by simpa using hp
   rcases (h.nb x h1).2 with h2|h2
   ·exact absurd (hi.symm.trans h2) h0
   ·rw[hi,hn]at h2;cases h2
 ·rintro⟨x,hx,hp⟩;exact⟨x,(h.mem x).2 (.inl hx),hp⟩
theorem Spl.step {c:List Kind} {D:ByteArray→Bool} {s a b:List Part} (h:Spl D s a b) {e:Evt} (he:Dev D e) (vs:VS c s) (va:VS c a) (ls:s.length<20000) (la:a.length<20000) (p':Part):Step c s e p'↔Step c a e p':=by
 have f1:=h.find he.part
 constructor
 ·intro hs;obtain⟨v1,v2,v3,v4,v5⟩:=a2x hs.ve;refine⟨va,hs.ve,?_⟩
  rcases hs.how with ⟨h1,h2,h3,h4,h5⟩|⟨p,h1,h2,h3⟩
  ·exact .inl ⟨h1,by rw[←f1];exact h2,h3,by omega,h5⟩
  ·refine .inr ⟨p,by rw[←f1];exact h1,h2,?_⟩
   have hpn:p.name=e.part:=((a1J h.is).1 h1).2
   rcases h3 with ⟨o1,q,o2,o3,o4,o5,o6,o7,o8⟩|h3|h3|h3|h3|⟨o1,o2,o3,o4⟩
   ·exact .inl ⟨o1,q,by rw[←h.find (he.into o1)];exact o2,o3,o4,o5,o6,by rw[←h.taken (he.into o1) (a5e (v4 o1).1)];exact o7,o8⟩
   ·exact .inr (.inl h3)
   ·exact .inr (.inr (.inl h3))
   ·exact .inr (.inr (.inr (.inl h3)))
   ·exact .inr (.inr (.inr (.inr (.inl h3))))
   ·exact .inr (.inr (.inr (.inr (.inr ⟨o1,o2,by rw[←h.holds (by rw[hpn];exact he.part) (by rw[hpn];exact a5e v1)];exact o3,o4⟩))))
 ·intro hs;obtain⟨v1,v2,v3,v4,v5⟩:=a2x hs.ve;refine⟨vs,hs.ve,?_⟩
  rcases hs.how with ⟨h1,h2,h3,h4,h5⟩|⟨p,h1,h2,h3⟩
  ·exact .inl ⟨h1,by rw[f1];exact h2,h3,by omega,h5⟩
  ·refine .inr ⟨p,by rw[f1];exact h1,h2,?_⟩
   have hpn:p.name=e.part:=((a1J h.ia).1 h1).2
   rcases h3 with ⟨o1,q,o2,o3,o4,o5,o6,o7,o8⟩|h3|h3|h3|h3|⟨o1,o2,o3,o4⟩
   ·exact .inl ⟨o1,q,by rw[h.find (he.into o1)];exact o2,o3,o4,o5,o6,by rw[h.taken (he.into o1) (a5e (v4 o1).1)];exact o7,o8⟩
   ·exact .inr (.inl h3)
   ·exact .inr (.inr (.inl h3))
   ·exact .inr (.inr (.inr (.inl h3)))
   ·exact .inr (.inr (.inr (.inr (.inl h3))))
   ·exact .inr (.inr (.inr (.inr (.inr ⟨o1,o2,by rw[h.holds (by rw[hpn];exact he.part) (by rw[hpn];exact a5e v1)];exact o3,o4⟩))))
theorem Spl.put {c:List Kind} {D:ByteArray→Bool} {s a b:List Part} (h:Spl D s a b) {e:Evt} (he:Dev D e) {p':Part} (hs:Step c a e p'):Spl D (a4i Part.name s p') (a4i Part.name a p') b:=by
 have hn:=hs.name
 refine⟨a4j _ h.is,a4j _ h.ia,h.ib,fun x=>?_,fun x hx=>?_,h.nb⟩
 ·rw[a3e h.is,a3e h.ia,h.mem x,hn]
  constructor
  ·rintro (h1|⟨h1|h1,h2⟩)
   ·exact .inl (.inl h1)
   ·exact .inl (.inr ⟨h1,h2⟩)
   ·exact .inr h1
  ·rintro ((h1|⟨h1,h2⟩)|h1)
   ·exact .inl h1
   ·exact .inr ⟨.inl h1,h2⟩
   ·refine .inr ⟨.inr h1,fun h2=>?_⟩
    have:=(h.nb x h1).1
    rw[h2,he.part]at this;cases this
 ·rcases (a3e h.ia).1 hx with rfl|⟨h1,_⟩
  ·refine⟨by rw[hn];exact he.part,?_⟩
   rcases hs.how with ⟨_,_,_,_,rfl⟩|⟨p,h1,h2,h3⟩
   ·exact .inl rfl
   ·have hp:=h.na p ((a1J h.ia).1 h1).1
    rcases h3 with ⟨o1,q,o2,o3,o4,o5,o6,o7,rfl⟩|⟨_,_,rfl⟩|⟨_,_,rfl⟩|⟨_,rfl⟩|⟨_,_,rfl⟩|⟨_,_,_,rfl⟩
    ·exact .inr (he.into o1)
    ·exact .inl rfl
    ·exact hp.2
    ·exact hp.2
    ·exact hp.2
    ·exact hp.2
  ·exact h.na x h1
theorem b1k {l:List Part} {x:Part} (h:Inc Part.name l):(a4i Part.name l x).length≤l.length+1:=by
 rw[a9Z h];split<;>omega
theorem c1C (c:List Kind) (s:List Part) (e:Evt):(∃p',Step c s e p'∧(a0p c s e).2=0∧(a0p c s e).1=a4i Part.name s p')∨((a0p c s e).2≠0∧∀p',¬Step c s e p'):=by
 by_cases h:(a0p c s e).2=0
 ·obtain⟨p',hp⟩:=a4u h;exact .inl ⟨p',hp,h,by rw[a2Z hp];rfl⟩
 ·exact .inr ⟨h,fun p' hp=>h (by rw[a2Z hp];rfl)⟩
theorem a8h {c:List Kind} {D:ByteArray→Bool}:∀(Z:List Evt) (s a b:List Part),Spl D s a b→VS c s→VS c a→VS c b→s.length+Z.length<20000→a.length+Z.length<20000→b.length+Z.length<20000 →
  (∀e∈Z,Dev D e∨Dev (fun n=>!D n) e)→(a1F c s Z).isSome=((a1F c a (Z.filter fun e=>D e.part)).isSome&&(a1F c b (Z.filter fun e=>!D e.part)).isSome)
 | [],_,_,_,_,_,_,_,_,_,_,_=>rfl
 |e::r,s,a,b,h,vs,va,vb,ls,la,lb,hd=>by
  simp only[List.length_cons]at ls la lb
  rcases hd e (by simp) with he|he
  ·have hp:=he.part
   have hst:=fun p'=>h.step he vs va (by omega) (by omega) p'
   simp only[List.filter_cons,hp,Bool.not_true,if_true,Bool.false_eq_true,if_false]
   rcases c1C c a e with ⟨p',h1,h2,h3⟩|⟨h1,h2⟩
   ·have h4:=(hst p').2 h1
    have e4:a0p c s e=b2r s p':=a2Z h4
    simp only[a1F]
    rw[if_pos h2,h3,if_pos (by rw[e4];rfl),e4]
    have l1:=b1k (x:=p') h.is
    have l2:=b1k (x:=p') h.ia
    exact a8h r _ _ _ (h.put he h1) h4.valid h1.valid vb (by show (a4i Part.name s p').length+r.length<20000;omega) (by omega) (by omega) fun x hx=>hd x (by simp[hx])
   ·simp only[a1F]
    rw[if_neg h1,if_neg (fun h0=>by obtain⟨p',hp'⟩:=a4u h0;exact h2 p' ((hst p').1 hp'))]
    rfl
  ·have hp:D e.part=false:=by simpa using he.part
   have hst:=fun p'=>h.turn.step he vs vb (by omega) (by omega) p'
   simp only[List.filter_cons,hp,Bool.not_false,if_true,Bool.false_eq_true,if_false]
   rcases c1C c b e with ⟨p',h1,h2,h3⟩|⟨h1,h2⟩
   ·have h4:=(hst p').2 h1
    have e4:a0p c s e=b2r s p':=a2Z h4
    simp only[a1F]
    rw[if_pos h2,h3,if_pos (by rw[e4];rfl),e4]
    have l1:=b1k (x:=p') h.is
    have l2:=b1k (x:=p') h.ib
    have ht:=(h.turn.put he h1).turn
    have ht:Spl D (a4i Part.name s p') a (a4i Part.name b p'):=⟨ht.is,ht.ia,ht.ib,ht.mem,fun x hx=>by simpa using ht.na x hx,fun x hx=>by simpa using ht.nb x hx⟩
    exact a8h r _ _ _ ht h4.valid va h1.valid (by show (a4i Part.name s p').length+r.length<20000;omega) (by omega) (by omega) fun x hx=>hd x (by simp[hx])
   ·simp only[a1F]
    rw[if_neg h1,if_neg (fun h0=>by obtain⟨p',hp'⟩:=a4u h0;exact h2 p' ((hst p').1 hp'))]
    simp
theorem a8B {c:List Kind} (h:a0Y c=true):VS c []:=⟨h,by simp,.nil,by simp,by simp,by simp,by simp⟩
def Seen (kvs:List (ByteArray×Value)) (p:ByteArray→Bool):Prop:=∀s,(a4W kvs s).getD (.bool false) = .bool (p s)
theorem Seen.nil {p:ByteArray→Bool} (h:∀s,p s=false):Seen [] p:=fun s=>by rw[h s];rfl
theorem Seen.put {kvs:List (ByteArray×Value)} {p q:ByteArray→Bool} (h:Seen kvs p) (k:ByteArray) (hq:∀s,q s=(p s||decide (k=s))):Seen (a5N kvs k (.bool true)) q:=fun s=>by
 rw[a9N,hq s]
 by_cases hk:k=s
 ·simp[hk]
 ·simp[hk,h s]
theorem Seen.congr {kvs:List (ByteArray×Value)} {p q:ByteArray→Bool} (h:Seen kvs p) (hq:∀s,q s=p s):Seen kvs q:=fun s=>by rw[h s,hq s]
end Go.Sx
