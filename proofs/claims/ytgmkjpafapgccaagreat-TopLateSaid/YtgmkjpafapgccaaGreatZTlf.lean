
import Derived.Test.YtgmkjpafapgccaaGreatZTle
import Derived.RecoverIn
namespace Go.Proofs.YtgmkjpafapgccaaGreat
open Go Go.Sx Tryz
set_option linter.all false
set_option maxRecDepth 20000
set_option maxHeartbeats 4000000
instance:Has (a1W prog 157) ([.int .i64 0,.string ⟨#[]⟩,.string ⟨#[]⟩],3,40):=hk
instance:Has (a6q prog 46) (157,3):=hk
instance:Has (a1g prog 157 0) (0,false,1):=hk
instance:Has (a1g prog 157 1) (1,false,1):=hk
instance:Has (a1g prog 157 2) (2,false,1):=hk
instance:Has (a1g prog 95 2) (2,false,1):=hk
instance:Has (a1g prog 95 3) (3,false,1):=hk
instance:Has (plK prog 157) [(0,1),(1,1),(2,1)]:=hk
instance:Has (plK prog 172) [(0,1),(1,1)]:=hk
instance:Has (plK prog 36) [(0,1),(1,1),(2,6)]:=hk
instance:Has (tyK prog 146) (false,1):=hk
instance:Has (tyK prog 157) (true,3):=hk
instance:Has (tyK prog 46) (false,1):=hk
instance:Has (prog.underlying 146) (.map 157 4):=hk
instance:Has (prog.underlying 46) (.slice 157):=hk
instance:Has (a1i prog 157) [.int .i64 0,.string ⟨#[]⟩,.string ⟨#[]⟩]:=hk
instance:Has (a1i prog 172) [.slice none 0 0,.int .i64 0]:=hk
instance:Has (a1i prog 36) [.string ⟨#[]⟩,.string ⟨#[]⟩,.int .i64 0,.string ⟨#[]⟩,.string ⟨#[]⟩,.int .i64 0,.int .i64 0,.slice none 0 0]:=hk
theorem d5T (I:IMap) (v:Value) (l:List Part) (hv:RdS I v l) (hf:b1j l≤12) (day:Int) (x:Xp) (ho:OkXp x) (hn:allX a4l x=true) (h60:cntX x≤60) (vs:List Value) (hx:XpRd I vs x) (p:ByteArray) :
  FnI prog 81 #[.agg #[v,.int .i64 (day)],.agg vs.toArray,.string p] I (fun u _=>u=ci (askF l day x p)):=by
 have key:∀(N:Nat),N≤60→∀(I:IMap),RdS I v l→∀(x:Xp),OkXp x→allX a4l x=true→cntX x≤N→∀vs,XpRd I vs x→∀p,FnI prog 81 #[.agg #[v,.int .i64 (day)],.agg vs.toArray,.string p] I (fun u _=>u=ci (askF l day x p)):=by
  intro N
  induction N with
  |zero=>intro _ I _ x _ _ h;cases x;simp[cntX]at h
  |succ N ih=>exact fun h6 I hv x ho hn hN vs hx p=>b8T I v l hv hf day N (fun I2 hI2 x ho hn h vs hx p=>ih oM I2 (hv.le hI2) x ho hn h vs hx p) x ho hn hN (by have:=c5i x;omega) vs hx p
 exact key (cntX x) h60 I hv x ho hn (Nat.le_refl _) vs hx p
theorem c1J (I:IMap) (v:Value) (l:List Part) (hv:RdS I v l) (hf:b1j l≤12) (x:Xp) (ho:OkXp x) (vs:List Value) (hx:XpRd I vs x) (p:ByteArray) (day:Int) :
    FnI prog 26 #[.agg #[v],.agg vs.toArray,.string p,.int .i64 (day)] I (fun u J=>u=ci (b1m l x p day)):=by
 have hx0:=hx;obtain⟨sk,rfl,hk⟩:=b0x hx;refine enter func26 call26 rfl ntmps26 rfl fun w0=>?_;refine go 4 fun g4=>?_
 refine go 2 fun g5=>?_
 refine go 9 ?_;refine cV (c2F _ ⟨⟨#[114]⟩,⟨#[107]⟩,x⟩ ⟨Nat.le_of_ble_eq_true rfl,Nat.le_of_ble_eq_true rfl,ho⟩ _ ⟨_,rfl,hk⟩) ?_;refine gS 2 13 (fun h13 p13=>?_) fun h13 p13=>?_
 ·refine go 16 ?_;exact q_i (congrArg (Value.int .i64) (by unfold b1m;rw[if_pos (by simp only[h13,bS])]))
 ·refine go 3 ?_;refine a0q rfl rfl h13 (a0v (d2E _ v l hv p) rfl rfl ?_);refine gC 4 (fun h18 p18=>?_) fun h18 p18=>?_
  ·refine go 8 ?_;exact q_i (congrArg (Value.int .i64) (by unfold b1m;rw[if_pos (by simp only[h13,h18,bS])]))
  ·have hvr:=c4V p13;refine go 10 ?_;refine a0p (d5T _ v l hv hf day x ho hvr.1 hvr.2 _ hx0 p) rfl rfl fun v24 I24 j24 q24=>?_;obtain rfl:=q24;refine go 5 ?_;exact q_i (congrArg (Value.int .i64) (by unfold b1m;rw[if_neg (by simp only[h13,h18,bS];decide)]))
theorem c1q (I:IMap) (v:Value) (l:List Int) (hv:RdS I v l) (s:Int) :
    FnV prog 230 #[v,.int .i64 (s)] I (.int .i64 (a4u (fun x=>decide (s=x)) l)):=by
 obtain⟨A,c,rfl,hA,hc,hm⟩:=hv;refine enter func230 call230 rfl ntmps230 rfl fun w0=>?_;refine go 14 ?_
 refine a0x (α:=Nat) 0 (fun i=>I)
  (fun i=>[(0,.slice A l.length c),(1,.int .i64 (s)),(7,.int .i64 (l.length:Int)),(8,.int .i64 (i:Int))])
  (fun i=>[])
  (fun i=>i≤l.length∧∀j x,j<i→l[j]? = some x→(fun x=>decide (s=x)) x=false)
  (fun i=>l.length-i) ⟨Nat.zero_le _,fun j x hj=>absurd hj (Nat.not_lt_zero j)⟩ rfl sb rfl ?_
 intro i ⟨hi,hn⟩;refine gC 6 (fun h9 p9=>?_) fun h9 p9=>?_
 ·have hlt:i<l.length:=oM;refine go 15 ?_;obtain⟨b14,o14,w14,e14,c14,r14⟩:=RdA.at_ hA (i:=i) hlt;obtain rfl:=r14;refine gC 5 (fun h16 p16=>?_) fun h16 p16=>?_
  ·refine go 13 ?_;exact q_v (congrArg (Value.int .i64) (a1z hlt h16 hn).symm)
  ·refine go 8 ?_;exact a0w (i+1) ⟨oM,a1E hn hlt h16⟩ oM rfl sb rfl
 ·refine go 12 ?_;exact q_v (congrArg (Value.int .i64) (a1T (fun j x hj=>hn j x oM)).symm)
theorem a8l (I:IMap) (v:Value) (l:List Int) (hv:RdS I v l) (s:Int) :
    FnV prog 153 #[v,.int .i64 (s)] I (.bool (decide (s∈l))):=by
 refine enter func153 call153 rfl ntmps153 rfl fun w0=>?_;refine go 10 ?_;refine cV (c1q I v l hv s) ?_;refine go 6 ?_;exact q_v (congrArg Value.bool ((a2F _ l).trans (c3X s l)))
theorem b3J (I:IMap) (v:Value) (l:List Int) (hv:RdS I v l) (f:FuncId) (cs:List Value) (p:Int→Bool) (hp:∀x∈l,FnV prog f ([Value.int .i64 x]++cs).toArray I (.bool (p x))) :
    FnV prog 229 #[v,.func (.func f) #[] cs.toArray] I (.int .i64 (a4u p l)):=by
 obtain⟨A,c,rfl,hA,hc,hm⟩:=hv;refine enter func229 call229 rfl ntmps229 rfl fun w0=>?_;refine go 14 ?_
 refine a0x (α:=Nat) 0 (fun i=>I)
  (fun i=>[(0,.slice A l.length c),(1,.func (.func f) #[] cs.toArray),(7,.int .i64 (l.length:Int)),(8,.int .i64 (i:Int))])
  (fun i=>[])
  (fun i=>i≤l.length∧∀j x,j<i→l[j]? = some x→p x=false)
  (fun i=>l.length-i) ⟨Nat.zero_le _,fun j x hj=>absurd hj (Nat.not_lt_zero j)⟩ rfl sb rfl ?_
 intro i ⟨hi,hn⟩;refine gC 6 (fun h9 p9=>?_) fun h9 p9=>?_
 ·have hlt:i<l.length:=oM;refine go 15 ?_;obtain⟨b14,o14,w14,e14,c14,r14⟩:=RdA.at_ hA (i:=i) hlt;obtain rfl:=r14;refine go 3 ?_;refine cV (hp _ (List.getElem_mem hlt)) ?_;refine gC 2 (fun h16 p16=>?_) fun h16 p16=>?_
  ·refine go 13 ?_;exact q_v (congrArg (Value.int .i64) (a1z hlt p16 hn).symm)
  ·refine go 8 ?_;exact a0w (i+1) ⟨oM,a1E hn hlt p16⟩ oM rfl sb rfl
 ·refine go 12 ?_;exact q_v (congrArg (Value.int .i64) (a1T (fun j x hj=>hn j x oM)).symm)
theorem a9t (I:IMap) (v:Value) (l:List Int) (hv:RdS I v l) (f:FuncId) (cs:List Value) (p:Int→Bool) (hp:∀x∈l,FnV prog f ([Value.int .i64 x]++cs).toArray I (.bool (p x))) :
    FnV prog 151 #[v,.func (.func f) #[] cs.toArray] I (.bool (l.any p)):=by
 refine enter func151 call151 rfl ntmps151 rfl fun w0=>?_;refine go 10 ?_;refine cV (b3J I v l hv f cs p hp) ?_;refine go 6 ?_;exact q_v (congrArg Value.bool (a2F p l))
theorem d2x (I:IMap) (m:Int) (h:Hld) (a b:Value) (hb:RdS I b h.back) (g:Nat) (cg:ICells I g 0 (h.cs a b)) :
    FnV prog 152 #[.int .i64 (m),.pointer (some ⟨g,0,none⟩)] I (.bool (!decide (m∈h.back))):=by
 refine enter func152 call152 rfl ntmps152 rfl fun w0=>?_;refine go 8 ?_;refine o_v rfl (a0H he rfl (cg 3 _ rfl)) ?_;refine go 2 ?_;refine cV (a8l _ _ h.back hb m) ?_;refine go 6 ?_;exact q_v rfl
theorem d5s (I:IMap) (h:Hld) (a b:Value) (ha:RdS I a h.members) (hb:RdS I b h.back) :
    FnV prog 72 #[.agg (h.cs a b).toArray] I (.bool (d4N h)):=by
 refine enter func72 call72 rfl ntmps72 rfl fun w0=>?_;refine go 4 fun g1=>?_
 refine go 7 ?_;refine a0B fun Ig1 jg1 cg1=>?_;have ha:=ha.le jg1;have hb:=hb.le jg1;refine go 2 ?_;refine cV (a9t _ _ h.members ha 152 [.pointer (some ⟨g1,0,none⟩)] (fun m=>!decide (m∈h.back)) (fun m _=>d2x _ m h a b hb g1 cg1)) ?_;refine go 5 ?_;exact a8p rfl
theorem c0Q (a b:Flt):eqV prog 9 157 (.agg a.cells.toArray) (.agg b.cells.toArray)=some (decide (a=b)):=by
 rw[←Flt.eqB_eq]
 kernel_rfl
theorem d2Q:KeyOK prog 157 a3E:=a7R (cells:=Flt.cells) (by kernel_rfl) (fun p q=>c0Q p q) (fun p=>by kernel_rfl) (fun p=>by simp[Flt.cells,b1U,b1T])
theorem b8B (I:IMap) (r:Nat) (kvs:List (Flt×Value)) (k:Int) (p:ByteArray) (w:Value) (ns:List ByteArray) (hw:RdS I w ns) :
    FnM prog 68 #[.map (some r),.int .i64 (k),.string p,w] I (.mp r (a1u a3E kvs)) (.mp r (a1u a3E (a7F kvs (ns.map (fun n=>(⟨k,p,n⟩:Flt)))))):=by
 obtain⟨A,c,rfl,hA,hc,hm⟩:=hw;refine enter func68 call68 rfl ntmps68 rfl fun w0=>?_;refine go 8 ?_
 refine a0x (α:=Nat) 0 (fun i=>I)
  (fun i=>[(0,.map (some r)),(1,.int .i64 (k)),(2,.string p),(10,.slice A ns.length c),(11,.int .i64 ((ns.length:Nat):Int)),(12,.int .i64 ((i:Nat):Int))])
  (fun i=>[.mp r (a1u a3E (a7F kvs ((ns.take i).map (fun n=>(⟨k,p,n⟩:Flt)))))])
  (fun i=>i≤ns.length)
  (fun i=>ns.length-i) (Nat.zero_le _) rfl sb rfl ?_
 intro i hi;refine gC 6 (fun h13 p13=>?_) fun h13 p13=>?_
 ·have hlt:i<ns.length:=oM;refine go 6 ?_;obtain⟨b14,o14,w14,e14,c14,r14⟩:=RdA.at_ hA (i:=i) hlt;obtain rfl:=r14;refine go 12 ?_;refine a2i (a7F kvs ((ns.take (i+1)).map (fun n=>(⟨k,p,n⟩:Flt)))) (d2Q) he ((fun n=>(⟨k,p,n⟩:Flt)) ns[i]) rfl rfl rfl (c2r hlt) ?_;refine go 8 ?_;exact a0w (i+1) oM oM rfl sb rfl
 ·obtain rfl:i=ns.length:=oM;rw[List.take_length];refine go 5 ?_;exact q_m
theorem d5r (I:IMap) (a b:Flt) :
    FnV prog 145 #[.agg a.cells.toArray,.agg b.cells.toArray] I (.int .i64 (a7H a b)):=by
 refine enter func145 call145 rfl ntmps145 rfl fun w0=>?_;refine go 4 fun g2=>?_
 refine go 2 fun g3=>?_
 refine go 4 ?_;refine a1J fun hE1 hf1=>?_;refine go 1 ?_;refine dG 0 4 ?_;refine dG 5 4 ?_;refine dG 10 4 ?_;refine dH 4 0 ?_;refine cV (a9s _ a.kind b.kind) ?_;refine dH 9 0 ?_;refine cV (a3x _ a.part b.part) ?_;refine dH 14 0 ?_;refine cV (a3x _ a.name b.name) ?_;refine dH 15 0 ?_;refine go 1 fun v20=>?_
 refine a0i (l:=[a8F a.kind b.kind,a8G a.part b.part,a8G a.name b.name]) rfl rfl ((a7Q [a8F a.kind b.kind,a8G a.part b.part,a8G a.name b.name])) fun I20 j20 R20=>?_;refine dH 16 0 ?_;refine cV (d5g _ _ _ R20) ?_;refine dG 17 1 ?_;refine go 4 ?_;exact a8p rfl
theorem c6B (I:IMap) (v:Value) (l:List Flt) (hl:l.length≤1000000) :
  FnX prog 221 #[v,.func (.func 145) #[] #[]] I [.row v 157 3 l.length (l.flatMap Flt.cells)] (fun u r=>u = .tuple #[]∧∃m,c3S a7H l m∧r = .row v 157 3 l.length (m.flatMap Flt.cells)):=
 c6D (k:=3) (cells:=Flt.cells) (cf:=a7H) (fun args w=>call221 args w) (fun args w=>call145 args w)
  (fun blk off cap d w hc hH hb hs=>AnyQ.slices_SortFunc Tryz.layF 3 Tryz.isAgg157 Tryz.sizeOf157 Flt.cells (fun _=>rfl) (fun x v hv=>by simp[Flt.cells]at hv;rcases hv with rfl|rfl|rfl<;>rfl) a7H c9l 145 #[] blk off cap d w (fun args w=>call145 args w) hc hH hb hs)
  (fun w=>AnyF.slices_SortFunc_none { Tryz.layF with } none 0 _ w) (fun x y=>d5r I00 x y) (fun _=>rfl) hl
theorem c9B (I:IMap) (S:ItS) (r:Nat) (kvs:List (Flt×Value)) (hO0:S.Ok a3E kvs) (hT0:S.Todo a3E kvs) (hS0:S.seen=#[]) (g1:Nat) (c1:ICells I g1 0 [.map (some r)]) (hmp:I r=some S.mp) :
    b9N prog 222 [.pointer (some ⟨g1,0,none⟩)] I (fun _ vs (x:Flt)=>vs=[.agg x.cells.toArray]) (fun pre _=>pre.length<kvs.length) (fun pre=>pre.Perm (kvs.map Prod.fst)) (fun _=>True):=by
 intro ly J I1 Hc hI1 hJm hY hJ0;have c1:=c1.le hI1;have hmp:=(hI1) _ _ hmp;refine enter func222 call222 rfl ntmps222 rfl fun w0=>?_;refine go 4 ?_;refine b2B (a7K hmp) hS0 he rfl rfl fun i5=>?_;refine go 3 ?_
 refine a5g (S) (kvs) ([]) (I1) (Hc) (fun S2 todo pre I2 Hc=>I2)
  (fun S2 todo pre I2 Hc=>[(0,.func (.yield ly) #[] #[]),(5,.pointer (some ⟨i5,0,none⟩))])
  (fun S2 todo pre I2 Hc=>.any i5 (S2.it r)::Hc)
  (fun S2 todo pre I2 Hc=>ILe I1 I2∧S2.mp=S.mp∧S2.Ok a3E kvs∧S2.Todo a3E todo∧(pre++todo.map Prod.fst).Perm (kvs.map Prod.fst)∧J true pre I2 Hc)
  (fun S2 todo pre I2 Hc=>todo.length) ⟨ILe.refl _,rfl,hO0,hT0,.refl _,hJ0⟩ rfl sb rfl ?_
 intro S2 todo pre I2 Hc ⟨hI2,hme,hO,hT,hP,hJ⟩;have hmp2:I2 r=some S2.mp:=by rw[hme];exact hI2 _ _ hmp
 refine go 3 ?_;refine b5K (a7K hmp2) hO hT rfl rfl fun q6 S6 t6 hst he6=>?_;refine o_v rfl (a2c rfl (a7U _ _)) ?_;refine gC 3 (fun h7 p7=>?_) fun h7 p7=>?_
 ·obtain⟨e2,a,b,htd,hO1,hT1,hA1,rfl,rfl⟩:=hst.some h7;have hmp3:I2 r=some S6.mp:=by rw[he6];exact hmp2
  refine go 5 ?_;refine o_v rfl (b8f (a7K hmp3) m0 hO1 hA1 rfl) ?_;refine o_v rfl (OV.cast (u:=.agg e2.1.cells.toArray) (a2c rfl rfl) rfl) ?_;refine go 2 fun g3=>?_
  refine go 9 ?_;refine b7y (e2.1) hY (hJm _ _ _ _ _ (ILe.refl _) hJ) (rfl) ((c5g hP htd)) rfl rfl rfl fun b12 I12 Hc12 j12 hJ12=>?_;refine gC 3 (fun h13 p13=>?_) fun h13 p13=>?_
  ·have hb12:b12=false:=by simpa using h13
   refine go 5 ?_;refine a0a ?_;refine a0a ?_;subst hb12;exact c2s false _ hJ12 trivial
  ·have hb12:b12=true:=by simpa using h13
   refine go 3 ?_;refine a0a ?_;exact a2M (S6) (a++b) (pre++[e2.1]) (I12) (Hc12) ⟨hI2.trans j12,he6.trans hme,hO1,hT1,b8O hP htd,hb12▸hJ12⟩ (by rw[htd];simp) rfl sb rfl
 ·obtain⟨rfl,rfl,rfl⟩:=hst.none h7;refine go 5 ?_;refine a0a ?_;exact c2s true _ hJ (by simpa using hP)
theorem d2R (I:IMap) (r:Nat) :
    FnI prog 144 #[.map (some r)] I (fun u J=>∃g,u = .func (.func 222) #[] #[.pointer (some ⟨g,0,none⟩)]∧ICells J g 0 [.map (some r)]):=by
 refine enter func144 call144 rfl ntmps144 rfl fun w0=>?_;refine go 4 fun g1=>?_
 refine go 5 ?_;refine a0B fun Ig1 jg1 cg1=>?_;refine go 6 ?_;exact q_i ⟨_,rfl,cg1⟩
theorem b8k (I:IMap) (g:Nat) (Ls:List Flt) (hLs:Ls.length≤1000000) (hit:b9N prog 222 [.pointer (some ⟨g,0,none⟩)] I (fun _ vs (x:Flt)=>vs=[.agg x.cells.toArray]) (fun pre _=>pre.length<Ls.length) (fun pre=>pre.Perm Ls) (fun _=>True)) :
    FnH prog 282 #[.slice none 0 0,.func (.func 222) #[] #[.pointer (some ⟨g,0,none⟩)]] I [] (fun u J H2=>∃m:List Flt,H2=[.row u 157 3 m.length (m.flatMap Flt.cells)]∧m.Perm Ls):=by
 refine enter func282 call282 rfl ntmps282 rfl fun w0=>?_;refine go 4 fun g2=>?_
 refine go 6 ?_;refine a0G 157 3 ?_;refine go 4 ?_;refine a0b ?_;refine a9o (σ:=Value×List Flt) (ps:=[7]) (.slice none 0 0,[]) (fun ⟨v2,m⟩=>[.blk g2 46 [v2],.row v2 157 3 m.length (m.flatMap Flt.cells)]) (fun pre I ⟨v2,m⟩=>m=pre) (fun _ _ _ _=>False) rfl call222 (hit) (fun I vs x h=>by rw[h];rfl) rfl (fun pre I I' s hI h=>by obtain⟨v2,m⟩:=s;exact h) (fun _ _ _ _ _ _ h=>h) (rfl) rfl ?_ ?_ ?_
 ·rintro r E1 pre x vs I1 ⟨v2,m⟩ hI1 rfl rfl hlt;refine c3b ?_;refine go 3 fun g5=>?_
  refine go 3 ?_;refine a0b ?_;refine b0h ?_;refine go 6 fun v10=>?_
  refine go 1 ?_;refine a4S ?_;refine a0z he he rfl rfl rfl rfl rfl oM oM rfl fun v11=>?_;refine a0J fun A11 c11 hv11=>?_;subst hv11;refine go 1 ?_;refine a4S ?_;refine go 3 ?_;refine a0d ?_;refine a0a ?_;refine a0u ?_;refine a0a ?_;refine a0b ?_;refine a0b ?_;refine a0u ?_;refine a0u ?_;exact b4s ((.slice A11 (m.length+1) c11,m++[x])) (hI1) (rfl) (by show _=[Res.blk g2 46 [.slice A11 (m.length+1) c11],Res.row (.slice A11 (m.length+1) c11) 157 3 (m++[x]).length ((m++[x]).flatMap Flt.cells)];rw[List.length_append,List.flatMap_append];rfl)
 ·rintro D pre I1 ⟨v2,m⟩ hI1 hfull rfl;refine c2Y ?_;refine go 9 ?_;refine b0g ?_;refine go 1 ?_;refine a0a ?_;refine a0a ?_;exact a3g (fun _ m=>m) ⟨m,rfl,hfull⟩
 ·rintro D pre I1 s cd hI1 hpart h;exact h.elim
theorem c4l (I:IMap) (g:Nat) (Ls:List Flt) (hLs:Ls.length≤1000000) (hit:b9N prog 222 [.pointer (some ⟨g,0,none⟩)] I (fun _ vs (x:Flt)=>vs=[.agg x.cells.toArray]) (fun pre _=>pre.length<Ls.length) (fun pre=>pre.Perm Ls) (fun _=>True)) :
    FnH prog 220 #[.func (.func 222) #[] #[.pointer (some ⟨g,0,none⟩)]] I [] (fun u J H2=>∃m:List Flt,H2=[.row u 157 3 m.length (m.flatMap Flt.cells)]∧m.Perm Ls):=by
 refine enter func220 call220 rfl ntmps220 rfl fun w0=>?_;refine go 9 ?_;refine a5Z (b8k _ g Ls hLs hit) rfl rfl fun u4 I4 H4 j4 q4=>?_;obtain⟨m,rfl,hpm⟩:=q4;refine a6f ?_;refine go 5 ?_;exact a3g (fun _ m=>m) ⟨m,rfl,hpm⟩
theorem c6F (I:IMap) (g:Nat) (Ls:List Flt) (hLs:Ls.length≤1000000) (hit:b9N prog 222 [.pointer (some ⟨g,0,none⟩)] I (fun _ vs (x:Flt)=>vs=[.agg x.cells.toArray]) (fun pre _=>pre.length<Ls.length) (fun pre=>pre.Perm Ls) (fun _=>True)) :
    FnI prog 143 #[.func (.func 222) #[] #[.pointer (some ⟨g,0,none⟩)],.func (.func 145) #[] #[]] I (fun u J=>∃m,RdS J u m∧c3S a7H Ls m):=by
 refine enter func143 call143 rfl ntmps143 rfl fun w0=>?_;refine go 9 ?_;refine a5Z (c4l _ g Ls hLs hit) rfl rfl fun u7 I7 H7 j7 q7=>?_;obtain⟨m0,rfl,hpm⟩:=q7;have hml:=hpm.length_eq;refine a6f ?_;refine go 8 ?_;refine a0K (c6B _ _ m0 oM) rfl rfl fun v10 s10 q10=>?_;obtain⟨rfl,m,hsr,rfl⟩:=q10;refine go 10 ?_;refine a0i (l:=m) rfl hsr.1.length_eq.symm (c4Q m) fun I9 j9 R9=>?_;exact q_i ⟨m,R9,c2R hsr hpm⟩
theorem b3z (I:IMap) (r:Nat) (kvs:List (Flt×Value)) (hkl:kvs.length≤1000000) :
    FnD prog 69 #[.map (some r)] I (.mp r (a1u a3E kvs)) (fun u J=>∃m,RdS J u m∧c3S a7H (kvs.map Prod.fst) m):=by
 refine enter func69 call69 rfl ntmps69 rfl fun w0=>?_;refine go 7 ?_;refine a4e fun S1 hO2 hT2 hS2=>?_;refine b4H fun I8 j8 hmp=>?_;refine go 2 ?_;refine a0p (d2R _ r) rfl rfl fun v4 I4 j4 q4=>?_;obtain⟨g4,rfl,cg4⟩:=q4;refine go 1 ?_;refine a0p (c6F _ g4 (kvs.map Prod.fst) (by rw[List.length_map];omega) (by rw[List.length_map];exact c9B _ S1 r kvs hO2 hT2 hS2 g4 cg4 (j4 _ _ hmp))) rfl rfl fun v5 I5 j5 q5=>?_;obtain⟨m,q5,hsr⟩:=q5;refine go 5 ?_;exact q_d ⟨m,q5,hsr⟩
end Go.Proofs.YtgmkjpafapgccaaGreat
namespace Go.Proofs.YtgmkjpafapgccaaGreat
open Go Go.Sx Tryz
set_option linter.all false
set_option maxRecDepth 20000
set_option maxHeartbeats 4000000
instance:Has (a6q prog 50) (36,8):=hk
instance:Has (a6q prog 54) (95,4):=hk
instance:Has (a1g prog 56 0) (0,false,1):=hk
instance:Has (a1g prog 56 1) (1,false,1):=hk
instance:Has (a1g prog 56 2) (2,false,1):=hk
instance:Has (a1g prog 56 3) (3,false,1):=hk
instance:Has (a1g prog 56 4) (4,false,1):=hk
instance:Has (a1g prog 56 5) (5,false,1):=hk
instance:Has (a1g prog 95 0) (0,false,1):=hk
instance:Has (a1g prog 95 1) (1,false,1):=hk
instance:Has (tyK prog 29) (true,4):=hk
instance:Has (tyK prog 36) (true,8):=hk
instance:Has (tyK prog 50) (false,1):=hk
instance:Has (tyK prog 51) (false,1):=hk
instance:Has (tyK prog 52) (false,1):=hk
instance:Has (tyK prog 53) (false,1):=hk
instance:Has (tyK prog 54) (false,1):=hk
instance:Has (tyK prog 95) (true,4):=hk
instance:Has (prog.underlying 50) (.slice 36):=hk
instance:Has (prog.underlying 54) (.slice 95):=hk
instance:Has (a1i prog 146) [.map none]:=hk
instance:Has (a1i prog 95) [.string ⟨#[]⟩,.string ⟨#[]⟩,.slice none 0 0,.slice none 0 0]:=hk
theorem d2w (I:IMap) (v0 v1 v2 v3 v4 v5:Value) (b:Bok) (hb:BokRd I v0 v1 v2 v3 v4 v5 b) (hok:OkBok b) (vc:Value) (c:List Kind) (hvc:RdS I vc c) (hsc:SmC c) (ve:Value) (e:List Evt) (hve:RdS I ve e) (hel:e.length≤25) (hse:∀x∈e,SmE x) (v:Value) (l:List Part) (hv:RdS I v l) (hf:b1j l≤12) (p:Part) (q:Value) (hpr:RdS I q p.props) (day:Int) (r:Nat) (kvs:List (Flt×Value)) (x1 x2 x3:Value) (gb gd gs gf gx gl:Nat) (kb:ICells I gb 0 [v0,v1,v2,v3,v4,v5]) (kd:ICells I gd 0 [.int .i64 (day)]) (ks:ICells I gs 0 [v]) (kf:ICells I gf 0 [.map (some r)]) (kx:ICells I gx 0 [vc,x1,x2,x3]) (kl:ICells I gl 0 [ve])  :
    FnM prog 70 #[.agg (p.cells q).toArray,.pointer (some ⟨gb,0,none⟩),.pointer (some ⟨gd,0,none⟩),.pointer (some ⟨gs,0,none⟩),.pointer (some ⟨gf,0,none⟩),.pointer (some ⟨gx,0,none⟩),.pointer (some ⟨gl,0,none⟩)] I (.mp r (a1u a3E kvs)) (.mp r (a1u a3E (a7F kvs (a2j b c e l day p)))):=by
 obtain⟨A0,c0,rfl,hA0,hc0,hm0⟩:=id hb.r0;obtain⟨A4,c4,rfl,hA4,hc4,hm4⟩:=id hb.r4;refine enter func70 call70 rfl ntmps70 rfl fun w0=>?_;refine go 4 fun g7=>?_
 refine go 6 ?_;refine o_v rfl (a0H he rfl (kb 0 _ rfl)) ?_;refine go 5 ?_;refine a0b ?_
 refine a0L ((0:Nat)) (I) (fun i J=>J)
  (fun i J=>[(1,.pointer (some ⟨gb,0,none⟩)),(2,.pointer (some ⟨gd,0,none⟩)),(3,.pointer (some ⟨gs,0,none⟩)),(4,.pointer (some ⟨gf,0,none⟩)),(5,.pointer (some ⟨gx,0,none⟩)),(6,.pointer (some ⟨gl,0,none⟩)),(7,.pointer (some ⟨g7,0,none⟩)),(13,.slice A0 b.rules.length c0),(14,.int .i64 ((b.rules.length:Nat):Int)),(15,.int .i64 ((i:Nat):Int))])
  (fun i J=>[.mp r (a1u a3E (a7F kvs (a3q b l day p (b.rules.take i)))),.blk g7 85 (p.cells q)])
  (fun i J=>i≤b.rules.length∧ILe I J)
  (fun i J=>b.rules.length-i) ⟨Nat.zero_le _,ILe.refl _⟩ rfl sb rfl ?_
 intro i J ⟨hi,hJ⟩;have hb:=hb.le hJ;have hvc:=hvc.le hJ;have hve:=hve.le hJ;have hv:=hv.le hJ;have hpr:=hpr.le hJ;have kb:=kb.le hJ;have kd:=kd.le hJ;have ks:=ks.le hJ;have kf:=kf.le hJ;have kx:=kx.le hJ;have kl:=kl.le hJ;have hA0:=hA0.le hJ;refine gC 6 (fun h16 p16=>?_) fun h16 p16=>?_
 ·have hlt:i<b.rules.length:=oM;have hor:=hok.rules _ (List.getElem_mem hlt);refine go 6 ?_;obtain⟨b17,o17,w17,e17,c17,r17⟩:=RdA.at_ hA0 (i:=i) hlt;obtain⟨s17,rfl,hs17⟩:=r17;refine go 4 fun g9=>?_
  refine go 1 ?_;refine a0Q _ he rfl rfl rfl rfl rfl (Enc.one (α:=Rul) (x:=b.rules[i]) ⟨s17,rfl,hs17⟩) ?_;refine gS 10 24 (fun h24 p24=>?_) fun h24 p24=>?_
  ·refine go 1 ?_;refine a0A (a0q rfl rfl h24 (a0t rfl (a0H he rfl (kb 3 _ rfl)) ?_));refine go 4 ?_;refine a0A (a0q rfl rfl h24 (a0t rfl (a0H he rfl (kd 0 _ rfl)) ?_));refine go 1 ?_;refine a0q rfl rfl h24 (a0v (c4k _ v3 b.conc hb.r3 p.name b.rules[i].name day) rfl rfl ?_);refine gS 3 35 (fun h35 p35=>?_) fun h35 p35=>?_
   ·refine a0A (a0q rfl rfl h35 (a0t rfl (a0V he rfl ks rfl) ?_));refine go 1 ?_;refine a0A (a0q rfl rfl h35 (a0t rfl (a1L (b.rules[i].cond.cs s17) m0 he rfl rfl rfl) ?_));refine go 2 ?_;refine a0A (a0q rfl rfl h35 (a0t rfl (a0H he rfl (kd 0 _ rfl)) ?_));refine go 1 ?_;refine a0q rfl rfl h35 (a0p (c1J _ v l hv hf b.rules[i].cond hor.2.2 _ (b2X hs17) p.name day) rfl rfl (fun v42 I42 j42 q42=>?_))
    try have hb:=hb.le j42
    try have hvc:=hvc.le j42
    try have hve:=hve.le j42
    try have hv:=hv.le j42
    try have hpr:=hpr.le j42
    try have kb:=kb.le j42
    try have kd:=kd.le j42
    try have ks:=ks.le j42
    try have kf:=kf.le j42
    try have kx:=kx.le j42
    try have kl:=kl.le j42
    try have hA0:=hA0.le j42
    try have hA4:=hA4.le j42
    try have hs17:=hs17.le j42
    try have hs58:=hs58.le j42
    obtain rfl:=q42;refine gC 4 (fun h44 p44=>?_) fun h44 p44=>?_
    ·refine go 1 ?_;refine o_v rfl (a0H he rfl (kf 0 _ rfl)) ?_;refine go 6 fun v50=>?_
     refine a0i (l:=[b.rules[i].name]) rfl rfl ((.one rfl)) fun I50 j50 R50=>?_
     try have hb:=hb.le j50
     try have hvc:=hvc.le j50
     try have hve:=hve.le j50
     try have hv:=hv.le j50
     try have hpr:=hpr.le j50
     try have kb:=kb.le j50
     try have kd:=kd.le j50
     try have ks:=ks.le j50
     try have kf:=kf.le j50
     try have kx:=kx.le j50
     try have kl:=kl.le j50
     try have hA0:=hA0.le j50
     try have hA4:=hA4.le j50
     try have hs17:=hs17.le j50
     try have hs58:=hs58.le j50
     refine go 1 ?_;refine a0b ?_;refine a2J (b8B _ r (a7F kvs (a3q b l day p (b.rules.take i))) 1 p.name _ [b.rules[i].name] R50) rfl rfl ?_;refine go 8 ?_;refine a0b ?_;refine a0a ?_;exact a0n (i+1) (I50) ⟨oM,hJ.trans (j42.trans j50)⟩ oM rfl sb (by rw[b5M hlt (by simp only[a6H,h16,h24,h35,h44,bS]),←a6d];rfl)
    ·refine go 8 ?_;refine a0a ?_;exact a0n (i+1) (I42) ⟨oM,hJ.trans j42⟩ oM rfl sb (by rw[a7W hlt (by simp only[a6H,h16,h24,h35,h44,bS])])
   ·refine go 20 ?_;refine a0a ?_;exact a0n (i+1) (J) ⟨oM,hJ⟩ oM rfl sb (by rw[a7W hlt (by simp only[a6H,h16,h24,h35,bS])])
  ·refine go 31 ?_;refine a0a ?_;exact a0n (i+1) (J) ⟨oM,hJ⟩ oM rfl sb (by rw[a7W hlt (by simp only[a6H,h16,h24,bS])])
 ·obtain rfl:i=b.rules.length:=oM;rw[List.take_length];refine go 9 ?_;refine o_v rfl (a0H he rfl (kb 4 _ rfl)) ?_;refine go 5 ?_
  refine a0L ((0:Nat)) (J) (fun i J2=>J2)
   (fun i J2=>[(1,.pointer (some ⟨gb,0,none⟩)),(2,.pointer (some ⟨gd,0,none⟩)),(3,.pointer (some ⟨gs,0,none⟩)),(4,.pointer (some ⟨gf,0,none⟩)),(5,.pointer (some ⟨gx,0,none⟩)),(6,.pointer (some ⟨gl,0,none⟩)),(7,.pointer (some ⟨g7,0,none⟩)),(54,.slice A4 b.recalls.length c4),(55,.int .i64 ((b.recalls.length:Nat):Int)),(56,.int .i64 ((i:Nat):Int))])
   (fun i J2=>[.mp r (a1u a3E (a7F (a7F kvs (a3q b l day p (b.rules))) (a5G l day p (b.recalls.take i)))),.blk g7 85 (p.cells q)])
   (fun i J2=>i≤b.recalls.length∧ILe J J2)
   (fun i J2=>b.recalls.length-i) ⟨Nat.zero_le _,ILe.refl _⟩ rfl sb rfl ?_
  intro i J2 ⟨hi2,hJ2⟩;have hb:=hb.le hJ2;have hvc:=hvc.le hJ2;have hve:=hve.le hJ2;have hv:=hv.le hJ2;have hpr:=hpr.le hJ2;have kb:=kb.le hJ2;have kd:=kd.le hJ2;have ks:=ks.le hJ2;have kf:=kf.le hJ2;have kx:=kx.le hJ2;have kl:=kl.le hJ2;have hA4:=hA4.le (hJ.trans hJ2);refine gC 6 (fun h57 p57=>?_) fun h57 p57=>?_
  ·have hlt:i<b.recalls.length:=oM;have hor:=hok.recalls _ (List.getElem_mem hlt);refine go 6 ?_;obtain⟨b58,o58,w58,e58,c58,r58⟩:=RdA.at_ hA4 (i:=i) hlt;obtain⟨s58,rfl,hs58⟩:=r58;refine go 4 fun g11=>?_
   refine go 1 ?_;refine a0Q _ he rfl rfl rfl rfl rfl (Enc.one (α:=Rul) (x:=b.recalls[i]) ⟨s58,rfl,hs58⟩) ?_;refine gS 10 65 (fun h65 p65=>?_) fun h65 p65=>?_
   ·refine a0A (a0q rfl rfl h65 (a0t rfl (a0V he rfl ks rfl) ?_));refine go 1 ?_;refine a0A (a0q rfl rfl h65 (a0t rfl (a1L (b.recalls[i].cond.cs s58) m0 he rfl rfl rfl) ?_));refine go 2 ?_;refine a0A (a0q rfl rfl h65 (a0t rfl (a0H he rfl (kd 0 _ rfl)) ?_));refine go 1 ?_;refine a0q rfl rfl h65 (a0p (c1J _ v l hv hf b.recalls[i].cond hor.2.2 _ (b2X hs58) p.name day) rfl rfl (fun v72 I72 j72 q72=>?_))
    try have hb:=hb.le j72
    try have hvc:=hvc.le j72
    try have hve:=hve.le j72
    try have hv:=hv.le j72
    try have hpr:=hpr.le j72
    try have kb:=kb.le j72
    try have kd:=kd.le j72
    try have ks:=ks.le j72
    try have kf:=kf.le j72
    try have kx:=kx.le j72
    try have kl:=kl.le j72
    try have hA0:=hA0.le j72
    try have hA4:=hA4.le j72
    try have hs17:=hs17.le j72
    try have hs58:=hs58.le j72
    obtain rfl:=q72;refine gC 4 (fun h74 p74=>?_) fun h74 p74=>?_
    ·refine go 1 ?_;refine o_v rfl (a0H he rfl (kf 0 _ rfl)) ?_;refine go 6 fun v80=>?_
     refine a0i (l:=[b.recalls[i].name]) rfl rfl ((.one rfl)) fun I80 j80 R80=>?_
     try have hb:=hb.le j80
     try have hvc:=hvc.le j80
     try have hve:=hve.le j80
     try have hv:=hv.le j80
     try have hpr:=hpr.le j80
     try have kb:=kb.le j80
     try have kd:=kd.le j80
     try have ks:=ks.le j80
     try have kf:=kf.le j80
     try have kx:=kx.le j80
     try have kl:=kl.le j80
     try have hA0:=hA0.le j80
     try have hA4:=hA4.le j80
     try have hs17:=hs17.le j80
     try have hs58:=hs58.le j80
     refine go 1 ?_;refine a0b ?_;refine a2J (b8B _ r (a7F (a7F kvs (a3q b l day p (b.rules))) (a5G l day p (b.recalls.take i))) 5 p.name _ [b.recalls[i].name] R80) rfl rfl ?_;refine go 8 ?_;refine a0b ?_;refine a0a ?_;exact a0n (i+1) (I80) ⟨oM,hJ2.trans (j72.trans j80)⟩ oM rfl sb (by rw[b8Y hlt (by simp only[b1C,h57,h65,h74,bS]),←a6d];rfl)
    ·refine go 8 ?_;refine a0a ?_;exact a0n (i+1) (I72) ⟨oM,hJ2.trans j72⟩ oM rfl sb (by rw[b4c hlt (by simp only[b1C,h57,h65,h74,bS])])
   ·refine go 20 ?_;refine a0a ?_;exact a0n (i+1) (J2) ⟨oM,hJ2⟩ oM rfl sb (by rw[b4c hlt (by simp only[b1C,h57,h65,bS])])
  ·obtain rfl:i=b.recalls.length:=oM;rw[List.take_length];refine go 6 ?_;refine a1J fun hE13 hf13=>?_;refine ds1 ?_;refine a0I 0 rfl rfl (by kernel_rfl) rfl (.cons _ (.refl _)) rfl (a0H he rfl (kf 0 _ rfl)) ?_;refine dG 1 3 ?_;refine a0I 4 rfl rfl (by kernel_rfl) rfl (.cons _ (.refl _)) rfl (a0H he rfl (kb 2 _ rfl)) ?_;refine dG 5 1 ?_;refine a0I 6 rfl rfl (by kernel_rfl) rfl (.cons _ (.refl _)) rfl (a0V he rfl (kx.sub 0 1) rfl) ?_;refine a0I 7 rfl rfl (by kernel_rfl) rfl (.cons _ (.refl _)) rfl (a0H he rfl (kl 0 _ rfl)) ?_;refine dG 8 2 ?_;refine a0I 10 rfl rfl (by kernel_rfl) rfl (.cons _ (.refl _)) rfl (a0H he rfl (kd 0 _ rfl)) ?_;refine dH 11 0 ?_;refine a0p (c0I _ v2 b.duties hb.r2 hok.dl hok.duties vc c hvc hsc ve e hve oM hse p.name day) rfl rfl fun v94 I94 j94 q94=>?_
   try have hb:=hb.le j94
   try have hvc:=hvc.le j94
   try have hve:=hve.le j94
   try have hv:=hv.le j94
   try have hpr:=hpr.le j94
   try have kb:=kb.le j94
   try have kd:=kd.le j94
   try have ks:=ks.le j94
   try have kf:=kf.le j94
   try have kx:=kx.le j94
   try have kl:=kl.le j94
   try have hA0:=hA0.le j94
   try have hA4:=hA4.le j94
   try have hs17:=hs17.le j94
   try have hs58:=hs58.le j94
   refine dH 12 0 ?_;refine a2J (b8B _ r _ 3 p.name _ (b2s b.duties c e p.name day) q94) rfl rfl ?_;refine go 6 ?_;refine o_v rfl (a0V he rfl (kx.sub 0 1) rfl) ?_;refine go 1 ?_;refine o_v rfl (a0H he rfl (kb 1 _ rfl)) ?_;refine o_v rfl (a0V he rfl ks rfl) ?_;refine go 2 ?_;refine o_v rfl (a0H he rfl (kd 0 _ rfl)) ?_;refine go 1 ?_;refine cV (b5b _ vc c hvc v1 b.subs hb.r1 v l hv p.name day) ?_;refine gC 3 (fun h105 p105=>?_) fun h105 p105=>?_
   ·refine go 1 ?_;refine o_v rfl (a0H he rfl (kf 0 _ rfl)) ?_;refine go 6 fun v111=>?_
    refine a0i (l:=[p.slot]) rfl rfl ((.one rfl)) fun I111 j111 R111=>?_
    try have hb:=hb.le j111
    try have hvc:=hvc.le j111
    try have hve:=hve.le j111
    try have hv:=hv.le j111
    try have hpr:=hpr.le j111
    try have kb:=kb.le j111
    try have kd:=kd.le j111
    try have ks:=ks.le j111
    try have kf:=kf.le j111
    try have kx:=kx.le j111
    try have kl:=kl.le j111
    try have hA0:=hA0.le j111
    try have hA4:=hA4.le j111
    try have hs17:=hs17.le j111
    try have hs58:=hs58.le j111
    refine go 1 ?_;refine a2J (b8B _ r _ 2 p.name _ [p.slot] R111) rfl rfl ?_;refine go 2 ?_;refine a0b ?_;refine a0a ?_;exact b4r (by simp only[a6d,a2j,b4d,a7m,if_pos p105,List.append_assoc,List.map_cons,List.map_nil])
   ·refine go 2 ?_;refine a0b ?_;refine a0a ?_;exact b4r (by simp only[a6d,a2j,b4d,a7m,p105,Bool.true_eq_false,if_false,List.append_nil,List.append_assoc])
theorem d6H (I:IMap) (vc:Value) (c:List Kind) (hvc:RdS I vc c) (hsc:SmC c) (f:Fm) (sf:Value) (hfm:FmRd I [ci f.op,ci f.n,sf] f) (v0 v1 v2 v3 v4 v5:Value) (b:Bok) (hb:BokRd I v0 v1 v2 v3 v4 v5 b) (hok:OkBok b) (ve:Value) (e:List Evt) (hve:RdS I ve e) (hel:e.length≤25) (hse:∀x∈e,SmE x) (vn:ByteArray) (day:Int) :
    FnI prog 21 #[.agg #[vc,ci f.op,ci f.n,sf],.agg #[v0,v1,v2,v3,v4,v5],ve,.string vn,.int .i64 (day)] I (fun u J=>RdS J u (ofF f c b e vn day)):=by
 obtain⟨Ae,ce,rfl,hAe,hce,hme⟩:=id hve;refine enter func21 call21 rfl ntmps21 rfl fun w0=>?_;refine go 4 fun g5=>?_
 refine go 2 fun g6=>?_
 refine go 2 fun g7=>?_
 refine go 2 fun g9=>?_
 refine go 6 ?_;refine a4W (a3E) he rfl fun r26=>?_;refine go 2 fun g11=>?_
 refine go 10 ?_;refine a0p (c1A _ vc c hvc hsc f sf hfm (.slice Ae e.length ce) e hve hel hse day) rfl rfl fun v31 I31 j31 q31=>?_
 try have hb:=hb.le j31
 try have hvc:=hvc.le j31
 try have hve:=hve.le j31
 try have hw:=hw.le j31
 try have hfm:=hfm.le j31
 try have hs38:=hs38.le j31
 try have hsk:=hsk.le j31
 try have cg6:=cg6.le j31
 try have cg9:=cg9.le j31
 try have cg12:=cg12.le j31
 try have cg11:=cg11.le j31
 try have cg5:=cg5.le j31
 try have cg7:=cg7.le j31
 try have hAn:=hAn.le j31
 try have hns0:=hns0.le j31
 try have hA5:=hA5.le j31
 try have ha97:=ha97.le j31
 try have hb97:=hb97.le j31
 obtain⟨w,rfl,hw⟩:=q31;refine go 6 fun g12=>?_
 refine go 1 ?_;refine a0Q _ he rfl rfl rfl rfl rfl (by simp[hw.one]) ?_;refine go 9 ?_;refine a1n (a9z _ w (runL f c e day).1 hw vn) rfl rfl fun v38 q38=>?_;obtain⟨vs38,rfl,s38,rfl,hs38⟩:=q38;refine go 5 fun g15=>?_
 refine go 1 ?_;refine a0Q _ he rfl rfl rfl rfl rfl (Enc.one (α:=Part) (x:=((a0f (runL f c e day).1 vn).getD zPart)) ⟨s38,rfl,hs38⟩) ?_;refine go 7 ?_;refine o_v rfl (a1L ([vc]) m7 he rfl rfl rfl) ?_;refine go 3 ?_;refine a1n (a9q _ vc c hvc ((a0f (runL f c e day).1 vn).getD zPart).kind) rfl rfl fun v46 q46=>?_;obtain⟨vk,rfl,sk,rfl,hsk⟩:=q46;refine go 5 fun g17=>?_
 refine go 1 ?_;refine a0Q _ he rfl rfl rfl rfl rfl (by simp[Kind.cells,hsk.one];exact⟨rfl,rfl⟩) ?_;refine go 4 ?_;refine a1N (I':=I31) (L':=[(3,.string vn),(5,.pointer (some ⟨g5,0,none⟩)),(6,.pointer (some ⟨g6,0,none⟩)),(7,.pointer (some ⟨g7,0,none⟩)),(9,.pointer (some ⟨g9,0,none⟩)),(11,.pointer (some ⟨g11,0,none⟩)),(12,.pointer (some ⟨g12,0,none⟩)),(15,.pointer (some ⟨g15,0,none⟩)),(63,.bool (c8m c (runL f c e day).1 (runL f c e day).2.2 vn))]) (H':=[.mp r26 (a1u a3E []),.blk g5 29 [vc,ci f.op,ci f.n,sf],.blk g6 56 [v0,v1,v2,v3,v4,v5],.blk g7 72 [.slice Ae e.length ce],.blk g9 3 [.int .i64 (day)],.blk g11 146 [.map (some r26)],.blk g12 62 [w],.blk g15 85 (((a0f (runL f c e day).1 vn).getD zPart).cells s38)]) ?_ ?_
 ·refine gS 4 51 (fun h51 p51=>?_) fun h51 p51=>?_
  ·refine go 14 ?_;refine a0a ?_;refine a0b ?_;refine a0d ?_;refine a1A ?_;refine a4S ?_;refine a0S ?_;refine a5z ?_;refine a5z ?_;exact a0o ⟨rfl,rfl,rfl,rfl,rfl,rfl,rfl,rfl,(bB (by simp only[c8m,h51,bS])),trivial⟩ rfl rfl
  ·refine gS 4 55 (fun h55 p55=>?_) fun h55 p55=>?_
   ·refine go 10 ?_;refine a0a ?_;refine a0b ?_;refine a0d ?_;refine a1A ?_;refine a4S ?_;refine a0S ?_;refine a5z ?_;refine a5z ?_;exact a0o ⟨rfl,rfl,rfl,rfl,rfl,rfl,rfl,rfl,(bB (by simp only[c8m,h51,h55,bS])),trivial⟩ rfl rfl
   ·refine gS 4 59 (fun h59 p59=>?_) fun h59 p59=>?_
    ·refine go 6 ?_;refine a0a ?_;refine a0b ?_;refine a0d ?_;refine a1A ?_;refine a4S ?_;refine a0S ?_;refine a5z ?_;refine a5z ?_;exact a0o ⟨rfl,rfl,rfl,rfl,rfl,rfl,rfl,rfl,(bB (by simp only[c8m,h51,h55,h59,bS])),trivial⟩ rfl rfl
    ·refine go 6 ?_;refine a0a ?_;refine a0b ?_;refine a0d ?_;refine a1A ?_;refine a4S ?_;refine a0S ?_;refine a5z ?_;refine a5z ?_;exact a0o ⟨rfl,rfl,rfl,rfl,rfl,rfl,rfl,rfl,(bB (by simp only[c8m,h51,h55,h59,bS])),trivial⟩ rfl rfl
 ·refine gC 0 (fun h63 p63=>?_) fun h63 p63=>?_
  ·refine go 6 fun v66=>?_
   refine a0i (l:=[(⟨#[]⟩:ByteArray)]) rfl rfl ((.one rfl)) fun I66 j66 R66=>?_
   try have hb:=hb.le j66
   try have hvc:=hvc.le j66
   try have hve:=hve.le j66
   try have hw:=hw.le j66
   try have hfm:=hfm.le j66
   try have hs38:=hs38.le j66
   try have hsk:=hsk.le j66
   try have cg6:=cg6.le j66
   try have cg9:=cg9.le j66
   try have cg12:=cg12.le j66
   try have cg11:=cg11.le j66
   try have cg5:=cg5.le j66
   try have cg7:=cg7.le j66
   try have hAn:=hAn.le j66
   try have hns0:=hns0.le j66
   try have hA5:=hA5.le j66
   try have ha97:=ha97.le j66
   try have hb97:=hb97.le j66
   refine go 1 ?_;refine a2J (b8B _ r26 [] 4 vn _ [⟨#[]⟩] R66) rfl rfl ?_;refine go 6 ?_;refine a9V (b3z _ r26 _ (Nat.le_of_ble_eq_true rfl)) rfl rfl fun v69 I69 j69 q69=>?_
   try have hb:=hb.le j69
   try have hvc:=hvc.le j69
   try have hve:=hve.le j69
   try have hw:=hw.le j69
   try have hfm:=hfm.le j69
   try have hs38:=hs38.le j69
   try have hsk:=hsk.le j69
   try have cg6:=cg6.le j69
   try have cg9:=cg9.le j69
   try have cg12:=cg12.le j69
   try have cg11:=cg11.le j69
   try have cg5:=cg5.le j69
   try have cg7:=cg7.le j69
   try have hAn:=hAn.le j69
   try have hns0:=hns0.le j69
   try have hA5:=hA5.le j69
   try have ha97:=ha97.le j69
   try have hb97:=hb97.le j69
   obtain⟨m,hm69,hsr⟩:=q69;refine go 6 ?_;refine a0a ?_;refine a0a ?_;refine a0a ?_;refine a0a ?_;refine a0a ?_;refine a0a ?_;refine a0a ?_;have e1:=b4D (a5I [⟨4,vn,⟨#[]⟩⟩] KeysG.nil) hsr;exact q_i (by unfold ofF;rw[if_pos h63,←c6M,←show _=a6v a4i [_] from e1];exact hm69)
  ·refine go 4 ?_;refine a0d ?_;refine a0B fun Ig6 jg6 cg6=>?_;have hb:=hb.le jg6;have hvc:=hvc.le jg6;have hve:=hve.le jg6;have hw:=hw.le jg6;have hfm:=hfm.le jg6;have hs38:=hs38.le jg6;refine a0u ?_;refine a0B fun Ig9 jg9 cg9=>?_;have hb:=hb.le jg9;have hvc:=hvc.le jg9;have hve:=hve.le jg9;have hw:=hw.le jg9;have hfm:=hfm.le jg9;have hs38:=hs38.le jg9;have cg6:=cg6.le jg9;refine a1A ?_;refine a0B fun Ig12 jg12 cg12=>?_;have hb:=hb.le jg12;have hvc:=hvc.le jg12;have hve:=hve.le jg12;have hw:=hw.le jg12;have hfm:=hfm.le jg12;have hs38:=hs38.le jg12;have cg6:=cg6.le jg12;have cg9:=cg9.le jg12;refine a0u ?_;refine a0B fun Ig11 jg11 cg11=>?_;have hb:=hb.le jg11;have hvc:=hvc.le jg11;have hve:=hve.le jg11;have hw:=hw.le jg11;have hfm:=hfm.le jg11;have hs38:=hs38.le jg11;have cg6:=cg6.le jg11;have cg9:=cg9.le jg11;have cg12:=cg12.le jg11;refine a0b ?_;refine a0B fun Ig5 jg5 cg5=>?_;have hb:=hb.le jg5;have hvc:=hvc.le jg5;have hve:=hve.le jg5;have hw:=hw.le jg5;have hfm:=hfm.le jg5;have hs38:=hs38.le jg5;have cg6:=cg6.le jg5;have cg9:=cg9.le jg5;have cg12:=cg12.le jg5;have cg11:=cg11.le jg5;refine a0b ?_;refine a0B fun Ig7 jg7 cg7=>?_;have hb:=hb.le jg7;have hvc:=hvc.le jg7;have hve:=hve.le jg7;have hw:=hw.le jg7;have hfm:=hfm.le jg7;have hs38:=hs38.le jg7;have cg6:=cg6.le jg7;have cg9:=cg9.le jg7;have cg12:=cg12.le jg7;have cg11:=cg11.le jg7;have cg5:=cg5.le jg7;refine go 9 ?_;have hfit:=(c9e (f:=f) (c:=c) (day:=day) hel).1;refine a2J (d2w _ v0 v1 v2 v3 v4 v5 b hb hok vc c hvc hsc (.slice Ae e.length ce) e hve hel hse w (runL f c e day).1 hw hfit ((a0f (runL f c e day).1 vn).getD zPart) s38 hs38 day r26 [] (ci f.op) (ci f.n) sf g6 g9 g12 g11 g5 g7 cg6 cg9 cg12 cg11 cg5 cg7) rfl rfl ?_;refine go 5 ?_;refine o_v rfl (a0V he rfl cg12 rfl) ?_;refine go 2 ?_;refine a1F (a8I _ w (runL f c e day).1 hw vn hfit) rfl rfl fun v76 s76 q76=>?_;obtain⟨ns,rfl,hns,hnl,hnd⟩:=q76;refine a0i (l:=ns) rfl rfl ((a3d _ ns).flat) fun Ip jp Rp=>?_
   try have hb:=hb.le jp
   try have hvc:=hvc.le jp
   try have hve:=hve.le jp
   try have hw:=hw.le jp
   try have hfm:=hfm.le jp
   try have hs38:=hs38.le jp
   try have hsk:=hsk.le jp
   try have cg6:=cg6.le jp
   try have cg9:=cg9.le jp
   try have cg12:=cg12.le jp
   try have cg11:=cg11.le jp
   try have cg5:=cg5.le jp
   try have cg7:=cg7.le jp
   try have hAn:=hAn.le jp
   try have hns0:=hns0.le jp
   try have hA5:=hA5.le jp
   try have ha97:=ha97.le jp
   try have hb97:=hb97.le jp
   have hns0:=Rp;obtain⟨An,cn,rfl,hAn,_,_⟩:=id Rp;refine go 5 ?_;refine a0b ?_;refine a0a ?_
   refine a0L ((0:Nat)) (Ip) (fun i J=>J)
    (fun i J=>[(3,.string vn),(5,.pointer (some ⟨g5,0,none⟩)),(6,.pointer (some ⟨g6,0,none⟩)),(7,.pointer (some ⟨g7,0,none⟩)),(9,.pointer (some ⟨g9,0,none⟩)),(11,.pointer (some ⟨g11,0,none⟩)),(12,.pointer (some ⟨g12,0,none⟩)),(19,.func (.func 70) #[] #[.pointer (some ⟨g6,0,none⟩),.pointer (some ⟨g9,0,none⟩),.pointer (some ⟨g12,0,none⟩),.pointer (some ⟨g11,0,none⟩),.pointer (some ⟨g5,0,none⟩),.pointer (some ⟨g7,0,none⟩)]),(76,.slice An ns.length cn),(77,.int .i64 ((ns.length:Nat):Int)),(78,.int .i64 ((i:Nat):Int))])
    (fun i J=>[.mp r26 (a1u a3E (a7F (a7F [] (a2j b c e (runL f c e day).1 day ((a0f (runL f c e day).1 vn).getD zPart))) ((ns.take i).flatMap fun n=>a2j b c e (runL f c e day).1 day ((a0f (runL f c e day).1 n).getD zPart))))])
    (fun i J=>i≤ns.length∧ILe Ip J)
    (fun i J=>ns.length-i) ⟨Nat.zero_le _,ILe.refl _⟩ rfl sb rfl ?_
   intro i J ⟨hi,hJ⟩;have hb:=hb.le hJ;have hvc:=hvc.le hJ;have hve:=hve.le hJ;have hw:=hw.le hJ;have hfm:=hfm.le hJ;have cg5:=cg5.le hJ;have cg6:=cg6.le hJ;have cg7:=cg7.le hJ;have cg9:=cg9.le hJ;have cg11:=cg11.le hJ;have cg12:=cg12.le hJ;have hAn:=hAn.le hJ;refine gC 6 (fun h79 p79=>?_) fun h79 p79=>?_
   ·have hlt:i<ns.length:=oM;refine go 6 ?_;obtain⟨b80,o80,w80,e80,c80,r80⟩:=RdA.at_ hAn (i:=i) hlt;obtain rfl:=r80;refine go 7 ?_;refine o_v rfl (a0V he rfl cg12 rfl) ?_;refine go 2 ?_;refine a1n (a9z _ w (runL f c e day).1 hw ns[i]) rfl rfl fun v85 q85=>?_;obtain⟨vs85,rfl,s85,rfl,hs85⟩:=q85;refine go 5 fun g22=>?_
    refine go 1 ?_;refine a0Q _ he rfl rfl rfl rfl rfl (Enc.one (α:=Part) (x:=((a0f (runL f c e day).1 ns[i]).getD zPart)) ⟨s85,rfl,hs85⟩) ?_;refine go 7 ?_;refine a0b ?_;refine a2J (d2w _ v0 v1 v2 v3 v4 v5 b hb hok vc c hvc hsc (.slice Ae e.length ce) e hve hel hse w (runL f c e day).1 hw hfit ((a0f (runL f c e day).1 ns[i]).getD zPart) s85 hs85 day r26 (a7F (a7F [] (a2j b c e (runL f c e day).1 day ((a0f (runL f c e day).1 vn).getD zPart))) ((ns.take i).flatMap fun n=>a2j b c e (runL f c e day).1 day ((a0f (runL f c e day).1 n).getD zPart))) (ci f.op) (ci f.n) sf g6 g9 g12 g11 g5 g7 cg6 cg9 cg12 cg11 cg5 cg7) rfl rfl ?_;refine go 8 ?_;refine a0b ?_;refine a0a ?_;exact a0n (i+1) (J) ⟨oM,hJ⟩ oM rfl sb (by simp only[←a0c hlt,List.flatMap_append,a6d,List.append_assoc,List.flatMap_cons,List.flatMap_nil,List.append_nil])
   ·obtain rfl:i=ns.length:=oM;rw[List.take_length];obtain⟨A5,c5,rfl,hA5,hc5,hm5⟩:=id hb.r5;refine go 9 ?_;refine o_v rfl (a0H he rfl (cg6 5 _ rfl)) ?_;refine go 5 ?_
    refine a0L ((0:Nat)) (J) (fun i J2=>J2)
     (fun i J2=>[(3,.string vn),(5,.pointer (some ⟨g5,0,none⟩)),(6,.pointer (some ⟨g6,0,none⟩)),(7,.pointer (some ⟨g7,0,none⟩)),(9,.pointer (some ⟨g9,0,none⟩)),(11,.pointer (some ⟨g11,0,none⟩)),(12,.pointer (some ⟨g12,0,none⟩)),(93,.slice A5 b.holds.length c5),(94,.int .i64 ((b.holds.length:Nat):Int)),(95,.int .i64 ((i:Nat):Int))])
     (fun i J2=>[.mp r26 (a1u a3E (a7F (a7F (a7F [] (a2j b c e (runL f c e day).1 day ((a0f (runL f c e day).1 vn).getD zPart))) ((ns).flatMap fun n=>a2j b c e (runL f c e day).1 day ((a0f (runL f c e day).1 n).getD zPart))) (a2K vn (b.holds.take i))))])
     (fun i J2=>i≤b.holds.length∧ILe J J2)
     (fun i J2=>b.holds.length-i) ⟨Nat.zero_le _,ILe.refl _⟩ rfl sb rfl ?_
    intro i J2 ⟨hi2,hJ2⟩;have hb:=hb.le hJ2;have hvc:=hvc.le hJ2;have hve:=hve.le hJ2;have hw:=hw.le hJ2;have hfm:=hfm.le hJ2;have cg5:=cg5.le hJ2;have cg6:=cg6.le hJ2;have cg7:=cg7.le hJ2;have cg9:=cg9.le hJ2;have cg11:=cg11.le hJ2;have cg12:=cg12.le hJ2;have hA5:=hA5.le hJ2;refine gC 6 (fun h96 p96=>?_) fun h96 p96=>?_
    ·have hlt:i<b.holds.length:=oM;refine go 6 ?_;obtain⟨b97,o97,w97,e97,c97,r97⟩:=RdA.at_ hA5 (i:=i) hlt;obtain⟨a97,b97,rfl,ha97,hb97⟩:=r97;refine go 4 fun g25=>?_
     refine go 1 ?_;refine a0Q _ he rfl rfl rfl rfl rfl (Enc.one (α:=Hld) (x:=b.holds[i]) ⟨a97,b97,rfl,ha97,hb97⟩) ?_;refine gS 9 103 (fun h103 p103=>?_) fun h103 p103=>?_
     ·refine go 2 ?_;refine a0q rfl rfl h103 (a0v (d5s _ b.holds[i] a97 b97 ha97 hb97) rfl rfl ?_);refine gC 3 (fun h106 p106=>?_) fun h106 p106=>?_
      ·refine go 1 ?_;refine o_v rfl (a0H he rfl (cg11 0 _ rfl)) ?_;refine go 5 fun v111=>?_
       refine a0i (l:=[b.holds[i].id]) rfl rfl ((.one rfl)) fun I111 j111 R111=>?_
       try have hb:=hb.le j111
       try have hvc:=hvc.le j111
       try have hve:=hve.le j111
       try have hw:=hw.le j111
       try have hfm:=hfm.le j111
       try have hs38:=hs38.le j111
       try have hsk:=hsk.le j111
       try have cg6:=cg6.le j111
       try have cg9:=cg9.le j111
       try have cg12:=cg12.le j111
       try have cg11:=cg11.le j111
       try have cg5:=cg5.le j111
       try have cg7:=cg7.le j111
       try have hAn:=hAn.le j111
       try have hns0:=hns0.le j111
       try have hA5:=hA5.le j111
       try have ha97:=ha97.le j111
       try have hb97:=hb97.le j111
       refine go 1 ?_;refine a0b ?_;refine a2J (b8B _ r26 (a7F (a7F (a7F [] (a2j b c e (runL f c e day).1 day ((a0f (runL f c e day).1 vn).getD zPart))) ((ns).flatMap fun n=>a2j b c e (runL f c e day).1 day ((a0f (runL f c e day).1 n).getD zPart))) (a2K vn (b.holds.take i))) 6 vn _ [b.holds[i].id] R111) rfl rfl ?_;refine go 8 ?_;refine a0b ?_;refine a0a ?_;exact a0n (i+1) (I111) ⟨oM,hJ2.trans j111⟩ oM rfl sb (by rw[b5L hlt (by simp only[h96,h103,h106,bS]),←a6d];rfl)
      ·refine go 8 ?_;refine a0a ?_;exact a0n (i+1) (J2) ⟨oM,hJ2⟩ oM rfl sb (by rw[b1w hlt (by simp only[h96,h103,h106,bS])])
     ·refine go 14 ?_;refine a0a ?_;exact a0n (i+1) (J2) ⟨oM,hJ2⟩ oM rfl sb (by rw[b1w hlt (by simp only[h96,h103,bS])])
    ·obtain rfl:i=b.holds.length:=oM;rw[List.take_length];have hK:=a5I (a2K vn b.holds) (a5I (ns.flatMap fun n=>a2j b c e (runL f c e day).1 day ((a0f (runL f c e day).1 n).getD zPart)) (a5I (a2j b c e (runL f c e day).1 day ((a0f (runL f c e day).1 vn).getD zPart)) (KeysG.nil (κ:=Flt))));refine go 7 ?_;refine o_v rfl (a0H he rfl (cg11 0 _ rfl)) ?_;refine go 1 ?_;refine a9V (b3z _ r26 _ (d2T hok hnl hK)) rfl rfl fun v115 I115 j115 q115=>?_
     try have hb:=hb.le j115
     try have hvc:=hvc.le j115
     try have hve:=hve.le j115
     try have hw:=hw.le j115
     try have hfm:=hfm.le j115
     try have hs38:=hs38.le j115
     try have hsk:=hsk.le j115
     try have cg6:=cg6.le j115
     try have cg9:=cg9.le j115
     try have cg12:=cg12.le j115
     try have cg11:=cg11.le j115
     try have cg5:=cg5.le j115
     try have cg7:=cg7.le j115
     try have hAn:=hAn.le j115
     try have hns0:=hns0.le j115
     try have hA5:=hA5.le j115
     try have ha97:=ha97.le j115
     try have hb97:=hb97.le j115
     obtain⟨m,hm115,hsr⟩:=q115;refine go 5 ?_;have e1:=b4D hK hsr
     exact q_i (by
       unfold ofF;rw[if_neg (by rw[h63];decide)];rw[c6L (m:=([]++(a2j b c e (runL f c e day).1 day ((a0f (runL f c e day).1 vn).getD zPart))++(ns.flatMap fun n=>a2j b c e (runL f c e day).1 day ((a0f (runL f c e day).1 n).getD zPart)))++a2K vn b.holds) ?_,←e1]
       · exact hm115
       · intro z
         simp only[List.mem_append,List.mem_flatMap,List.not_mem_nil,false_or,b6T,hns])
end Go.Proofs.YtgmkjpafapgccaaGreat
set_option linter.all false
namespace Go.Sx
open Go
section
variable {P:Program} {I:IMap} {H:List Res} {f:FuncId}
theorem c8T {fn:Func} {c2:Code} {args:List Value} {k id d ty:Nat} {pos:String} {af:Array Edge} {ats:Array TypeId} {post:IMap→List Res→Prop} (hf:P.funcs[f]? = some fn)
  (hb:fn.body=some (Code.seq (Code.region id #[⟨some d,.call { callee:=.builtin .recover,args:=#[],argTypes:=ats },ty,pos,af,none⟩] false) c2)) (hn:fn.ntmps=k) (hd:Nat.blt d k=true)
  (hl:Nat.ble args.length k=true) (h:∀w,SX ⟨k,[]⟩ ⟨a1R H,I,w⟩ I ((d,.nilIface)::a9e args 0) H (c2.wq none P (d6s P fn (b0y ⟨a1R H,I,w⟩ fun _ I' H'=>post I' H')))):FnDf P f args.toArray I H post:=by
 refine⟨fun w m=>?_⟩;refine callsDIn_of_wpSIn (F:=Fence.wide) hf hb trivial fun c₀ cs hu=>?_
 apply wpSIn_seq
 apply wpSIn_region
 have s0:St ⟨k,[]⟩ { tmps:=args.toArray++Array.replicate (fn.ntmps-args.toArray.size) undef,defers:=[] } (a9e args 0):=by
  refine⟨?_,rfl,?_⟩
  ·simp only[List.size_toArray,Array.size_append,Array.size_replicate,hn]
   have:args.length≤k:=by simpa using hl
   omega
  ·intro i v hv;obtain⟨_,h2⟩:=b1p args 0 i v hv
   have hlt:i<args.length:=by
    rcases Nat.lt_or_ge i args.length with h|h
    ·exact h
    ·simp[List.getElem?_eq_none h]at h2
   rw[Array.getElem?_append_left (by simpa using hlt)]
   simpa using h2
 have key:=h w _ w (s0.put (d:=d) (v:=.nilIface) hd) m;have hrec:recoverD (c₀::cs)=none:=by simp[recoverD,hu]
 have hr:List.range (#[(⟨some d,.call { callee:=.builtin .recover,args:=#[],argTypes:=ats },ty,pos,af,none⟩:Oper)]).size=[0]:=rfl;rw[hr]
 simp only[wpOpsSIn]
 refine⟨fun _ _=>trivial,?_⟩
 simp only[Region.wanted,if_true]
 have hx:(execOp (Act.eval { tmps:=args.toArray++Array.replicate (fn.ntmps-args.toArray.size) undef,defers:=[] }) ⟨some d,.call { callee:=.builtin .recover,args:=#[],argTypes:=ats },ty,pos,af,none⟩).run P w = .ok .recover w:=by
  simp[execOp,go_sem]
 simp only[List.getElem?_toArray,List.getElem?_cons_zero,hx,hrec]
 refine wpSIn_of_wpIn rfl ?_;refine Go.wpIn_mono key ?_;intro e a w' hq
 cases e<;>first
  |exact hq.elim
  |(obtain⟨h1,v,h2,h3⟩:=hq;exact⟨h1,_,rfl,v,h2,by rw[hu];obtain⟨v',I',H',he,hm,hp⟩:=h3;exact⟨rfl,v',I',H',he,hm,hp⟩⟩)
  |(obtain⟨v',I',H',he,_⟩:=hq;exact nomatch he)
  |(obtain⟨_,v',I',H',he,_⟩:=hq;exact nomatch he)
end
section
variable {P:Program} {n:Sz} {E:Ent} {I:IMap} {L:LL} {H:List Res} {ty d:Nat} {pos:String} {af:Array Edge} {x:Operand}
theorem d4l {tt tyy:Nat} {ms:Array (String×TypeId)} (ht:P.underlying tt=some (.interface ms)) (hx:ev L x=some .nilIface):OV P n E I L H ⟨some d,.binOp .eql tt x (.const .nilIface) tyy,ty,pos,af,none⟩ (.bool true):=fun a w st _=>by
 have hy:a.eval (.const .nilIface) = .nilIface:=rfl
 have he:(Op.equalIn (9999+1) tt .nilIface .nilIface).run P w = .ok true w:=by
  rw[Op.equalIn]
  simp[run_underlying ht]
 have hb:(binOp .eql tt .nilIface .nilIface).run P w = .ok (.bool true) w:=by
  have h1:binOp .eql tt .nilIface .nilIface=(do Pure.pure (.bool (←Op.equal tt .nilIface .nilIface))):=rfl;rw[h1]
  simp only[Sem.run_bind,Op.equal,Op.maxDepth]
  rw[he]
  rfl
 have hg:(eqGuard .eql tt x (.const .nilIface) .nilIface .nilIface).run P w = .ok () w:=by cases x<;>rfl
 simp only[execOp,st.ev hx,hy,Sem.run_bind,hg,hb,Result.andThen_ok,Sem.run_pure]
end
end Go.Sx
namespace Go.Proofs.YtgmkjpafapgccaaGreat
open Go Go.Sx Tryz
set_option linter.all false
set_option maxRecDepth 20000
set_option maxHeartbeats 4000000
instance:Has (a1W prog 44) ([.int .i64 0,.int .i64 0,.slice none 0 0],3,40):=hk
instance:Has (a6q prog 42) (44,3):=hk
instance:Has (a1g prog 206 0) (0,true,1):=hk
instance:Has (a1g prog 206 1) (1,false,1):=hk
instance:Has (a1g prog 206 2) (2,false,1):=hk
instance:Has (a1g prog 44 2) (2,false,1):=hk
instance:Has (plK prog 44) [(0,1),(1,1),(2,1)]:=hk
instance:Has (tyK prog 42) (false,1):=hk
instance:Has (tyK prog 44) (true,3):=hk
instance:Has (prog.underlying 42) (.slice 44):=hk
instance:Has (a1i prog 44) [.int .i64 0,.int .i64 0,.slice none 0 0]:=hk
theorem d6d (I:IMap) (r:Rep) (S:Option Addr) (d:Nat) (hr:RdS I (.slice S r.options.length d) r.options) (hs:∀e∈r.options,SmE e) :
    FnV prog 193 #[.agg (r.cells (.slice S r.options.length d)).toArray] I (.bool (!a0l r)):=by
 refine enter func193 call193 rfl ntmps193 rfl fun w0=>?_;refine go 4 fun g1=>?_
 refine go 7 ?_;refine cV (a8O _ r S d hr hs) ?_;refine go 6 ?_;exact q_v rfl
theorem b2m (I:IMap) (v:Value) (l:List Rep) (hv:RdS I v l) (f:FuncId) (cs:List Value) (p:Rep→Bool) (hp:∀x∈l,∀vs,Enc.rd I vs x→FnV prog f ([Value.agg vs.toArray]++cs).toArray I (.bool (p x))) :
    FnV prog 99 #[v,.func (.func f) #[] cs.toArray] I (.int .i64 (a4u p l)):=by
 obtain⟨A,c,rfl,hA,hc,hm⟩:=hv;refine enter func99 call99 rfl ntmps99 rfl fun w0=>?_;refine go 14 ?_
 refine a0x (α:=Nat) 0 (fun i=>I)
  (fun i=>[(0,.slice A l.length c),(1,.func (.func f) #[] cs.toArray),(7,.int .i64 (l.length:Int)),(8,.int .i64 (i:Int))])
  (fun i=>[])
  (fun i=>i≤l.length∧∀j x,j<i→l[j]? = some x→p x=false)
  (fun i=>l.length-i) ⟨Nat.zero_le _,fun j x hj=>absurd hj (Nat.not_lt_zero j)⟩ rfl sb rfl ?_
 intro i ⟨hi,hn⟩;refine gC 6 (fun h9 p9=>?_) fun h9 p9=>?_
 ·have hlt:i<l.length:=oM;refine go 15 ?_;obtain⟨b14,o14,w14,e14,c14,r14⟩:=RdA.at_ hA (i:=i) hlt;refine go 1 ?_;refine o_v rfl (a0V he rfl c14 (Enc.len r14)) ?_;refine go 1 ?_;refine cV (hp _ (List.getElem_mem hlt) _ r14) ?_;refine gC 2 (fun h16 p16=>?_) fun h16 p16=>?_
  ·refine go 13 ?_;exact q_v (congrArg (Value.int .i64) (a1z hlt p16 hn).symm)
  ·refine go 8 ?_;exact a0w (i+1) ⟨oM,a1E hn hlt p16⟩ oM rfl sb rfl
 ·refine go 12 ?_;exact q_v (congrArg (Value.int .i64) (a1T (fun j x hj=>hn j x oM)).symm)
theorem a5n (I:IMap) (v:Value) (l:List Rep) (hv:RdS I v l) (f:FuncId) (cs:List Value) (p:Rep→Bool) (hp:∀x∈l,∀vs,Enc.rd I vs x→FnV prog f ([Value.agg vs.toArray]++cs).toArray I (.bool (p x))) :
    FnV prog 38 #[v,.func (.func f) #[] cs.toArray] I (.bool (l.any p)):=by
 refine enter func38 call38 rfl ntmps38 rfl fun w0=>?_;refine go 10 ?_;refine cV (b2m I v l hv f cs p hp) ?_;refine go 6 ?_;exact q_v (congrArg Value.bool (a2F p l))
theorem c2m (I:IMap) (v:Value) (l:List Rep) (hv:RdS I v l) (hl:l.length≤1000000) (hsl:∀r∈l,∀e∈r.options,SmE e)  :
    FnV prog 103 #[v] I (.bool (!l.any fun r=>!a0l r)):=by
 refine enter func103 call103 rfl ntmps103 rfl fun w0=>?_;refine go 9 ?_;refine cV (a5n _ v l hv 193 [] (fun r=>!a0l r) (fun x hx vs hr=>by obtain⟨q,rfl,S,d,rfl,hS,hd,hm⟩:=hr;exact d6d I x S d ⟨_,_,rfl,hS,hd,hm⟩ (hsl _ hx))) ?_;refine go 6 ?_;exact q_v rfl
theorem d3n (I:IMap) (r:Rep) (S:Option Addr) (d:Nat) (hr:RdS I (.slice S r.options.length d) r.options)  :
    FnV prog 263 #[.agg (r.cells (.slice S r.options.length d)).toArray] I (.int .i64 (b8x r)):=by
 have hSA:RdA I S r.options:=(by obtain⟨_,_,e,h,_⟩:=hr;cases e;exact h);have hl5:=hr.lenLe;refine enter func263 call263 rfl ntmps263 rfl fun w0=>?_;refine go 4 fun g1=>?_
 refine go 18 ?_
 refine a0x (α:=Nat) 0 (fun i=>I)
  (fun i=>[(3,.int .i64 (d1B r i)),(7,.slice S r.options.length d),(8,.int .i64 ((r.options.length:Nat):Int)),(9,.int .i64 ((i:Nat):Int))])
  (fun i=>[.blk g1 109 (r.cells (.slice S r.options.length d))])
  (fun i=>i≤r.options.length)
  (fun i=>r.options.length-i) (Nat.zero_le _) rfl sb rfl ?_
 intro i hi;refine gC 6 (fun h10 p10=>?_) fun h10 p10=>?_
 ·have hlt:i<r.options.length:=oM;refine go 6 ?_;obtain⟨b11,o11,w11,e11,c11,r11⟩:=RdA.at_ hSA (i:=i) hlt;obtain rfl:=r11;refine go 4 fun g5=>?_
  refine go 8 ?_;refine o_v rfl (OV.cast (u:=.int .i64 (d1B r (i+1))) (a8u rfl rfl) (congrArg (Value.int .i64) (by have:=c0A hlt;omega))) ?_;refine go 9 ?_;refine a0a ?_;exact a0w (i+1) oM oM rfl sb rfl
 ·obtain rfl:i=r.options.length:=oM;refine go 13 ?_;exact q_v rfl
theorem c2k (I:IMap) (v:Value) (l:List Rep) (hv:RdS I v l) (hl:l.length≤1000000) (hsl:∀r∈l,∀e∈r.options,SmE e)  :
    FnI prog 104 #[v] I (fun u J=>∃w,u = .tuple #[w,.int .i64 (b9P l)]∧RdS J w (l.map b8o)):=by
 obtain⟨A,c0,rfl,hA,hc,hm⟩:=hv;refine enter func104 call104 rfl ntmps104 rfl fun w0=>?_;refine go 11 ?_;refine a6G he he rfl rfl rfl oM oM rfl fun g8=>?_;refine a6g _ (c1s _) ?_;refine go 12 ?_
 refine a0x (α:=Nat) 0 (fun i=>I)
  (fun i=>[(2,.slice (some ⟨g8,0,none⟩) l.length l.length),(3,.int .i64 (b9P (l.take i))),(9,.slice A l.length c0),(10,.int .i64 ((l.length:Nat):Int)),(11,.int .i64 ((i:Nat):Int))])
  (fun i=>[.blk g8 3 (a6m (b4X l i))])
  (fun i=>i≤l.length)
  (fun i=>l.length-i) (Nat.zero_le _) rfl sb rfl ?_
 intro i hi;refine gC 6 (fun h12 p12=>?_) fun h12 p12=>?_
 ·have hlt:i<l.length:=oM;have hol:=c7L (l:=l) (i:=i);refine go 7 ?_;obtain⟨b14,o14,w14,e14,c14,r14⟩:=RdA.at_ hA (i:=i) hlt;obtain⟨q14,rfl,S14,d14,rfl,hS14,hd14,hm14⟩:=r14;refine go 4 fun g5=>?_
  refine go 9 ?_;refine cV (a5a _ l[i] S14 d14 ⟨_,_,rfl,hS14,hd14,hm14⟩ (hsl _ (List.getElem_mem hlt))) ?_;refine o_v rfl (OV.cast (u:=.bool (b0O l[i])) (b2T rfl rfl) rfl) ?_;refine gC 2 (fun h18 p18=>?_) fun h18 p18=>?_
  ·refine go 4 ?_;refine o_v rfl (a0m he rfl rfl rfl (i) oM oM) ?_;refine go 1 ?_;refine a0b ?_;refine b0N he rfl rfl rfl (by rw[b3L,b6A oM,Nat.blt_eq];omega) ?_;refine a6g (a6m ((b4X l i).set i (-1))) (by rw[Nat.zero_add,Nat.mul_one];exact b3N _ _ _) ?_;refine go 4 ?_;refine o_v rfl (OV.cast (u:=.int .i64 (b9P (l.take (i+1)))) (a2h rfl rfl ⟨oM,oM⟩) (congrArg (Value.int .i64) (d0a hlt h18).symm)) ?_;refine go 9 ?_;refine a0b ?_;refine a0a ?_;exact a0w (i+1) oM oM rfl sb (by rw[c4a hlt h18])
  ·rw[←d3f hlt h18];refine go 8 ?_;refine a0a ?_;exact a0w (i+1) oM oM rfl sb (by rw[c8o hlt h18])
 ·obtain rfl:i=l.length:=oM;rw[List.take_length,c3Z];refine go 8 ?_;refine a0B fun Ig8 jg8 cg8=>?_;refine go 7 ?_;exact q_i ⟨_,rfl,b3M cg8 (by simp) hl⟩
theorem d0q (I:IMap) (v:Value) (l:List Rep) (hv:RdS I v l) (hl:l.length≤1000000) (w:Value) (ch:List Int) (hw:RdS I w ch) (hlc:ch.length=l.length)  :
    FnV prog 195 #[v,w] I (.int .i64 (a1H l ch)):=by
 obtain⟨A,c0,rfl,hA,hc,hm⟩:=hv;obtain⟨B,c1,rfl,hB,hc1,hm1⟩:=hw;refine enter func195 call195 rfl ntmps195 rfl fun w0=>?_;refine go 19 ?_
 refine a0x (α:=Nat) 0 (fun i=>I)
  (fun i=>[(0,.slice A l.length c0),(5,.int .i64 ((a6J l ch i))),(8,.slice B ch.length c1),(9,.int .i64 ((ch.length:Nat):Int)),(10,.int .i64 ((i:Nat):Int))])
  (fun i=>[])
  (fun i=>i≤ch.length)
  (fun i=>ch.length-i) (Nat.zero_le _) rfl sb rfl ?_
 intro i hi;refine gC 6 (fun h11 p11=>?_) fun h11 p11=>?_
 ·have hlt2:i<ch.length:=oM;have hlt:i<l.length:=oM;have hsp:=b6m l ch i;refine go 7 ?_;obtain⟨b13,o13,w13,e13,c13,r13⟩:=RdA.at_ hB (i:=i) hlt2;obtain rfl:=r13;refine o_v rfl (a0m he rfl rfl e13 (i) oM hlt2) ?_;refine go 6 ?_;refine a1N (I':=I) (L':=[(0,.slice A l.length c0),(5,.int .i64 ((a6J l ch i))),(8,.slice B ch.length c1),(9,.int .i64 ((ch.length:Nat):Int)),(10,.int .i64 ((i:Nat):Int)),(6,.int .i64 ((i:Nat):Int)),(33,.bool (decide (ch[i]<0)&&(decide ((a6J l ch i)<0)||decide (b8x l[i]<b8x (l.getD (a6J l ch i).toNat ⟨[],false⟩)))))]) (H':=[]) ?_ ?_
  ·refine go 1 ?_;refine dG 0 3 ?_;refine gS 0 17 (fun h17 p17=>?_) fun h17 p17=>?_
   ·refine dG 3 3 ?_;refine gS 0 20 (fun h20 p20=>?_) fun h20 p20=>?_
    ·refine dG 6 13 ?_;refine go 2 ?_;exact a0o ⟨rfl,rfl,rfl,rfl,rfl,rfl,(bB (by simp only[h11,h17,h20,bS])),trivial⟩ rfl rfl
    ·refine dG 6 2 ?_;obtain⟨b23,o23,w23,e23,c23,r23⟩:=RdA.at_ hA (i:=i) hlt;obtain⟨q23,rfl,S23,d23,rfl,hS23,hd23,hm23⟩:=r23;refine dG 8 2 ?_;refine dG 11 1 ?_;refine d_t 12 rfl rfl (by kernel_rfl) rfl (fun _ m=>m.keeps .slnil) (a2V rfl rfl h20 (OV.cast (u:=.int .i64 (((a6J l ch i).toNat:Nat):Int)) (c3z rfl) (congrArg (Value.int .i64) (d4Q h20 oM).2))) ?_;obtain⟨b28,o28,w28,e28,c28,r28⟩:=RdA.at_ hA (i:=(a6J l ch i).toNat) (d4Q h20 oM).1;obtain⟨q28,rfl,S28,d28,rfl,hS28,hd28,hm28⟩:=r28;refine d_t 13 rfl rfl (by kernel_rfl) rfl (fun _ m=>m.keeps .slnil) (a2V rfl rfl h20 (a0m he rfl rfl e28 ((a6J l ch i).toNat) oM (d4Q h20 oM).1)) ?_;refine dG 14 1 ?_;refine dH 10 0 ?_;refine a0q rfl rfl h20 (a0v (d3n _ l[i] S23 d23 ⟨_,_,rfl,hS23,hd23,hm23⟩) rfl rfl ?_);refine dH 15 0 ?_;refine a0q rfl rfl h20 (a0v (d3n _ _ S28 d28 ⟨_,_,rfl,hS28,hd28,hm28⟩) rfl rfl ?_);refine go 1 ?_;refine d_t 16 rfl rfl (by kernel_rfl) rfl (fun _ m=>m.keeps .slnil) (a2V rfl rfl h20 (OV.cast (u:=.bool (decide (b8x l[i]<b8x (l.getD (a6J l ch i).toNat ⟨[],false⟩)))) (b9F rfl rfl) (by rw[a8B (d4Q h20 oM).1]))) ?_;refine dG 17 2 ?_;refine go 2 ?_;exact a0o ⟨rfl,rfl,rfl,rfl,rfl,rfl,(bB (by simp only[h11,h17,h20,bS])),trivial⟩ rfl rfl
   ·refine dG 3 16 ?_;refine go 2 ?_;exact a0o ⟨rfl,rfl,rfl,rfl,rfl,rfl,(bB (by simp only[h11,h17,bS])),trivial⟩ rfl rfl
  ·refine gC 0 (fun h33 p33=>?_) fun h33 p33=>?_
   ·refine go 1 ?_;refine o_v rfl (OV.cast (u:=.int .i64 (a6J l ch (i+1))) (c3z rfl) (congrArg (Value.int .i64) (d4a h33).symm)) ?_;refine go 9 ?_;exact a0w (i+1) oM oM rfl sb rfl
   ·rw[←d6m h33];refine go 8 ?_;exact a0w (i+1) oM oM rfl sb rfl
 ·obtain rfl:i=ch.length:=oM;refine go 13 ?_;exact q_v rfl
theorem c2n (I:IMap) (w:Value) (ch:List Int) (hw:RdS I w ch) (hl:ch.length≤1000000) (at_:Nat) (hat:at_<ch.length) (k:Int) :
    FnI prog 196 #[w,.int .i64 ((at_:Nat):Int),.int .i64 (k)] I (fun u J=>RdS J u (ch.set at_ k)):=by
 obtain⟨B,c1,rfl,hB,hc1,hm1⟩:=hw;refine enter func196 call196 rfl ntmps196 rfl fun w0=>?_;refine go 10 ?_;refine a6G he he rfl rfl rfl oM oM rfl fun g10=>?_;refine go 8 ?_;obtain⟨xss,hx,hcell⟩:=hB.pieces;obtain rfl:=c4X hx;refine a6s (b0L ch) 0 he rfl rfl (by rw[a7a];simp) (Uk.rep (c:=[.int .i64 0]) rfl _) (c4Y ch) hx.one (fun _=>by rw[Nat.zero_mul]) (fun hp=>by rw[a7a]at hp;obtain⟨b,o,e,h⟩:=hcell hp;exact⟨b,o,e,fun w mm j u hu=>(h j u hu).at_ mm.con⟩) (by rw[a7a];simp) rfl ?_;refine a6g _ (b8L (by simp)) ?_;refine go 7 ?_;refine o_v rfl (a0m he rfl rfl rfl (at_) oM oM) ?_;refine go 1 ?_;refine b0N he rfl rfl rfl (by rw[b3L,Nat.blt_eq];omega) ?_;refine a6g (a6m (ch.set at_ k)) (by rw[Nat.zero_add,Nat.mul_one];exact b3N _ _ _) ?_;refine go 4 ?_;refine a0B fun Ig10 jg10 cg10=>?_;refine go 6 ?_;exact q_i (b3M cg10 (by simp) hl)
theorem b0f (I:IMap) (vc:Value) (c:List Kind) (hvc:RdS I vc c) (hsc:SmC c) (v:Value) (l:List Rep) (hv:RdS I v l) (hl:l.length≤1000000) (hsl:∀r∈l,∀e∈r.options,SmE e) (gb:Nat) (N:Nat) (ih:∀n,N=n+1→∀J,ILe I J→∀w ch,RdS J w ch→ch.length=l.length→b1t ch≤n→∀m:Int,((cntN (a2o c l n ch):Nat):Int)≤m→m≤4096→FnG prog 106 #[.pointer (some ⟨gb,0,none⟩),w] J (.blk gb 206 [vc,v,.int .i64 (m)]) (fun u J' r=>r = .blk gb 206 [vc,v,.int .i64 (m-(cntN (a2o c l n ch):Nat))]∧∃vs,u = .agg vs.toArray∧FmRd J' vs (a2o c l n ch))) (w:Value) (ch:List Int) (hw:RdS I w ch) (hlc:ch.length=l.length) (hn:b1t ch≤N) (m:Int) (hm1:((cntN (a2o c l N ch):Nat):Int)≤m) (hm:m≤4096) :
    FnG prog 106 #[.pointer (some ⟨gb,0,none⟩),w] I (.blk gb 206 [vc,v,.int .i64 (m)]) (fun u J r=>r = .blk gb 206 [vc,v,.int .i64 (m-(cntN (a2o c l N ch):Nat))]∧∃vs,u = .agg vs.toArray∧FmRd J vs (a2o c l N ch)):=by
 have hcp:=c4i (a2o c l N ch);obtain⟨A0,c0,rfl,hA,_,_⟩:=id hv;refine enter func106 call106 rfl ntmps106 rfl fun w0=>?_;refine go 4 fun g4=>?_
 refine gC 12 (fun h12 p12=>?_) fun h12 p12=>?_
 ·exact absurd p12 oM
 ·refine go 12 ?_;refine a0b ?_;refine go 5 ?_;refine a1J fun hE4 hf4=>?_;refine go 1 ?_;refine dG 0 3 ?_;refine a0I 3 rfl rfl (by kernel_rfl) rfl (.refl _) rfl (a1L ([vc]) m0 he rfl rfl rfl) ?_;refine dH 4 5 ?_;refine a0p (c9r _ vc c hvc hsc _ l hv hl hsl w ch hw) rfl rfl fun v31 I31 j31 q31=>?_;have hvc:=hvc.le j31;have hv:=hv.le j31;have hw:=hw.le j31;have hA:=hA.le j31;obtain rfl:=q31;refine gC 3 (fun h31 p31=>?_) fun h31 p31=>?_
  ·refine go 4 ?_;refine a0b ?_;refine go 6 ?_;refine a0a ?_;exact q_g ⟨by rw[a4f h31,b3p];rfl,_,rfl,by rw[a4f h31];exact fm_in 2 0 RdS.nil'⟩
  ·refine go 10 ?_;refine cV (d0q _ _ l hv hl w ch hw hlc) ?_;refine gC 10 (fun h40 p40=>?_) fun h40 p40=>?_
   ·refine go 4 ?_;refine a0b ?_;refine go 6 ?_;refine a0a ?_;exact q_g ⟨by rw[a4g h31 p40,b3p];rfl,_,rfl,by rw[a4g h31 p40];exact fm_in 3 0 RdS.nil'⟩
   ·obtain⟨a,ha,hal,hac,hneg⟩:=b7U p40 hlc
    obtain⟨n,rfl⟩:∃n,N=n+1:=by
      cases N with
      |zero=>exact absurd hneg (c5y oM hac)
      |succ n=>exact⟨n,rfl⟩
    rw[a2s h31 ha,b5a]at hm1
    have ih:=ih n rfl;have hc5:=a8D l[a];have hkl:=a9J (c:=c) (l:=l) (n:=n) (ch:=ch) (a:=a) (b0Z _);rw[a8B hal]at hkl
    rw[ha];refine go 5 ?_;refine a0G 44 3 ?_;refine go 3 fun g6=>?_
    refine go 12 ?_;obtain⟨b49,o49,w49,e49,c49,r49⟩:=RdA.at_ hA (i:=a) hal;obtain⟨q49,rfl,S49,d49,rfl,hS49,hd49,hm49⟩:=r49;refine o_v rfl (a0m he rfl rfl e49 (a) oM hal) ?_;refine go 2 ?_;refine cV (a5a _ l[a] S49 d49 ⟨_,_,rfl,hS49,hd49,hm49⟩ (hsl _ (List.getElem_mem hal))) ?_;refine go 4 ?_;refine a0u ?_;refine a0u ?_;refine a0d ?_;refine a0u ?_
    refine a5g ((0:Nat)) (I31) (none) ((0:Nat)) ([]) (fun k J A1 k1 xs=>J)
     (fun k J A1 k1 xs=>[(0,.pointer (some ⟨gb,0,none⟩)),(1,w),(4,.pointer (some ⟨g4,0,none⟩)),(5,.int .i64 ((a:Nat):Int)),(6,.pointer (some ⟨g6,0,none⟩)),(51,.int .i64 (chs l[a])),(52,.int .i64 ((k:Nat):Int))])
     (fun k J A1 k1 xs=>[.row (.slice A1 k k1) 44 3 k xs,.blk g6 44 [.int .i64 (1),.int .i64 ((a:Nat):Int),.slice A1 k k1],.blk gb 206 [vc,.slice A0 l.length c0,.int .i64 (m-1-(cntNL (List.take k (a3L c l n ch a)):Nat))],.blk g4 44 [.int .i64 (0),.int .i64 (0),.slice none 0 0]])
     (fun k J A1 k1 xs=>k≤List.length (a3L c l n ch a)∧ILe I31 J∧Flat J xs (List.take k (a3L c l n ch a)))
     (fun k J A1 k1 xs=>List.length (a3L c l n ch a)-k) ⟨Nat.zero_le _,ILe.refl _,.nil⟩ rfl sb (by rw[b8s];rfl) ?_
    intro k J A1 k1 xs ⟨hk,hJ,hF⟩;have hvc:=hvc.le hJ;have hv:=hv.le hJ;have hw:=hw.le hJ;have hA:=hA.le hJ;refine gC 6 (fun h53 p53=>?_) fun h53 p53=>?_
    ·have hlt:k<List.length (a3L c l n ch a):=oM;have hcl:=c4h hlt;rw[a3y hlt]at hcl
     have hng:=a7T (k:=((k:Nat):Int)) hac hneg oM;refine go 10 ?_;refine a0b ?_;refine a0b ?_;refine a0d ?_;refine a1J fun hE13 hf13=>?_;refine b6H T.mixed ?_;refine dG 0 1 ?_;refine dG 2 4 ?_;refine dT2 1 6 ?_ ?_
     ·refine a0t rfl (b2S m2 he rfl rfl) ?_;refine dH 6 0 ?_;refine a0p (c2n _ w ch hw oM a hac ((k:Nat):Int)) rfl rfl fun v61 I61 j61 q61=>?_;have hvc:=hvc.le j61;have hv:=hv.le j61;have hw:=hw.le j61;have hA:=hA.le j61;obtain q61:=q61;refine dH 7 0 ?_;refine a1x (ih _ (j31.trans (hJ.trans j61)) _ _ q61 (by simp[hlc]) oM _ oM oM) rfl rfl fun v62 I62 s62 j62 q62=>?_;have hvc:=hvc.le j62;have hv:=hv.le j62;have hw:=hw.le j62;have hA:=hA.le j62;obtain⟨rfl,vs62,rfl,hk62⟩:=q62;obtain⟨s62,rfl,hs62⟩:=a2b hk62;refine dH 8 0 ?_;refine go 1 fun v63=>?_
      refine dH 9 0 ?_;refine a0d ?_;refine a0z he he rfl rfl (Enc.one (α:=Fm) hk62) rfl rfl oM oM rfl fun v64=>?_;refine a0J fun A64 c64 hv64=>?_;subst hv64;refine dH 10 1 ?_;refine a0u ?_;refine go 10 ?_;refine a0d ?_;refine a0a ?_;refine a0u ?_;refine a0u ?_;refine a0d ?_;refine a0u ?_;exact a2M (k+1) (I62) (A64) (c64) (_) ⟨oM,hJ.trans (j61.trans j62),by rw[←a0c hlt];exact (hF.le (j61.trans j62)).append (.one (by rw[a3y hlt];exact hk62))⟩ oM rfl sb (by rw[a4T hlt,a3y hlt,a7k];rfl)
     ·refine a0p (c2n _ w ch hw oM a hac ((k:Nat):Int)) rfl rfl fun v61 I61 j61 q61=>?_;have hvc:=hvc.le j61;have hv:=hv.le j61;have hw:=hw.le j61;have hA:=hA.le j61;obtain q61:=q61;refine go 1 ?_;refine dT2 1 7 ?_ ?_
      ·refine a0t rfl (b2S m2 he rfl rfl) ?_;refine dH 7 0 ?_;refine a1x (ih _ (j31.trans (hJ.trans j61)) _ _ q61 (by simp[hlc]) oM _ oM oM) rfl rfl fun v62 I62 s62 j62 q62=>?_;have hvc:=hvc.le j62;have hv:=hv.le j62;have hw:=hw.le j62;have hA:=hA.le j62;obtain⟨rfl,vs62,rfl,hk62⟩:=q62;obtain⟨s62,rfl,hs62⟩:=a2b hk62;refine dH 8 0 ?_;refine go 1 fun v63=>?_
       refine dH 9 0 ?_;refine a0d ?_;refine a0z he he rfl rfl (Enc.one (α:=Fm) hk62) rfl rfl oM oM rfl fun v64=>?_;refine a0J fun A64 c64 hv64=>?_;subst hv64;refine dH 10 1 ?_;refine a0u ?_;refine go 10 ?_;refine a0d ?_;refine a0a ?_;refine a0u ?_;refine a0u ?_;refine a0d ?_;refine a0u ?_;exact a2M (k+1) (I62) (A64) (c64) (_) ⟨oM,hJ.trans (j61.trans j62),by rw[←a0c hlt];exact (hF.le (j61.trans j62)).append (.one (by rw[a3y hlt];exact hk62))⟩ oM rfl sb (by rw[a4T hlt,a3y hlt,a7k];rfl)
      ·refine a1x (ih _ (j31.trans (hJ.trans j61)) _ _ q61 (by simp[hlc]) oM _ oM oM) rfl rfl fun v62 I62 s62 j62 q62=>?_;have hvc:=hvc.le j62;have hv:=hv.le j62;have hw:=hw.le j62;have hA:=hA.le j62;obtain⟨rfl,vs62,rfl,hk62⟩:=q62;obtain⟨s62,rfl,hs62⟩:=a2b hk62;refine go 1 ?_;refine dT2 1 8 ?_ ?_
       ·refine a0t rfl (b2S m2 he rfl rfl) ?_;refine dH 8 0 ?_;refine go 1 fun v63=>?_
        refine dH 9 0 ?_;refine a0d ?_;refine a0z he he rfl rfl (Enc.one (α:=Fm) hk62) rfl rfl oM oM rfl fun v64=>?_;refine a0J fun A64 c64 hv64=>?_;subst hv64;refine dH 10 1 ?_;refine a0u ?_;refine go 10 ?_;refine a0d ?_;refine a0a ?_;refine a0u ?_;refine a0u ?_;refine a0d ?_;refine a0u ?_;exact a2M (k+1) (I62) (A64) (c64) (_) ⟨oM,hJ.trans (j61.trans j62),by rw[←a0c hlt];exact (hF.le (j61.trans j62)).append (.one (by rw[a3y hlt];exact hk62))⟩ oM rfl sb (by rw[a4T hlt,a3y hlt,a7k];rfl)
       ·refine go 1 fun v63=>?_
        refine dH 1 0 ?_;refine a0t rfl (b2S m3 he rfl rfl) ?_;refine dH 9 0 ?_;refine a0d ?_;refine a0z he he rfl rfl (Enc.one (α:=Fm) hk62) rfl rfl oM oM rfl fun v64=>?_;refine a0J fun A64 c64 hv64=>?_;subst hv64;refine dH 10 1 ?_;refine a0u ?_;refine go 10 ?_;refine a0d ?_;refine a0a ?_;refine a0u ?_;refine a0u ?_;refine a0d ?_;refine a0u ?_;exact a2M (k+1) (I62) (A64) (c64) (_) ⟨oM,hJ.trans (j61.trans j62),by rw[←a0c hlt];exact (hF.le (j61.trans j62)).append (.one (by rw[a3y hlt];exact hk62))⟩ oM rfl sb (by rw[a4T hlt,a3y hlt,a7k];rfl)
    ·refine go 7 ?_;obtain rfl:k=List.length (a3L c l n ch a):=oM;rw[List.take_length]at hF
     rw[List.take_length];refine a0i (l:=(a3L c l n ch a)) rfl rfl hF fun J9 j9 R9=>?_;refine go 2 ?_;refine a0d ?_;refine go 5 ?_;refine a0a ?_;refine a0a ?_;exact q_g ⟨by rw[a2s h31 ha,b5a,c1P],_,rfl,by rw[a2s h31 ha];exact fm_in 1 a R9⟩
end Go.Proofs.YtgmkjpafapgccaaGreat
namespace Go.Proofs.YtgmkjpafapgccaaGreat
open Go Go.Sx Tryz
set_option linter.all false
set_option maxRecDepth 20000
set_option maxHeartbeats 4000000
instance:Has (a1W prog 45) ([.slice none 0 0],1,24):=hk
instance:Has (a6q prog 70) (45,1):=hk
instance:Has (a1g prog 44 0) (0,false,1):=hk
instance:Has (a1g prog 44 1) (1,false,1):=hk
instance:Has (plK prog 206) [(0,1),(1,1),(2,1)]:=hk
instance:Has (tyK prog 303) (false,1):=hk
instance:Has (tyK prog 70) (false,1):=hk
instance:Has (prog.underlying 70) (.slice 45):=hk
instance:Has (prog.underlying 20) (.interface [].toArray):=hk
instance:Has (a1i prog 206) [.slice none 0 0,.slice none 0 0,.int .i64 0]:=hk
instance:Has (a1i prog 45) [.slice none 0 0]:=hk
instance:Has (a1i prog 70) [.slice none 0 0]:=hk
theorem c1n {σ:Type} (I:IMap) (v:Value) (l:List Fm) (hv:RdS I v l) (f:FuncId) (cs:List Value) (R:σ→Res) (fo:σ→Fm→Bool×σ) (hp:∀I2,ILe I I2→∀(s:σ) (x:Fm),x∈l→∀vs,Enc.rd I2 vs x→FnG prog f ([Value.agg vs.toArray]++cs).toArray I2 (R s) fun u J r'=>u = .bool (fo s x).1∧r'=R (fo s x).2) (s:σ) :
    FnG prog 338 #[v,.func (.func f) #[] cs.toArray] I (R s) (fun u J r'=>u=ci (a2z fo s l 0).1∧r'=R (a2z fo s l 0).2):=by
 obtain⟨A,c,rfl,hA,hc,hm⟩:=hv;refine enter func338 call338 rfl ntmps338 rfl fun w0=>?_;refine go 14 ?_
 refine a3k ((0:Nat)) (s) (I) (fun i t J=>J)
  (fun i t J=>[(0,.slice A l.length c),(1,.func (.func f) #[] cs.toArray),(7,.int .i64 (l.length:Int)),(8,.int .i64 (i:Int))])
  (fun i t J=>[R t])
  (fun i t J=>i≤l.length∧ILe I J∧a2z fo s l 0=a2z fo t (l.drop i) i)
  (fun i t J=>l.length-i) ⟨Nat.zero_le _,ILe.refl _,rfl⟩ rfl sb rfl ?_
 intro i t J ⟨hi,hJ,hq⟩;have hA:=hA.le hJ;refine gC 6 (fun h9 p9=>?_) fun h9 p9=>?_
 ·have hlt:i<l.length:=oM;refine go 15 ?_;obtain⟨b14,o14,w14,e14,c14,r14⟩:=RdA.at_ hA (i:=i) hlt;refine go 1 ?_;refine o_v rfl (a0V he rfl c14 (Enc.len r14)) ?_;refine go 1 ?_;refine a1x (hp J hJ t l[i] (List.getElem_mem hlt) _ r14) rfl rfl fun v16 I16 s16 j16 q16=>?_;obtain⟨rfl,rfl⟩:=q16;refine gC 2 (fun h16 p16=>?_) fun h16 p16=>?_
  ·refine go 13 ?_;exact q_g ⟨congrArg (Value.int .i64) (by rw[hq,a8R hlt h16]),by rw[hq,a8R hlt h16]⟩
  ·refine go 8 ?_;exact a1P (i+1) ((fo t l[i]).2) (I16) ⟨oM,hJ.trans j16,hq.trans (b4B hlt h16)⟩ oM rfl sb rfl
 ·refine go 12 ?_;exact q_g ⟨congrArg (Value.int .i64) (by rw[hq,a8Q oM]),by rw[hq,a8Q oM]⟩
theorem b3r {σ:Type} (I:IMap) (v:Value) (l:List Fm) (hv:RdS I v l) (f:FuncId) (cs:List Value) (R:σ→Res) (fo:σ→Fm→Bool×σ) (hp:∀I2,ILe I I2→∀(s:σ) (x:Fm),x∈l→∀vs,Enc.rd I2 vs x→FnG prog f ([Value.agg vs.toArray]++cs).toArray I2 (R s) fun u J r'=>u = .bool (fo s x).1∧r'=R (fo s x).2) (s:σ) :
    FnG prog 312 #[v,.func (.func f) #[] cs.toArray] I (R s) (fun u J r'=>u = .bool (decide (0≤(a2z fo s l 0).1))∧r'=R (a2z fo s l 0).2):=by
 refine enter func312 call312 rfl ntmps312 rfl fun w0=>?_;refine go 10 ?_;refine a1x (c1n I v l hv f cs R fo hp s) rfl rfl fun v7 I7 s7 j7 q7=>?_;obtain⟨rfl,rfl⟩:=q7;refine go 6 ?_;exact q_g ⟨rfl,rfl⟩
theorem d0r {σ:Type} (I:IMap) (N:Nat) (f:FuncId) (cs:List Value) (R:σ→Res) (out:σ→Fm→Bool) (nx:σ→Fm→σ) (ih:∀I2,ILe I I2→∀(x:Fm),cntN x≤N→∀vs,FmRd I2 vs x→∀s,FnG prog 265 #[.agg vs.toArray,.func (.func f) #[] cs.toArray] I2 (R s) fun u J r'=>u = .bool (wmS out nx x s).1∧r'=R (wmS out nx x s).2) (x:Fm) (hN:cntN x≤N) (vs:List Value) (hx:FmRd I vs x) (g:Nat) (cg:ICells I g 0 [.func (.func f) #[] cs.toArray]) (s:σ) :
    FnG prog 313 #[.agg vs.toArray,.pointer (some ⟨g,0,none⟩)] I (R s) (fun u J r'=>u = .bool (!(wmS out nx x s).1)∧r'=R (wmS out nx x s).2):=by
 refine enter func313 call313 rfl ntmps313 rfl fun w0=>?_;refine go 4 fun g2=>?_
 refine go 5 ?_;refine o_v rfl (a3f m0 he rfl (Enc.len (α:=Fm) hx)) ?_;refine o_v rfl (a0H he rfl (cg 0 _ rfl)) ?_;refine go 1 ?_;refine a0b ?_;refine a1x (ih I (ILe.refl _) x hN vs hx s) rfl rfl fun v6 I6 s6 j6 q6=>?_;obtain⟨rfl,rfl⟩:=q6;refine go 6 ?_;refine a0b ?_;refine a0a ?_;exact q_g ⟨rfl,rfl⟩
theorem b5V {σ:Type} (I:IMap) (N:Nat) (f:FuncId) (cs:List Value) (R:σ→Res) (out:σ→Fm→Bool) (nx:σ→Fm→σ) (hV:∀I2,ILe I I2→∀(s:σ) (x:Fm) vs,FmRd I2 vs x→FnG prog f ([Value.agg vs.toArray]++cs).toArray I2 (R s) fun u J r'=>u = .bool (out s x)∧r'=R (nx s x)) (ih:∀I2,ILe I I2→∀(x:Fm),cntN x≤N→∀vs,FmRd I2 vs x→∀s,FnG prog 265 #[.agg vs.toArray,.func (.func f) #[] cs.toArray] I2 (R s) fun u J r'=>u = .bool (wmS out nx x s).1∧r'=R (wmS out nx x s).2) (x:Fm) (hN:cntN x≤N+1) (vs:List Value) (hx:FmRd I vs x) (s:σ) :
    FnG prog 265 #[.agg vs.toArray,.func (.func f) #[] cs.toArray] I (R s) (fun u J r'=>u = .bool (wmS out nx x s).1∧r'=R (wmS out nx x s).2):=by
 have hx0:=hx;obtain⟨sk,rfl,hk⟩:=a2b hx;refine enter func265 call265 rfl ntmps265 rfl fun w0=>?_;refine go 4 fun g2=>?_
 refine go 2 fun g3=>?_
 refine go 8 ?_;refine a0d ?_;refine a1x (hV I (ILe.refl _) s x _ hx0) rfl rfl fun v7 I7 s7 j7 q7=>?_;have hk:=hk.le j7;obtain⟨rfl,rfl⟩:=q7;refine gS 1 8 (fun h8 p8=>?_) fun h8 p8=>?_
 ·refine go 2 ?_;refine a0b ?_;refine a0B fun Ig3 jg3 cg3=>?_;have hk:=hk.le jg3;refine go 2 ?_;refine a0q rfl rfl h8 (a1x (b3r _ _ x.kids hk 313 [.pointer (some ⟨g3,0,none⟩)] R (wmF out nx) (fun I2 hI2 t k hk2 vs2 hx2=>d0r I2 N f cs R out nx (fun I3 hI3=>ih I3 ((j7.trans (jg3.trans hI2)).trans hI3)) k (by have:=a4H hk2;omega) vs2 hx2 g3 (cg3.le hI2) t) (nx s x)) rfl rfl (fun v12 I12 s12 j12 q12=>?_));obtain⟨rfl,rfl⟩:=q12;refine go 7 ?_;refine a0b ?_;refine a0a ?_;exact q_g ⟨congrArg Value.bool (by rw[c3G h8]),by rw[c3G h8]⟩
 ·refine go 11 ?_;refine a0b ?_;refine a0a ?_;refine a0b ?_;refine a0a ?_;exact q_g ⟨congrArg Value.bool (by rw[c8b h8]),by rw[c8b h8]⟩
theorem c7O {σ:Type} (I:IMap) (f:FuncId) (cs:List Value) (R:σ→Res) (out:σ→Fm→Bool) (nx:σ→Fm→σ) (hV:∀I2,ILe I I2→∀(s:σ) (x:Fm) vs,FmRd I2 vs x→FnG prog f ([Value.agg vs.toArray]++cs).toArray I2 (R s) fun u J r'=>u = .bool (out s x)∧r'=R (nx s x)) (x:Fm) (vs:List Value) (hx:FmRd I vs x) (s:σ) :
  FnG prog 265 #[.agg vs.toArray,.func (.func f) #[] cs.toArray] I (R s) fun u J r'=>u = .bool (wmS out nx x s).1∧r'=R (wmS out nx x s).2:=by
 have key:∀(N:Nat) (I:IMap),(∀I2,ILe I I2→∀(s:σ) (x:Fm) vs,FmRd I2 vs x→FnG prog f ([Value.agg vs.toArray]++cs).toArray I2 (R s) fun u J r'=>u = .bool (out s x)∧r'=R (nx s x))→∀(x:Fm),cntN x≤N→∀vs,FmRd I vs x→∀s,FnG prog 265 #[.agg vs.toArray,.func (.func f) #[] cs.toArray] I (R s) fun u J r'=>u = .bool (wmS out nx x s).1∧r'=R (wmS out nx x s).2:=by
  intro N
  induction N with
  |zero=>intro I _ x h;cases x;simp[cntN]at h
  |succ N ih=>exact fun I hV x hN vs hx s=>b5V I N f cs R out nx hV (fun I2 hI2 x h vs hx s=>ih I2 (fun I3 hI3=>hV I3 (hI2.trans hI3)) x h vs hx s) x hN vs hx s
 exact key (cntN x) I hV x (Nat.le_refl _) vs hx s
theorem d0p (I:IMap) (x:Fm) (vs:List Value) (hx:FmRd I vs x) (g:Nat) (n:Int) :
    FnG prog 311 #[.agg vs.toArray,.pointer (some ⟨g,0,none⟩)] I (.blk g 3 [ci n]) (fun u J r'=>u = .bool (smO n x)∧r' = .blk g 3 [ci (smN n x)]):=by
 refine enter func311 call311 rfl ntmps311 rfl fun w0=>?_;refine go 4 fun g2=>?_
 refine go 6 ?_;refine o_v rfl (c3q rfl rfl) ?_;refine go 1 ?_;refine a0b ?_;refine go 12 ?_;refine a0b ?_;refine a0a ?_;exact q_g ⟨rfl,rfl⟩
theorem d3u (I:IMap) (x:Fm) (vs:List Value) (hx:FmRd I vs x) :
    FnI prog 264 #[.agg vs.toArray] I (fun u J=>u=ci (d4P x)):=by
 refine enter func264 call264 rfl ntmps264 rfl fun w0=>?_;refine go 4 fun g1=>?_
 refine go 7 fun g3=>?_
 refine go 6 ?_;refine o_v rfl (a3f m1 he rfl (Enc.len (α:=Fm) hx)) ?_;refine go 2 ?_;refine a1x (c7O I 311 [.pointer (some ⟨g3,0,none⟩)] (fun n=>.blk g3 3 [ci n]) smO smN (fun I2 hI2 s x vs hx=>d0p I2 x vs hx g3 s) x vs hx 0) rfl rfl fun v6 I6 s6 j6 q6=>?_;obtain⟨rfl,rfl⟩:=q6;refine go 10 ?_;refine a0a ?_;refine a0a ?_;exact q_i rfl
theorem d0o (I:IMap) (x:Fm) (vs:List Value) (hx:FmRd I vs x) :
    FnV prog 266 #[.agg vs.toArray] I (.bool (prN x)):=by
 obtain⟨sk,rfl,hk⟩:=a2b hx;obtain⟨A,c0,rfl,hA,hc,hm⟩:=hk;refine enter func266 call266 rfl ntmps266 rfl fun w0=>?_;refine go 4 fun g1=>?_
 refine gC 17 (fun h5 p5=>?_) fun h5 p5=>?_
 ·refine gS 6 10 (fun h10 p10=>?_) fun h10 p10=>?_
  ·refine gS 5 15 (fun h15 p15=>?_) fun h15 p15=>?_
   ·refine gS 6 21 (fun h21 p21=>?_) fun h21 p21=>?_
    ·refine go 12 ?_;exact q_v (congrArg Value.bool (by rw[c2l p5];simp only[h5,h10,h15,h21,bS]))
    ·refine go 12 ?_;exact q_v (congrArg Value.bool (by rw[c2l p5];simp only[h5,h10,h15,h21,bS]))
   ·refine go 18 ?_;exact q_v (congrArg Value.bool (by rw[c2l p5];simp only[h5,h10,h15,bS]))
  ·refine go 23 ?_;exact q_v (congrArg Value.bool (by rw[c2l p5];simp only[h5,h10,bS]))
 ·refine go 1 ?_;refine a1N (I':=I) (L':=[(1,.pointer (some ⟨g1,0,none⟩)),(27,.bool (decide (x.op=2)||decide (x.op=3)))]) (H':=[.blk g1 44 [ci x.op,ci x.n,.slice A x.kids.length c0]]) ?_ ?_
  ·refine gC 6 (fun h27 p27=>?_) fun h27 p27=>?_
   ·refine go 2 ?_;exact a0o ⟨rfl,(bB (by simp only[h5,h27,bS])),trivial⟩ rfl rfl
   ·refine go 5 ?_;exact a0o ⟨rfl,(bB (by simp only[h5,h27,bS])),trivial⟩ rfl rfl
  ·refine gC 0 (fun h27 p27=>?_) fun h27 p27=>?_
   ·refine gS 6 33 (fun h33 p33=>?_) fun h33 p33=>?_
    ·refine go 12 ?_;exact q_v (congrArg Value.bool (by rw[d3r p5 p27];simp only[h27,h33,bS]))
    ·refine go 12 ?_;exact q_v (congrArg Value.bool (by rw[d3r p5 p27];simp only[h27,h33,bS]))
   ·refine go 10 ?_;exact q_v (congrArg Value.bool (d3s p5 oM).symm)
theorem c5S (I:IMap) (x:Fm) (vs:List Value) (hx:FmRd I vs x) :
    FnI prog 197 #[.agg vs.toArray] I (fun u J=>u = .bool (c2p x)):=by
 refine enter func197 call197 rfl ntmps197 rfl fun w0=>?_;refine go 4 fun g1=>?_
 refine go 5 ?_;refine o_v rfl (a3f m0 he rfl (Enc.len (α:=Fm) hx)) ?_;refine go 1 ?_;refine a0p (d3u _ x vs hx) rfl rfl fun v4 I4 j4 q4=>?_;have hx:=hx.le j4;obtain rfl:=q4;refine gS 2 6 (fun h6 p6=>?_) fun h6 p6=>?_
 ·refine a0A (a0q rfl rfl h6 (a0t rfl (a3f m0 he rfl (Enc.len (α:=Fm) hx)) ?_));refine go 1 ?_;refine a0G 0 0 ?_;refine a0q rfl rfl h6 (a1x (c7O _ 266 [] (fun (_:Unit)=>.row (.slice none 0 0) 0 0 0 []) (fun _ x=>prN x) (fun s _=>s) (fun I2 hI2 s x vs hx=>FnG.of_V (d0o I2 x vs hx)) x vs hx ()) rfl rfl (fun v8 I8 s8 j8 q8=>?_));obtain⟨rfl,rfl⟩:=q8;refine go 6 ?_;refine a0a ?_;refine a0a ?_;exact q_i (congrArg Value.bool (by simp only[c2p,←wm_all _ _ (),h6,bS]))
 ·refine go 8 ?_;refine a0a ?_;exact q_i (congrArg Value.bool (by simp only[c2p,←wm_all _ _ (),h6,bS]))
theorem b0e (I:IMap) (v:Value) (l:List Rep) (hv:RdS I v l) (hl:l.length≤1000000) (hsl:∀r∈l,∀e∈r.options,SmE e) (c:List Kind) (gz:Nat) (N:Nat) (ih:∀n,N=n+1→∀J,ILe I J→∀w ch,RdS J w ch→Opn l ch→b1t ch≤n→∀vs,FmRd J vs (a2o c l n ch)→∀A1 k1 xs (dn:List (List Int)),Flat J xs dn→(dn++(a2w c l n ch)).length≤1000000→FnH prog 198 #[v,.agg vs.toArray,w,.pointer (some ⟨gz,0,none⟩)] J [.row (.slice A1 dn.length k1) 45 1 dn.length xs,.blk gz 70 [.slice A1 dn.length k1]] (fun u J H'=>u = .bool true∧∃A2 k2 xs2,H'=[.row (.slice A2 (dn++(a2w c l n ch)).length k2) 45 1 (dn++(a2w c l n ch)).length xs2,.blk gz 70 [.slice A2 (dn++(a2w c l n ch)).length k2]]∧Flat J xs2 (dn++(a2w c l n ch)))) (w:Value) (ch:List Int) (hw:RdS I w ch) (ho:Opn l ch) (hn:b1t ch≤N) (vs:List Value) (hx:FmRd I vs (a2o c l N ch)) (A1:Option Addr) (k1:Nat) (xs:List Value) (dn:List (List Int)) (hF:Flat I xs dn) (hlen:(dn++(a2w c l N ch)).length≤1000000) :
    FnH prog 198 #[v,.agg vs.toArray,w,.pointer (some ⟨gz,0,none⟩)] I [.row (.slice A1 dn.length k1) 45 1 dn.length xs,.blk gz 70 [.slice A1 dn.length k1]] (fun u J H'=>u = .bool true∧∃A2 k2 xs2,H'=[.row (.slice A2 (dn++(a2w c l N ch)).length k2) 45 1 (dn++(a2w c l N ch)).length xs2,.blk gz 70 [.slice A2 (dn++(a2w c l N ch)).length k2]]∧Flat J xs2 (dn++(a2w c l N ch))):=by
 have hcl:=ho.len;obtain⟨A0,c0,rfl,hA0,hc0,hm0⟩:=id hv;obtain⟨B0,d0,rfl,hB,hd0,hn0⟩:=id hw;obtain⟨sk,rfl,hk⟩:=a2b hx;obtain⟨K0,kc,rfl,hK,hkc,hkm⟩:=id hk;refine enter func198 call198 rfl ntmps198 rfl fun w0=>?_;refine go 4 fun g5=>?_
 refine gC 13 (fun h11 p11=>?_) fun h11 p11=>?_
 ·have e1:=d4g ho hn p11;refine go 9 ?_;refine a0a ?_;rw[e1,List.append_nil];exact a3g (fun _ m=>m) ⟨rfl,A1,k1,xs,rfl,hF⟩
 ·skip
  refine gC 8 (fun h15 p15=>?_) fun h15 p15=>?_
  ·obtain⟨e1,hpos⟩:=d4h ho hn p15;rw[e1]at hlen
   rw[List.length_append,List.length_singleton]at hlen
   refine go 9 fun v24=>?_
   refine go 1 ?_;refine a0d ?_;refine a0z he he rfl rfl (Enc.one (α:=List Int) ⟨_,rfl,hw⟩) rfl rfl oM oM rfl fun v25=>?_;refine a0J fun A25 c25 hv25=>?_;subst hv25;refine go 2 ?_;refine a0u ?_;refine go 7 ?_;refine cV (a8l _ _ ch hw (-1)) ?_;refine o_v rfl (OV.cast (u:=.bool true) (b9I rfl) (congrArg Value.bool (by rw[decide_eq_false (fun hm=>by have:=hpos _ hm;omega)];rfl))) ?_;refine go 7 ?_;refine a0d ?_;refine a0a ?_;refine a0d ?_;refine a0a ?_;refine a0b ?_;rw[e1];exact a3g (fun _ m=>m) ⟨rfl,_,_,_,by rw[List.length_append];rfl,hF.append (.one ⟨_,rfl,hw⟩)⟩
  ·obtain⟨n,a,rfl,ha,hb,hna,hca,hxn,hxk,hkl,e1⟩:=d4f ho hn p11 p15;rw[e1]at hlen
   rw[hxk]at hK hkc
   rw[hxn,hxk];have hc5:=a8D l[a];have ih:=ih n rfl;refine go 1 ?_;refine a0B fun Ig5 jg5 cg5=>?_
   try have hw:=hw.le jg5
   try have hv:=hv.le jg5
   try have hA0:=hA0.le jg5
   try have hB:=hB.le jg5
   try have hK:=hK.le jg5
   try have hF:=hF.le jg5
   try have cg5:=cg5.le jg5
   refine go 1 ?_;refine dG 0 1 ?_;refine a0I 1 rfl rfl (by kernel_rfl) rfl (.refl _) rfl (a0H he rfl (cg5 1 _ rfl)) ?_;refine dG 2 2 ?_;refine a0I 4 rfl rfl (by kernel_rfl) rfl (.refl _) rfl (OV.cast (u:=.bool false) (b9D rfl rfl) (congrArg Value.bool (decide_eq_false oM))) ?_;refine dG 5 3 ?_;refine d_t 8 rfl rfl (by kernel_rfl) rfl (fun _ m=>m.keeps (.refl _)) (a2V rfl rfl rfl (a0H he rfl (cg5 1 _ rfl))) ?_;obtain⟨b40,o40,w40,e40,c40,r40⟩:=RdA.at_ hB (i:=a) hb;obtain rfl:=r40;refine d_t 9 rfl rfl (by kernel_rfl) rfl (fun _ m=>m.keeps (.refl _)) (a2V rfl rfl rfl (a0m he rfl rfl e40 (a) oM hb)) ?_;refine dG 10 1 ?_;refine d_t 11 rfl rfl (by kernel_rfl) rfl (fun _ m=>m.keeps (.refl _)) (a2V rfl rfl rfl (OV.cast (u:=.bool false) (b9D rfl rfl) (congrArg Value.bool (decide_eq_false oM)))) ?_;refine dG 12 3 ?_;refine d_t 15 rfl rfl (by kernel_rfl) rfl (fun _ m=>m.keeps (.refl _)) (a2V rfl rfl rfl (a0H he rfl (cg5 2 _ rfl))) ?_;refine dG 16 3 ?_;refine d_t 19 rfl rfl (by kernel_rfl) rfl (fun _ m=>m.keeps (.refl _)) (a2V rfl rfl rfl (a0H he rfl (cg5 1 _ rfl))) ?_;obtain⟨b51,o51,w51,e51,c51,r51⟩:=RdA.at_ hA0 (i:=a) ha;obtain⟨q51,rfl,S51,d51,rfl,hS51,hd51,hm51⟩:=r51;refine d_t 20 rfl rfl (by kernel_rfl) rfl (fun _ m=>m.keeps (.refl _)) (a2V rfl rfl rfl (a0m he rfl rfl e51 (a) oM ha)) ?_;refine dH 21 1 ?_;refine a0q rfl rfl rfl (a0v (a5a _ l[a] S51 d51 ⟨_,_,rfl,hS51,hd51,hm51⟩ (hsl _ (List.getElem_mem ha))) rfl rfl ?_);refine go 1 ?_;refine d_t 23 rfl rfl (by kernel_rfl) rfl (fun _ m=>m.keeps (.refl _)) (a2V rfl rfl rfl (OV.cast (u:=.bool false) (b2T rfl rfl) (congrArg Value.bool (by rw[decide_eq_true hkl];rfl)))) ?_;refine dG 24 2 ?_;refine go 10 ?_;refine o_v rfl (a0H he rfl (cg5 2 _ rfl)) ?_;refine go 5 ?_
   refine a5g ((0:Nat)) (Ig5) (A1) (k1) (xs) (fun k J A2 k2 ys=>J)
    (fun k J A2 k2 ys=>[(0,.slice A0 l.length c0),(2,.slice B0 ch.length d0),(3,.pointer (some ⟨gz,0,none⟩)),(5,.pointer (some ⟨g5,0,none⟩)),(57,.slice K0 (a3L c l n ch a).length kc),(58,.int .i64 (((a3L c l n ch a).length:Nat):Int)),(59,.int .i64 ((k:Nat):Int))])
    (fun k J A2 k2 ys=>[.row (.slice A2 (dn++a7d c l n ch a k).length k2) 45 1 (dn++a7d c l n ch a k).length ys,.blk gz 70 [.slice A2 (dn++a7d c l n ch a k).length k2]])
    (fun k J A2 k2 ys=>k≤(a3L c l n ch a).length∧ILe Ig5 J∧Flat J ys (dn++a7d c l n ch a k))
    (fun k J A2 k2 ys=>(a3L c l n ch a).length-k) ⟨Nat.zero_le _,ILe.refl _,by rw[b1n,List.append_nil];exact hF⟩ rfl sb (by rw[b1n,List.append_nil]) ?_
   intro k J A2 k2 ys ⟨hk2,hJ,hF2⟩;have hv:=hv.le hJ;have hw:=hw.le hJ;have hA0:=hA0.le hJ;have hK:=hK.le hJ;have cg5:=cg5.le hJ;refine gC 6 (fun h60 p60=>?_) fun h60 p60=>?_
   ·have hlt:k<(a3L c l n ch a).length:=oM;have hle:=c5h (c:=c) (l:=l) (n:=n) (ch:=ch) (a:=a) (show k+1≤(a3L c l n ch a).length from oM);rw[a5X]at hle
    simp only[List.length_append]at hle hlen
    refine go 7 ?_;obtain⟨b62,o62,w62,e62,c62,r62⟩:=RdA.at_ hK (i:=k) hlt;rw[a3y hlt]at r62
    refine go 1 ?_;refine o_v rfl (a0V he rfl c62 (Enc.len r62)) ?_;refine go 2 fun g10=>?_
    refine go 2 ?_;refine a0Q _ he rfl rfl rfl (Enc.len (α:=Fm) r62) rfl (Enc.one (α:=Fm) r62) ?_;refine go 3 ?_;refine a0B fun Ig10 jg10 cg10=>?_
    try have hw:=hw.le jg10
    try have hv:=hv.le jg10
    try have hA0:=hA0.le jg10
    try have hB:=hB.le jg10
    try have hK:=hK.le jg10
    try have hF:=hF.le jg10
    try have cg5:=cg5.le jg10
    refine a0b ?_;refine a0b ?_;refine a1J fun hE11 hf11=>?_;refine ds2 ?_;refine dG 0 1 ?_;refine a0I 1 rfl rfl (by kernel_rfl) rfl (.cons _ (.cons _ .slnil)) rfl (a0V he rfl cg10 (Enc.len (α:=Fm) r62)) ?_;refine dG 2 2 ?_;refine a0I 4 rfl rfl (by kernel_rfl) rfl (.cons _ (.cons _ .slnil)) rfl (a0H he rfl (cg5 1 _ rfl)) ?_;refine dG 5 1 ?_;refine dG 7 1 ?_;refine dH 6 0 ?_;refine a0p (c2n _ _ ch hw oM a hb ((k:Nat):Int)) rfl rfl fun v70 I70 j70 q70=>?_
    try have hw:=hw.le j70
    try have hv:=hv.le j70
    try have hA0:=hA0.le j70
    try have hB:=hB.le j70
    try have hK:=hK.le j70
    try have hF:=hF.le j70
    try have cg5:=cg5.le j70
    obtain q70:=q70;refine dH 8 0 ?_;refine a0b ?_;refine a0b ?_;refine a2Z (Hc:=[_,_]) (ih _ (jg5.trans (hJ.trans (jg10.trans j70))) _ _ q70 (ho.set ha oM oM) (by have:=a7T (k:=((k:Nat):Int)) hb hna oM;omega) _ (r62.le (jg10.trans j70)) A2 k2 ys (dn++a7d c l n ch a k) (hF2.le (jg10.trans j70)) (by simp only[List.length_append];omega)) rfl rfl fun u72 I72 H72 j72 q72=>?_;obtain⟨rfl,A72,k72,xs72,rfl,hF72⟩:=q72;refine b2O ?_
    try have hw:=hw.le j72
    try have hv:=hv.le j72
    try have hA0:=hA0.le j72
    try have hB:=hB.le j72
    try have hK:=hK.le j72
    try have hF:=hF.le j72
    try have cg5:=cg5.le j72
    refine dG 9 1 ?_;refine go 11 ?_;exact a2M (k+1) (I72) (A72) (k72) (xs72) ⟨oM,hJ.trans (jg10.trans (j70.trans j72)),by rw[a5X,←List.append_assoc];exact hF72⟩ oM rfl sb (by rw[a5X,←List.append_assoc])
   ·refine go 12 ?_;obtain rfl:k=(a3L c l n ch a).length:=oM;rw[e1];exact a3g (fun _ m=>m) ⟨rfl,A2,k2,ys,rfl,hF2⟩
theorem d3o (v:Value) (l:List Rep) (hl:l.length≤1000000) (hsl:∀r∈l,∀e∈r.options,SmE e) (c:List Kind) (gz:Nat):∀(N:Nat) (I:IMap),RdS I v l→∀w ch,RdS I w ch→Opn l ch→b1t ch≤N→∀vs,FmRd I vs (a2o c l N ch)→∀A1 k1 xs (dn:List (List Int)),Flat I xs dn→(dn++(a2w c l N ch)).length≤1000000→FnH prog 198 #[v,.agg vs.toArray,w,.pointer (some ⟨gz,0,none⟩)] I [.row (.slice A1 dn.length k1) 45 1 dn.length xs,.blk gz 70 [.slice A1 dn.length k1]] (fun u J H'=>u = .bool true∧∃A2 k2 xs2,H'=[.row (.slice A2 (dn++(a2w c l N ch)).length k2) 45 1 (dn++(a2w c l N ch)).length xs2,.blk gz 70 [.slice A2 (dn++(a2w c l N ch)).length k2]]∧Flat J xs2 (dn++(a2w c l N ch))):=by
 intro N
 induction N with
 |zero=>exact fun I hv w ch hw ho hn vs hx A1 k1 xs dn hF hlen=>b0e I v l hv hl hsl c gz 0 (fun n h=>oM) w ch hw ho hn vs hx A1 k1 xs dn hF hlen
 |succ N ih=>exact fun I hv w ch hw ho hn vs hx A1 k1 xs dn hF hlen=>b0e I v l hv hl hsl c gz (N+1) (fun n h J hJ w ch hw ho hn vs hx A1 k1 xs dn hF hlen=>by
  obtain rfl:N=n:=oM
  exact ih J (hv.le hJ) w ch hw ho hn vs hx A1 k1 xs dn hF hlen) w ch hw ho hn vs hx A1 k1 xs dn hF hlen
theorem d3p (I:IMap) (v:Value) (l:List Rep) (hv:RdS I v l) (hl:l.length≤1000000) (hsl:∀r∈l,∀e∈r.options,SmE e) (c:List Kind) (hva:(l.any fun r=>!a0l r)=false) (vs:List Value) (hx:FmRd I vs (a5x c l)) (h96:cntN (a5x c l)≤4096) (hed:(a3l c l).length≤1000000) (hl5:l.length≤5000) :
    FnI prog 108 #[v,.agg vs.toArray] I (fun u J=>RdS J u (a3l c l)):=by
 refine enter func108 call108 rfl ntmps108 rfl fun w0=>?_;refine go 4 fun g3=>?_
 refine go 7 fun g5=>?_
 refine go 4 ?_;refine a0G 45 1 ?_;refine go 2 ?_;refine a0p (c2k _ v l hv hl hsl) rfl rfl fun v10 I10 j10 q10=>?_;have hv:=hv.le j10;have hx:=hx.le j10
 try have hw:=hw.le j10
 obtain⟨w,rfl,hw⟩:=q10;refine go 12 ?_;refine cV (c2m _ v l hv hl hsl) ?_;refine o_v rfl (OV.cast (u:=.bool false) (b9I rfl) (congrArg Value.bool (by rw[hva];rfl))) ?_;refine go 1 ?_;refine a0A (a0q rfl rfl rfl (a0t rfl (a3f m2 he rfl (Enc.len (α:=Fm) hx)) ?_));refine go 1 ?_;refine a0q rfl rfl rfl (a0p (c5S _ _ vs hx) rfl rfl (fun v18 I18 j18 q18=>?_));have hv:=hv.le j18;have hx:=hx.le j18
 try have hw:=hw.le j18
 obtain rfl:=q18;refine a0A (a0q rfl rfl rfl (a0t rfl (OV.cast (u:=.bool false) (b9I rfl) (congrArg Value.bool (by rw[b6r hva hl5 h96];rfl))) ?_));refine go 3 ?_;refine a0A (a0q rfl rfl rfl (a0t rfl (a3f m2 he rfl (Enc.len (α:=Fm) hx)) ?_));refine go 2 ?_;refine a0b ?_;refine a0b ?_;refine a0q rfl rfl rfl (a2Z (Hc:=[_,_]) (d3o v l hl hsl c g5 _ _ hv w _ hw (Opn.beg (b9U.1 hva)) (Nat.le_refl _) vs hx none 0 [] [] .nil hed) rfl rfl (fun u25 I25 H25 j25 q25=>?_));obtain⟨rfl,A25,k25,xs25,rfl,hF25⟩:=q25;refine b2O ?_;have hv:=hv.le j25;have hx:=hx.le j25
 try have hw:=hw.le j25
 refine go 15 ?_;refine a0b ?_;refine a0a ?_;refine a0b ?_;refine a0a ?_;refine a0i (l:=a3l c l) rfl rfl hF25 fun I9 j9 R9=>?_;exact q_i R9
theorem d3t (vc:Value) (c:List Kind) (hsc:SmC c) (v:Value) (l:List Rep) (hl:l.length≤1000000) (hsl:∀r∈l,∀e∈r.options,SmE e) (gb:Nat):∀(N:Nat) (I:IMap),RdS I vc c→RdS I v l→∀w ch,RdS I w ch→ch.length=l.length→b1t ch≤N→∀m:Int,((cntN (a2o c l N ch):Nat):Int)≤m→m≤4096→FnG prog 106 #[.pointer (some ⟨gb,0,none⟩),w] I (.blk gb 206 [vc,v,.int .i64 (m)]) (fun u J r=>r = .blk gb 206 [vc,v,.int .i64 (m-(cntN (a2o c l N ch):Nat))]∧∃vs,u = .agg vs.toArray∧FmRd J vs (a2o c l N ch)):=by
 intro N
 induction N with
 |zero=>exact fun I hvc hv w ch hw hlc hn m hm1 hm=>b0f I vc c hvc hsc v l hv hl hsl gb 0 (fun n h=>oM) w ch hw hlc hn m hm1 hm
 |succ N ih=>
  exact fun I hvc hv w ch hw hlc hn m hm1 hm=>b0f I vc c hvc hsc v l hv hl hsl gb (N+1) (fun n h J hJ w ch hw hlc hn m hm1 hm=>by
   obtain rfl:N=n:=oM
   exact ih J (hvc.le hJ) (hv.le hJ) w ch hw hlc hn m hm1 hm) w ch hw hlc hn m hm1 hm
theorem d3m (I:IMap) (g6 g7:Nat) (vs:List Value) (e:Int) :
    FnDf prog 105 #[.pointer (some ⟨g6,0,none⟩),.pointer (some ⟨g7,0,none⟩)] I [.blk g6 44 vs,.blk g7 63 [.int .i64 (e)]] (fun I' H'=>I'=I∧H'=[.blk g6 44 vs,.blk g7 63 [.int .i64 (e)]]):=by
 refine c8T func105 rfl ntmps105 rfl rfl fun w0=>?_;refine go 3 ?_;refine o_v rfl (d4l (he) rfl) ?_;refine go 7 ?_;refine d5q rfl ?_;exact a3g (fun _ m=>m) ⟨rfl,rfl⟩
theorem d0n (I:IMap) (vc:Value) (c:List Kind) (hvc:RdS I vc c) (hsc:SmC c) (v:Value) (l:List Rep) (hv:RdS I v l) (hl:l.length≤30) (hsl:∀r∈l,∀e∈r.options,SmE e) (hcv:a2p c=true) (hva:(l.any fun r=>!a0l r)=false) (h96:cntN (a5x c l)≤4096) :
    FnI prog 42 #[.agg #[vc],v,.int .i64 (4096)] I (fun u J=>∃vs,u = .tuple #[.agg vs.toArray,.int .i64 0]∧FmRd J vs (a5x c l)):=by
 obtain⟨A0,c0,rfl,hA0,hc0,hm0⟩:=id hv;refine enter func42 call42 rfl ntmps42 rfl fun w0=>?_;refine go 4 fun g3=>?_
 refine go 2 fun g6=>?_
 refine go 2 fun g7=>?_
 refine go 7 ?_;refine cV (a6N _ vc c hvc hsc) ?_;refine o_v rfl (OV.cast (u:=.bool false) (b9I rfl) (congrArg Value.bool (by rw[hcv];rfl))) ?_;refine go 3 ?_;refine a0q rfl rfl rfl (a0v (c2m _ _ l hv oM hsl) rfl rfl ?_);refine a0A (a0q rfl rfl rfl (a0t rfl (OV.cast (u:=.bool false) (b9I rfl) (congrArg Value.bool (by rw[hva];rfl))) ?_));refine go 4 ?_;refine a0A (a0q rfl rfl rfl (a0t rfl (OV.cast (u:=.bool false) (c7b rfl rfl) (congrArg Value.bool (decide_eq_false oM))) ?_));refine go 3 ?_;refine a0A (a0q rfl rfl rfl (a0t rfl (OV.cast (u:=.bool false) (b9F rfl rfl) rfl) ?_));refine go 3 ?_;refine a0A (a0q rfl rfl rfl (a0t rfl (OV.cast (u:=.bool false) (c7b rfl rfl) rfl) ?_));refine go 10 ?_;refine a0p (c2k _ _ l hv oM hsl) rfl rfl fun v34 I34 j34 q34=>?_;have hvc:=hvc.le j34;have hv:=hv.le j34
 try have hw:=hw.le j34
 obtain⟨w,rfl,hw⟩:=q34;have hon:=c7L (l:=l) (i:=l.length);rw[List.take_length]at hon
 refine go 11 ?_;refine o_v rfl (OV.cast (u:=.bool false) (c7b rfl rfl) (congrArg Value.bool (decide_eq_false oM))) ?_;refine go 6 ?_;refine b8q rfl rfl ?_;refine go 2 ?_;refine d3M rfl rfl ?_;refine go 9 fun g45=>?_
 refine go 2 ?_;refine a1x (d3t vc c hsc _ l oM hsl g45 _ _ hvc hv w _ hw (by rw[List.length_map]) (Nat.le_refl _) 4096 (by exact_mod_cast h96) (Int.le_refl _)) rfl rfl fun v47 I47 s47 j47 q47=>?_;have hvc:=hvc.le j47;have hv:=hv.le j47
 try have hw:=hw.le j47
 obtain⟨rfl,vs47,rfl,hk47⟩:=q47;obtain⟨s47,rfl,hs47⟩:=a2b hk47;refine go 1 ?_;refine a0d ?_;refine a0Q _ he rfl rfl rfl rfl rfl (Enc.one (α:=Fm) hk47) ?_;refine go 1 ?_;refine a0d ?_;refine go 4 ?_;refine a0b ?_;refine c6a (Hc:=[_,_]) call105 (d3m _ g6 g7 _ _) fun I6 H6 j6 q6=>?_;obtain⟨rfl,rfl⟩:=q6;refine b2O ?_;refine go 1 ?_;refine a0a ?_;refine a0a ?_;refine a0a ?_;refine a0a ?_;exact q_i ⟨_,rfl,hk47⟩
end Go.Proofs.YtgmkjpafapgccaaGreat
namespace Go.Proofs.YtgmkjpafapgccaaGreat
open Go Go.Sx Tryz
set_option linter.all false
set_option maxRecDepth 20000
set_option maxHeartbeats 4000000
instance:Has (a1W prog 109) ([.slice none 0 0,.bool false],2,32):=hk
instance:Has (a1g prog 48 0) (0,false,1):=hk
instance:Has (plK prog 48) [(0,1),(1,3),(4,1),(5,1)]:=hk
instance:Has (tyK prog 117) (false,1):=hk
instance:Has (tyK prog 48) (true,6):=hk
instance:Has (tyK prog 56) (true,6):=hk
instance:Has (a1i prog 48) [.int .i64 0,.int .i64 0,.int .i64 0,.slice none 0 0,.slice none 0 0,.slice none 0 0]:=hk
theorem d6g (I:IMap) (vc:Value) (c:List Kind) (hvc:RdS I vc c) (hsc:SmC c) (f:Fm) (sf:Value) (hfm:FmRd I [ci f.op,ci f.n,sf] f) (v0 v1 v2 v3 v4 v5:Value) (b:Bok) (hb:BokRd I v0 v1 v2 v3 v4 v5 b) (hok:OkBok b) (ve:Value) (e:List Evt) (hve:RdS I ve e) (hel:e.length≤25) (hse:∀x∈e,SmE x) (vn:ByteArray) (day:Int) (gx gb gv gd:Nat) (kx:ICells I gx 0 [vc,ci f.op,ci f.n,sf]) (kb:ICells I gb 0 [v0,v1,v2,v3,v4,v5]) (kv:ICells I gv 0 [.string vn]) (kd:ICells I gd 0 [.int .i64 (day)]) :
    FnI prog 44 #[ve,.pointer (some ⟨gx,0,none⟩),.pointer (some ⟨gb,0,none⟩),.pointer (some ⟨gv,0,none⟩),.pointer (some ⟨gd,0,none⟩)] I (fun u J=>RdS J u (ofF f c b e vn day)):=by
 refine enter func44 call44 rfl ntmps44 rfl fun w0=>?_;refine go 7 ?_;refine o_v rfl (a0V he rfl kx rfl) ?_;refine o_v rfl (a0V he rfl kb rfl) ?_;refine go 1 ?_;refine o_v rfl (a0H he rfl (kv 0 _ rfl)) ?_;refine o_v rfl (a0H he rfl (kd 0 _ rfl)) ?_;refine go 1 ?_;refine a0p (d6H _ vc c hvc hsc f sf hfm v0 v1 v2 v3 v4 v5 b hb hok ve e hve hel hse vn day) rfl rfl fun v12 I12 j12 q12=>?_;refine go 5 ?_;exact q_i q12
theorem d6h (I:IMap) (r:Rep) (S:Option Addr) (d:Nat) (hr:RdS I (.slice S r.options.length d) r.options) (hs:∀e∈r.options,SmE e) :
    FnV prog 39 #[.agg (r.cells (.slice S r.options.length d)).toArray] I (.bool (!a0l r)):=by
 refine enter func39 call39 rfl ntmps39 rfl fun w0=>?_;refine go 4 fun g1=>?_
 refine go 7 ?_;refine cV (a8O _ r S d hr hs) ?_;refine go 6 ?_;exact q_v rfl
theorem d6X (I:IMap) (c:List Kind) (v:Value) (l:List Rep) (hv:RdS I v l) (hl:l.length≤25) (hsl:∀r∈l,∀e∈r.options,SmE e) (hva:(l.any fun r=>!a0l r)=false) (vs:List Value) (hx:FmRd I vs (a5x c l)) (h96:cntN (a5x c l)≤4096) (hed:(a3l c l).length≤1000000) (F:FuncId) (cs:List Value) (fe:List Evt→List Flt) (hF:∀J,ILe I J→∀u e,RdS J u e→e.length≤25→(∀x∈e,SmE x)→FnI prog F ([u]++cs).toArray J fun r J2=>RdS J2 r (fe e)) (gl gp gf:Nat) (kl:ICells I gl 0 [v]) (kp:ICells I gp 0 vs) (kf:ICells I gf 0 [.func (.func F) #[] cs.toArray]) :
    b9N prog 107 [.pointer (some ⟨gl,0,none⟩),.pointer (some ⟨gp,0,none⟩),.pointer (some ⟨gf,0,none⟩)] I (fun I vs (x:List Int×List Flt)=>∃w u,vs=[w,u]∧RdS I w x.1∧RdS I u x.2) (fun pre x=>pre++[x] <+: ((a3l c l).map fun t=>(t,fe (a2f l t).1))) (fun pre=>pre=((a3l c l).map fun t=>(t,fe (a2f l t).1))) (fun _=>True):=by
 have hF0:=hF;intro ly J I1 Hc hI1 hJm hY hJ0;have hv:=hv.le hI1;have hx:=hx.le hI1;have kl:=kl.le hI1;have kp:=kp.le hI1;have kf:=kf.le hI1;refine enter func107 call107 rfl ntmps107 rfl fun w0=>?_;refine go 2 ?_;refine o_v rfl (a0H he rfl (kl 0 _ rfl)) ?_;refine o_v rfl (a0V he rfl kp (Enc.len (α:=Fm) hx)) ?_;refine go 1 ?_;refine a0p (d3p _ v l hv oM hsl c hva vs hx h96 hed oM) rfl rfl fun v11 I11 j11 q11=>?_
 try have hv:=hv.le j11
 try have hx:=hx.le j11
 try have kl:=kl.le j11
 try have kp:=kp.le j11
 try have kf:=kf.le j11
 have hJ:=hJm _ _ _ _ _ j11 hJ0;have hF:=fun J h=>hF J (ILe.trans hI1 (ILe.trans j11 h))
 obtain⟨AA,ca,rfl,hE,hca,hma⟩:=q11;refine go 5 ?_
 refine a4G ((0:Nat)) ([]) (I11) (Hc) (fun i pre I2 Hc=>I2)
  (fun i pre I2 Hc=>[(0,.func (.yield ly) #[] #[]),(1,.pointer (some ⟨gl,0,none⟩)),(2,.pointer (some ⟨gp,0,none⟩)),(3,.pointer (some ⟨gf,0,none⟩)),(11,.slice AA (a3l c l).length ca),(12,.int .i64 (((a3l c l).length:Nat):Int)),(13,.int .i64 ((i:Nat):Int))])
  (fun i pre I2 Hc=>Hc)
  (fun i pre I2 Hc=>i≤(a3l c l).length∧ILe I11 I2∧pre=((a3l c l).map fun t=>(t,fe (a2f l t).1)).take i∧J true pre I2 Hc)
  (fun i pre I2 Hc=>(a3l c l).length-i) ⟨Nat.zero_le _,ILe.refl _,rfl,hJ⟩ rfl sb rfl ?_
 intro i pre I2 Hc ⟨hi,hI2,hpre,hJ⟩;have hv:=hv.le hI2;have hx:=hx.le hI2;have hE:=hE.le hI2;have kl:=kl.le hI2;have kp:=kp.le hI2;have kf:=kf.le hI2;have hF:=fun J (h:ILe I2 J)=>hF J (hI2.trans h)
 refine gC 6 (fun h14 p14=>?_) fun h14 p14=>?_
 ·have hlt:i<(a3l c l).length:=oM;have hpl:=c2g l (a3l c l)[i];refine go 6 ?_;obtain⟨b15,o15,w15,e15,c15,r15⟩:=RdA.at_ hE (i:=i) oM;obtain⟨q15,rfl,S15,d15,rfl,hS15,hd15,hm15⟩:=r15;refine go 7 ?_;refine o_v rfl (a0H he rfl (kl 0 _ rfl)) ?_;refine go 2 ?_;refine a0p (c2x _ _ l hv oM hsl _ (a3l c l)[i] ⟨_,_,rfl,hS15,hd15,hm15⟩) rfl rfl fun v20 I20 j20 q20=>?_
  try have hv:=hv.le j20
  try have hx:=hx.le j20
  try have hE:=hE.le j20
  try have kl:=kl.le j20
  try have kp:=kp.le j20
  try have kf:=kf.le j20
  try have hz20:=hz20.le j20
  try have q27:=q27.le j20
  have hJ:=hJm _ _ _ _ _ j20 hJ;have hF:=fun J h=>hF J (ILe.trans j20 h)
  try have hS15:=hS15.le j20
  obtain⟨z20,rfl,hz20⟩:=q20;refine go 11 ?_;refine o_v rfl (a0H he rfl (kf 0 _ rfl)) ?_;refine go 2 ?_;refine a0p (hF _ (ILe.refl _) _ _ hz20 oM (c2h hsl)) rfl rfl fun v27 I27 j27 q27=>?_
  try have hv:=hv.le j27
  try have hx:=hx.le j27
  try have hE:=hE.le j27
  try have kl:=kl.le j27
  try have kp:=kp.le j27
  try have kf:=kf.le j27
  try have hz20:=hz20.le j27
  try have q27:=q27.le j27
  have hJ:=hJm _ _ _ _ _ j27 hJ;have hF:=fun J h=>hF J (ILe.trans j27 h)
  try have hS15:=hS15.le j27
  refine go 1 ?_;refine c5D (((a3l c l)[i],fe (a2f l (a3l c l)[i]).1)) hY (hJm _ _ _ _ _ (ILe.refl _) hJ) (⟨_,_,rfl,⟨_,_,rfl,hS15,hd15,hm15⟩,q27⟩) ((by rw[hpre,c0M hlt];exact List.take_prefix _ _)) rfl rfl rfl fun b28 I28 Hc28 j28 hJ28=>?_
  try have hv:=hv.le j28
  try have hx:=hx.le j28
  try have hE:=hE.le j28
  try have kl:=kl.le j28
  try have kp:=kp.le j28
  try have kf:=kf.le j28
  try have hz20:=hz20.le j28
  try have q27:=q27.le j28
  have hJ:=hJm _ _ _ _ _ j28 hJ;have hF:=fun J h=>hF J (ILe.trans j28 h)
  refine gC 3 (fun h29 p29=>?_) fun h29 p29=>?_
  ·have hb28:b28=false:=by simpa using h29
   refine go 6 ?_;subst hb28;exact c2s false _ hJ28 trivial
  ·have hb28:b28=true:=by simpa using h29
   refine go 8 ?_;exact a1V (i+1) (pre++[((a3l c l)[i],fe (a2f l (a3l c l)[i]).1)]) (I28) (Hc28) ⟨oM,hI2.trans (j20.trans (j27.trans j28)),by rw[hpre];exact c0M hlt,hb28▸hJ28⟩ oM rfl sb rfl
 ·have e:i=(a3l c l).length:=oM;subst e;rw[d2q]at hpre
  refine go 5 ?_;exact c2s true _ hJ hpre
theorem d3P (I:IMap) (v:Value) (l:List Rep) (hv:RdS I v l) (x:Fm) (vs:List Value) (hx:FmRd I vs x) (F:FuncId) (cs:List Value) :
    FnI prog 43 #[v,.agg vs.toArray,.func (.func F) #[] cs.toArray] I (fun u J=>∃gl gp gf,u = .func (.func 107) #[] #[.pointer (some ⟨gl,0,none⟩),.pointer (some ⟨gp,0,none⟩),.pointer (some ⟨gf,0,none⟩)]∧ICells J gl 0 [v]∧ICells J gp 0 vs∧ICells J gf 0 [.func (.func F) #[] cs.toArray]):=by
 obtain⟨A,c0,rfl,_,_,_⟩:=id hv;obtain⟨sk,rfl,hk⟩:=a2b hx;refine enter func43 call43 rfl ntmps43 rfl fun w0=>?_;refine go 4 fun g3=>?_
 refine go 2 fun g4=>?_
 refine go 2 fun g5=>?_
 refine go 5 ?_;refine a0d ?_;refine a0B fun Ig3 jg3 cg3=>?_;refine a0b ?_;refine a0B fun Ig4 jg4 cg4=>?_;have cg3:=cg3.le jg4;refine a0B fun Ig5 jg5 cg5=>?_;have cg3:=cg3.le jg5;have cg4:=cg4.le jg5;refine go 6 ?_;exact q_i ⟨g3,g4,g5,rfl,cg3,cg4,cg5⟩
theorem a1G (I:IMap) (vc:Value) (c:List Kind) (hvc:RdS I vc c) (hsc:SmC c) (f:Fm) (sf:Value) (hfm:FmRd I [ci f.op,ci f.n,sf] f) (v:Value) (l:List Rep) (hv:RdS I v l) (hl:l.length≤25) (hsl:∀r∈l,∀e∈r.options,SmE e) (hw:a4d l≤2000) (R:Nat→Nat) (hRt:Rts l R) (v0 v1 v2 v3 v4 v5:Value) (b:Bok) (hb:BokRd I v0 v1 v2 v3 v4 v5 b) (hok:OkBok b) (vn:ByteArray) (day:Int) :
    FnI prog 10 #[.agg #[vc,ci f.op,ci f.n,sf],.agg #[v0,v1,v2,v3,v4,v5],v,.string vn,.int .i64 (day)] I (fun w J=>∃k h u,w = .agg ((decR f c b l (a3V l R vn) vn day).cs k h u).toArray∧VdRd J k h u (decR f c b l (a3V l R vn) vn day)):=by
 have hv0:=hv;obtain⟨A,c0,rfl,hA,hc,hm⟩:=hv;refine enter func10 call10 rfl ntmps10 rfl fun w0=>?_;refine go 4 fun g5=>?_
 refine go 2 fun g6=>?_
 refine go 2 fun g8=>?_
 refine go 2 fun g9=>?_
 refine go 2 fun g10=>?_
 refine go 2 ?_;refine c0k ?_;refine go 12 ?_;refine a0p (c1A _ vc c hvc hsc f sf hfm _ [] RdS.nil' (by simp) (fun e he=>by cases he) 0) rfl rfl fun v24 I24 j24 q24=>?_
 try have hvc:=hvc.le j24
 try have hfm:=hfm.le j24
 try have hb:=hb.le j24
 try have hv0:=hv0.le j24
 try have hA:=hA.le j24
 try have Ro:=Ro.le j24
 try have hs55:=hs55.le j24
 try have hk55:=hk55.le j24
 try have kl:=kl.le j24
 try have kp:=kp.le j24
 try have kf:=kf.le j24
 try have cg5:=cg5.le j24
 try have cg6:=cg6.le j24
 try have cg8:=cg8.le j24
 try have cg9:=cg9.le j24
 obtain⟨w24,rfl,hw24⟩:=q24;refine go 6 fun g11=>?_
 refine go 1 ?_;refine a0Q _ he rfl rfl rfl rfl rfl (by simp[RdS.one hw24]) ?_;refine gS 9 30 (fun h30 p30=>?_) fun h30 p30=>?_
 ·refine go 10 ?_;refine a0b ?_;refine go 5 ?_;refine a4A ?_;refine go 1 ?_;have e:(decR f c b l (a3V l R vn) vn day)=b2V:=b6L (by simp only[h30,bS]);rw[e];exact q_i ⟨_,_,_,rfl,RdS.nil',RdS.nil',RdS.nil'⟩
 ·refine go 2 ?_;refine a0q rfl rfl h30 (a0v (a5n _ _ l hv0 39 [] (fun r=>!a0l r) (fun x hx vs hr=>by obtain⟨q,rfl,S,d,rfl,hS,hd,hm⟩:=hr;exact d6h _ x S d ⟨_,_,rfl,hS,hd,hm⟩ (hsl _ hx))) rfl rfl ?_);refine gC 3 (fun h33 p33=>?_) fun h33 p33=>?_
  ·refine go 4 ?_;refine a0b ?_;refine go 5 ?_;refine a4A ?_;refine go 1 ?_;have e:(decR f c b l (a3V l R vn) vn day)=b2V:=b6L (by simp only[h30,h33,bS]);rw[e];exact q_i ⟨_,_,_,rfl,RdS.nil',RdS.nil',RdS.nil'⟩
  ·have hrun:(runL f c [] 0).2.2=0:=by simpa using h30
   have hva:(l.any fun r=>!a0l r)=false:=h33;have hcf:=c2I hrun;have hvl:=b6u hva;have hcl2:=d0e (l:=l) (R:=R) (p:=vn);refine go 4 ?_;refine a0G 109 2 ?_;refine go 9 ?_;refine a0p (d2V _ _ l hv0 oM hsl vn R hRt) rfl rfl fun v37 I37 j37 q37=>?_
   try have hvc:=hvc.le j37
   try have hfm:=hfm.le j37
   try have hb:=hb.le j37
   try have hv0:=hv0.le j37
   try have hA:=hA.le j37
   try have Ro:=Ro.le j37
   try have hs55:=hs55.le j37
   try have hk55:=hk55.le j37
   try have kl:=kl.le j37
   try have kp:=kp.le j37
   try have kf:=kf.le j37
   try have cg5:=cg5.le j37
   try have cg6:=cg6.le j37
   try have cg8:=cg8.le j37
   try have cg9:=cg9.le j37
   obtain⟨CA,cc,rfl,hCA,hcc,hcm⟩:=q37;rw[b7n]at hcc ⊢
   refine go 5 ?_;refine a0b ?_;refine a0a ?_
   refine a4G ((0:Nat)) (none) (0) ([]) (fun i A16 c16 xs=>I37)
    (fun i A16 c16 xs=>[(2,.slice A l.length c0),(5,.pointer (some ⟨g5,0,none⟩)),(6,.pointer (some ⟨g6,0,none⟩)),(8,.pointer (some ⟨g8,0,none⟩)),(9,.pointer (some ⟨g9,0,none⟩)),(10,.pointer (some ⟨g10,0,none⟩)),(14,.slice A16 i c16),(37,.slice CA (ofN l R vn).length cc),(38,.int .i64 (((ofN l R vn).length:Nat):Int)),(39,.int .i64 ((i:Nat):Int))])
    (fun i A16 c16 xs=>[.row (.slice A16 i c16) 109 2 i xs,.blk g10 48 [.int .i64 (4),.int .i64 (0),.int .i64 (0),.slice none 0 0,.slice none 0 0,.slice none 0 0],.blk g9 3 [.int .i64 (day)],.blk g8 9 [.string vn],.blk g6 56 [v0,v1,v2,v3,v4,v5],.blk g5 29 [vc,ci f.op,ci f.n,sf]])
    (fun i A16 c16 xs=>i≤(ofN l R vn).length∧Flat I37 xs (a5w l ((ofN l R vn).take i)))
    (fun i A16 c16 xs=>(ofN l R vn).length-i) ⟨Nat.zero_le _,.nil⟩ rfl sb rfl ?_
   intro i A16 c16 xs ⟨hi,hF⟩;have hcl3:(a3V l R vn).length=(ofN l R vn).length:=b0c fun i hi=>c9Y hi
   refine gC 6 (fun h40 p40=>?_) fun h40 p40=>?_
   ·have hlt:i<(ofN l R vn).length:=oM;have hcl:(ofN l R vn)[i]<l.length:=c9Y (List.getElem_mem hlt);refine go 6 ?_;obtain⟨b41,o41,w41,e41,c41,r41⟩:=RdA.at_ hCA (i:=i) (by first|exact hlt|(rw[b7n];exact hlt));rw[d5W hlt]at r41
    obtain rfl:=r41;refine o_v rfl (a0m he rfl rfl e41 (i) oM (by first|exact hlt|(rw[b7n];exact hlt))) ?_;refine go 8 ?_;obtain⟨b46,o46,w46,e46,c46,r46⟩:=RdA.at_ hA (i:=(ofN l R vn)[i]) hcl;obtain⟨q46,rfl,S46,d46,rfl,hS46,hd46,hm46⟩:=r46;refine o_v rfl (a0m he rfl rfl e46 ((ofN l R vn)[i]) oM hcl) ?_;refine go 3 fun v48=>?_
    refine go 1 ?_;refine a0b ?_;refine a0z he he rfl rfl rfl rfl rfl oM oM rfl fun v49=>?_;refine a0J fun A49 c49 hv49=>?_;subst hv49;refine go 9 ?_;refine a0b ?_;refine a0a ?_;exact a1V (i+1) (_) (_) (_) ⟨oM,by rw[c2f hlt hcl];exact hF.append (.one ⟨_,rfl,⟨_,_,rfl,hS46,hd46,hm46⟩⟩)⟩ oM rfl sb rfl
   ·obtain rfl:i=(ofN l R vn).length:=oM;rw[List.take_length]at hF
    refine a0i (l:=(a3V l R vn)) rfl hcl3.symm hF fun I9 j9 Ro=>?_;have hvc:=hvc.le j9;have hfm:=hfm.le j9;have hb:=hb.le j9;rw[←hcl3]at Ro ⊢
    have hvo:((a3V l R vn).any fun r=>!a0l r)=false:=b9U.2 (b0a hvl);have h96:cntN (a5x c (a3V l R vn))≤4096:=by have h1:=c3i (c:=c) (b0a hvl (R:=R) (p:=vn));have h2:=b7C (R:=R) (p:=vn) hvl;omega
    have he6:(a3l c (a3V l R vn)).length≤1000000:=by have h1:=c0P (c:=c) (b0a hvl (R:=R) (p:=vn));have h2:=b7C (R:=R) (p:=vn) hvl;omega
    have hD:=c0E (f:=f) (c:=c) (b:=b) (l:=l) (own:=(a3V l R vn)) (vn:=vn) (day:=day) hrun hva;refine go 8 ?_;refine o_v rfl (a1L ([vc]) m4 he rfl rfl rfl) ?_;refine go 2 ?_;refine a0p (d0n _ vc c hvc hsc _ (a3V l R vn) Ro oM (fun r hr=>hsl r (b5U hr)) hcf hvo h96) rfl rfl fun v55 I55 j55 q55=>?_
    try have hvc:=hvc.le j55
    try have hfm:=hfm.le j55
    try have hb:=hb.le j55
    try have hv0:=hv0.le j55
    try have hA:=hA.le j55
    try have Ro:=Ro.le j55
    try have hs55:=hs55.le j55
    try have hk55:=hk55.le j55
    try have kl:=kl.le j55
    try have kp:=kp.le j55
    try have kf:=kf.le j55
    try have cg5:=cg5.le j55
    try have cg6:=cg6.le j55
    try have cg8:=cg8.le j55
    try have cg9:=cg9.le j55
    obtain⟨vs55,rfl,hk55⟩:=q55;obtain⟨s55,rfl,hs55⟩:=a2b hk55;refine go 5 fun g17=>?_
    refine go 1 ?_;refine a0Q _ he rfl rfl rfl rfl rfl (Enc.one (α:=Fm) hk55) ?_;refine go 7 ?_;refine o_v rfl (OV.cast (u:=.bool false) (b2T rfl rfl) rfl) ?_;refine go 10 ?_;refine a0b ?_;refine a0Q _ he rfl rfl rfl rfl rfl (show [(.int .i64 (3):Value),ci (a5x c (a3V l R vn)).op,ci (a5x c (a3V l R vn)).n,s55,.slice none 0 0,.slice none 0 0].all (·.oneCell')=true by simp[hs55.one,b3n,c1M]) ?_;refine go 3 ?_;refine c0j ?_;refine go 6 ?_;refine a4S ?_;refine a0B fun Ig5 jg5 cg5=>?_
    try have hvc:=hvc.le jg5
    try have hfm:=hfm.le jg5
    try have hb:=hb.le jg5
    try have hv0:=hv0.le jg5
    try have hA:=hA.le jg5
    try have Ro:=Ro.le jg5
    try have hs55:=hs55.le jg5
    try have hk55:=hk55.le jg5
    try have kl:=kl.le jg5
    try have kp:=kp.le jg5
    try have kf:=kf.le jg5
    try have cg5:=cg5.le jg5
    try have cg6:=cg6.le jg5
    try have cg8:=cg8.le jg5
    try have cg9:=cg9.le jg5
    refine a1A ?_;refine a0B fun Ig6 jg6 cg6=>?_
    try have hvc:=hvc.le jg6
    try have hfm:=hfm.le jg6
    try have hb:=hb.le jg6
    try have hv0:=hv0.le jg6
    try have hA:=hA.le jg6
    try have Ro:=Ro.le jg6
    try have hs55:=hs55.le jg6
    try have hk55:=hk55.le jg6
    try have kl:=kl.le jg6
    try have kp:=kp.le jg6
    try have kf:=kf.le jg6
    try have cg5:=cg5.le jg6
    try have cg6:=cg6.le jg6
    try have cg8:=cg8.le jg6
    try have cg9:=cg9.le jg6
    refine a0u ?_;refine a0B fun Ig8 jg8 cg8=>?_
    try have hvc:=hvc.le jg8
    try have hfm:=hfm.le jg8
    try have hb:=hb.le jg8
    try have hv0:=hv0.le jg8
    try have hA:=hA.le jg8
    try have Ro:=Ro.le jg8
    try have hs55:=hs55.le jg8
    try have hk55:=hk55.le jg8
    try have kl:=kl.le jg8
    try have kp:=kp.le jg8
    try have kf:=kf.le jg8
    try have cg5:=cg5.le jg8
    try have cg6:=cg6.le jg8
    try have cg8:=cg8.le jg8
    try have cg9:=cg9.le jg8
    refine a0d ?_;refine a0B fun Ig9 jg9 cg9=>?_
    try have hvc:=hvc.le jg9
    try have hfm:=hfm.le jg9
    try have hb:=hb.le jg9
    try have hv0:=hv0.le jg9
    try have hA:=hA.le jg9
    try have Ro:=Ro.le jg9
    try have hs55:=hs55.le jg9
    try have hk55:=hk55.le jg9
    try have kl:=kl.le jg9
    try have kp:=kp.le jg9
    try have kf:=kf.le jg9
    try have cg5:=cg5.le jg9
    try have cg6:=cg6.le jg9
    try have cg8:=cg8.le jg9
    try have cg9:=cg9.le jg9
    refine go 2 ?_;refine a0p (d3P _ _ (a3V l R vn) Ro (a5x c (a3V l R vn)) _ hk55 44 [.pointer (some ⟨g5,0,none⟩),.pointer (some ⟨g6,0,none⟩),.pointer (some ⟨g8,0,none⟩),.pointer (some ⟨g9,0,none⟩)]) rfl rfl fun v66 I66 j66 q66=>?_
    try have hvc:=hvc.le j66
    try have hfm:=hfm.le j66
    try have hb:=hb.le j66
    try have hv0:=hv0.le j66
    try have hA:=hA.le j66
    try have Ro:=Ro.le j66
    try have hs55:=hs55.le j66
    try have hk55:=hk55.le j66
    try have kl:=kl.le j66
    try have kp:=kp.le j66
    try have kf:=kf.le j66
    try have cg5:=cg5.le j66
    try have cg6:=cg6.le j66
    try have cg8:=cg8.le j66
    try have cg9:=cg9.le j66
    obtain⟨gl,gp,gf,rfl,kl,kp,kf⟩:=q66;refine go 3 ?_;refine a9o (σ:=Vdt×Value×Value×Value) (ps:=[67,68]) (⟨3,(a5x c (a3V l R vn)),[],[]⟩,s55,.slice none 0 0,.slice none 0 0) (fun ⟨vd,k,h,u⟩=>[.blk g10 48 [ci vd.kind,ci vd.proof.op,ci vd.proof.n,k,h,u]]) (fun pre I ⟨vd,k,h,u⟩=>vd=⟨if pre.isEmpty=true then 3 else 1,(a5x c (a3V l R vn)),[],[]⟩∧(∀x∈pre,x.2=[])∧VdRd I k h u vd) (fun pre I ⟨vd,k,h,u⟩ cd=>cd = .exit 2∧vd=(decR f c b l (a3V l R vn) vn day)∧VdRd I k h u vd) rfl call107 (d6X _ c _ (a3V l R vn) Ro oM (fun r hr=>hsl r (b5U hr)) hvo _ hk55 h96 he6 44 [.pointer (some ⟨g5,0,none⟩),.pointer (some ⟨g6,0,none⟩),.pointer (some ⟨g8,0,none⟩),.pointer (some ⟨g9,0,none⟩)] (fun e=>ofF f c b e vn day) (fun J hJ u e hu h1 h2=>d6g J vc c (hvc.le hJ) hsc f sf (hfm.le hJ) v0 v1 v2 v3 v4 v5 b (hb.le hJ) hok u e hu h1 h2 vn day g5 g6 g8 g9 (cg5.le hJ) (cg6.le hJ) (cg8.le hJ) (cg9.le hJ)) gl gp gf kl kp kf) (fun I vs x h=>by obtain⟨w,u,rfl,_⟩:=h;rfl) rfl (fun pre I I' s hI h=>by obtain⟨vd,k,h,u⟩:=s;exact⟨h.1,h.2.1,h.2.2.le hI⟩) (fun pre I I' s cd hI h=>by obtain⟨vd,k,h,u⟩:=s;exact⟨h.1,h.2.1,h.2.2.le hI⟩) (⟨rfl,(fun _ h=>by cases h),hs55,RdS.nil',RdS.nil'⟩) rfl ?_ ?_ ?_
    ·rintro r E1 pre x vs I1 ⟨vd,k,h,u⟩ hI1 ⟨rfl,hcl,hvd⟩ ⟨w,y,rfl,hw1,hy1⟩ hpf;obtain⟨FA,fk,rfl,hFA,hfk,hfm9⟩:=id hy1;obtain⟨HA,hk9,rfl,hHA,hhk,hhm⟩:=id hw1;refine c3a ?_;refine go 8 ?_;refine b0h ?_;refine gC 10 (fun h70 p70=>?_) fun h70 p70=>?_
     ·refine go 6 ?_;refine a0d ?_;refine a0Q _ he rfl rfl rfl rfl rfl (show [(.int .i64 (2):Value),.int .i64 (0),.int .i64 (0),.slice none 0 0,.slice HA x.1.length hk9,.slice FA x.2.length fk].all (·.oneCell')=true by simp[hw1.one,hy1.one,b3n,c1M]) ?_;refine go 5 ?_;refine a0d ?_;refine a0d ?_;exact d3O ((⟨2,d3c,x.1,x.2⟩,.slice none 0 0,.slice HA x.1.length hk9,.slice FA x.2.length fk)) (hI1) (⟨rfl,(hD.trans (c0G hpf hcl (fun e=>by rw[e]at p70;simp at p70))).symm,RdS.nil',hw1,hy1⟩) rfl
     ·refine go 3 ?_;refine a0d ?_;refine go 4 ?_;refine a0d ?_;refine a0d ?_;exact b4s ((⟨1,(a5x c (a3V l R vn)),[],[]⟩,k,h,u)) (hI1) (⟨by simp,(fun y hy=>(List.mem_append.1 hy).elim (hcl y) (fun h=>by rw[List.mem_singleton.1 h];exact List.eq_nil_of_length_eq_zero oM)),hvd.k,hvd.h,hvd.f⟩) rfl
    ·rintro D pre I1 ⟨vd,k,h,u⟩ hI1 hfull ⟨hvd,hcl,hVd⟩;have hDD:vd=(decR f c b l (a3V l R vn) vn day):=hvd.trans (hD.trans (c0F hfull hcl)).symm;refine b6q ?_;refine go 6 ?_;refine a0b ?_;refine a0Q _ he rfl rfl rfl rfl rfl (by simp[hVd.k.one,hVd.h.one,hVd.f.one,b3n]) ?_;refine go 3 ?_;refine a4A ?_;refine a0b ?_;refine b0g ?_;refine go 1 ?_;rw[←hDD];exact q_i ⟨k,h,u,rfl,hVd⟩
    ·rintro D pre I1 ⟨vd,k,h,u⟩ cd hI1 hpart ⟨rfl,hDD,hVd⟩;refine b6q ?_;refine go 7 ?_;refine a0b ?_;refine a0Q _ he rfl rfl rfl rfl rfl (by simp[hVd.k.one,hVd.h.one,hVd.f.one,b3n]) ?_;refine go 3 ?_;refine a4A ?_;refine a0b ?_;refine b0g ?_;refine go 1 ?_;rw[←hDD];exact q_i ⟨k,h,u,rfl,hVd⟩
end Go.Proofs.YtgmkjpafapgccaaGreat
set_option linter.all false
namespace Go.Sx
open Go
def d6l (l:List Rep) (ch:List Int) (m:Int) (len:Nat):Bool:=
 ((decide (m<0)||decide ((l.length:Int)≤m))||decide (0≤ch.getD m.toNat 0)) || !decide ((len:Int)=chs (l.getD m.toNat ⟨[],false⟩))
def d5P (op m:Int) (len:Nat):Bool:=!decide (op=1)&&(!decide (m=0)||decide (0<(len:Int)))
mutual
def visF {σ:Type} (c:List Kind) (l:List Rep) (E:σ→List Int→Bool×σ):Fm→List Int→Int→σ→Option (Int×σ)
 |.mk op m ks,ch,n,s=>
  if n+1>4096 then none
  else if d5P op m ks.length=true then none
  else if op=2 then (if a2Q c l ch=true then some (n+1,s) else none)
  else if op=3 then (if (-1:Int)∈ch then none else if (E s ch).1=true then some (n+1,(E s ch).2) else none)
  else if op=1 then (if d6l l ch m ks.length=true then none else visL c l E ks m.toNat 0 ch (n+1) s)
  else none
def visL {σ:Type} (c:List Kind) (l:List Rep) (E:σ→List Int→Bool×σ):List Fm→Nat→Nat→List Int→Int→σ→Option (Int×σ)
 | [],_,_,_,n,s=>some (n,s)
 |k::ks,a,i,ch,n,s=>match visF c l E k (ch.set a (i:Int)) n s with
  |none=>none
  |some q=>visL c l E ks a (i+1) ch q.1 q.2
end
section
variable {σ:Type} {c:List Kind} {l:List Rep} {E:σ→List Int→Bool×σ} {x:Fm} {ch:List Int} {n:Int} {s:σ} {q:Int×σ} {a i:Nat} {ks:List Fm}
end
section
variable (c:List Kind) (own:List Rep) (fts:List Int→List Flt) (v:Vdt)
def d6Z (s:Int) (t:List Int):Bool×Int:=(isF c own t&&decide (((fts t).length:Int)=0),IntKind.i64.wrap (s+1))
def d6Q (s:Unit) (_:List Int):Bool×Unit:=(false,s)
def d6Y:Bool:=match visF c own (d6Z c own fts) v.proof (d1z own) 0 0 with
 |none=>false
 |some q=>decide (0<q.2)&&decide ((v.hist.length:Int)+(v.faults.length:Int)=0)
def d6P:Bool:=decide ((v.hist.length:Int)+(v.faults.length:Int)=0)&&(visF c own d6Q v.proof (d1z own) 0 ()).isSome
def d6M:Bool:=((((isF c own v.hist&&decide (0<((fts v.hist).length:Int)))&&decide (fts v.hist=v.faults))&&decide (v.proof.op=0))&&decide (v.proof.n=0))&&decide ((v.proof.kids.length:Int)=0)
def d5L:Bool:=if v.kind=1 then d6Y c own fts v else if v.kind=3 then d6P c own v else if v.kind=2 then d6M c own fts v else false
end
noncomputable def accF (f:Fm) (c:List Kind) (b:Bok) (l own:List Rep) (vn:ByteArray) (day:Int) (v:Vdt):Bool:=
 if (!decide ((runL f c [] 0).2.2=0)||l.any fun r=>!a0l r)=true then false else d5L c own (ftsF f c b own vn day) v
section
variable {f:Fm} {c:List Kind} {b:Bok} {l own:List Rep} {vn:ByteArray} {day:Int} {v:Vdt}
end
end Go.Sx
namespace Go.Proofs.YtgmkjpafapgccaaGreat
open Go Go.Sx Tryz
set_option linter.all false
set_option maxRecDepth 20000
set_option maxHeartbeats 4000000
theorem T.eqg_157:prog.eqGuardType prog.depth 157=false:=by kernel_rfl
instance:Has (a1g prog 159 0) (0,true,4):=hk
instance:Has (a1g prog 159 1) (4,true,6):=hk
instance:Has (a1g prog 159 2) (10,false,1):=hk
instance:Has (a1g prog 159 3) (11,false,1):=hk
instance:Has (a1g prog 159 4) (12,false,1):=hk
instance:Has (a1g prog 48 1) (1,true,3):=hk
instance:Has (a1g prog 48 2) (4,false,1):=hk
instance:Has (a1g prog 48 3) (5,false,1):=hk
instance:Has (plK prog 159) [(0,4),(4,6),(10,1),(11,1),(12,1)]:=hk
instance:Has (tyK prog 159) (true,13):=hk
instance:Has (tyK prog 271) (false,1):=hk
instance:Has (prog.underlying 162) (.map 3 160):=hk
instance:Has (a1i prog 159) [.slice none 0 0,.int .i64 0,.int .i64 0,.slice none 0 0,.slice none 0 0,.slice none 0 0,.slice none 0 0,.slice none 0 0,.slice none 0 0,.slice none 0 0,.slice none 0 0,.string ⟨#[]⟩,.int .i64 0]:=hk
instance:Has (a1i prog 303) [.nilFunc]:=hk
instance:Has (zvK prog 160) (.nilFunc):=hk
end Go.Proofs.YtgmkjpafapgccaaGreat
namespace Go.Proofs.YtgmkjpafapgccaaGreat
open Go Go.Sx Tryz
set_option linter.all false
set_option maxRecDepth 20000
set_option maxHeartbeats 4000000
instance:Has (a1W prog 36) ([.string ⟨#[]⟩,.string ⟨#[]⟩,.int .i64 0,.string ⟨#[]⟩,.string ⟨#[]⟩,.int .i64 0,.int .i64 0,.slice none 0 0],8,112):=hk
instance:Has (a6q prog 31) (38,12):=hk
instance:Has (a1g prog 38 0) (0,false,1):=hk
instance:Has (a1g prog 38 1) (1,false,1):=hk
instance:Has (a1g prog 38 2) (2,false,1):=hk
instance:Has (a1g prog 38 3) (3,false,1):=hk
instance:Has (a1g prog 38 4) (4,true,8):=hk
instance:Has (tyK prog 38) (true,12):=hk
instance T.und_31:Has (prog.underlying 31) (.slice 38):=hk
instance:Has (a1i prog 38) [.int .i64 0,.int .i64 0,.int .i64 0,.bool false,.string ⟨#[]⟩,.string ⟨#[]⟩,.int .i64 0,.string ⟨#[]⟩,.string ⟨#[]⟩,.int .i64 0,.int .i64 0,.slice none 0 0]:=hk
theorem c8q (I:IMap) (a:Amd) (s:Value) (hs:RdS I s a.rule.cond.kids) (hok:a4R a.rule) :
    FnV prog 199 #[.agg (a.cs s).toArray] I (.bool (a5P a)):=by
 obtain⟨SA,sc,rfl,_,_,_⟩:=id hs;refine enter func199 call199 rfl ntmps199 rfl fun w0=>?_;refine go 4 fun g1=>?_
 refine gS 9 6 (fun h6 p6=>?_) fun h6 p6=>?_
 ·refine gS 5 11 (fun h11 p11=>?_) fun h11 p11=>?_
  ·refine gS 5 16 (fun h16 p16=>?_) fun h16 p16=>?_
   ·refine gS 7 23 (fun h23 p23=>?_) fun h23 p23=>?_
    ·refine gS 5 28 (fun h28 p28=>?_) fun h28 p28=>?_
     ·refine go 1 ?_;refine a0A (a0q rfl rfl h28 (a0t rfl (a1L (a.rule.cs (.slice SA a.rule.cond.kids.length sc)) m0 he rfl rfl rfl) ?_));refine go 1 ?_;refine a0q rfl rfl h28 (a0v (c2F _ a.rule hok _ ⟨_,rfl,hs⟩) rfl rfl ?_);refine go 6 ?_;exact q_v (congrArg Value.bool (by simp only[a5P,h6,h11,h16,h23,h28,bS]))
     ·refine go 9 ?_;exact q_v (congrArg Value.bool (by simp only[a5P,h6,h11,h16,h23,h28,bS]))
    ·refine go 14 ?_;exact q_v (congrArg Value.bool (by simp only[a5P,h6,h11,h16,h23,bS]))
   ·refine go 21 ?_;exact q_v (congrArg Value.bool (by simp only[a5P,h6,h11,h16,bS]))
  ·refine go 26 ?_;exact q_v (congrArg Value.bool (by simp only[a5P,h6,h11,bS]))
 ·refine go 31 ?_;exact q_v (congrArg Value.bool (by simp only[a5P,h6,bS]))
theorem b8p (I:IMap) (v:Value) (l:List Amd) (hv:RdS I v l) (hl:l.length≤1000) (hok:∀a∈l,a4R a.rule) (day clock:Int) :
    FnX prog 109 #[v,.int .i64 (day),.int .i64 (clock)] I [] (fun u r=>∃m kvs,u = .map (some m)∧r = .mp m (a1u Value.string kvs)∧KvA kvs (a2v l day clock l.length)∧kvs.length≤l.length):=by
 obtain⟨A,c0,rfl,hA,hc,hm⟩:=hv;refine enter func109 call109 rfl ntmps109 rfl fun w0=>?_;refine go 8 ?_;refine a4W (Value.string) he rfl fun r12=>?_;refine go 12 ?_
 refine a0L ((0:Nat)) ([]) (fun i kvs=>I)
  (fun i kvs=>[(0,.slice A l.length c0),(1,.int .i64 (day)),(2,.int .i64 (clock)),(7,.map (some r12)),(13,.slice A l.length c0),(14,.int .i64 ((l.length:Nat):Int)),(15,.int .i64 ((i:Nat):Int))])
  (fun i kvs=>[.mp r12 (a1u Value.string kvs)])
  (fun i kvs=>i≤l.length∧KvA kvs (a2v l day clock i)∧kvs.length≤i)
  (fun i kvs=>l.length-i) ⟨Nat.zero_le _,KvA.nil,Nat.le_refl _⟩ rfl sb rfl ?_
 intro i kvs ⟨hi,hK,hkl⟩;refine gC 6 (fun h16 p16=>?_) fun h16 p16=>?_
 ·have hlt:i<l.length:=oM;refine go 7 ?_;obtain⟨b18,o18,w18,e18,c18,r18⟩:=RdA.at_ hA (i:=i) hlt;obtain⟨s18,rfl,hs18⟩:=r18;refine go 4 fun g9=>?_
  refine go 2 ?_;refine a0Q _ he rfl rfl rfl rfl rfl (Enc.one (α:=Amd) (x:=l[i]) ⟨s18,rfl,hs18⟩) ?_;refine go 7 ?_;refine cV (c8q _ l[i] s18 hs18 (hok _ (List.getElem_mem hlt))) ?_;refine gS 2 23 (fun h23 p23=>?_) fun h23 p23=>?_
  ·refine go 29 ?_;refine a0a ?_;exact a0n (i+1) (kvs) ⟨oM,by rw[a8H hlt (by simp only[b3b,h16,h23,bS])];exact hK,oM⟩ oM rfl sb rfl
  ·refine gS 6 29 (fun h29 p29=>?_) fun h29 p29=>?_
   ·refine go 23 ?_;refine a0a ?_;exact a0n (i+1) (kvs) ⟨oM,by rw[a8H hlt (by simp only[b3b,h16,h23,h29,bS])];exact hK,oM⟩ oM rfl sb rfl
   ·refine gS 6 35 (fun h35 p35=>?_) fun h35 p35=>?_
    ·refine go 17 ?_;refine a0a ?_;exact a0n (i+1) (kvs) ⟨oM,by rw[a8H hlt (by simp only[b3b,h16,h23,h29,h35,bS])];exact hK,oM⟩ oM rfl sb rfl
    ·refine gC 7 (fun h40 p40=>?_) fun h40 p40=>?_
     ·refine go 9 ?_;refine a0a ?_;exact a0n (i+1) (kvs) ⟨oM,by rw[a8H hlt (by simp only[b3b,h16,h23,h29,h35,h40,bS])];exact hK,oM⟩ oM rfl sb rfl
     ·have hgb:b3b day clock l[i]=false:=by simp only[b3b,h23,h29,h35,h40,bS]
      refine go 8 ?_;refine o_v rfl (a8t m1 (a0y he) he he (l[i].rule.name) rfl rfl (hK.val _) (hK.is _)) ?_;refine go 9 ?_;refine dG 0 3 ?_;refine gS 0 51 (fun h51 p51=>?_) fun h51 p51=>?_
      ·refine dG 3 9 ?_;refine go 10 ?_;refine a0b ?_;refine a2i (a3P kvs l[i].rule.name (.int .i64 ((i:Nat):Int))) (a0y he) he (l[i].rule.name) rfl rfl rfl (rfl) ?_;refine go 8 ?_;refine a0b ?_;refine a0a ?_;exact a0n (i+1) (a3P kvs l[i].rule.name (.int .i64 ((i:Nat):Int))) ⟨oM,by rw[b6K hlt hgb (by rw[h51];rfl)];exact hK.put _ i,by have:=b5D l[i].rule.name (.int .i64 ((i:Nat):Int)) kvs;omega⟩ oM rfl sb rfl
      ·refine dG 3 2 ?_;obtain⟨k9,hk9⟩:=Option.isSome_iff_exists.1 (show ((a2v l day clock i) l[i].rule.name).isSome=true by simpa using h51);have hkl9:=b5f _ _ _ hk9;have hkx:(((a2v l day clock i) l[i].rule.name).getD 0)<l.length:=by rw[hk9];show k9<_;omega
       obtain⟨b54,o54,w54,e54,c54,r54⟩:=RdA.at_ hA (i:=(((a2v l day clock i) l[i].rule.name).getD 0)) hkx;obtain⟨s54,rfl,hs54⟩:=r54;refine d_t 5 rfl rfl (by kernel_rfl) rfl (fun _ m=>m.keeps (.refl _)) (a2V rfl rfl h51 (a0m he rfl rfl e54 ((((a2v l day clock i) l[i].rule.name).getD 0)) oM hkx)) ?_;refine dG 6 1 ?_;refine d_t 7 rfl rfl (by kernel_rfl) rfl (fun _ m=>m.keeps (.refl _)) (a2V rfl rfl h51 (OV.cast (u:=.int .i64 ((b4U l (((a2v l day clock i) l[i].rule.name).getD 0)).clock)) (a0H he rfl (c54 0 _ rfl)) (by rw[a9b hkx]))) ?_;refine dG 8 4 ?_;refine gC 2 (fun h60 p60=>?_) fun h60 p60=>?_
       ·refine go 7 ?_;refine a0b ?_;refine a2i (a3P kvs l[i].rule.name (.int .i64 ((i:Nat):Int))) (a0y he) he (l[i].rule.name) rfl rfl rfl (rfl) ?_;refine go 8 ?_;refine a0b ?_;refine a0a ?_;exact a0n (i+1) (a3P kvs l[i].rule.name (.int .i64 ((i:Nat):Int))) ⟨oM,by rw[b6K hlt hgb (by rw[h51,h60];rfl)];exact hK.put _ i,by have:=b5D l[i].rule.name (.int .i64 ((i:Nat):Int)) kvs;omega⟩ oM rfl sb rfl
       ·refine go 8 ?_;refine a0a ?_;exact a0n (i+1) (kvs) ⟨oM,by rw[c4r hlt hgb (by rw[h51,h60];rfl)];exact hK,oM⟩ oM rfl sb rfl
 ·refine go 13 ?_;obtain rfl:i=l.length:=oM;exact q_x ⟨_,kvs,rfl,rfl,hK,hkl⟩
theorem c6C (I:IMap) (v:Value) (l:List ByteArray) (xs:List Value) (hF:Flat I xs l) (hl:l.length≤1000000) :
    FnX prog 110 #[v] I [.row v 9 1 l.length xs] (fun u r=>u = .tuple #[]∧∃m ys,SrtP l m∧Flat I ys m∧r = .row v 9 1 l.length ys):=by
 refine enter func110 call110 rfl ntmps110 rfl fun w0=>?_;refine go 3 ?_;refine a0K (b7T _ _ l xs hF hl) rfl rfl fun v3 s3 q3=>?_;obtain⟨rfl,m,ys,hsr,hFm,rfl⟩:=q3;refine go 2 ?_;exact q_x ⟨rfl,m,ys,hsr,hFm,rfl⟩
theorem c0e (I:IMap) (v:Value) (l:List Amd) (hv:RdS I v l) (hl:l.length≤1000) (hok:∀a∈l,a4R a.rule) (day clock:Int) :
    FnI prog 45 #[v,.int .i64 (day),.int .i64 (clock)] I (fun u J=>RdS J u (inF l day clock)∧(inF l day clock).length≤l.length):=by
 have hv0:=hv;obtain⟨A,c0,rfl,hA,hc,hm⟩:=hv;refine enter func45 call45 rfl ntmps45 rfl fun w0=>?_;refine go 11 ?_;refine a1F (b8p _ _ l hv0 hl hok day clock) rfl rfl fun v17 s17 q17=>?_;obtain⟨m7,kvs,rfl,rfl,hK,hkl⟩:=q17;refine go 5 ?_;refine a0G 9 1 ?_;refine go 6 ?_;refine a0b ?_;refine a4e fun S0 hO0 hT0 hS0=>?_;refine go 2 ?_;refine b2A hS0 he rfl rfl fun i19=>?_;refine go 3 ?_
 refine a5g (S0) (kvs) ([]) (_) ([]) (fun S todo done v8 xs=>I)
  (fun S todo done v8 xs=>[(0,.slice A l.length c0),(7,.map (some m7)),(8,v8),(19,.pointer (some ⟨i19,0,none⟩))])
  (fun S todo done v8 xs=>[.any i19 (S.it m7),.any m7 S.mp,.row v8 9 1 (done.map Prod.fst).length xs])
  (fun S todo done v8 xs=>S.Ok Value.string kvs∧S.Todo Value.string todo∧(done++todo).Perm kvs∧Flat I xs (done.map Prod.fst))
  (fun S todo done v8 xs=>todo.length) ⟨hO0,hT0,.refl _,.nil⟩ rfl sb rfl ?_
 intro S todo done v8 xs ⟨hO,hT,hP,hFy⟩;have hdl:=hP.length_eq;rw[List.length_append]at hdl
 have hd2:(done.map Prod.fst).length=done.length:=List.length_map _;refine go 3 ?_;refine a0b ?_;refine a0b ?_;refine b7w hO hT rfl rfl fun q20 S20 t20 hst=>?_;refine o_v rfl (a2c rfl (a7U _ _)) ?_;refine gC 3 (fun h21 p21=>?_) fun h21 p21=>?_
 ·obtain⟨e2,a,b,htd,hO1,hT1,hA1,rfl,rfl⟩:=hst.some h21;refine go 5 ?_;refine o_v rfl (b2R m0 m1 hO1 hA1 rfl) ?_;refine o_v rfl (OV.cast (u:=.string e2.1) (a2c rfl rfl) rfl) ?_;refine go 8 fun v26=>?_
  refine go 1 ?_;refine a0u ?_;refine a0z he he rfl rfl rfl rfl rfl oM oM rfl fun v27=>?_;refine go 4 ?_;refine a0b ?_;refine a0a ?_;refine a0d ?_;refine a0d ?_;exact a2M (S20) (a++b) (done++[e2]) (_) (_) ⟨hO1,hT1,a4n hP htd,by rw[List.map_append];exact hFy.append (.one rfl)⟩ (by rw[htd];simp) rfl sb (by rw[List.map_append,List.length_append];rfl)
 ·obtain⟨rfl,rfl,rfl⟩:=hst.none h21;have hdp:done.Perm kvs:=by simpa using hP
  refine a0b ?_;refine b1L hO ?_;refine go 9 ?_;refine a0d ?_;refine a0K (c6C _ _ (done.map Prod.fst) _ hFy oM) rfl rfl fun v29 s29 q29=>?_;obtain⟨rfl,m8,ys,hsr,hFm,rfl⟩:=q29;have hm8:=c5w hK hdp hsr;have hml:=hsr.1.length_eq;subst hm8;refine go 4 ?_;refine a0G 36 8 ?_;refine go 6 ?_;refine a0b ?_;refine a0i (l:=(a6v sLt (a2t l (a2v l day clock l.length)))) rfl hml.symm (hFm) fun I30 j30 R30=>?_;have hA:=hA.le j30;obtain⟨A30,c30,rfl,hA30,_,_⟩:=id R30;refine go 6 ?_;refine a0d ?_;refine a0a ?_
  refine a3k ((0:Nat)) (_) ([]) (fun i v10 zs=>I30)
   (fun i v10 zs=>[(0,.slice A l.length c0),(7,.map (some m7)),(10,v10),(30,.slice A30 (a6v sLt (a2t l (a2v l day clock l.length))).length c30),(31,.int .i64 (((a6v sLt (a2t l (a2v l day clock l.length))).length:Nat):Int)),(32,.int .i64 ((i:Nat):Int))])
   (fun i v10 zs=>[.row v10 36 8 (a3R l (a2v l day clock l.length) (a6v sLt (a2t l (a2v l day clock l.length))) i).length zs,.mp m7 (a1u Value.string kvs)])
   (fun i v10 zs=>i≤(a6v sLt (a2t l (a2v l day clock l.length))).length∧Flat I30 zs (a3R l (a2v l day clock l.length) (a6v sLt (a2t l (a2v l day clock l.length))) i))
   (fun i v10 zs=>(a6v sLt (a2t l (a2v l day clock l.length))).length-i) ⟨Nat.zero_le _,.nil⟩ rfl sb rfl ?_
  intro i v10 zs ⟨hi,hFz⟩;have hrl:=c2G (l:=l) (i:=i) (D:=(a2v l day clock l.length)) (m:=(a6v sLt (a2t l (a2v l day clock l.length))));refine gC 6 (fun h33 p33=>?_) fun h33 p33=>?_
  ·have hlt:i<(a6v sLt (a2t l (a2v l day clock l.length))).length:=oM;obtain⟨k9,hk9,hkl9⟩:=c5v hlt;refine go 6 ?_;obtain⟨b34,o34,w34,e34,c34,r34⟩:=RdA.at_ hA30 (i:=i) hlt;obtain rfl:=r34;refine go 10 ?_;refine o_v rfl (OV.cast (u:=.int .i64 ((k9:Nat):Int)) (b9E m1 (a0y he) he he ((a6v sLt (a2t l (a2v l day clock l.length)))[i]) rfl rfl (hK.val _)) (congrArg (fun o:Option Nat=>Value.int .i64 ((o.getD 0:Nat):Int)) hk9)) ?_;obtain⟨b40,o40,w40,e40,c40,r40⟩:=RdA.at_ hA (i:=k9) hkl9;obtain⟨s40,rfl,hs40⟩:=r40;refine o_v rfl (a0m he rfl rfl e40 (k9) oM hkl9) ?_;refine go 3 fun g13=>?_
   refine go 1 ?_;refine a0Q _ he rfl rfl rfl rfl rfl (Enc.one (α:=Amd) (x:=l[k9]) ⟨s40,rfl,hs40⟩) ?_;refine gC 9 (fun h44 p44=>?_) fun h44 p44=>?_
   ·refine go 3 ?_;refine o_v rfl (a1L (l[k9].rule.cs s40) m0 he rfl rfl rfl) ?_;refine go 2 fun v48=>?_
    refine go 1 ?_;refine a0d ?_;refine a0z he he rfl rfl (Enc.one (α:=Rul) (x:=l[k9].rule) ⟨s40,rfl,hs40⟩) rfl rfl oM oM rfl fun v49=>?_;refine a0J fun A49 c49 hv49=>?_;subst hv49;refine go 9 ?_;refine a0b ?_;refine a0a ?_;refine a0b ?_;refine a0a ?_;exact a1P (i+1) (_) (_) ⟨oM,by rw[b4y hlt hk9 hkl9 (by simpa using h44)];exact hFz.append (.one ⟨s40,rfl,hs40⟩)⟩ oM rfl sb (by rw[b4y hlt hk9 hkl9 (by simpa using h44),List.length_append];rfl)
   ·refine go 8 ?_;refine a0a ?_;exact a1P (i+1) (_) (_) ⟨oM,by rw[b7M hlt hk9 hkl9 (by simpa using h44)];exact hFz⟩ oM rfl sb (by rw[b7M hlt hk9 hkl9 (by simpa using h44)])
  ·obtain rfl:i=(a6v sLt (a2t l (a2v l day clock l.length))).length:=oM;refine go 7 ?_;refine a0i (l:=(inF l day clock)) rfl (by rw[b0l]) ((b0l▸hFz)) fun I51 j51 R51=>?_;have hA:=hA.le j51;refine go 6 ?_;refine a0a ?_;exact q_i ⟨R51,by rw[←b0l];omega⟩
end Go.Proofs.YtgmkjpafapgccaaGreat
set_option linter.all false
namespace Go.Sx
open Go
theorem c4E {l:List Rep} (h:decide (((a5f 81 1 l:Nat):Int)≤81)=true):a4d l≤81:=by
 have:=c3D l 1 (of_decide_eq_true h);rw[Nat.one_mul]at this;omega
def a5N (day clock:Int) (s:ByteArray) (o:Option Amd) (a:Amd):Option Amd:=
 if (!b3b day clock a&&decide (a.rule.name=s))=true then
  (match o with
   |none=>some a
   |some b=>if decide (b.clock≤a.clock)=true then some a else some b)
 else o
section
variable {l:List Amd} {day clock:Int} {s:ByteArray} {i:Nat} {o:Option Amd} {a b:Amd}
theorem c0D:∀i,i≤l.length→(a2v l day clock i s).map (b4U l)=(l.take i).foldl (a5N day clock s) none:=by
 intro i
 induction i with
 |zero=>intro _;rfl
 |succ i ih=>
  intro hi;have hlt:i<l.length:=oM;rw[←a0c hlt,List.foldl_append,←ih oM]
  show (a2v l day clock (i+1) s).map (b4U l)=a5N day clock s ((a2v l day clock i s).map (b4U l)) l[i]
  unfold a5N
  conv=>lhs;unfold a2v
  rw[a9b hlt]
  by_cases hc:(!b3b day clock l[i]&&decide (l[i].rule.name=s))=true
  ·rw[if_pos hc,if_pos hc]
   cases a2v l day clock i s with
   |none=>simp only[Option.map_some,Option.map_none,a9b hlt]
   |some k=>
    simp only[Option.map_some]
    split
    ·simp only[Option.map_some,a9b hlt]
    ·rfl
  ·rw[if_neg hc,if_neg hc]
def b0A (l:List Amd) (day clock:Int) (s:ByteArray):Option Amd:=l.foldl (a5N day clock s) none
theorem a9u:(a2v l day clock l.length s).map (b4U l)=b0A l day clock s:=by
 rw[c0D l.length (Nat.le_refl _),List.take_length];rfl
theorem b9z (h:a.clock≠b.clock):a5N day clock s (a5N day clock s o a) b=a5N day clock s (a5N day clock s o b) a:=by
 unfold a5N
 by_cases ha:(!b3b day clock a&&decide (a.rule.name=s))=true
 ·by_cases hb:(!b3b day clock b&&decide (b.rule.name=s))=true
  ·simp only[if_pos ha,if_pos hb]
   cases o with
   |none=>
    simp only[decide_eq_true_eq]
    by_cases h1:a.clock≤b.clock
    ·rw[if_pos h1,if_neg oM]
    ·rw[if_neg h1,if_pos oM]
   |some c=>
    simp only[decide_eq_true_eq]
    by_cases h1:c.clock≤a.clock
    ·by_cases h2:c.clock≤b.clock
     ·simp only[if_pos h1,if_pos h2]
      by_cases h3:a.clock≤b.clock
      ·rw[if_pos h3,if_neg oM]
      ·rw[if_neg h3,if_pos oM]
     ·simp only[if_pos h1,if_neg h2]
      rw[if_neg oM]
    ·by_cases h2:c.clock≤b.clock
     ·simp only[if_neg h1,if_pos h2]
      rw[if_neg oM]
     ·simp only[if_neg h1,if_neg h2]
  ·simp only[if_pos ha,if_neg hb]
 ·simp only[if_neg ha]
theorem b3F:∀(r:List Amd) (o:Option Amd),(∀x∈r,x.clock≠a.clock)→r.foldl (a5N day clock s) (a5N day clock s o a)=a5N day clock s (r.foldl (a5N day clock s) o) a
 | [],o,_=>rfl
 |x::r,o,h=>by
  rw[List.foldl_cons,List.foldl_cons,←b3F r _ fun y hy=>h y (List.mem_cons_of_mem _ hy),b9z (h x (List.mem_cons_self ..)).symm]
theorem c0b (h:∀x∈l,x.clock≠a.clock) (k:Nat):b0A (l.take k++[a]++l.drop k) day clock s=b0A (l++[a]) day clock s:=by
 unfold b0A;rw[List.foldl_append,List.foldl_append,List.foldl_append]
 show (l.drop k).foldl _ (a5N _ _ _ ((l.take k).foldl _ none) a)=a5N _ _ _ (l.foldl _ none) a
 rw[b3F _ _ fun x hx=>h x (List.mem_of_mem_drop hx),←List.foldl_append,List.take_append_drop]
theorem c4b (h:b3b day clock a=true):b0A (l++[a]) day clock s=b0A l day clock s:=by
 unfold b0A;rw[List.foldl_append]
 show a5N _ _ _ _ a=_
 unfold a5N;rw[h];rfl
theorem c1l {m:List Amd} (h:∀s,b0A l day clock s=b0A m day clock s):inF l day clock=inF m day clock:=by
 have hs:∀s,(a2v l day clock l.length s).isSome=(a2v m day clock m.length s).isSome:=fun s=>by
  have h1:=congrArg Option.isSome (h s);rw[←a9u,←a9u]at h1
  simpa using h1
 have hn:a6v sLt (a2t l (a2v l day clock l.length))=a6v sLt (a2t m (a2v m day clock m.length)):=by
  refine SrtU.uniq a1h (fun a b c=>a1s) (a7w (lt:=sLt) (fun a b c=>a1s) fun x _ y _ h hn=>a7t h hn) (a7w (lt:=sLt) (fun a b c=>a1s) fun x _ y _ h hn=>a7t h hn) fun z=>?_
  rw[a4D,a4D];unfold a2t;rw[List.mem_filter,List.mem_filter,hs z]
  constructor
  ·exact fun q=>⟨a9v _ (Nat.le_refl _) z q.2,q.2⟩
  ·exact fun q=>⟨a9v (l:=l) (day:=day) (clock:=clock) _ (Nat.le_refl _) z (by rw[hs];exact q.2),q.2⟩
 unfold inF;rw[hn]
 have hr:∀(l:List Amd),b6h l (a2v l day clock l.length)=fun s=>match b0A l day clock s with|none=>none|some a=>if a.void=true then none else some a.rule:=fun l=>by
  funext s
  rw[←a9u];unfold b6h
  cases a2v l day clock l.length s<;>rfl
 rw[hr l,hr m]
 congr 1
 funext s
 rw[h s]
theorem c9t (h:∀x∈l,x.clock≠a.clock) (k:Nat):inF (l.take k++[a]++l.drop k) day clock=inF (l++[a]) day clock:=c1l fun s=>c0b h k
theorem d2H (h:b3b day clock a=true):inF (l++[a]) day clock=inF l day clock:=c1l fun s=>c4b h
end
abbrev c7I:ByteArray:=⟨#[98,97,116,99,104]⟩
abbrev nR:ByteArray:=⟨#[114]⟩
abbrev c5u:ByteArray:=⟨#[99,104,101,99,107,101,100]⟩
def fgC:List Kind:=[⟨a9Q,false,[]⟩,⟨b7m,true,[⟨nM,[a9Q],1⟩]⟩]
def b6O (p k:ByteArray):Evt:=⟨1,1,p,k,a0O,a0O,a0O,a0O,d1E⟩
def b3A (v:ByteArray):Evt:=⟨6,2,nM1,a0O,a0O,a0O,c7I,v,d1E⟩
def d2z:Evt:=⟨2,3,nM1,a0O,nV1,nM,a0O,a0O,d1E⟩
def fgL:List Rep:=[⟨[b6O nM1 a9Q],false⟩,⟨[b6O nV1 b7m],false⟩,⟨[b3A ⟨#[65]⟩,b3A ⟨#[66]⟩],false⟩,⟨[d2z],false⟩]
def fgR:Rul:=⟨nR,b7m,.mk 8 c5u a0O 0 0 []⟩
def fgA:List Amd:=[⟨1,0,99,false,fgR⟩]
def fgV:List Amd:=fgA++[⟨2,0,99,true,fgR⟩]
def fgB (l:List Rul) (c:List Cnc):Bok:=⟨l,[],[],c,[],[]⟩
theorem a6r:SmC fgC:=c0Y (by decide +kernel)
theorem c7A:inF fgA 5 9=[fgR]:=by kernel_rfl
theorem d2B:inF fgV 5 9=[]:=by kernel_rfl
theorem b5m:a3l fgC fgL=[[0,0,0,0],[0,0,1,0]]:=by decide +kernel
def ofG (c:List Kind) (b:Bok) (e:List Evt) (vn:ByteArray) (day:Int) (r:List Part×Int×Int):List Flt:=
 if c8m c r.1 r.2.2 vn=true then [⟨4,vn,⟨#[]⟩⟩]
 else a6v a4i (a2j b c e r.1 day ((a0f r.1 vn).getD zPart)++(d1D r.1 vn).flatMap (fun n=>a2j b c e r.1 day ((a0f r.1 n).getD zPart))++a2K vn b.holds)
theorem b4b {f:Fm} {c:List Kind} {b:Bok} {e:List Evt} {vn:ByteArray} {day:Int} {x:List Flt} (h:(d4O f c e day).isSome=true) (hx:ofG c b e vn day ((d4O f c e day).getD ([],0,0))=x):ofF f c b e vn day=x:=by
 obtain⟨r,hr⟩:=Option.isSome_iff_exists.1 h;rw[hr]at hx
 show ofG c b e vn day (runL f c e day)=x
 rw[c2H hr];exact hx
theorem b1Z {f:Fm} {c:List Kind} {b:Bok} {l own:List Rep} {vn:ByteArray} {day:Int} {k:Int} (h:(runL f c [] 0).2.2=0) (hv:(l.any fun r=>!a0l r)=false)
  (hk:(match (a3l c own).find? fun t=>!(ftsF f c b own vn day t).isEmpty with|some _=>2|none=>if (a3l c own).isEmpty=true then 3 else 1)=k):(decR f c b l own vn day).kind=k:=by
 rw[c0E h hv,←hk];unfold c4s
 cases (a3l c own).find? fun t=>!(ftsF f c b own vn day t).isEmpty<;>rfl
theorem b5n:(runL bxF fgC [] 0).2.2=0:=by rw[c2H (r:=([],-1,0)) (by decide +kernel)]
theorem c0Z:(fgL.any fun r=>!a0l r)=false:=by decide +kernel
theorem d5u:ftsF bxF fgC (fgB [fgR] []) fgL nV1 5 [0,0,0,0]=[⟨1,nV1,nR⟩]:=b4b (by decide +kernel) (by decide +kernel)
theorem d5v:ftsF bxF fgC (fgB [] []) fgL nV1 5 [0,0,0,0]=[]:=b4b (by decide +kernel) (by decide +kernel)
theorem d5w:ftsF bxF fgC (fgB [] []) fgL nV1 5 [0,0,1,0]=[]:=b4b (by decide +kernel) (by decide +kernel)
theorem d5x:ftsF bxF fgC (fgB [fgR] [⟨nV1,nR,5⟩]) fgL nV1 5 [0,0,0,0]=[]:=b4b (by decide +kernel) (by decide +kernel)
theorem d5y:ftsF bxF fgC (fgB [fgR] [⟨nV1,nR,5⟩]) fgL nV1 5 [0,0,1,0]=[]:=b4b (by decide +kernel) (by decide +kernel)
theorem d2C:(decR bxF fgC (fgB [fgR] []) fgL fgL nV1 5).kind=2:=b1Z b5n c0Z (by rw[b5m];simp[List.find?,d5u])
theorem d2D:(decR bxF fgC (fgB [] []) fgL fgL nV1 5).kind=1:=b1Z b5n c0Z (by rw[b5m];simp[List.find?,d5v,d5w])
theorem c4F:(decR bxF fgC (fgB [fgR] [⟨nV1,nR,5⟩]) fgL fgL nV1 5).kind=1:=b1Z b5n c0Z (by rw[b5m];simp[List.find?,d5x,d5y])
theorem b5l {R:Nat→Nat} (hR:Rts fgL R):a3V fgL R nV1=fgL:=by
 have h2:R 2=R 0:=hR.share (l:=fgL) (i:=2) (k:=0) (z:=nM1) (by decide) (by decide) (a4M.1 (by decide +kernel)) (a4M.1 (by decide +kernel));have h3:R 3=R 0:=hR.share (l:=fgL) (i:=3) (k:=0) (z:=nM1) (by decide) (by decide) (a4M.1 (by decide +kernel)) (a4M.1 (by decide +kernel));have h1:R 1=R 0:=(hR.share (l:=fgL) (i:=1) (k:=3) (z:=nV1) (by decide) (by decide) (a4M.1 (by decide +kernel)) (a4M.1 (by decide +kernel))).trans h3;refine c8g hR (fun i hi=>?_) (k:=1) (by decide) (a4M.1 (by decide +kernel))
 match i,hi with
 |0,_=>rfl
 |1,_=>exact h1
 |2,_=>exact h2
 |3,_=>exact h3
 |n+4,hi=>exact absurd hi (by show ¬n+4<4;omega)
theorem b0F:∀r∈fgL,∀e∈r.options,SmE e:=by
 intro r hr e he
 simp only[fgL,List.mem_cons,List.not_mem_nil,or_false]at hr
 rcases hr with rfl|rfl|rfl|rfl<;>simp only[List.mem_cons,List.not_mem_nil,or_false]at he
 ·subst he;exact⟨by decide,by decide,by decide,by decide,by decide,by decide⟩
 ·subst he;exact⟨by decide,by decide,by decide,by decide,by decide,by decide⟩
 ·rcases he with rfl|rfl<;>exact⟨by decide,by decide,by decide,by decide,by decide,by decide⟩
 ·subst he;exact⟨by decide,by decide,by decide,by decide,by decide,by decide⟩
theorem a4J:a4d fgL≤2000:=by decide +kernel
theorem a3K {l:List Amd} {day clock:Int} (h:∀a∈l,a4R a.rule):∀r∈inF l day clock,a4R r:=fun r hr=>by
 unfold inF at hr
 obtain⟨s,_,hs⟩:=List.mem_filterMap.1 hr;unfold b6h at hs
 cases hd:a2v l day clock l.length s with
 |none=>rw[hd]at hs;cases hs
 |some k=>
  rw[hd]at hs
  have hk:=b5f _ _ _ hd
  simp only[a9b hk]at hs
  split at hs
  ·cases hs
  ·cases hs;exact h _ (List.getElem_mem hk)
theorem a3H {l:List Rul} {cs:List Cnc} (h:∀r∈l,a4R r) (hl:l.length≤100):OkBok (fgB l cs):=
 ⟨h,(fun _ h=>by cases h),(fun _ h=>by cases h),hl,Nat.zero_le _,Nat.zero_le _,Nat.zero_le _⟩
theorem c7z:a4R fgR:=⟨by decide,by decide,.mk ⟨by decide,by decide⟩ ⟨by decide,by decide⟩ ⟨by decide,by decide⟩ (by decide) (by decide) fun _ h=>by cases h⟩
theorem a5o:∀a∈fgA,a4R a.rule:=fun a ha=>by rw[List.mem_singleton.1 ha];exact c7z
theorem b3B:∀a∈fgV,a4R a.rule:=fun a ha=>by
 simp only[fgV,fgA,List.cons_append,List.nil_append,List.mem_cons,List.not_mem_nil,or_false]at ha
 rcases ha with rfl|rfl<;>exact c7z
theorem a3I {I:IMap} {w v:Value} {l:List Rul} {cs:List Cnc} (h:RdS I w l) (h2:RdS I v cs):BokRd I w (.slice none 0 0) (.slice none 0 0) v (.slice none 0 0) (.slice none 0 0) (fgB l cs):=⟨h,RdS.nil',RdS.nil',h2,RdS.nil',RdS.nil'⟩
theorem a4F {I:IMap}:FmRd I [ci bxF.op,ci bxF.n,.slice none 0 0] bxF:=fm_in 2 0 RdS.nil'
section
variable {R:Nat→Nat} (hR:Rts fgL R)
include hR
theorem d5z:(decR bxF fgC (fgB (inF fgA 5 9) []) fgL (a3V fgL R nV1) nV1 5).kind=2:=by rw[c7A,b5l hR];exact d2C
theorem d5A:(decR bxF fgC (fgB (inF fgV 5 9) []) fgL (a3V fgL R nV1) nV1 5).kind=1:=by rw[d2B,b5l hR];exact d2D
theorem d5B:(decR bxF fgC (fgB (inF fgA 5 9) [⟨nV1,nR,5⟩]) fgL (a3V fgL R nV1) nV1 5).kind=1:=by rw[c7A,b5l hR];exact c4F
end
section
variable {l:List Amd} {late:Amd} {day clock:Int} {i:Nat}
theorem c4g (h:i<l.length) (hn:∀x∈l.take i,x.clock≠late.clock) (hc:¬l[i].clock=late.clock):∀x∈l.take (i+1),x.clock≠late.clock:=fun x hx=>by
 rw[←a0c h]at hx
 rcases List.mem_append.1 hx with hx|hx
 ·exact hn x hx
 ·rw[List.mem_singleton.1 hx];exact hc
theorem c9v (k:Nat) (h:k≤l.length):(l.take k++[late]++l.drop k).length=l.length+1:=by
 simp only[List.length_append,List.length_take,List.length_drop,List.length_singleton];omega
theorem d1V (h:((decide (late.clock≤clock)&&decide (late.frm≤day))&&decide (day≤late.to))=false):b3b day clock late=true:=by
 simp only[Bool.and_eq_false_iff,decide_eq_false_iff_not]at h
 simp only[b3b,Bool.or_eq_true,decide_eq_true_eq]
 omega
end
end Go.Sx
namespace Go.Proofs.YtgmkjpafapgccaaGreat
open Go Go.Sx Tryz
set_option linter.all false
set_option maxRecDepth 20000
set_option maxHeartbeats 4000000
theorem b0j (I:IMap) (N:Nat) (ih:∀x,cntX x≤N→∀vs,XpRd I vs x→∀m:Int,0≤m→m≤80→FnE prog 185 #[.agg vs.toArray,.int .i64 (m)] I (fun u=>∃n:Int,u=ci n∧1≤n∧n≤m+1)) (x:Xp) (hN:cntX x≤N+1) (vs:List Value) (hx:XpRd I vs x) (m:Int) (hm0:0≤m) (hm1:m≤80) :
    FnE prog 185 #[.agg vs.toArray,.int .i64 (m)] I (fun u=>∃n:Int,u=ci n∧1≤n∧n≤m+1):=by
 obtain⟨sk,rfl,hk⟩:=b0x hx;obtain⟨K0,kc,rfl,hK,hkc,hkm⟩:=hk;refine enter func185 call185 rfl ntmps185 rfl fun w0=>?_;refine go 4 fun g2=>?_
 refine go 15 ?_
 refine a0L ((0:Nat)) ((1:Int)) (fun i n=>I)
  (fun i n=>[(1,.int .i64 (m)),(2,.pointer (some ⟨g2,0,none⟩)),(5,.int .i64 (n)),(6,.int .i64 ((i:Nat):Int))])
  (fun i n=>[.blk g2 34 [ci x.op,.string x.name,.string x.value,ci x.n,ci x.extra,.slice K0 x.kids.length kc]])
  (fun i n=>i≤x.kids.length∧1≤n∧n≤m+1)
  (fun i n=>x.kids.length-i) ⟨Nat.zero_le _,Int.le_refl _,oM⟩ rfl sb rfl ?_
 intro i n ⟨hi,hn0,hn1⟩;refine gS 9 12 (fun h12 p12=>?_) fun h12 p12=>?_
 ·refine gC 6 (fun h16 p16=>?_) fun h16 p16=>?_
  ·have hlt:i<x.kids.length:=oM;refine go 9 ?_;obtain⟨b23,o23,w23,e23,c23,r23⟩:=RdA.at_ hK (i:=i) oM;refine go 1 ?_;refine o_v rfl (a0V he rfl c23 (Enc.len r23)) ?_;refine go 4 ?_;refine a1n (ih x.kids[i] (by have:=a6S (List.getElem_mem (show i<x.kids.length from oM));omega) _ r23 (m-n) oM oM) rfl rfl fun v28 q28=>?_;obtain⟨n28,rfl,hn28,hn29⟩:=q28;refine go 11 ?_;exact a0n (i+1) (n+n28) ⟨oM,oM,oM⟩ oM rfl sb rfl
  ·refine go 13 ?_;exact q_e ⟨n,rfl,hn0,hn1⟩
 ·refine go 20 ?_;exact q_e ⟨n,rfl,hn0,hn1⟩
theorem b9s (I:IMap) (x:Xp) (vs:List Value) (hx:XpRd I vs x) (m:Int) (hm0:0≤m) (hm1:m≤80):FnE prog 185 #[.agg vs.toArray,.int .i64 (m)] I (fun u=>∃n:Int,u=ci n∧1≤n∧n≤m+1):=by
 have key:∀N x,cntX x≤N→∀vs,XpRd I vs x→∀m:Int,0≤m→m≤80→FnE prog 185 #[.agg vs.toArray,.int .i64 (m)] I (fun u=>∃n:Int,u=ci n∧1≤n∧n≤m+1):=by
  intro N
  induction N with
  |zero=>intro x h;cases x;simp[cntX]at h
  |succ N ih=>exact fun x hN vs hx m h0 h1=>b0j I N ih x hN vs hx m h0 h1
 exact key (cntX x) x (Nat.le_refl _) vs hx m hm0 hm1
theorem b0k (I:IMap) (N:Nat) (ih:∀x,cntX x≤N→∀vs,XpRd I vs x→FnE prog 186 #[.agg vs.toArray] I (fun u=>∃b:Bool,u = .bool b)) (x:Xp) (hN:cntX x≤N+1) (vs:List Value) (hx:XpRd I vs x) :
    FnE prog 186 #[.agg vs.toArray] I (fun u=>∃b:Bool,u = .bool b):=by
 obtain⟨sk,rfl,hk⟩:=b0x hx;obtain⟨K0,kc,rfl,hK,hkc,hkm⟩:=hk;refine enter func186 call186 rfl ntmps186 rfl fun w0=>?_;refine go 4 fun g1=>?_
 refine gS 11 8 (fun h8 p8=>?_) fun h8 p8=>?_
 ·refine go 16 ?_;exact q_e ⟨_,rfl⟩
 ·refine gC 7 (fun h13 p13=>?_) fun h13 p13=>?_
  ·refine go 8 ?_;exact q_e ⟨_,rfl⟩
  ·refine go 9 ?_
   refine a0x (α:=Nat) (0:Nat) (fun i=>I)
    (fun i=>[(1,.pointer (some ⟨g1,0,none⟩)),(3,.int .i64 ((i:Nat):Int))])
    (fun i=>[.blk g1 34 [ci x.op,.string x.name,.string x.value,ci x.n,ci x.extra,.slice K0 x.kids.length kc]])
    (fun i=>i≤x.kids.length)
    (fun i=>x.kids.length-i) (Nat.zero_le _) rfl sb rfl ?_
   intro i hi;refine gC 10 (fun h18 p18=>?_) fun h18 p18=>?_
   ·have hlt:i<x.kids.length:=oM;refine go 9 ?_;obtain⟨b24,o24,w24,e24,c24,r24⟩:=RdA.at_ hK (i:=i) hlt;refine go 1 ?_;refine o_v rfl (a0V he rfl c24 (Enc.len r24)) ?_;refine go 1 ?_;refine a1n (ih x.kids[i] (by have:=a6S (List.getElem_mem hlt);omega) _ r24) rfl rfl fun v26 q26=>?_;obtain⟨b26,rfl⟩:=q26;refine gC 3 (fun h27 p27=>?_) fun h27 p27=>?_
    ·refine go 12 ?_;exact q_e ⟨_,rfl⟩
    ·refine go 9 ?_;exact a0w (i+1) oM oM rfl sb rfl
   ·refine go 12 ?_;exact q_e ⟨_,rfl⟩
theorem b9t (I:IMap) (x:Xp) (vs:List Value) (hx:XpRd I vs x):FnE prog 186 #[.agg vs.toArray] I (fun u=>∃b:Bool,u = .bool b):=by
 have key:∀N x,cntX x≤N→∀vs,XpRd I vs x→FnE prog 186 #[.agg vs.toArray] I (fun u=>∃b:Bool,u = .bool b):=by
  intro N
  induction N with
  |zero=>intro x h;cases x;simp[cntX]at h
  |succ N ih=>exact fun x hN vs hx=>b0k I N ih x hN vs hx
 exact key (cntX x) x (Nat.le_refl _) vs hx
theorem c2u (I:IMap) (x:Xp) (vs:List Value) (hx:XpRd I vs x) :
    FnE prog 98 #[.agg vs.toArray] I (fun u=>∃b:Bool,u = .bool b):=by
 refine enter func98 call98 rfl ntmps98 rfl fun w0=>?_;refine go 4 fun g1=>?_
 refine go 5 ?_;refine o_v rfl (a3f m0 he rfl (Enc.len (α:=Xp) hx)) ?_;refine go 1 ?_;refine a1n (b9s _ x vs hx 80 oM oM) rfl rfl fun v4 q4=>?_;obtain⟨n4,rfl,hn4,hn5⟩:=q4;refine gS 2 6 (fun h6 p6=>?_) fun h6 p6=>?_
 ·refine a0A (a0q rfl rfl h6 (a0t rfl (a3f m0 he rfl (Enc.len (α:=Xp) hx)) ?_));refine go 1 ?_;refine a0q rfl rfl h6 (a1n (b9t _ x vs hx) rfl rfl (fun v8 q8=>?_));obtain⟨b8,rfl⟩:=q8;refine go 6 ?_;exact q_e ⟨_,rfl⟩
 ·refine go 8 ?_;exact q_e ⟨_,rfl⟩
theorem b7J (I:IMap) (r:Rul) (s:Value) (hs:RdS I s r.cond.kids) :
    FnE prog 37 #[.agg (r.cs s).toArray] I (fun u=>∃b:Bool,u = .bool b):=by
 obtain⟨SA,sc,rfl,_,_,_⟩:=id hs;refine enter func37 call37 rfl ntmps37 rfl fun w0=>?_;refine go 4 fun g1=>?_
 refine go 11 ?_;refine o_v rfl (c3q rfl rfl) ?_;refine gS 2 11 (fun h11 p11=>?_) fun h11 p11=>?_
 ·refine go 1 ?_;refine a0A (a0q rfl rfl h11 (a0t rfl (a1L (r.cond.cs (.slice SA r.cond.kids.length sc)) m0 he rfl rfl rfl) ?_));refine go 1 ?_;refine a0q rfl rfl h11 (a1n (c2u _ r.cond _ (b2X hs)) rfl rfl (fun v14 q14=>?_));obtain⟨b14,rfl⟩:=q14;refine go 6 ?_;exact q_e ⟨_,rfl⟩
 ·refine go 9 ?_;exact q_e ⟨_,rfl⟩
theorem c6h (I:IMap) (v:Value) (l:List Amd) (hv:RdS I v l) (m:Int) :
    FnE prog 9 #[v,.int .i64 (m)] I (fun u=>∃b:Bool,u = .bool b∧(b=true→(l.length:Int)≤m)):=by
 obtain⟨A,c0,rfl,hA,hc,hm⟩:=hv;refine enter func9 call9 rfl ntmps9 rfl fun w0=>?_;refine go 12 ?_
 refine a0x (α:=Nat) (0:Nat) (fun i=>I)
  (fun i=>[(0,.slice A l.length c0),(1,.int .i64 (m)),(5,.int .i64 ((i:Nat):Int))])
  (fun i=>[])
  (fun i=>i≤l.length)
  (fun i=>l.length-i) (Nat.zero_le _) rfl sb rfl ?_
 intro i hi;refine gS 8 10 (fun h10 p10=>?_) fun h10 p10=>?_
 ·refine gC 7 (fun h15 p15=>?_) fun h15 p15=>?_
  ·have hlt:i<l.length:=oM;refine go 8 ?_;obtain⟨b20,o20,w20,e20,c20,r20⟩:=RdA.at_ hA (i:=i) oM;obtain⟨s20,rfl,hs20⟩:=r20;refine go 2 ?_;refine o_v rfl (a0V he rfl (c20.sub 4 8) rfl) ?_;refine go 1 ?_;refine a1n (b7J _ (l[i]'oM).rule s20 hs20) rfl rfl fun v23 q23=>?_;obtain⟨b23,rfl⟩:=q23;refine gC 3 (fun h24 p24=>?_) fun h24 p24=>?_
   ·refine go 12 ?_;exact q_e ⟨false,rfl,fun h=>by cases h⟩
   ·refine go 9 ?_;exact a0w (i+1) oM oM rfl sb rfl
  ·refine go 16 ?_;exact q_e ⟨_,rfl,fun h=>of_decide_eq_true h⟩
 ·refine go 24 ?_;exact q_e ⟨_,rfl,fun h=>of_decide_eq_true h⟩
theorem c6i (I:IMap) (vc:Value) (c:List Kind) (hvc:RdS I vc c) (f:Fm) (sf:Value) (hfm:FmRd I [ci f.op,ci f.n,sf] f) (v:Value) (l:List Rep) (hv:RdS I v l) (r:Rul) (s:Value) (hs:RdS I s r.cond.kids) (n:Int) (hn:n≤100) :
    FnE prog 8 #[.agg #[vc,ci f.op,ci f.n,sf],v,.agg (r.cs s).toArray,.int .i64 (n)] I (fun u=>∃b:Bool,u = .bool b∧(b=true→b5j c f [] 0=true∧c9a l n=true∧a4d l≤81)):=by
 obtain⟨SA,sc,rfl,_,_,_⟩:=id hs;refine enter func8 call8 rfl ntmps8 rfl fun w0=>?_;refine go 4 fun g4=>?_
 refine go 2 fun g6=>?_
 refine go 7 ?_;refine cV (c6f _ vc c hvc f sf hfm _ [] RdS.nil' 0) ?_;refine gS 1 11 (fun h11 p11=>?_) fun h11 p11=>?_
 ·refine go 3 ?_;refine a0q rfl rfl h11 (a0v (c6g _ v l hv n) rfl rfl ?_);refine gS 2 16 (fun h16 p16=>?_) fun h16 p16=>?_
  ·refine go 2 ?_;refine a0q rfl rfl h16 (a0v (c2t _ v l hv (by have:=(b5k h16).2;omega) (b5k h16).1 81 oM) rfl rfl ?_);refine gS 3 21 (fun h21 p21=>?_) fun h21 p21=>?_
   ·refine go 2 ?_;refine a0q rfl rfl h21 (a1n (b7J _ r _ hs) rfl rfl (fun v23 q23=>?_));obtain⟨b23,rfl⟩:=q23;refine go 6 ?_;exact q_e ⟨_,rfl,fun _=>⟨h11,h16,c4E h21⟩⟩
   ·refine go 8 ?_;exact q_e ⟨_,rfl,fun h=>by cases h⟩
  ·refine go 13 ?_;exact q_e ⟨_,rfl,fun h=>by cases h⟩
 ·refine go 18 ?_;exact q_e ⟨_,rfl,fun h=>by cases h⟩
theorem c2v (I:IMap) (v:Value) (l:List Flt) (hv:RdS I v l) (v2:Value) (m:List Flt) (hv2:RdS I v2 m) :
    FnV prog 22 #[v,v2] I (.bool (decide (l=m))):=by
 obtain⟨A,c0,rfl,hA,hc,hm⟩:=hv;obtain⟨B,c1,rfl,hB,hc1,hm1⟩:=hv2;refine enter func22 call22 rfl ntmps22 rfl fun w0=>?_;refine gC 15 (fun h10 p10=>?_) fun h10 p10=>?_
 ·refine go 8 ?_;exact q_v (congrArg Value.bool (decide_eq_false (by rintro rfl;revert h10;simp)).symm)
 ·have hlm:l.length=m.length:=by revert h10;simp;omega
  refine go 9 ?_
  refine a0x (α:=Nat) 0 (fun i=>I)
   (fun i=>[(0,.slice A l.length c0),(1,.slice B m.length c1),(5,.int .i64 ((i:Nat):Int))])
   (fun i=>[])
   (fun i=>i≤l.length∧l.take i=m.take i)
   (fun i=>l.length-i) ⟨Nat.zero_le _,rfl⟩ rfl sb rfl ?_
  intro i ⟨hi,hn⟩;refine gC 9 (fun h14 p14=>?_) fun h14 p14=>?_
  ·have hlt:i<l.length:=oM;refine go 6 ?_;refine dG 0 2 ?_;obtain⟨b19,o19,w19,e19,c19,r19⟩:=RdA.at_ hA (i:=i) hlt;obtain rfl:=r19;refine dG 2 4 ?_;obtain⟨b23,o23,w23,e23,c23,r23⟩:=RdA.at_ hB (i:=i) oM;obtain rfl:=r23;refine dG 6 2 ?_;refine a0I 8 rfl rfl (by kernel_rfl) rfl .slnil rfl (d1w T.eqg_157 (c0Q l[i] m[i]) rfl rfl) ?_;refine gC 2 (fun h25 p25=>?_) fun h25 p25=>?_
   ·refine go 12 ?_;exact q_v (congrArg Value.bool (d0P hlt oM (by simpa using h25)).symm)
   ·refine go 9 ?_;exact a0w (i+1) ⟨oM,c2L hlt oM hn (by simpa using h25)⟩ oM rfl sb rfl
  ·refine go 12 ?_;exact q_v (congrArg Value.bool (decide_eq_true (c6u hlm oM hn)).symm)
theorem b0S (I:IMap) (N:Nat) (ih:∀x,cntN x≤N→∀vs ws,FmRd I vs x→FmRd I ws x→FnV prog 46 #[.agg vs.toArray,.agg ws.toArray] I (.bool true)) (x:Fm) (hN:cntN x≤N+1) (vs ws:List Value) (hx:FmRd I vs x) (hy:FmRd I ws x) :
    FnV prog 46 #[.agg vs.toArray,.agg ws.toArray] I (.bool true):=by
 obtain⟨sk,rfl,hk⟩:=a2b hx;obtain⟨A0,Ac,rfl,hA,hkc,hkm⟩:=hk;obtain⟨sk2,rfl,hk2⟩:=a2b hy;obtain⟨B0,Bc,rfl,hB,hkc2,hkm2⟩:=hk2;refine enter func46 call46 rfl ntmps46 rfl fun w0=>?_;refine go 4 fun g2=>?_
 refine go 2 fun g3=>?_
 refine go 10 ?_;refine o_v rfl (OV.cast (u:=.bool false) (b2T rfl rfl) (by simp)) ?_;refine go 5 ?_;refine a0A (a0q rfl rfl rfl (a0t rfl (OV.cast (u:=.bool false) (b2T rfl rfl) (by simp)) ?_));refine go 8 ?_;refine a0A (a0q rfl rfl rfl (a0t rfl (OV.cast (u:=.bool false) (b2T rfl rfl) (by simp)) ?_));refine go 13 ?_
 refine a0x (α:=Nat) (0:Nat) (fun i=>I)
  (fun i=>[(2,.pointer (some ⟨g2,0,none⟩)),(3,.pointer (some ⟨g3,0,none⟩)),(5,.int .i64 ((i:Nat):Int))])
  (fun i=>[.blk g3 44 [ci x.op,ci x.n,.slice B0 x.kids.length Bc],.blk g2 44 [ci x.op,ci x.n,.slice A0 x.kids.length Ac]])
  (fun i=>i≤x.kids.length)
  (fun i=>x.kids.length-i) (Nat.zero_le _) rfl sb rfl ?_
 intro i hi;refine gC 10 (fun h31 p31=>?_) fun h31 p31=>?_
 ·have hlt:i<x.kids.length:=oM;refine go 6 ?_;refine dG 0 3 ?_;obtain⟨b37,o37,w37,e37,c37,r37⟩:=RdA.at_ hA (i:=i) hlt;refine dG 3 1 ?_;refine a0I 4 rfl rfl (by kernel_rfl) rfl (.refl _) rfl (a0V he rfl c37 (Enc.len r37)) ?_;refine dG 5 3 ?_;obtain⟨b42,o42,w42,e42,c42,r42⟩:=RdA.at_ hB (i:=i) hlt;refine dG 8 1 ?_;refine a0I 9 rfl rfl (by kernel_rfl) rfl (.refl _) rfl (a0V he rfl c42 (Enc.len r42)) ?_;refine dH 10 0 ?_;refine cV (ih x.kids[i] (by have:=a4H (f:=x) (List.getElem_mem hlt);omega) _ _ r37 r42) ?_;refine dG 11 1 ?_;refine go 12 ?_;exact a0w (i+1) oM oM rfl sb rfl
 ·refine go 12 ?_;exact q_v rfl
theorem c2w (I:IMap) (x:Fm) (vs ws:List Value) (hx:FmRd I vs x) (hy:FmRd I ws x):FnV prog 46 #[.agg vs.toArray,.agg ws.toArray] I (.bool true):=by
 have key:∀N x,cntN x≤N→∀vs ws,FmRd I vs x→FmRd I ws x→FnV prog 46 #[.agg vs.toArray,.agg ws.toArray] I (.bool true):=by
  intro N
  induction N with
  |zero=>intro x h;cases x;simp[cntN]at h
  |succ N ih=>exact fun x hN vs ws hx hy=>b0S I N ih x hN vs ws hx hy
 exact key (cntN x) x (Nat.le_refl _) vs ws hx hy
theorem b9r (I:IMap) (v:Value) (l:List Int) (hv:RdS I v l) (w:Value) (hw:RdS I w l) :
    FnV prog 47 #[v,w] I (.bool true):=by
 obtain⟨A,c0,rfl,hA,hc,hm⟩:=hv;obtain⟨B,c1,rfl,hB,hc1,hm1⟩:=hw;refine enter func47 call47 rfl ntmps47 rfl fun w0=>?_;refine go 12 ?_;refine o_v rfl (OV.cast (u:=.bool false) (b2T rfl rfl) (by simp)) ?_;refine go 12 ?_
 refine a0x (α:=Nat) 0 (fun i=>I)
  (fun i=>[(0,.slice A l.length c0),(1,.slice B l.length c1),(5,.int .i64 ((i:Nat):Int))])
  (fun i=>[])
  (fun i=>i≤l.length)
  (fun i=>l.length-i) (Nat.zero_le _) rfl sb rfl ?_
 intro i hi;refine gC 9 (fun h14 p14=>?_) fun h14 p14=>?_
 ·have hlt:i<l.length:=oM;refine go 6 ?_;refine dG 0 2 ?_;obtain⟨b19,o19,w19,e19,c19,r19⟩:=RdA.at_ hA (i:=i) oM;obtain rfl:=r19;refine dG 2 4 ?_;obtain⟨b23,o23,w23,e23,c23,r23⟩:=RdA.at_ hB (i:=i) oM;obtain rfl:=r23;refine dG 6 2 ?_;refine a0I 8 rfl rfl (by kernel_rfl) rfl .slnil rfl (OV.cast (u:=.bool false) (b2T rfl rfl) (by simp)) ?_;refine go 12 ?_;exact a0w (i+1) oM oM rfl sb rfl
 ·refine go 12 ?_;exact q_v rfl
theorem b4w (I:IMap) (d:Vdt) (k h u k2 h2 u2:Value) (hd:VdRd I k h u d) (hd2:VdRd I k2 h2 u2 d) :
    FnV prog 12 #[.agg (d.cs k h u).toArray,.agg (d.cs k2 h2 u2).toArray] I (.bool true):=by
 obtain⟨P0,Pc,rfl,_,_,_⟩:=id hd.k;obtain⟨R0,Rc,rfl,_,_,_⟩:=id hd.h;obtain⟨U0,Uc,rfl,_,_,_⟩:=id hd.f;obtain⟨Q0,Qc,rfl,_,_,_⟩:=id hd2.k;obtain⟨V0,Vc,rfl,_,_,_⟩:=id hd2.h;obtain⟨W0,Wc,rfl,_,_,_⟩:=id hd2.f;refine enter func12 call12 rfl ntmps12 rfl fun w0=>?_;refine go 4 fun g2=>?_
 refine go 2 fun g3=>?_
 refine go 9 ?_;refine o_v rfl (OV.cast (u:=.bool true) (c3u rfl rfl) (by simp)) ?_;refine go 2 ?_;refine a0A (a0q rfl rfl rfl (a0t rfl (a1L ([ci d.proof.op,ci d.proof.n,.slice P0 d.proof.kids.length Pc]) m1 he rfl rfl rfl) ?_));refine go 1 ?_;refine a0A (a0q rfl rfl rfl (a0t rfl (a1L ([ci d.proof.op,ci d.proof.n,.slice Q0 d.proof.kids.length Qc]) m0 he rfl rfl rfl) ?_));refine go 1 ?_;refine a0q rfl rfl rfl (a0v (c2w _ d.proof _ _ (a3O hd.k) (a3O hd2.k)) rfl rfl ?_);refine go 7 ?_;refine a0q rfl rfl rfl (a0v (b9r _ _ d.hist hd.h _ hd2.h) rfl rfl ?_);refine go 7 ?_;refine a0q rfl rfl rfl (a0v ((by have:=c2v I _ d.faults hd.f _ d.faults hd2.f;rwa[decide_eq_true rfl]at this)) rfl rfl ?_);refine go 6 ?_;exact q_v rfl
end Go.Proofs.YtgmkjpafapgccaaGreat
