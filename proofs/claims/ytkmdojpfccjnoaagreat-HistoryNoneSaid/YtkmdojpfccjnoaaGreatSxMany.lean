/- Loops and meetings of ways with four and five things that turn; yield with blocks of one's own in front. -/
import Derived.Test.YtkmdojpfccjnoaaGreatSxLoop
import Derived.Test.YtkmdojpfccjnoaaGreatSxEq
set_option linter.all false
namespace Go.Sx
open Go
section
variable {P : Program} {ρ : Option Nat} {n : Sz} {E : Ent} {I I' : IMap} {L : LL} {H : List Res} {K : Act → World → Prop} {Q : Exit → Act → World → Prop} {ops : Array Oper} {N : Act → World → Prop}
variable {α β γ δ ε : Type}
def NextS4 (n : Sz) (E : Ent) (Ix : α → β → γ → δ → IMap) (Lx : α → β → γ → δ → LL) (Hx : α → β → γ → δ → List Res) (p : α → β → γ → δ → Prop) (μ : α → β → γ → δ → Nat) (x : α) (y : β) (z : γ) (t : δ) : Act → World → Prop :=
  fun a w => ∃ x' y' z' t', p x' y' z' t' ∧ μ x' y' z' t' < μ x y z t ∧ St n a (Lx x' y' z' t') ∧ Mem E (Ix x' y' z' t') (Hx x' y' z' t') w
theorem c_loop4 (x0 : α) (y0 : β) (z0 : γ) (t0 : δ) (Ix : α → β → γ → δ → IMap) (Lx : α → β → γ → δ → LL) (Hx : α → β → γ → δ → List Res) (p : α → β → γ → δ → Prop) (μ : α → β → γ → δ → Nat) {c : Code}
    (h0 : p x0 y0 z0 t0) (hI : Ix x0 y0 z0 t0 = I) (hL : Sub (Lx x0 y0 z0 t0) L) (hH : Hx x0 y0 z0 t0 = H)
    (round : ∀ x y z t, p x y z t → SX n E (Ix x y z t) (Lx x y z t) (Hx x y z t) (c.wq ρ P (Exit.then (NextS4 n E Ix Lx Hx p μ x y z t) Q))) : SX n E I L H ((Code.loop c).wq ρ P Q) :=
  c_loop (α := α × β × γ × δ) (x0, y0, z0, t0) (fun q => Ix q.1 q.2.1 q.2.2.1 q.2.2.2) (fun q => Lx q.1 q.2.1 q.2.2.1 q.2.2.2) (fun q => Hx q.1 q.2.1 q.2.2.1 q.2.2.2) (fun q => p q.1 q.2.1 q.2.2.1 q.2.2.2) (fun q => μ q.1 q.2.1 q.2.2.1 q.2.2.2) h0 hI hL hH
    fun ⟨x, y, z, t⟩ hp => sx_mono (round x y z t hp) fun a w h => cwq_mono (fun e a w q => by
      cases e with
      | normal => obtain ⟨x', y', z', t', h1, h2, h3, h4⟩ := q; exact ⟨(x', y', z', t'), h1, h2, h3, h4⟩
      | _ => exact q) h
theorem q_next4 {Ix : α → β → γ → δ → IMap} {Lx : α → β → γ → δ → LL} {Hx : α → β → γ → δ → List Res} {p : α → β → γ → δ → Prop} {μ : α → β → γ → δ → Nat} {x : α} {y : β} {z : γ} {t : δ} (x' : α) (y' : β) (z' : γ) (t' : δ) (hp : p x' y' z' t') (hμ : μ x' y' z' t' < μ x y z t)
    (hI : Ix x' y' z' t' = I) (hL : Sub (Lx x' y' z' t') L) (hH : Hx x' y' z' t' = H) : SX n E I L H (NextS4 n E Ix Lx Hx p μ x y z t) :=
  fun a w s m => ⟨x', y', z', t', hp, hμ, s.sub hL, by rw [hI, hH]; exact m⟩
def NextS5 (n : Sz) (E : Ent) (Ix : α → β → γ → δ → ε → IMap) (Lx : α → β → γ → δ → ε → LL) (Hx : α → β → γ → δ → ε → List Res) (p : α → β → γ → δ → ε → Prop) (μ : α → β → γ → δ → ε → Nat) (x : α) (y : β) (z : γ) (t : δ) (u : ε) : Act → World → Prop :=
  fun a w => ∃ x' y' z' t' u', p x' y' z' t' u' ∧ μ x' y' z' t' u' < μ x y z t u ∧ St n a (Lx x' y' z' t' u') ∧ Mem E (Ix x' y' z' t' u') (Hx x' y' z' t' u') w
theorem c_loop5 (x0 : α) (y0 : β) (z0 : γ) (t0 : δ) (u0 : ε) (Ix : α → β → γ → δ → ε → IMap) (Lx : α → β → γ → δ → ε → LL) (Hx : α → β → γ → δ → ε → List Res) (p : α → β → γ → δ → ε → Prop) (μ : α → β → γ → δ → ε → Nat) {c : Code}
    (h0 : p x0 y0 z0 t0 u0) (hI : Ix x0 y0 z0 t0 u0 = I) (hL : Sub (Lx x0 y0 z0 t0 u0) L) (hH : Hx x0 y0 z0 t0 u0 = H)
    (round : ∀ x y z t u, p x y z t u → SX n E (Ix x y z t u) (Lx x y z t u) (Hx x y z t u) (c.wq ρ P (Exit.then (NextS5 n E Ix Lx Hx p μ x y z t u) Q))) : SX n E I L H ((Code.loop c).wq ρ P Q) :=
  c_loop (α := α × β × γ × δ × ε) (x0, y0, z0, t0, u0) (fun q => Ix q.1 q.2.1 q.2.2.1 q.2.2.2.1 q.2.2.2.2) (fun q => Lx q.1 q.2.1 q.2.2.1 q.2.2.2.1 q.2.2.2.2) (fun q => Hx q.1 q.2.1 q.2.2.1 q.2.2.2.1 q.2.2.2.2) (fun q => p q.1 q.2.1 q.2.2.1 q.2.2.2.1 q.2.2.2.2) (fun q => μ q.1 q.2.1 q.2.2.1 q.2.2.2.1 q.2.2.2.2) h0 hI hL hH
    fun ⟨x, y, z, t, u⟩ hp => sx_mono (round x y z t u hp) fun a w h => cwq_mono (fun e a w q => by
      cases e with
      | normal => obtain ⟨x', y', z', t', u', h1, h2, h3, h4⟩ := q; exact ⟨(x', y', z', t', u'), h1, h2, h3, h4⟩
      | _ => exact q) h
theorem q_next5 {Ix : α → β → γ → δ → ε → IMap} {Lx : α → β → γ → δ → ε → LL} {Hx : α → β → γ → δ → ε → List Res} {p : α → β → γ → δ → ε → Prop} {μ : α → β → γ → δ → ε → Nat} {x : α} {y : β} {z : γ} {t : δ} {u : ε} (x' : α) (y' : β) (z' : γ) (t' : δ) (u' : ε) (hp : p x' y' z' t' u') (hμ : μ x' y' z' t' u' < μ x y z t u)
    (hI : Ix x' y' z' t' u' = I) (hL : Sub (Lx x' y' z' t' u') L) (hH : Hx x' y' z' t' u' = H) : SX n E I L H (NextS5 n E Ix Lx Hx p μ x y z t u) :=
  fun a w s m => ⟨x', y', z', t', u', hp, hμ, s.sub hL, by rw [hI, hH]; exact m⟩
end
section
variable {P : Program} {n : Sz} {E : Ent} {I : IMap} {L : LL} {Q : Exit → Act → World → Prop} {ops : Array Oper} {K : Act → World → Prop} {d ty : Nat} {pos : String} {af : Array Edge}
variable {α : Type} {l : Nat} {rd : IMap → List Value → α → Prop} {ok : List α → α → Prop} {J : Bool → List α → IMap → List Res → Prop} {Hc : List Res} {fo : Operand} {as : List Operand} {ats : Array TypeId} {vs : List Value} {pre : List α} {r1 r2 r3 r4 r5 : Res}
theorem o_yield0 (x : α) (hy : YieldsS P l rd ok J) (hJ : J true pre I Hc) (hr : rd I vs x) (hk : ok pre x) (hf : ev L fo = some (.func (.yield l) #[] #[])) (ha : evs L as = some vs) (hd : Nat.blt d n.sz = true)
    (k : ∀ b I' Hc', ILe I I' → J b (pre ++ [x]) I' Hc' → SX n E I' ((d, .bool b) :: L) Hc' K) : SX n E I L Hc (one P ops Q ⟨some d, .call { callee := .value fo, args := as.toArray, argTypes := ats }, ty, pos, af, none⟩ K) :=
  o_yield (H := []) hy hJ hr hk hf ha hd k
theorem o_yield1 (x : α) (hy : YieldsS P l rd ok J) (hJ : J true pre I Hc) (hr : rd I vs x) (hk : ok pre x) (hf : ev L fo = some (.func (.yield l) #[] #[])) (ha : evs L as = some vs) (hd : Nat.blt d n.sz = true)
    (k : ∀ b I' Hc', ILe I I' → J b (pre ++ [x]) I' Hc' → SX n E I' ((d, .bool b) :: L) (r1 :: Hc') K) : SX n E I L (r1 :: Hc) (one P ops Q ⟨some d, .call { callee := .value fo, args := as.toArray, argTypes := ats }, ty, pos, af, none⟩ K) :=
  o_yield (H := [r1]) hy hJ hr hk hf ha hd k
theorem o_yield2 (x : α) (hy : YieldsS P l rd ok J) (hJ : J true pre I Hc) (hr : rd I vs x) (hk : ok pre x) (hf : ev L fo = some (.func (.yield l) #[] #[])) (ha : evs L as = some vs) (hd : Nat.blt d n.sz = true)
    (k : ∀ b I' Hc', ILe I I' → J b (pre ++ [x]) I' Hc' → SX n E I' ((d, .bool b) :: L) (r1 :: r2 :: Hc') K) : SX n E I L (r1 :: r2 :: Hc) (one P ops Q ⟨some d, .call { callee := .value fo, args := as.toArray, argTypes := ats }, ty, pos, af, none⟩ K) :=
  o_yield (H := [r1, r2]) hy hJ hr hk hf ha hd k
theorem o_yield3 (x : α) (hy : YieldsS P l rd ok J) (hJ : J true pre I Hc) (hr : rd I vs x) (hk : ok pre x) (hf : ev L fo = some (.func (.yield l) #[] #[])) (ha : evs L as = some vs) (hd : Nat.blt d n.sz = true)
    (k : ∀ b I' Hc', ILe I I' → J b (pre ++ [x]) I' Hc' → SX n E I' ((d, .bool b) :: L) (r1 :: r2 :: r3 :: Hc') K) : SX n E I L (r1 :: r2 :: r3 :: Hc) (one P ops Q ⟨some d, .call { callee := .value fo, args := as.toArray, argTypes := ats }, ty, pos, af, none⟩ K) :=
  o_yield (H := [r1, r2, r3]) hy hJ hr hk hf ha hd k
theorem o_yield4 (x : α) (hy : YieldsS P l rd ok J) (hJ : J true pre I Hc) (hr : rd I vs x) (hk : ok pre x) (hf : ev L fo = some (.func (.yield l) #[] #[])) (ha : evs L as = some vs) (hd : Nat.blt d n.sz = true)
    (k : ∀ b I' Hc', ILe I I' → J b (pre ++ [x]) I' Hc' → SX n E I' ((d, .bool b) :: L) (r1 :: r2 :: r3 :: r4 :: Hc') K) : SX n E I L (r1 :: r2 :: r3 :: r4 :: Hc) (one P ops Q ⟨some d, .call { callee := .value fo, args := as.toArray, argTypes := ats }, ty, pos, af, none⟩ K) :=
  o_yield (H := [r1, r2, r3, r4]) hy hJ hr hk hf ha hd k
theorem o_yield5 (x : α) (hy : YieldsS P l rd ok J) (hJ : J true pre I Hc) (hr : rd I vs x) (hk : ok pre x) (hf : ev L fo = some (.func (.yield l) #[] #[])) (ha : evs L as = some vs) (hd : Nat.blt d n.sz = true)
    (k : ∀ b I' Hc', ILe I I' → J b (pre ++ [x]) I' Hc' → SX n E I' ((d, .bool b) :: L) (r1 :: r2 :: r3 :: r4 :: r5 :: Hc') K) : SX n E I L (r1 :: r2 :: r3 :: r4 :: r5 :: Hc) (one P ops Q ⟨some d, .call { callee := .value fo, args := as.toArray, argTypes := ats }, ty, pos, af, none⟩ K) :=
  o_yield (H := [r1, r2, r3, r4, r5]) hy hJ hr hk hf ha hd k
end
section
variable {P : Program} {n : Sz} {E : Ent} {I I' : IMap} {L : LL} {H : List Res} {Q : Exit → Act → World → Prop} {ops : Array Oper} {K : Act → World → Prop} {w0 : World}
variable {d ty : Nat} {pos : String} {af : Array Edge} {fo : Operand} {as : List Operand} {ats : Array TypeId} {f : FuncId} {args : List Value} {r : Res} {X : List Nat}
/-- a resource goes in, a value and grown memory come out -/
def FnD (P : Program) (f : FuncId) (args : Array Value) (I : IMap) (r : Res) (p : Value → IMap → Prop) : Prop := FnH P f args I [r] fun u I' H' => p u I' ∧ H' = []
theorem o_callD {p : Value → IMap → Prop} (hc : FnD P f args.toArray I r p) (h : callArgs L fo as = some (f, args)) (hd : Nat.blt d n.sz = true) (k : ∀ v I', ILe I I' → p v I' → SX n E I' ((d, v) :: L) H K) :
    SX n E I L (r :: H) (one P ops Q ⟨some d, .call { callee := .value fo, args := as.toArray, argTypes := ats }, ty, pos, af, none⟩ K) :=
  o_callH (Hc := [r]) hc h hd fun v I' H' hI hp => by obtain ⟨h1, rfl⟩ := hp; exact k v I' hI h1
theorem q_d {v : Value} {p : Value → IMap → Prop} (h : p v I) : SX n E I L H fun _ w => Post E (fun u' I' H' => p u' I' ∧ H' = []) (.returned v) w := q_i h
theorem q_it {α : Type} {J : Bool → List α → IMap → List Res → Prop} {full part : List α → Prop} {v : Value} (b : Bool) (pre : List α) (hJ : J b pre I H) (hf : if b then full pre else part pre) :
    SX n E I L H fun _ w => Post E (fun _ I' H' => ∃ b pre, J b pre I' H' ∧ (if b then full pre else part pre)) (.returned v) w := q_post (fun _ m => m) ⟨b, pre, hJ, hf⟩
end
section
variable {n : Sz} {E : Ent} {I : IMap} {L : LL} {H : List Res} {K : Act → World → Prop} {a b r1 r2 r3 r4 r5 r6 r7 r8 r9 : Res}
theorem sx_exp0 (h : SX n E I L [a, b] K) : SX n E I L (a :: b :: []) K := h
theorem sx_app0 (h : SX n E I L (a :: H) K) : SX n E I L (a :: ([] ++ H)) K := h
theorem sx_exp1 (h : SX n E I L [a, b, r1] K) : SX n E I L (a :: b :: [r1]) K := h
theorem sx_app1 (h : SX n E I L (a :: r1 :: H) K) : SX n E I L (a :: ([r1] ++ H)) K := h
theorem sx_exp2 (h : SX n E I L [a, b, r1, r2] K) : SX n E I L (a :: b :: [r1, r2]) K := h
theorem sx_app2 (h : SX n E I L (a :: r1 :: r2 :: H) K) : SX n E I L (a :: ([r1, r2] ++ H)) K := h
theorem sx_exp3 (h : SX n E I L [a, b, r1, r2, r3] K) : SX n E I L (a :: b :: [r1, r2, r3]) K := h
theorem sx_app3 (h : SX n E I L (a :: r1 :: r2 :: r3 :: H) K) : SX n E I L (a :: ([r1, r2, r3] ++ H)) K := h
theorem sx_exp4 (h : SX n E I L [a, b, r1, r2, r3, r4] K) : SX n E I L (a :: b :: [r1, r2, r3, r4]) K := h
theorem sx_app4 (h : SX n E I L (a :: r1 :: r2 :: r3 :: r4 :: H) K) : SX n E I L (a :: ([r1, r2, r3, r4] ++ H)) K := h
theorem sx_exp5 (h : SX n E I L [a, b, r1, r2, r3, r4, r5] K) : SX n E I L (a :: b :: [r1, r2, r3, r4, r5]) K := h
theorem sx_app5 (h : SX n E I L (a :: r1 :: r2 :: r3 :: r4 :: r5 :: H) K) : SX n E I L (a :: ([r1, r2, r3, r4, r5] ++ H)) K := h
theorem sx_exp6 (h : SX n E I L [a, b, r1, r2, r3, r4, r5, r6] K) : SX n E I L (a :: b :: [r1, r2, r3, r4, r5, r6]) K := h
theorem sx_app6 (h : SX n E I L (a :: r1 :: r2 :: r3 :: r4 :: r5 :: r6 :: H) K) : SX n E I L (a :: ([r1, r2, r3, r4, r5, r6] ++ H)) K := h
theorem sx_exp7 (h : SX n E I L [a, b, r1, r2, r3, r4, r5, r6, r7] K) : SX n E I L (a :: b :: [r1, r2, r3, r4, r5, r6, r7]) K := h
theorem sx_app7 (h : SX n E I L (a :: r1 :: r2 :: r3 :: r4 :: r5 :: r6 :: r7 :: H) K) : SX n E I L (a :: ([r1, r2, r3, r4, r5, r6, r7] ++ H)) K := h
theorem sx_exp8 (h : SX n E I L [a, b, r1, r2, r3, r4, r5, r6, r7, r8] K) : SX n E I L (a :: b :: [r1, r2, r3, r4, r5, r6, r7, r8]) K := h
theorem sx_app8 (h : SX n E I L (a :: r1 :: r2 :: r3 :: r4 :: r5 :: r6 :: r7 :: r8 :: H) K) : SX n E I L (a :: ([r1, r2, r3, r4, r5, r6, r7, r8] ++ H)) K := h
theorem sx_exp9 (h : SX n E I L [a, b, r1, r2, r3, r4, r5, r6, r7, r8, r9] K) : SX n E I L (a :: b :: [r1, r2, r3, r4, r5, r6, r7, r8, r9]) K := h
theorem sx_app9 (h : SX n E I L (a :: r1 :: r2 :: r3 :: r4 :: r5 :: r6 :: r7 :: r8 :: r9 :: H) K) : SX n E I L (a :: ([r1, r2, r3, r4, r5, r6, r7, r8, r9] ++ H)) K := h
end
theorem sx_roweq {n : Sz} {E : Ent} {I : IMap} {L : LL} {H : List Res} {K : Act → World → Prop} {v : Value} {t k m : Nat} {xs ys : List Value} (h : xs = ys) (hk : SX n E I L (.row v t k m ys :: H) K) : SX n E I L (.row v t k m xs :: H) K := h ▸ hk
section
variable {P : Program} {n : Sz} {E : Ent} {I : IMap} {L : LL} {H : List Res} {d ty tx tyy : Nat} {pos : String} {af : Array Edge} {x y : Operand}
theorem v_rem {i j : Nat} (hx : ev L x = some (.int .i64 ((i : Nat) : Int))) (hy : ev L y = some (.int .i64 ((j : Nat) : Int))) (hj : 0 < j) (hb : i ≤ 9223372036854775807) : OV P n E I L H ⟨some d, .binOp .rem tx x y tyy, ty, pos, af, none⟩ (.int .i64 ((i % j : Nat) : Int)) := fun a w s _ => by
  have h1 : (j : Int) ≠ 0 := by omega
  have h2 : Int.tmod (i : Int) (j : Int) = ((i % j : Nat) : Int) := by rw [Int.tmod_eq_emod_of_nonneg (by omega)]; simp
  have h3 : i % j ≤ i := Nat.mod_le _ _
  simp only [execOp, s.ev hx, s.ev hy, eqGuard_at_int, binOp_rem, Op.intDiv, Sem.run_bind]
  simp [h1, h2]
  intro h0
  omega
end
end Go.Sx
