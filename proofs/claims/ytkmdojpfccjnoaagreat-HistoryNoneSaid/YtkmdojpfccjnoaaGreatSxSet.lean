/- A row of a list: one element is written. -/
import Derived.Test.YtkmdojpfccjnoaaGreatSxRow2
import Derived.Scope
set_option linter.all false
namespace Go.Sx
open Go
section
variable {P : Program} {n : Sz} {E : Ent} {I : IMap} {L : LL} {H : List Res} {K : Act → World → Prop}
variable {α : Type} [Enc α]
theorem sx_rowF {v : Value} {e k m : Nat} {xs : List Value} {l : List α} (hF : Flat I xs l) (hk : k = Enc.k α) (hm : m = l.length) (h0 : 0 < l.length)
    (h : ∀ g cap rest xss, v = .slice (some ⟨g, 0, none⟩) m cap → FlatC I xss l → Uk k rest → m + rest.length = cap → cap ≤ maxLen → SX n E I L (.blk g e (xss ++ rest).flatten :: H) K) : SX n E I L (.row v e k m xs :: H) K := by
  obtain ⟨xss, rfl, hC⟩ := FlatC.of hF
  refine sx_row (xss := xss) (m := m) (by rw [hk]; exact hC.uk) (by rw [hC.len, hm]) (fun h1 _ => absurd h1 (by omega)) (fun g cap rest hv hR hc hl => h g cap rest xss hv hC hR hc hl)
theorem sx_unrowF {g e k m cap i : Nat} {xss rest : List (List Value)} {c : List Value} {l : List α} (x : α) (hC : FlatC I xss l) (hR : Uk k rest) (hk : k = Enc.k α) (hm : m = l.length) (hi : i < l.length) (hc : m + rest.length = cap) (hl : cap ≤ maxLen) (hx : Enc.rd I c x)
    (h : ∀ ws, Flat I ws (l.set i x) → SX n E I L (.row (.slice (some ⟨g, 0, none⟩) m cap) e k m ws :: H) K) : SX n E I L (.blk g e ((xss ++ rest).set i c).flatten :: H) K := by
  have hlen : i < xss.length := by rw [hC.len]; exact hi
  rw [List.set_append_left _ _ hlen]
  have hC' := hC.set hx i
  refine sx_unrow (by rw [hk]; exact hC'.uk) hR (by rw [hC'.len, List.length_set, hm]) hc hl (h _ hC'.flat)
end
section
variable {α : Type} [Enc α] {I : IMap} {A : Option Addr} {m c : Nat} {l : List α}
theorem RdS.toA (h : RdS I (.slice A m c) l) : RdA I A l := by
  obtain ⟨_, _, e, h, _⟩ := h
  injection e with e1 e2 e3
  subst e1; exact h
theorem RdS.eqL (h : RdS I (.slice A m c) l) : m = l.length ∧ m ≤ c ∧ c ≤ 9223372036854775807 := by
  obtain ⟨_, _, e, _, h1, h2⟩ := h
  injection e with e1 e2 e3
  subst e3; exact ⟨e2, by omega, h2⟩
theorem RdS.takeM (h : RdS I (.slice A m c) l) (q : Nat) (hq : q ≤ l.length) : RdS I (.slice A q c) (l.take q) := by
  obtain rfl := h.eqL.1; exact h.take q hq
theorem RdS.dropM (h : RdS I (.slice A m c) l) (q : Nat) (hq : q ≤ l.length) : RdS I (.slice (cutA A c q (Enc.k α)) (m - q) (c - q)) (l.drop q) := by
  obtain rfl := h.eqL.1; exact h.drop q hq
theorem RdS.midM (h : RdS I (.slice A m c) l) (q r : Nat) (hq : q ≤ r) (hr : r ≤ l.length) : RdS I (.slice (cutA A c q (Enc.k α)) (r - q) (c - q)) ((l.take r).drop q) := by
  obtain rfl := h.eqL.1; exact h.mid q r hq hr
end
/-! a scope through which the run goes without a jump -/
section
variable {P : Program} {b : Frame} {a : Act} {k : List Item} {cs : List Frame} {w : World} {Q : Exit → Act → World → Prop} {F : Fence}
theorem stepR_scope {c : Code} : step P (lone (b.atR a (.code (.scope c) :: k)) cs w) = .next (lone (b.atR a (.code c :: .inScope c :: k)) cs w) :=
  step_lone_go (by simp [stepG, stepG.exec, Frame.atR])
theorem stepR_inScope {c : Code} : step P (lone (b.atR a (.inScope c :: k)) cs w) = .next (lone (b.atR a k) cs w) :=
  step_lone_go (by simp [stepG, stepG.exec, Frame.atR])
theorem wpIn_scope {n : Nat} {c : Code} (h : c.wpIn F n P (Exit.noGoto Q) a w) : (Code.scope c).wpIn F n P Q a w := by
  intro b k cs hro hb hr
  have h0 : (lone (b.atR a (.code (.scope c) :: k)) cs w).fenced P F := fenced_calm hb hr rfl
  obtain ⟨e, a₁, w₁, hq, harr⟩ := h b (.inScope c :: k) cs hro hb hr
  cases e with
  | normal => exact ⟨.normal, a₁, w₁, hq, .head h0 stepR_scope (StepsIn.trans harr (.one (fenced_calm hb hr rfl) stepR_inScope))⟩
  | exit id =>
    have hx : exitTo id (.inScope c :: k) = exitTo id k := by simp [exitTo]
    exact ⟨.exit id, a₁, w₁, hq, fun k' hk => .head h0 stepR_scope (harr.1 k' (by rw [hx]; exact hk)),
      fun hr' hk => let ⟨k₁, h1, h2⟩ := harr.2 hr' (by rw [hx]; exact hk); ⟨k₁, h1, .head h0 stepR_scope h2⟩⟩
  | goto l => exact hq.elim
  | ret => exact ⟨_, a₁, w₁, hq, .of_steps (.one h0 stepR_scope) harr⟩
  | panic ch => exact ⟨_, a₁, w₁, hq, .of_steps (.one h0 stepR_scope) harr⟩
  | outgrown => exact ⟨_, a₁, w₁, hq, .of_steps (.one h0 stepR_scope) harr⟩
end
section
variable {P : Program} {ρ : Option Nat} {n : Sz} {E : Ent} {I : IMap} {L : LL} {H : List Res} {Q : Exit → Act → World → Prop}
theorem c_scope {c : Code} (h : SX n E I L H (c.wq ρ P (Exit.noGoto Q))) : SX n E I L H ((Code.scope c).wq ρ P Q) := fun a w s m => wpIn_scope (h a w s m)
theorem c_label {l : Nat} (h : SX n E I L H (Q .normal)) : SX n E I L H ((Code.label l).wq ρ P Q) := fun a w s m => wpIn_label (h a w s m)
theorem q_ng (h : SX n E I L H (Q .normal)) : SX n E I L H (Exit.noGoto Q .normal) := h
theorem q_ng_ret (h : SX n E I L H (Q .ret)) : SX n E I L H (Exit.noGoto Q .ret) := h
theorem q_ng_exit {id : Nat} (h : SX n E I L H (Q (.exit id))) : SX n E I L H (Exit.noGoto Q (.exit id)) := h
end
end Go.Sx
