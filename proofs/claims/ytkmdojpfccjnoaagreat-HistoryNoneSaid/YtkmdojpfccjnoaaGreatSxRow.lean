/- Rows of the call's own: lent to a callee, added to. -/
import Derived.Test.YtkmdojpfccjnoaaGreatSxMore
set_option linter.all false
namespace Go.Sx
open Go
section
variable {P : Program} {ρ : Option Nat} {n : Sz} {E : Ent} {I : IMap} {L : LL} {H : List Res} {Q : Exit → Act → World → Prop} {ops : Array Oper} {K : Act → World → Prop}
variable {d ty : Nat} {pos : String} {af : Array Edge} {x y z : Operand}
theorem RdS.of_row {α : Type} [Enc α] {h : Option Nat → Option Obj} {I : IMap} {v : Value} {t k m : Nat} {xs : List Value} {l : List α} (hk : k = Enc.k α) (hm : m = l.length) (hF : Flat I xs l) (hr : IsRow h v t k m xs)
    {I' : IMap} (hI : ILe I I') (hB : ∀ g o, blockOf v = some g → h (some g) = some o → I' g = some o) : RdS I' v l := by
  obtain ⟨h1, h2⟩ := hr
  subst hk hm
  rcases h2 with ⟨rfl, h0⟩ | ⟨g, cap, cur, rfl, hh, hn, h4, hl, h3⟩
  · have : l = [] := List.eq_nil_of_length_eq_zero h0
    subst this
    exact RdS.nil'
  · have hp := hB g _ rfl hh
    refine ⟨_, cap, rfl, fun _ => ⟨g, 0, rfl, fun i x hi => ?_⟩, hn, by unfold maxLen at h4; exact h4⟩
    obtain ⟨vs, g1, g2⟩ := hF.at_ i x hi
    refine ⟨vs, fun j u hu => ⟨_, t, (0, 0), hp, ?_⟩, Enc.mono hI g1⟩
    have h5 := g2 j u hu
    rw [Nat.zero_add]
    rw [← h3, List.getElem?_take] at h5
    split at h5
    · simpa using h5
    · cases h5
/-- a call that is only lent a row: it reads it, and gives a value -/
theorem o_lendV {α : Type} [Enc α] {rv v : Value} {t k m : Nat} {xs : List Value} {l : List α} {fo : Operand} {as : List Operand} {ats : Array TypeId} {f : FuncId} {args : List Value}
    (hm : Res.row rv t k m xs ∈ H) (hk : k = Enc.k α) (hml : m = l.length) (hF : Flat I xs l)
    (hc : ∀ I2, ILe I I2 → RdS I2 rv l → FnV P f args.toArray I2 v) (h : callArgs L fo as = some (f, args)) (hd : Nat.blt d n.sz = true)
    (kk : SX n E I ((d, v) :: L) H K) :
    SX n E I L H (one P ops Q ⟨some d, .call { callee := .value fo, args := as.toArray, argTypes := ats }, ty, pos, af, none⟩ K) := by
  intro a w s mm
  have hrow : IsRow (look' w) rv t k m xs := mm.holds _ hm
  let I2 : IMap := fun b => if blockOf rv = some b then w.heap[b]? else I b
  have hle : ILe I I2 := fun b o hb => by
    show (if blockOf rv = some b then w.heap[b]? else I b) = some o
    split
    · exact mm.con b o hb
    · exact hb
  have hR : RdS I2 rv l := RdS.of_row hk hml hF hrow hle fun g o hg ho => by
    show (if blockOf rv = some g then w.heap[g]? else I g) = some o
    rw [if_pos hg]; exact ho
  have m2 : Mem ⟨[], I2, w⟩ I2 [] w := ⟨Upd.refl _ _, fun b o hb => by
    have hb' : (if blockOf rv = some b then w.heap[b]? else I b) = some o := hb
    split at hb'
    · exact hb'
    · exact mm.con b o hb', ILe.refl _, fun b hb => .inl hb, fun _ h => (by cases h), fun _ h => (by cases h), List.nodup_nil⟩
  have back : ∀ w', Mem ⟨[], I2, w⟩ I2 [] w' → Mem E I H w' := fun w' m' =>
    mm.other m'.upd.os m'.upd.tape m'.upd.output m'.upd.size (fun k hk => m'.upd.block k hk (by simp))
  unfold one
  rw [if_pos (by rfl)]
  refine wq_after ?_
  have h1 := (hc I2 hle hR).go w m2
  unfold After at h1 ⊢
  rw [run_call s h ⟨some d, .call { callee := .value fo, args := as.toArray, argTypes := ats }, ty, pos, af, none⟩ rfl (ats := ats)]
  have key : ∀ e w'', Post ⟨[], I2, w⟩ (fun u I' H' => u = v ∧ I' = I2 ∧ H' = []) e w'' → (match e with | .returned v => K (a.put (some d) v) w'' | _ => False) := by
    rintro e w'' ⟨u, I', H', rfl, hm', rfl, rfl, rfl⟩
    exact kk _ _ (s.put hd) (back _ hm')
  split at h1
  · rename_i v w' hr; exact key _ _ h1
  · rename_i f' args' w' hr; exact Calls.mono h1 key
  · rename_i l f' tmps assign body w' hr; exact RoundIn.mono h1 key
  · exact h1.elim
/-- append(s, x..), x immutable -/
theorem o_appendR {α : Type} [Enc α] {tt e k nn bytes : Nat} {v u : Value} {zs xs : List Value} {l : List α} (hu : RdS I u l) (hk : k = Enc.k α) (he : P.underlying tt = some (.slice e)) (hb : bytesK P e = some (zs, k, bytes)) (hzs : zs.length = k) (hk0 : Nat.blt 0 k = true)
    (hx : ev L x = some v) (hy : ev L y = some u) (hroom : (nn + l.length) * bytes ≤ 140737488355328) (hlen : nn + l.length ≤ 9223372036854775807) (hd : Nat.blt d n.sz = true)
    (kk : ∀ v' news, Flat I news l → SX n E I ((d, v') :: L) (.row v' e k (nn + l.length) (xs ++ news) :: H) K) : SX n E I L (.row v e k nn xs :: H) (one P ops Q ⟨some d, .call { callee := .builtin .append, args := #[x, y], argTypes := #[tt, tt] }, ty, pos, af, none⟩ K) := by
  obtain ⟨A, c, rfl, hA, hlc, hcm⟩ := hu
  subst hk
  rcases Nat.eq_zero_or_pos l.length with h0 | hpos
  · obtain rfl : l = [] := List.eq_nil_of_length_eq_zero h0
    exact o_append (news := []) he hb hzs hk0 hx hy (by simp) rfl (fun h => absurd h (by simp)) hroom hlen hd fun v' => kk v' [] .nil
  · obtain ⟨b, o, rfl, hcell⟩ := hA hpos
    obtain ⟨ws, hws, hic⟩ := Flat.of_rd l o hcell
    exact o_append (news := ws) he hb hzs hk0 hx hy hws.len hws.all (fun _ => ⟨b, o, rfl, fun w mm j u hu => (hic j u hu).at_ mm.con⟩) hroom hlen hd fun v' => kk v' ws hws
end
section
variable {P : Program} {ρ : Option Nat} {n : Sz} {E : Ent} {I : IMap} {L : LL} {H : List Res} {Q : Exit → Act → World → Prop} {ops : Array Oper} {K : Act → World → Prop}
variable {α β γ : Type} {d ty : Nat} {pos : String} {af : Array Edge} {x y z : Operand}
def NextS2 (n : Sz) (E : Ent) (Ix : α → β → IMap) (Lx : α → β → LL) (Hx : α → β → List Res) (p : α → β → Prop) (μ : α → β → Nat) (x : α) (y : β) : Act → World → Prop :=
  NextS n E (fun q : α × β => Ix q.1 q.2) (fun q => Lx q.1 q.2) (fun q => Hx q.1 q.2) (fun q => p q.1 q.2) (fun q => μ q.1 q.2) (x, y)
def NextS3 (n : Sz) (E : Ent) (Ix : α → β → γ → IMap) (Lx : α → β → γ → LL) (Hx : α → β → γ → List Res) (p : α → β → γ → Prop) (μ : α → β → γ → Nat) (x : α) (y : β) (z : γ) : Act → World → Prop :=
  NextS n E (fun q : α × β × γ => Ix q.1 q.2.1 q.2.2) (fun q => Lx q.1 q.2.1 q.2.2) (fun q => Hx q.1 q.2.1 q.2.2) (fun q => p q.1 q.2.1 q.2.2) (fun q => μ q.1 q.2.1 q.2.2) (x, y, z)
theorem c_loop2 (x0 : α) (y0 : β) (Ix : α → β → IMap) (Lx : α → β → LL) (Hx : α → β → List Res) (p : α → β → Prop) (μ : α → β → Nat) {c : Code}
    (h0 : p x0 y0) (hI : Ix x0 y0 = I) (hL : Sub (Lx x0 y0) L) (hH : Hx x0 y0 = H)
    (round : ∀ x y, p x y → SX n E (Ix x y) (Lx x y) (Hx x y) (c.wq ρ P (Exit.then (NextS2 n E Ix Lx Hx p μ x y) Q))) : SX n E I L H ((Code.loop c).wq ρ P Q) :=
  c_loop (α := α × β) (x0, y0) _ _ _ (fun q => p q.1 q.2) (fun q => μ q.1 q.2) h0 hI hL hH fun q hq => round q.1 q.2 hq
theorem q_next2 {Ix : α → β → IMap} {Lx : α → β → LL} {Hx : α → β → List Res} {p : α → β → Prop} {μ : α → β → Nat} {x : α} {y : β} (x' : α) (y' : β) (hp : p x' y') (hμ : μ x' y' < μ x y)
    (hI : Ix x' y' = I) (hL : Sub (Lx x' y') L) (hH : Hx x' y' = H) : SX n E I L H (NextS2 n E Ix Lx Hx p μ x y) :=
  q_next (α := α × β) (x', y') hp hμ hI hL hH
theorem c_loop3 (x0 : α) (y0 : β) (z0 : γ) (Ix : α → β → γ → IMap) (Lx : α → β → γ → LL) (Hx : α → β → γ → List Res) (p : α → β → γ → Prop) (μ : α → β → γ → Nat) {c : Code}
    (h0 : p x0 y0 z0) (hI : Ix x0 y0 z0 = I) (hL : Sub (Lx x0 y0 z0) L) (hH : Hx x0 y0 z0 = H)
    (round : ∀ x y z, p x y z → SX n E (Ix x y z) (Lx x y z) (Hx x y z) (c.wq ρ P (Exit.then (NextS3 n E Ix Lx Hx p μ x y z) Q))) : SX n E I L H ((Code.loop c).wq ρ P Q) :=
  c_loop (α := α × β × γ) (x0, y0, z0) _ _ _ (fun q => p q.1 q.2.1 q.2.2) (fun q => μ q.1 q.2.1 q.2.2) h0 hI hL hH fun q hq => round q.1 q.2.1 q.2.2 hq
theorem q_next3 {Ix : α → β → γ → IMap} {Lx : α → β → γ → LL} {Hx : α → β → γ → List Res} {p : α → β → γ → Prop} {μ : α → β → γ → Nat} {x : α} {y : β} {z : γ} (x' : α) (y' : β) (z' : γ) (hp : p x' y' z') (hμ : μ x' y' z' < μ x y z)
    (hI : Ix x' y' z' = I) (hL : Sub (Lx x' y' z') L) (hH : Hx x' y' z' = H) : SX n E I L H (NextS3 n E Ix Lx Hx p μ x y z) :=
  q_next (α := α × β × γ) (x', y', z') hp hμ hI hL hH
/-- append(s, x..), both rows of the call's own -/
theorem o_appendO {tt e k nn m bytes : Nat} {v u : Value} {zs xs ys : List Value} (he : P.underlying tt = some (.slice e)) (hb : bytesK P e = some (zs, k, bytes)) (hzs : zs.length = k) (hk0 : Nat.blt 0 k = true) (h1 : ys.all (·.oneCell') = true)
    (hx : ev L x = some v) (hy : ev L y = some u) (hroom : (nn + m) * bytes ≤ 140737488355328) (hlen : nn + m ≤ 9223372036854775807) (hd : Nat.blt d n.sz = true)
    (kk : ∀ v', SX n E I ((d, v') :: L) (.row v' e k (nn + m) (xs ++ ys) :: .row u e k m ys :: H) K) : SX n E I L (.row v e k nn xs :: .row u e k m ys :: H) (one P ops Q ⟨some d, .call { callee := .builtin .append, args := #[x, y], argTypes := #[tt, tt] }, ty, pos, af, none⟩ K) := by
  refine sx_know (p := ∃ h, IsRow h u e k m ys) (fun w mm => ⟨_, mm.holds _ (List.mem_cons_of_mem _ (List.mem_cons_self ..))⟩) fun ⟨h, hr⟩ => ?_
  obtain ⟨hl, hr⟩ := hr
  rcases hr with ⟨rfl, rfl⟩ | ⟨g, cap, cur, rfl, _⟩
  · exact o_append (news := ys) he hb hzs hk0 hx hy hl h1 (fun h => absurd h (by simp)) hroom hlen hd kk
  · refine o_append (news := ys) he hb hzs hk0 hx hy hl h1 (fun _ => ⟨g, 0, rfl, fun w mm j u hu => ?_⟩) hroom hlen hd kk
    obtain ⟨_, h2⟩ := mm.holds (.row (.slice (some ⟨g, 0, none⟩) m cap) e k m ys) (List.mem_cons_of_mem _ (List.mem_cons_self ..))
    rcases h2 with ⟨h2, _⟩ | ⟨g', cap', cur', h2, h3, _, _, _, h4⟩
    · cases h2
    · cases h2
      rw [Nat.zero_add]
      have h5 : w.heap[g]? = some (.cells cur' e (0, 0)) := h3
      rw [cell_of_row w g j cur' e _ h5]
      rw [← h4, List.getElem?_take] at hu
      split at hu
      · simpa using hu
      · cases hu
end
theorem RdS.lenLe {α : Type} [Enc α] {I : IMap} {v : Value} {l : List α} (h : RdS I v l) : l.length ≤ 9223372036854775807 := by obtain ⟨A, c, _, _, h1, h2⟩ := h; omega
end Go.Sx
