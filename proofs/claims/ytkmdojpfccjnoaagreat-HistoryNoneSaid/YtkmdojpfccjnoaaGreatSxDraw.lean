/- Regions that draw their order: what reads and computes is taken first, whatever the order; the loud operations are gone through one by one. -/
import Derived.Test.YtkmdojpfccjnoaaGreatSxData
set_option linter.all false
namespace Go.Sx
open Go

/-- only the normal end -/
def NQ (Q : Exit → Act → World → Prop) : Exit → Act → World → Prop
  | .normal => Q .normal
  | _ => fun _ _ => False

/-- the i-th operation of a region -/
def wpO (P : Program) (ops : Array Oper) (Q : Exit → Act → World → Prop) (i : Nat) (K : Act → World → Prop) (a : Act) (w : World) : Prop :=
  match ops[i]? with
  | none => K a w
  | some o => one P ops Q o K a w
/-- every order, a fact C on the world being kept -/
def wpAnyC (P : Program) (ops : Array Oper) (Q : Exit → Act → World → Prop) (C : World → Prop) : Nat → Array Bool → Act → World → Prop
  | 0, listed, a, w => Region.ready .any ops listed = [] ∧ Q .normal a w
  | fuel + 1, listed, a, w =>
    (Region.ready .any ops listed = [] → Q .normal a w) ∧
    ∀ i ∈ Region.ready .any ops listed, wpO P ops Q i (fun a' w' => C w' ∧ wpAnyC P ops Q C fuel (listed.setIfInBounds i true) a' w') a w

section
variable {P : Program} {ops : Array Oper} {Q : Exit → Act → World → Prop} {C : World → Prop} {ρ : Option Nat}

theorem wpO_mono {i : Nat} {K K' : Act → World → Prop} {a : Act} {w : World} (hk : ∀ a w, K a w → K' a w) (h : wpO P ops Q i K a w) : wpO P ops Q i K' a w := by
  unfold wpO at *
  split
  · rename_i hn; rw [hn] at h; exact hk _ _ h
  · rename_i o ho; rw [ho] at h; exact one_mono hk h
theorem wpO_in {i : Nat} {K : Act → World → Prop} {a : Act} {w : World} (h : wpO P ops (NQ Q) i K a w) : wpOpIn (fen ρ) 0 P ops Q i K a w := by
  unfold wpO at h
  unfold wpOpIn
  split
  · rename_i hn; rw [hn] at h; exact h
  · rename_i o ho
    rw [ho] at h
    have h : one P ops (NQ Q) o K a w := h
    unfold one at h
    split
    · rename_i hw; rw [if_pos hw] at h; exact wq_wpIn h
    · rename_i hw; rw [if_neg hw] at h; exact ⟨fun _ _ => trivial, h⟩
theorem wpAnyC_any : ∀ (fuel : Nat) (listed : Array Bool) (a : Act) (w : World), wpAnyC P ops (NQ Q) C fuel listed a w → wpAnyIn (fen ρ) 0 P .any ops Q fuel listed a w := by
  intro fuel
  induction fuel with
  | zero => intro listed a w h; exact h
  | succ fuel ih =>
    intro listed a w ⟨h0, h1⟩
    exact ⟨h0, fun i hi => wpO_in (wpO_mono (fun a w h => ih _ a w h.2) (h1 i hi))⟩

/-- the operation yields v wherever C holds -/
def YieldsC (P : Program) (ops : Array Oper) (C : World → Prop) (o : Oper) (v : Value) (a : Act) : Prop :=
  (Region.wanted o (yielded ops a.tmps) = true ∧ ∀ w, C w → (execOp a.eval o).run P w = .ok (.value v) w) ∨
  (Region.wanted o (yielded ops a.tmps) = false ∧ v = undef)
theorem YieldsC.wpO {i : Nat} {o : Oper} {v : Value} {a : Act} (hi : ops[i]? = some o) (hy : YieldsC P ops C o v a) {K : Act → World → Prop} {w : World} (hc : C w) (h : K (a.put o.dst v) w) : wpO P ops Q i K a w := by
  unfold Sx.wpO
  simp only [hi]
  unfold one
  rcases hy with ⟨hw, hv⟩ | ⟨hw, rfl⟩
  · rw [if_pos hw, wq_value (hv w hc)]; exact h
  · rw [if_neg (by rw [hw]; decide)]; exact h
theorem YieldsC.of_same {o : Oper} {v : Value} {a a' : Act} (hy : YieldsC P ops C o v a) (he : execOp a'.eval o = execOp a.eval o)
    (hw : Region.wanted o (yielded ops a'.tmps) = Region.wanted o (yielded ops a.tmps)) : YieldsC P ops C o v a' := by
  unfold YieldsC at *
  rw [he, hw]
  exact hy
theorem wpO_putC {j : Nat} {oi oj : Oper} {v : Value} (hj : ops[j]? = some oj) (hap : oi.apart ops oj = true)
    (hsi : ∀ cs b, oi.op ≠ .select cs b) (hsj : ∀ cs b, oj.op ≠ .select cs b) {K : Act → World → Prop} {a : Act} {w : World}
    (hy : YieldsC P ops C oi v a) (h : wpO P ops (NQ Q) j K (a.put oi.dst v) w) :
    wpO P ops (NQ Q) j (fun a' w' => YieldsC P ops C oi v a' ∧ K (a'.put oi.dst v) w') a w := by
  obtain ⟨h1, h2, h3⟩ := Oper.apart_spec hap
  have keep : ∀ (a : Act), YieldsC P ops C oi v a → ∀ u, YieldsC P ops C oi v (a.put oj.dst u) := fun a hy u =>
    hy.of_same (execOp_put oi hsi a oj.dst u h3) (wanted_put oi a oj.dst u h3)
  unfold wpO at *
  simp only [hj] at *
  unfold one at *
  rw [wanted_put oj a oi.dst v h1] at h
  split
  · rename_i hw
    rw [if_pos hw] at h
    unfold Oper.wq at *
    rw [execOp_put oj hsj a oi.dst v h1] at h
    split
    · rename_i w' hr
      rw [hr] at h
      exact ⟨keep a hy _, by rw [← Act.put_comm a v undef h2]; exact h⟩
    · rename_i hn
      split at h
      · rename_i w' hr; exact absurd hr (hn w')
      · refine After.mono h fun e w'' he => ?_
        cases e with
        | returned u => exact ⟨keep a hy u, by rw [← Act.put_comm a v u h2]; exact he⟩
        | panicked c => exact he
        | outgrown => exact he
  · rename_i hw
    rw [if_neg hw] at h
    exact ⟨keep a hy _, by rw [← Act.put_comm a v undef h2]; exact h⟩

/-- nothing that is still to come, but for what waits for i, touches what i reads or writes -/
def apartAll (ops : Array Oper) (listed : Array Bool) (i : Nat) : Bool :=
  match ops[i]? with
  | none => false
  | some oi => (List.range ops.size).all fun j => j == i || listed.getD j true || (match ops[j]? with
    | none => true
    | some oj => (oj.after.any fun e => Region.binds .any e && e.on == i) || oi.apart ops oj)
def noSelect (ops : Array Oper) : Bool := ops.all fun o => match o.op with | .select _ _ => false | _ => true
theorem noSelect_spec (h : noSelect ops = true) (j : Nat) (o : Oper) (cs : Array SelectCase) (b : Bool) (hj : ops[j]? = some o) : o.op ≠ .select cs b := by
  intro e
  unfold noSelect at h
  rw [Array.all_eq_true_iff_forall_mem] at h
  have := h o (Array.mem_of_getElem? hj)
  simp [e] at this

theorem wpAnyC_first {i : Nat} {oi : Oper} {v : Value} (hi : ops[i]? = some oi) (hsel : noSelect ops = true) :
    ∀ (fuel : Nat) (listed : Array Bool) (a : Act) (w : World), apartAll ops listed i = true → i ∈ Region.ready .any ops listed → YieldsC P ops C oi v a → C w →
      wpAnyC P ops (NQ Q) C fuel (listed.setIfInBounds i true) (a.put oi.dst v) w → wpAnyC P ops (NQ Q) C (fuel + 1) listed a w := by
  have hS := noSelect_spec hsel
  intro fuel
  induction fuel with
  | zero =>
    intro listed a w hap hr hy hc h
    obtain ⟨hnil, hq⟩ := h
    refine ⟨fun e => (by rw [e] at hr; cases hr), fun j hj => ?_⟩
    by_cases hji : j = i
    · subst hji
      exact hy.wpO hi hc ⟨hc, hnil, hq⟩
    · have := ready_mono hj hji
      rw [hnil] at this
      cases this
  | succ fuel ih =>
    intro listed a w hap hr hy hc h
    refine ⟨fun e => (by rw [e] at hr; cases hr), fun j hj => ?_⟩
    by_cases hji : j = i
    · subst hji
      exact hy.wpO hi hc ⟨hc, h⟩
    · have hj' := ready_mono hj hji
      have hj0 := mem_ready.1 hj
      obtain ⟨hl, oj, hoj, hall⟩ := hj0
      have hapj : oi.apart ops oj = true := by
        unfold apartAll at hap
        simp only [hi] at hap
        have hlt : j < ops.size := (Array.getElem?_eq_some_iff.1 hoj).1
        have := List.all_eq_true.1 hap j (List.mem_range.2 hlt)
        simp only [hoj, Bool.or_eq_true, beq_iff_eq, hji, false_or, hl, Bool.false_eq_true] at this
        rcases this with h | h
        · exfalso
          rw [Array.any_eq_true] at h
          obtain ⟨k, hk, he⟩ := h
          simp only [Bool.and_eq_true, beq_iff_eq] at he
          have h1 := hall _ (Array.getElem_mem hk) he.1
          rw [he.2] at h1
          have h2 := (mem_ready.1 hr).1
          have : listed.getD i false = listed.getD i true := by
            simp only [Array.getD_eq_getD_getElem?] at h1 h2 ⊢
            cases hh : listed[i]? with
            | none => rw [hh] at h2; simp at h2
            | some b => simp
          rw [this, h2] at h1
          cases h1
        · exact h
      have hstep := h.2 j hj'
      refine wpO_mono ?_ (wpO_putC hoj hapj (fun cs b => hS i oi cs b hi) (fun cs b => hS j oj cs b hoj) hy hstep)
      intro a' w' ⟨hy', hc', hw'⟩
      refine ⟨hc', ih (listed.setIfInBounds j true) a' w' ?_ (ready_mono hr (Ne.symm hji)) hy' hc' ?_⟩
      · unfold apartAll at hap ⊢
        simp only [hi] at hap ⊢
        rw [List.all_eq_true] at hap ⊢
        intro k hk
        have := hap k hk
        simp only [Bool.or_eq_true] at this ⊢
        rcases this with (h | h) | h
        · exact .inl (.inl h)
        · refine .inl (.inr ?_)
          by_cases hkj : j = k
          · subst hkj; rw [hl] at h; cases h
          · rw [getD_set_ne true hkj]; exact h
        · exact .inr h
      · rw [Array.setIfInBounds_comm _ _ hji]
        exact hw'
end

section
variable {P : Program} {ρ : Option Nat} {n : Sz} {E : Ent} {I : IMap} {L : LL} {H F : List Res} {Q : Exit → Act → World → Prop} {ops : Array Oper} {l : List Oper} {fuel : Nat} {listed : Array Bool}
/-- what the reads rest on: the memory I, the private blocks F -/
def Keeps (E : Ent) (I : IMap) (F : List Res) (w : World) : Prop := Mem E I F w

theorem d_start (F : List Res) {id : Nat} (hm : P.follows .mixedOrders = true)
    (h : SX n E I L H (wpAnyC P l.toArray (NQ Q) (Keeps E I F) l.length (Array.replicate l.length false))) : SX n E I L H ((Code.region id l.toArray true).wq ρ P Q) := fun a w s m =>
  wpIn_region_any hm (wpAnyC_any _ _ _ _ (by simpa using h a w.drew s m.drew))
theorem d_startH {id : Nat} (hm : P.follows .mixedOrders = true)
    (h : SX n E I L H (wpAnyC P l.toArray (NQ Q) (Keeps E I H) l.length (Array.replicate l.length false))) : SX n E I L H ((Code.region id l.toArray true).wq ρ P Q) := d_start H hm h
theorem d_start1 {r : Res} {id : Nat} (hm : P.follows .mixedOrders = true)
    (h : SX n E I L (r :: H) (wpAnyC P l.toArray (NQ Q) (Keeps E I H) l.length (Array.replicate l.length false))) : SX n E I L (r :: H) ((Code.region id l.toArray true).wq ρ P Q) := d_start H hm h
theorem d_start2 {r r2 : Res} {id : Nat} (hm : P.follows .mixedOrders = true)
    (h : SX n E I L (r :: r2 :: H) (wpAnyC P l.toArray (NQ Q) (Keeps E I H) l.length (Array.replicate l.length false))) : SX n E I L (r :: r2 :: H) ((Code.region id l.toArray true).wq ρ P Q) := d_start H hm h
theorem d_start3 {r r2 r3 : Res} {id : Nat} (hm : P.follows .mixedOrders = true)
    (h : SX n E I L (r :: r2 :: r3 :: H) (wpAnyC P l.toArray (NQ Q) (Keeps E I H) l.length (Array.replicate l.length false))) : SX n E I L (r :: r2 :: r3 :: H) ((Code.region id l.toArray true).wq ρ P Q) := d_start H hm h
theorem Mem.subs {E : Ent} {I : IMap} {H F : List Res} {w : World} (m : Mem E I H w) (hF : List.Sublist F H) : Mem E I F w :=
  ⟨m.upd, m.con, m.mono, m.fresh, fun r hr => m.holds r (hF.subset hr), fun r hr => m.priv r (hF.subset hr), m.dist.sublist (hF.filterMap _)⟩
/-- what only reads or computes is taken first -/
theorem d_takeC {I0 : IMap} {o : Oper} {d : Nat} {v : Value} (i : Nat) (hi : ops[i]? = some o) (hdst : o.dst = some d) (hsel : noSelect ops = true) (hap : apartAll ops listed i = true) (hr : (Region.ready .any ops listed).contains i = true) (hd : Nat.blt d n.sz = true)
    (hC : ∀ w, Mem E I H w → Keeps E I0 F w) (hv : ∀ a, St n a L → YieldsC P ops (Keeps E I0 F) o v a) (k : SX n E I ((d, v) :: L) H (wpAnyC P ops (NQ Q) (Keeps E I0 F) fuel (listed.setIfInBounds i true))) :
    SX n E I L H (wpAnyC P ops (NQ Q) (Keeps E I0 F) (fuel + 1) listed) := by
  intro a w s m
  refine wpAnyC_first (v := v) hi hsel fuel listed a w hap (by simpa using hr) (hv a s) (hC w m) ?_
  rw [hdst]
  exact k _ _ (s.put hd) m
theorem y_v {o : Oper} {v : Value} (hg : o.guard = none) (hv : OV P n E I L F o v) (a : Act) (s : St n a L) : YieldsC P ops (Keeps E I F) o v a :=
  .inl ⟨by simp [Region.wanted, hg], fun w' hw' => hv a w' s hw'⟩
theorem y_yes {dst : Option Nat} {op : Op} {ty : Nat} {pos : String} {af : Array Edge} {j t : Nat} {b c : Bool} {v : Value} (ht : (ops[j]?).bind (·.dst) = some t) (hb : look L t = some (.bool c)) (hc : c = b)
    (hv : OV P n E I L F ⟨dst, op, ty, pos, af, none⟩ v) (a : Act) (s : St n a L) : YieldsC P ops (Keeps E I F) ⟨dst, op, ty, pos, af, some (j, b)⟩ v a := by
  subst hc
  exact .inl ⟨by simp [Region.wanted, yielded, ht, s.get _ _ hb], fun w' hw' => hv a w' s hw'⟩
theorem y_no {C : World → Prop} {dst : Option Nat} {op : Op} {ty : Nat} {pos : String} {af : Array Edge} {j t : Nat} {b c : Bool} (ht : (ops[j]?).bind (·.dst) = some t) (hb : look L t = some (.bool c)) (hc : c = !b)
    (a : Act) (s : St n a L) : YieldsC P ops C ⟨dst, op, ty, pos, af, some (j, b)⟩ undef a := by
  subst hc
  exact .inr ⟨by simp [Region.wanted, yielded, ht, s.get _ _ hb], rfl⟩
def okC (ops : Array Oper) (listed : Array Bool) (i : Nat) : Bool := noSelect ops && (apartAll ops listed i && (Region.ready .any ops listed).contains i)
theorem d_t {I0 : IMap} {o : Oper} {d : Nat} {v : Value} (i : Nat) (hi : ops[i]? = some o) (hdst : o.dst = some d) (hk : okC ops listed i = true) (hd : Nat.blt d n.sz = true)
    (hC : ∀ w, Mem E I H w → Keeps E I0 F w) (hv : ∀ a, St n a L → YieldsC P ops (Keeps E I0 F) o v a) (k : SX n E I ((d, v) :: L) H (wpAnyC P ops (NQ Q) (Keeps E I0 F) fuel (listed.setIfInBounds i true))) :
    SX n E I L H (wpAnyC P ops (NQ Q) (Keeps E I0 F) (fuel + 1) listed) := by
  simp only [okC, Bool.and_eq_true] at hk
  exact d_takeC i hi hdst hk.1 hk.2.1 hk.2.2 hd hC hv k
theorem d_tv {o : Oper} {d : Nat} {v : Value} (i : Nat) (hi : ops[i]? = some o) (hdst : o.dst = some d) (hk : okC ops listed i = true) (hd : Nat.blt d n.sz = true) (hs : List.Sublist F H)
    (hg : o.guard = none) (hv : OV P n E I L F o v) (k : SX n E I ((d, v) :: L) H (wpAnyC P ops (NQ Q) (Keeps E I F) fuel (listed.setIfInBounds i true))) :
    SX n E I L H (wpAnyC P ops (NQ Q) (Keeps E I F) (fuel + 1) listed) :=
  d_t i hi hdst hk hd (fun _ m => Mem.subs m hs) (y_v hg hv) k
theorem y_nou {C : World → Prop} {dst : Option Nat} {op : Op} {ty : Nat} {pos : String} {af : Array Edge} {j t : Nat} {b : Bool} (ht : (ops[j]?).bind (·.dst) = some t) (hb : look L t = some undef)
    (a : Act) (s : St n a L) : YieldsC P ops C ⟨dst, op, ty, pos, af, some (j, b)⟩ undef a :=
  .inr ⟨by simp [Region.wanted, yielded, ht, s.get _ _ hb, undef], rfl⟩
theorem Mem.keeps {w : World} (m : Mem E I H w) (hF : List.Sublist F H) : Keeps E I F w := m.subs hF
theorem Mem.keepsI {I0 : IMap} {w : World} (m : Mem E I H w) (hF : List.Sublist F H) (hI : ILe I0 I) (hE : ILe E.I I0) (hf : ∀ b, I0 b ≠ Option.none → E.I b ≠ Option.none ∨ E.w.heap.size ≤ b ∨ b ∈ E.X) : Keeps E I0 F w := by
  have mF := m.subs hF
  refine ⟨mF.upd, fun b o hb => mF.con b o (hI b o hb), hE, hf, mF.holds, fun r hr g hg => ⟨?_, (mF.priv r hr g hg).2⟩, mF.dist⟩
  have := (mF.priv r hr g hg).1
  cases h : I0 g with
  | none => rfl
  | some o => rw [hI g o h] at this; cases this
/-- the one operation that can go on -/
theorem d_one {I0 : IMap} {o : Oper} (i : Nat) (hr : Region.ready .any ops listed = [i]) (hi : ops[i]? = some o)
    (k : SX n E I L H (one P ops (NQ Q) o fun a w => Keeps E I0 F w ∧ wpAnyC P ops (NQ Q) (Keeps E I0 F) fuel (listed.setIfInBounds i true) a w)) :
    SX n E I L H (wpAnyC P ops (NQ Q) (Keeps E I0 F) (fuel + 1) listed) := by
  intro a w s m
  refine ⟨fun e => (by rw [hr] at e; cases e), fun j hj => ?_⟩
  rw [hr] at hj
  obtain rfl : j = i := by simpa using hj
  have := k a w s m
  unfold wpO
  simp only [hi]
  exact this
theorem d_two {I0 : IMap} {o p : Oper} (i j : Nat) (hr : Region.ready .any ops listed = [i, j]) (hi : ops[i]? = some o) (hj : ops[j]? = some p)
    (k1 : SX n E I L H (one P ops (NQ Q) o fun a w => Keeps E I0 F w ∧ wpAnyC P ops (NQ Q) (Keeps E I0 F) fuel (listed.setIfInBounds i true) a w))
    (k2 : SX n E I L H (one P ops (NQ Q) p fun a w => Keeps E I0 F w ∧ wpAnyC P ops (NQ Q) (Keeps E I0 F) fuel (listed.setIfInBounds j true) a w)) :
    SX n E I L H (wpAnyC P ops (NQ Q) (Keeps E I0 F) (fuel + 1) listed) := by
  intro a w s m
  refine ⟨fun e => (by rw [hr] at e; cases e), fun q hq => ?_⟩
  rw [hr] at hq
  have h1 := k1 a w s m
  have h2 := k2 a w s m
  rcases List.mem_cons.1 hq with rfl | hq
  · unfold wpO; simp only [hi]; exact h1
  · obtain rfl : q = j := by simpa using hq
    unfold wpO; simp only [hj]; exact h2
theorem d_three {I0 : IMap} {o p q : Oper} (i j k : Nat) (hr : Region.ready .any ops listed = [i, j, k]) (hi : ops[i]? = some o) (hj : ops[j]? = some p) (hk : ops[k]? = some q)
    (k1 : SX n E I L H (one P ops (NQ Q) o fun a w => Keeps E I0 F w ∧ wpAnyC P ops (NQ Q) (Keeps E I0 F) fuel (listed.setIfInBounds i true) a w))
    (k2 : SX n E I L H (one P ops (NQ Q) p fun a w => Keeps E I0 F w ∧ wpAnyC P ops (NQ Q) (Keeps E I0 F) fuel (listed.setIfInBounds j true) a w))
    (k3 : SX n E I L H (one P ops (NQ Q) q fun a w => Keeps E I0 F w ∧ wpAnyC P ops (NQ Q) (Keeps E I0 F) fuel (listed.setIfInBounds k true) a w)) :
    SX n E I L H (wpAnyC P ops (NQ Q) (Keeps E I0 F) (fuel + 1) listed) := by
  intro a w s m
  refine ⟨fun e => (by rw [hr] at e; cases e), fun x hx => ?_⟩
  rw [hr] at hx
  have h1 := k1 a w s m
  have h2 := k2 a w s m
  have h3 := k3 a w s m
  rcases List.mem_cons.1 hx with rfl | hx
  · unfold wpO; simp only [hi]; exact h1
  · rcases List.mem_cons.1 hx with rfl | hx
    · unfold wpO; simp only [hj]; exact h2
    · obtain rfl : x = k := by simpa using hx
      unfold wpO; simp only [hk]; exact h3
/-- behind a loud operation: the reads still stand -/
theorem d_on {I0 : IMap} (hC : ∀ w, Mem E I H w → Keeps E I0 F w) {K : Act → World → Prop} (k : SX n E I L H K) :
    SX n E I L H (fun a w => Keeps E I0 F w ∧ K a w) := fun a w s m => ⟨hC w m, k a w s m⟩
theorem d_done {I0 : IMap} (hr : Region.ready .any ops listed = []) (k : SX n E I L H (Q .normal)) : SX n E I L H (wpAnyC P ops (NQ Q) (Keeps E I0 F) fuel listed) := by
  intro a w s m
  cases fuel with
  | zero => exact ⟨hr, k a w s m⟩
  | succ f => exact ⟨fun _ => k a w s m, fun i hi => by rw [hr] at hi; cases hi⟩
/-- what a memory has is known where a region begins -/
theorem sx_knowI {K : Act → World → Prop} (h : ILe E.I I → (∀ b, I b ≠ none → E.I b ≠ none ∨ E.w.heap.size ≤ b ∨ b ∈ E.X) → SX n E I L H K) : SX n E I L H K := fun a w s m => h m.mono m.fresh a w s m
end
section
variable {P : Program} {ρ : Option Nat} {n : Sz} {I I' : IMap} {L : LL} {H H0 : List Res} {w0 : World} {Q : Exit → Act → World → Prop} {ops : Array Oper} {K : Act → World → Prop} {X : List Nat}
/-- the memory that a call began with is still there -/
theorem Mem.orig {H : List Res} {w : World} (m : Mem ⟨X, I, w0⟩ I' H w) : Mem ⟨X, I, w0⟩ I H w :=
  m.keepsI (List.Sublist.refl _) m.mono (ILe.refl _) (fun _ h => .inl h)
/-- a contract: some value with a property, the memory as it was -/
def FnE (P : Program) (f : FuncId) (args : Array Value) (I : IMap) (p : Value → Prop) : Prop := FnH P f args I [] fun u I' H' => p u ∧ I' = I ∧ H' = []
theorem q_vI {v u : Value} (h : v = u) : SX n ⟨X, I, w0⟩ I' L H fun _ w => Post ⟨X, I, w0⟩ (fun u' I'' H' => u' = u ∧ I'' = I ∧ H' = []) (.returned v) w :=
  fun _ w _ m => ⟨v, I, [], rfl, m.orig.none, h, rfl, rfl⟩
theorem q_e {v : Value} {p : Value → Prop} (h : p v) : SX n ⟨X, I, w0⟩ I' L H fun _ w => Post ⟨X, I, w0⟩ (fun u' I'' H' => p u' ∧ I'' = I ∧ H' = []) (.returned v) w :=
  fun _ w _ m => ⟨v, I, [], rfl, m.orig.none, h, rfl, rfl⟩
variable {E : Ent} {d ty : Nat} {pos : String} {af : Array Edge}
theorem o_callE {p : Value → Prop} {fo : Operand} {as : List Operand} {ats : Array TypeId} {f : FuncId} {args : List Value} (hc : FnE P f args.toArray I p) (h : callArgs L fo as = some (f, args)) (hd : Nat.blt d n.sz = true)
    (k : ∀ v, p v → SX n E I ((d, v) :: L) H K) :
    SX n E I L H (one P ops Q ⟨some d, .call { callee := .value fo, args := as.toArray, argTypes := ats }, ty, pos, af, none⟩ K) :=
  o_callH (Hc := []) hc h hd fun u I' H' hI hp => by obtain ⟨h1, rfl, rfl⟩ := hp; exact k u h1
end
end Go.Sx
