/- The rules for operations: what each does to the frame, the private blocks and nothing else. -/
import Derived.Test.YtkmdojpfccjnoaaGreatSx
import Derived.Laws.Cells
import Derived.Laws.Rows
import Derived.IntWalk
import Derived.ShutString
import Derived.ChangeMaps
set_option linter.all false
namespace Go.Sx
open Go

/-- what a list of operands reads as -/
def evs (L : LL) : List Operand → Option (List Value)
  | [] => some []
  | x :: xs => match ev L x, evs L xs with
    | some v, some vs => some (v :: vs)
    | _, _ => none
theorem evs_spec {n : Sz} {L : LL} {a : Act} (s : St n a L) : ∀ (xs : List Operand) (vs : List Value), evs L xs = some vs → xs.map a.eval = vs := by
  intro xs
  induction xs with
  | nil => intro vs h; simp only [evs, Option.some.injEq] at h; subst h; rfl
  | cons x xs ih =>
    intro vs h
    simp only [evs] at h
    split at h
    · rename_i v us hv hus
      cases h
      simp only [List.map_cons, s.ev hv, ih us hus]
    · cases h

/-! facts on types, computed off the program's tables -/
def tyK (P : Program) (t : TypeId) : Option (Bool × Nat) :=
  match P.underlying t, P.info? t with
  | some d, some i => some ((match d with | .struct _ | .array _ _ => true | _ => false), i.size)
  | _, _ => none
def fldK (P : Program) (t i : Nat) : Option (Nat × Bool × Nat) :=
  match P.underlying t with
  | some (.struct fs) => match fs[i]? with
    | some f => (tyK P f.type).map fun x => (f.offset, x.1, x.2)
    | none => none
  | _ => none
def eltK (P : Program) (t : TypeId) : Option (TypeId × Nat) :=
  match P.underlying t with
  | some (.slice e) => (tyK P e).map fun x => (e, x.2)
  | _ => none
def arrK (P : Program) (t : TypeId) : Option (Nat × TypeId × Nat) :=
  match P.underlying t with
  | some (.array n e) => (tyK P e).map fun x => (n, e, x.2)
  | _ => none
def zeroK (P : Program) (t : TypeId) : Option (List Value) := ((P.info? t).bind (·.zero)).map (·.cells.toList)

section
variable {P : Program}
theorem tyK_spec {t : TypeId} {b : Bool} {k : Nat} (h : tyK P t = some (b, k)) (w : World) : (isAgg t).run P w = .ok b w ∧ (sizeOf t).run P w = .ok k w := by
  unfold tyK at h
  split at h
  · rename_i d i hd hi
    simp only [Option.some.injEq, Prod.mk.injEq] at h
    obtain ⟨h1, h2⟩ := h
    refine ⟨?_, by simp [sizeOf, typeInfo, hi, h2]⟩
    simp only [isAgg, Sem.run_bind, run_underlying hd, Result.andThen_ok]
    cases d <;> simp_all
  · cases h
theorem fldK_spec {t i off k : Nat} {b : Bool} (h : fldK P t i = some (off, b, k)) :
    ∃ fs f, P.underlying t = some (.struct fs) ∧ fs[i]? = some f ∧ f.offset = off ∧ tyK P f.type = some (b, k) := by
  unfold fldK at h
  split at h
  · rename_i fs hfs
    split at h
    · rename_i f hf
      cases hk : tyK P f.type with
      | none => simp [hk] at h
      | some x =>
        simp only [hk, Option.map_some, Option.some.injEq, Prod.mk.injEq] at h
        exact ⟨fs, f, hfs, hf, h.1, by rw [hk]; simp [← h.2.1, ← h.2.2]⟩
    · cases h
  · cases h
theorem eltK_spec {t e k : Nat} (h : eltK P t = some (e, k)) : P.underlying t = some (.slice e) ∧ ∃ b, tyK P e = some (b, k) := by
  unfold eltK at h
  split at h
  · rename_i e' he
    cases hk : tyK P e' with
    | none => simp [hk] at h
    | some x =>
      simp only [hk, Option.map_some, Option.some.injEq, Prod.mk.injEq] at h
      obtain ⟨rfl, rfl⟩ := h
      exact ⟨he, x.1, hk⟩
  · cases h
theorem arrK_spec {t n e k : Nat} (h : arrK P t = some (n, e, k)) : P.underlying t = some (.array n e) ∧ ∃ b, tyK P e = some (b, k) := by
  unfold arrK at h
  split at h
  · rename_i n' e' he
    cases hk : tyK P e' with
    | none => simp [hk] at h
    | some x =>
      simp only [hk, Option.map_some, Option.some.injEq, Prod.mk.injEq] at h
      obtain ⟨rfl, rfl, rfl⟩ := h
      exact ⟨he, x.1, hk⟩
  · cases h
theorem zeroK_spec {t : TypeId} {zs : List Value} (h : zeroK P t = some zs) (w : World) : ∃ z, (zeroValue t).run P w = .ok z w ∧ z.cells = zs.toArray := by
  unfold zeroK at h
  cases hi : P.info? t with
  | none => simp [hi] at h
  | some i =>
    cases hz : i.zero with
    | none => simp [hi, hz] at h
    | some z =>
      simp only [hi, hz, Option.bind_some, Option.map_some, Option.some.injEq] at h
      exact ⟨z, by simp [zeroValue, typeInfo, hi, hz], by rw [← h]⟩
end

theorem Mem.blk {E : Ent} {I : IMap} {H : List Res} {w : World} {g t : Nat} {cs : List Value} (m : Mem E I (.blk g t cs :: H) w) : w.heap[g]? = some (.cells cs.toArray t (0, 0)) :=
  m.holds (.blk g t cs) (List.mem_cons_self ..)

/-! immutable cells -/
def ICell (I : IMap) (b off : Nat) (v : Value) : Prop := ∃ cs t fz, I b = some (.cells cs t fz) ∧ cs[off]? = some v
def ICells (I : IMap) (b off : Nat) (vs : List Value) : Prop := ∀ j u, vs[j]? = some u → ICell I b (off + j) u
theorem ICell.le {I I' : IMap} {b off : Nat} {v : Value} (h : ICell I b off v) (hI : ILe I I') : ICell I' b off v := by
  obtain ⟨cs, t, fz, h1, h2⟩ := h; exact ⟨cs, t, fz, hI _ _ h1, h2⟩
theorem ICells.sub {I : IMap} {b off : Nat} {vs : List Value} (h : ICells I b off vs) (q k : Nat) : ICells I b (off + q) ((vs.drop q).take k) := fun j u hu => by
  rw [List.getElem?_take] at hu
  split at hu
  · rw [List.getElem?_drop] at hu
    have := h _ _ hu
    rwa [← Nat.add_assoc] at this
  · cases hu
theorem ICells.le {I I' : IMap} {b off : Nat} {vs : List Value} (h : ICells I b off vs) (hI : ILe I I') : ICells I' b off vs := fun j u hu => (h j u hu).le hI
theorem ICell.at_ {I : IMap} {b off : Nat} {v : Value} {w : World} (h : ICell I b off v) (hc : Con I w) : w.cell? ⟨b, off, none⟩ = some v := by
  obtain ⟨cs, t, fz, h1, h2⟩ := h
  rw [cell_of_row w b off cs t fz (hc _ _ h1)]
  exact h2
theorem add_lit (b o n : Nat) : Addr.add ⟨b, o, none⟩ n = ⟨b, o + n, none⟩ := Addr.add_lit b o n

section
variable {P : Program} {w : World}
theorem run_load_one {t : TypeId} {a : Addr} {v : Value} (ht : tyK P t = some (false, 1)) (h : w.cell? a = some v) : (loadVar t a).run P w = .ok v w := by
  simp [loadVar, (tyK_spec ht w).1, h]
theorem run_load_agg {t : TypeId} {a : Addr} {cs : List Value} {k : Nat} (ht : tyK P t = some (true, k)) (hk : cs.length = k) (h : ∀ j v, cs[j]? = some v → w.cell? (a.add j) = some v) :
    (loadVar t a).run P w = .ok (.agg cs.toArray) w := by
  subst hk
  simp [loadVar, (tyK_spec ht w).1, (tyK_spec ht w).2, run_loadCells_list w a cs h]
end

section
variable {P : Program} {ρ : Option Nat} {n : Sz} {E : Ent} {I : IMap} {L : LL} {H : List Res} {Q : Exit → Act → World → Prop} {ops : Array Oper} {K : Act → World → Prop}
variable {d ty : Nat} {pos : String} {af : Array Edge} {x y z : Operand}

theorem o_cons {o : Oper} {rest : List Oper} (h : SX n E I L H (one P ops Q o (wpL P ops Q rest))) : SX n E I L H (wpL P ops Q (o :: rest)) := h
/-- the operation gives this value and leaves the world alone -/
def OV (P : Program) (n : Sz) (E : Ent) (I : IMap) (L : LL) (H : List Res) (o : Oper) (v : Value) : Prop :=
  ∀ a w, St n a L → Mem E I H w → (execOp a.eval o).run P w = .ok (.value v) w
/-- an operation that gives a value -/
theorem o_gen {α : Type} {op : Op} (V : α → Value) (Ix : α → IMap) (Hx : α → List Res) (p : α → Prop) (hd : Nat.blt d n.sz = true)
    (h : ∀ a w, St n a L → Mem E I H w → ∃ x w', p x ∧ (execOp a.eval ⟨some d, op, ty, pos, af, none⟩).run P w = .ok (.value (V x)) w' ∧ Mem E (Ix x) (Hx x) w')
    (k : ∀ x, p x → SX n E (Ix x) ((d, V x) :: L) (Hx x) K) : SX n E I L H (one P ops Q ⟨some d, op, ty, pos, af, none⟩ K) := by
  intro a w s m
  obtain ⟨x, w', hp, hr, hm⟩ := h a w s m
  unfold one
  rw [if_pos (by rfl)]
  rw [wq_value hr]
  exact k x hp _ _ (s.put hd) hm
theorem o_val {op : Op} {v : Value} (hd : Nat.blt d n.sz = true) (h : OV P n E I L H ⟨some d, op, ty, pos, af, none⟩ v)
    (k : SX n E I ((d, v) :: L) H K) : SX n E I L H (one P ops Q ⟨some d, op, ty, pos, af, none⟩ K) :=
  o_gen (fun _ : Unit => v) (fun _ => I) (fun _ => H) (fun _ => True) hd (fun a w s m => ⟨(), w, trivial, h a w s m, m⟩) fun _ _ => k
/-- the same at the head of a list -/
theorem o_v {op : Op} {v : Value} {rest : List Oper} (hd : Nat.blt d n.sz = true) (h : OV P n E I L H ⟨some d, op, ty, pos, af, none⟩ v)
    (k : SX n E I ((d, v) :: L) H (wpL P ops Q rest)) : SX n E I L H (wpL P ops Q (⟨some d, op, ty, pos, af, none⟩ :: rest)) := o_cons (o_val hd h k)
/-- an operation that gives none -/
theorem o_skip {op : Op} {I' : IMap} {H' : List Res}
    (h : ∀ a w, St n a L → Mem E I H w → ∃ w', (execOp a.eval ⟨none, op, ty, pos, af, none⟩).run P w = .ok .skip w' ∧ Mem E I' H' w')
    (k : SX n E I' L H' K) : SX n E I L H (one P ops Q ⟨none, op, ty, pos, af, none⟩ K) := by
  intro a w s m
  obtain ⟨w', hr, hm⟩ := h a w s m
  unfold one
  rw [if_pos (by rfl)]
  rw [wq_skip hr]
  exact k _ _ s hm

/-! guards -/
theorem o_yes {dst : Option Nat} {op : Op} {j t : Nat} {b v : Bool} (ht : (ops[j]?).bind (·.dst) = some t) (hb : look L t = some (.bool v)) (hv : v = b)
    (k : SX n E I L H (one P ops Q ⟨dst, op, ty, pos, af, none⟩ K)) : SX n E I L H (one P ops Q ⟨dst, op, ty, pos, af, some (j, b)⟩ K) := by
  intro a w s m
  have h := k a w s m
  subst hv
  have hy : Region.wanted ⟨dst, op, ty, pos, af, some (j, v)⟩ (yielded ops a.tmps) = true := by simp [Region.wanted, yielded, ht, s.get _ _ hb]
  have hn : Region.wanted ⟨dst, op, ty, pos, af, none⟩ (yielded ops a.tmps) = true := rfl
  unfold one at h ⊢
  rw [if_pos hy]
  rw [if_pos hn] at h
  exact h
theorem o_no {op : Op} {j t : Nat} {b v : Bool} (ht : (ops[j]?).bind (·.dst) = some t) (hb : look L t = some (.bool v)) (hv : v = !b) (hd : Nat.blt d n.sz = true)
    (k : SX n E I ((d, undef) :: L) H K) : SX n E I L H (one P ops Q ⟨some d, op, ty, pos, af, some (j, b)⟩ K) := by
  intro a w s m
  have h := k _ _ (s.put hd) m
  subst hv
  have hy : Region.wanted ⟨some d, op, ty, pos, af, some (j, b)⟩ (yielded ops a.tmps) = false := by simp [Region.wanted, yielded, ht, s.get _ _ hb]
  unfold one
  rw [if_neg (by simp [hy])]
  exact h
theorem o_no' {op : Op} {j t : Nat} {b v : Bool} (ht : (ops[j]?).bind (·.dst) = some t) (hb : look L t = some (.bool v)) (hv : v = !b)
    (k : SX n E I L H K) : SX n E I L H (one P ops Q ⟨none, op, ty, pos, af, some (j, b)⟩ K) := by
  intro a w s m
  have h := k _ _ s m
  subst hv
  have hy : Region.wanted ⟨none, op, ty, pos, af, some (j, b)⟩ (yielded ops a.tmps) = false := by simp [Region.wanted, yielded, ht, s.get _ _ hb]
  unfold one
  rw [if_neg (by simp [hy])]
  exact h

/-- the guard was skipped itself -/
theorem o_nou {op : Op} {j t : Nat} {b : Bool} (ht : (ops[j]?).bind (·.dst) = some t) (hb : look L t = some undef) (hd : Nat.blt d n.sz = true)
    (k : SX n E I ((d, undef) :: L) H K) : SX n E I L H (one P ops Q ⟨some d, op, ty, pos, af, some (j, b)⟩ K) := by
  intro a w s m
  have h := k _ _ (s.put hd) m
  have hy : Region.wanted ⟨some d, op, ty, pos, af, some (j, b)⟩ (yielded ops a.tmps) = false := by simp [Region.wanted, yielded, ht, s.get _ _ hb, undef]
  unfold one
  rw [if_neg (by simp [hy])]
  exact h

/-! moves, numbers, tests -/
theorem v_move {v : Value} (hx : ev L x = some v) : OV P n E I L H ⟨some d, .move x, ty, pos, af, none⟩ (v) :=
  (fun a w s _ => by simp [execOp, s.ev hx])
theorem v_assign {v : Value} (hx : ev L x = some v) : OV P n E I L H ⟨some d, .assign x, ty, pos, af, none⟩ (v) :=
  (fun a w s _ => by simp [execOp, s.ev hx])
theorem v_and {b c : Bool} (hx : ev L x = some (.bool b)) (hy : b = true → ev L y = some (.bool c)) : OV P n E I L H ⟨some d, .pick x y (.const (.bool false)), ty, pos, af, none⟩ (.bool (b && c)) :=
  (fun a w s _ => by
    cases b
    · simp [execOp, s.ev hx, asBool, show ∀ v, a.eval (.const v) = v from fun _ => rfl]
    · simp [execOp, s.ev hx, s.ev (hy rfl), asBool])
theorem v_or {b c : Bool} (hx : ev L x = some (.bool b)) (hz : b = false → ev L z = some (.bool c)) : OV P n E I L H ⟨some d, .pick x (.const (.bool true)) z, ty, pos, af, none⟩ (.bool (b || c)) :=
  (fun a w s _ => by
    cases b
    · simp [execOp, s.ev hx, s.ev (hz rfl), asBool]
    · simp [execOp, s.ev hx, asBool, show ∀ v, a.eval (.const v) = v from fun _ => rfl])
theorem v_and_t {b c : Bool} (hb : b = true) (hx : ev L x = some (.bool b)) (hy : ev L y = some (.bool c)) : OV P n E I L H ⟨some d, .pick x y (.const (.bool false)), ty, pos, af, none⟩ (.bool c) :=
  (fun a w s _ => by subst hb; simp [execOp, s.ev hx, s.ev hy, asBool])
theorem v_and_f {b : Bool} (hb : b = false) (hx : ev L x = some (.bool b)) : OV P n E I L H ⟨some d, .pick x y (.const (.bool false)), ty, pos, af, none⟩ (.bool false) :=
  (fun a w s _ => by subst hb; simp [execOp, s.ev hx, asBool, show ∀ v, a.eval (.const v) = v from fun _ => rfl])
theorem v_or_f {b c : Bool} (hb : b = false) (hx : ev L x = some (.bool b)) (hz : ev L z = some (.bool c)) : OV P n E I L H ⟨some d, .pick x (.const (.bool true)) z, ty, pos, af, none⟩ (.bool c) :=
  (fun a w s _ => by subst hb; simp [execOp, s.ev hx, s.ev hz, asBool])
theorem v_or_t {b : Bool} (hb : b = true) (hx : ev L x = some (.bool b)) : OV P n E I L H ⟨some d, .pick x (.const (.bool true)) z, ty, pos, af, none⟩ (.bool true) :=
  (fun a w s _ => by subst hb; simp [execOp, s.ev hx, asBool, show ∀ v, a.eval (.const v) = v from fun _ => rfl])
theorem v_pick {b : Bool} {u v : Value} (hx : ev L x = some (.bool b)) (hy : ev L y = some u) (hz : ev L z = some v) : OV P n E I L H ⟨some d, .pick x y z, ty, pos, af, none⟩ (if b then u else v) :=
  (fun a w s _ => by cases b <;> simp [execOp, s.ev hx, s.ev hy, s.ev hz, asBool])
theorem v_not {b : Bool} (hx : ev L x = some (.bool b)) {t : Nat} : OV P n E I L H ⟨some d, .unOp .not t x, ty, pos, af, none⟩ (.bool (!b)) :=
  (fun a w s _ => by simp [execOp, s.ev hx, Op.unary])

variable {kd : IntKind} {i j : Int} {tx tyy : Nat}
theorem v_lss (hx : ev L x = some (.int kd i)) (hy : ev L y = some (.int kd j)) : OV P n E I L H ⟨some d, .binOp .lss tx x y tyy, ty, pos, af, none⟩ (.bool (decide (i < j))) :=
  (fun a w s _ => by simp [execOp, s.ev hx, s.ev hy, eqGuard_at_int, binOp_lss])
theorem v_leq (hx : ev L x = some (.int kd i)) (hy : ev L y = some (.int kd j)) : OV P n E I L H ⟨some d, .binOp .leq tx x y tyy, ty, pos, af, none⟩ (.bool (decide (i ≤ j))) :=
  (fun a w s _ => by simp [execOp, s.ev hx, s.ev hy, eqGuard_at_int, binOp_leq])
theorem v_gtr (hx : ev L x = some (.int kd i)) (hy : ev L y = some (.int kd j)) : OV P n E I L H ⟨some d, .binOp .gtr tx x y tyy, ty, pos, af, none⟩ (.bool (decide (j < i))) :=
  (fun a w s _ => by simp [execOp, s.ev hx, s.ev hy, eqGuard_at_int, binOp_gtr])
theorem v_geq (hx : ev L x = some (.int kd i)) (hy : ev L y = some (.int kd j)) : OV P n E I L H ⟨some d, .binOp .geq tx x y tyy, ty, pos, af, none⟩ (.bool (decide (j ≤ i))) :=
  (fun a w s _ => by simp [execOp, s.ev hx, s.ev hy, eqGuard_at_int, binOp_geq])
theorem v_eql (hx : ev L x = some (.int kd i)) (hy : ev L y = some (.int kd j)) : OV P n E I L H ⟨some d, .binOp .eql tx x y tyy, ty, pos, af, none⟩ (.bool (decide (i = j))) :=
  (fun a w s _ => by simp [execOp, s.ev hx, s.ev hy, eqGuard_at_int, binOp_eql]; exact Bool.beq_eq_decide_eq i j)
theorem v_neq (hx : ev L x = some (.int kd i)) (hy : ev L y = some (.int kd j)) : OV P n E I L H ⟨some d, .binOp .neq tx x y tyy, ty, pos, af, none⟩ (.bool (!decide (i = j))) :=
  (fun a w s _ => by simp [execOp, s.ev hx, s.ev hy, eqGuard_at_int, binOp_neq, bne]; exact Bool.beq_eq_decide_eq i j)
def I64 (i : Int) : Prop := -9223372036854775808 ≤ i ∧ i ≤ 9223372036854775807
theorem v_add (hx : ev L x = some (.int .i64 i)) (hy : ev L y = some (.int .i64 j)) (hb : I64 (i + j)) : OV P n E I L H ⟨some d, .binOp .add tx x y tyy, ty, pos, af, none⟩ (.int .i64 (i + j)) :=
  (fun a w s _ => by simp [execOp, s.ev hx, s.ev hy, eqGuard_at_int, binOp_add, Op.intArith]; exact IntWalk.i64_in _ ⟨hb.1, hb.2⟩)
theorem v_sub (hx : ev L x = some (.int .i64 i)) (hy : ev L y = some (.int .i64 j)) (hb : I64 (i - j)) : OV P n E I L H ⟨some d, .binOp .sub tx x y tyy, ty, pos, af, none⟩ (.int .i64 (i - j)) :=
  (fun a w s _ => by simp [execOp, s.ev hx, s.ev hy, eqGuard_at_int, binOp_sub, Op.intArith]; exact IntWalk.i64_in _ ⟨hb.1, hb.2⟩)
theorem v_mul (hx : ev L x = some (.int .i64 i)) (hy : ev L y = some (.int .i64 j)) (hb : I64 (i * j)) : OV P n E I L H ⟨some d, .binOp .mul tx x y tyy, ty, pos, af, none⟩ (.int .i64 (i * j)) :=
  (fun a w s _ => by simp [execOp, s.ev hx, s.ev hy, eqGuard_at_int, binOp_mul, Op.intArith]; exact IntWalk.i64_in _ ⟨hb.1, hb.2⟩)

/-! strings, bools -/
theorem str_eq (s t : ByteArray) : (s.toList == t.toList) = decide (s = t) := by
  rw [Bool.beq_eq_decide_eq]
  congr 1
  rw [ByteArray.toList_eq, ByteArray.toList_eq]
  exact propext ⟨fun h => ByteArray.ext (Array.toList_inj.1 h), fun h => by rw [h]⟩
def sLt (s t : ByteArray) : Bool := Op.bytesLess s.toList t.toList
variable {s t : ByteArray}
theorem v_seql (hx : ev L x = some (.string s)) (hy : ev L y = some (.string t)) : OV P n E I L H ⟨some d, .binOp .eql tx x y tyy, ty, pos, af, none⟩ (.bool (decide (s = t))) :=
  (fun a w st _ => by simp only [execOp, st.ev hx, st.ev hy, eqGuard_at_string, binOp, Op.stringOp, str_eq]; rfl)
theorem v_sneq (hx : ev L x = some (.string s)) (hy : ev L y = some (.string t)) : OV P n E I L H ⟨some d, .binOp .neq tx x y tyy, ty, pos, af, none⟩ (.bool (!decide (s = t))) :=
  (fun a w st _ => by simp only [execOp, st.ev hx, st.ev hy, eqGuard_at_string, binOp, Op.stringOp, str_eq]; rfl)
theorem v_slss (hx : ev L x = some (.string s)) (hy : ev L y = some (.string t)) : OV P n E I L H ⟨some d, .binOp .lss tx x y tyy, ty, pos, af, none⟩ (.bool (sLt s t)) :=
  (fun a w st _ => by simp only [execOp, st.ev hx, st.ev hy, eqGuard_at_string, binOp, Op.stringOp]; rfl)
theorem v_sgeq (hx : ev L x = some (.string s)) (hy : ev L y = some (.string t)) : OV P n E I L H ⟨some d, .binOp .geq tx x y tyy, ty, pos, af, none⟩ (.bool (!sLt s t)) :=
  (fun a w st _ => by simp only [execOp, st.ev hx, st.ev hy, eqGuard_at_string, binOp, Op.stringOp]; rfl)
theorem v_sleq (hx : ev L x = some (.string s)) (hy : ev L y = some (.string t)) : OV P n E I L H ⟨some d, .binOp .leq tx x y tyy, ty, pos, af, none⟩ (.bool (sLt s t || decide (s = t))) :=
  (fun a w st _ => by simp only [execOp, st.ev hx, st.ev hy, eqGuard_at_string, binOp, Op.stringOp, str_eq]; rfl)
theorem v_sgtr (hx : ev L x = some (.string s)) (hy : ev L y = some (.string t)) : OV P n E I L H ⟨some d, .binOp .gtr tx x y tyy, ty, pos, af, none⟩ (.bool (!(sLt s t || decide (s = t)))) :=
  (fun a w st _ => by simp only [execOp, st.ev hx, st.ev hy, eqGuard_at_string, binOp, Op.stringOp, str_eq]; rfl)
theorem v_beql {b c : Bool} (ht : P.underlying tx = some .bool) (hx : ev L x = some (.bool b)) (hy : ev L y = some (.bool c)) : OV P n E I L H ⟨some d, .binOp .eql tx x y tyy, ty, pos, af, none⟩ (.bool (b == c)) :=
  (fun a w st _ => by simp [execOp, st.ev hx, st.ev hy, eqGuard_at_bool, run_eql_bool w tx b c ht])
theorem v_bneq {b c : Bool} (ht : P.underlying tx = some .bool) (hx : ev L x = some (.bool b)) (hy : ev L y = some (.bool c)) : OV P n E I L H ⟨some d, .binOp .neq tx x y tyy, ty, pos, af, none⟩ (.bool (!(b == c))) :=
  (fun a w st _ => by simp [execOp, st.ev hx, st.ev hy, eqGuard_at_bool, run_neq_bool w tx b c ht])
/-- s[i] -/
theorem v_sidx {ts : Nat} (ht : P.underlying ts = some .string) (hx : ev L x = some (.string s)) (hy : ev L y = some (.int .i64 i)) (q : Nat) (hq : i = (q : Int)) (hlt : q < s.size) : OV P n E I L H ⟨some d, .index ts x y, ty, pos, af, none⟩ (.int .u8 ((s[q]!.toNat : Nat) : Int)) :=
  (fun a w st _ => by
    subst hq
    have hs : s[q]? = some (s[q]!) := by rw [getElem?_pos s q hlt, getElem!_pos s q hlt]
    simp [execOp, st.ev hx, st.ev hy, Instr.index, asIntOf, run_underlying ht, hs])
/-- len -/
theorem v_len_slice {A : Option Addr} {m c ts e : Nat} (ht : P.underlying ts = some (.slice e)) (hx : ev L x = some (.slice A m c)) : OV P n E I L H ⟨some d, .call { callee := .builtin .len, args := #[x], argTypes := #[ts] }, ty, pos, af, none⟩ (.int .i64 (m : Int)) :=
  (fun a w st _ => by simp [execOp, st.ev hx, resolve, invoke, builtin, Builtin.len_, run_underlying ht, goInt])
theorem v_len_str {ts : Nat} (ht : P.underlying ts = some .string) (hx : ev L x = some (.string s)) : OV P n E I L H ⟨some d, .call { callee := .builtin .len, args := #[x], argTypes := #[ts] }, ty, pos, af, none⟩ (.int .i64 (s.size : Int)) :=
  (fun a w st _ => by simp [execOp, st.ev hx, resolve, invoke, builtin, Builtin.len_, run_underlying ht, goInt])

/-! structs by value, addresses -/
theorem v_extract {vs : Array Value} {q : Nat} {v : Value} (hx : ev L x = some (.tuple vs)) (hq : vs[q]? = some v) : OV P n E I L H ⟨some d, .extract x q, ty, pos, af, none⟩ (v) :=
  (fun a w st _ => by simp [execOp, st.ev hx, Instr.extract, hq])
theorem v_field {cs : List Value} {tt q off : Nat} {v : Value} (hf : fldK P tt q = some (off, false, 1)) (hx : ev L x = some (.agg cs.toArray)) (hv : cs[off]? = some v) : OV P n E I L H ⟨some d, .field tt x q, ty, pos, af, none⟩ (v) :=
  (fun a w st _ => by
    obtain ⟨fs, f, h1, h2, h3, h4⟩ := fldK_spec hf
    subst h3
    simp [execOp, st.ev hx, Instr.field, run_underlying h1, h2, asAgg, part, (tyK_spec h4 w).1, hv])
theorem v_fielda {cs : List Value} {tt q off kk : Nat} (vs : List Value) (hf : fldK P tt q = some (off, true, kk)) (hx : ev L x = some (.agg cs.toArray)) (hv : (cs.drop off).take kk = vs) : OV P n E I L H ⟨some d, .field tt x q, ty, pos, af, none⟩ (.agg vs.toArray) :=
  (fun a w st _ => by
    obtain ⟨fs, f, h1, h2, h3, h4⟩ := fldK_spec hf
    subst h3 hv
    have e : cs.toArray.extract f.offset (f.offset + kk) = ((cs.drop f.offset).take kk).toArray := by
      rw [List.extract_toArray]
      simp [List.extract]
    simp [execOp, st.ev hx, Instr.field, run_underlying h1, h2, asAgg, part, (tyK_spec h4 w).1, (tyK_spec h4 w).2, e])
theorem v_fieldAddr {tt q off b o k' : Nat} {ag : Bool} (hf : fldK P tt q = some (off, ag, k' + 1)) (hx : ev L x = some (.pointer (some ⟨b, o, none⟩))) : OV P n E I L H ⟨some d, .fieldAddr tt x q, ty, pos, af, none⟩ (.pointer (some ⟨b, o + off, none⟩)) :=
  (fun a w st _ => by
    obtain ⟨fs, f, h1, h2, h3, h4⟩ := fldK_spec hf
    subst h3
    simp [execOp, st.ev hx, Instr.fieldAt, Instr.sureAddr, run_underlying h1, h2, fieldPlace, (tyK_spec h4 w).2, add_lit])
theorem v_nilCheck {b : Addr} (hx : ev L x = some (.pointer (some b))) : OV P n E I L H ⟨some d, .nilCheck x, ty, pos, af, none⟩ (.pointer (some b)) :=
  (fun a w st _ => by simp [execOp, st.ev hx])
/-- &s[i] -/
theorem v_idx {A : Option Addr} {m c b o e kk tt : Nat} (he : eltK P tt = some (e, kk)) (hx : ev L x = some (.slice A m c)) (hy : ev L y = some (.int .i64 i)) (hA : A = some ⟨b, o, none⟩) (q : Nat) (hq : i = (q : Int)) (hlt : q < m)
    : OV P n E I L H ⟨some d, .indexAddr tt x y, ty, pos, af, none⟩ (.pointer (some ⟨b, o + q * kk, none⟩)) :=
  (fun a w st _ => by
    obtain ⟨h1, bb, h2⟩ := eltK_spec he
    subst hA hq
    have hlt' : (q : Int) < (m : Int) := by omega
    simp [execOp, st.ev hx, st.ev hy, Instr.indexAt, asIntOf, run_underlying h1, (tyK_spec h2 w).2, hlt, add_lit])
/-- &a[i], a an array in memory -/
theorem v_aidx {b o e kk tt m : Nat} {kd : IntKind} (he : arrK P tt = some (m, e, kk)) (hx : ev L x = some (.pointer (some ⟨b, o, none⟩))) (hy : ev L y = some (.int kd i)) (q : Nat) (hq : i = (q : Int)) (hlt : q < m)
    : OV P n E I L H ⟨some d, .indexAddr tt x y, ty, pos, af, none⟩ (.pointer (some ⟨b, o + q * kk, none⟩)) :=
  (fun a w st _ => by
    obtain ⟨h1, bb, h2⟩ := arrK_spec he
    subst hq
    have hlt' : (q : Int) < (m : Int) := by omega
    simp [execOp, st.ev hx, st.ev hy, Instr.indexAt, asIntOf, Instr.sureAddr, run_underlying h1, (tyK_spec h2 w).2, hlt, add_lit])
theorem v_conv {ts td : Nat} {ks kd : IntKind} {m : Int} (hs : P.underlying ts = some (.int ks)) (ht : P.underlying td = some (.int kd)) (hx : ev L x = some (.int ks i)) (hw : kd.wrap i = m)
    : OV P n E I L H ⟨some d, .convert ts td x, ty, pos, af, none⟩ (.int kd m) :=
  (fun a w st _ => by
    subst hw
    simp [execOp, st.ev hx, convert, run_underlying hs, run_underlying ht, Conv.intToInt])
/-- s[lo:hi] -/
def cutA (A : Option Addr) (c lo k : Nat) : Option Addr := if c = lo then A else A.map (·.add (lo * k))
theorem v_slice_hi {A : Option Addr} {m c e kk tt : Nat} (he : eltK P tt = some (e, kk)) (hx : ev L x = some (.slice A m c)) (hy : ev L y = some (.int .i64 i)) (q : Nat) (hq : i = (q : Int)) (hle : q ≤ c)
    : OV P n E I L H ⟨some d, .slice tt x none (some y) none, ty, pos, af, none⟩ (.slice A q c) :=
  (fun a w st _ => by
    obtain ⟨h1, bb, h2⟩ := eltK_spec he
    subst hq
    have hA : (A.map fun x => x.add 0) = A := by cases A <;> simp [Addr.add]
    simp [execOp, st.ev hx, st.ev hy, Instr.sliceAt, Instr.slice, Instr.sliceBounds, Instr.sliceBound, asIntOf, run_underlying h1, (tyK_spec h2 w).2, hle, hA])
theorem v_slice_lo {A : Option Addr} {m c e kk tt : Nat} (he : eltK P tt = some (e, kk)) (hx : ev L x = some (.slice A m c)) (hy : ev L y = some (.int .i64 i)) (q : Nat) (hq : i = (q : Int)) (hle : q ≤ m)
    : OV P n E I L H ⟨some d, .slice tt x (some y) none none, ty, pos, af, none⟩ (.slice (cutA A c q kk) (m - q) (c - q)) :=
  (fun a w st _ => by
    obtain ⟨h1, bb, h2⟩ := eltK_spec he
    subst hq
    simp [execOp, st.ev hx, st.ev hy, Instr.sliceAt, Instr.slice, Instr.sliceBounds, Instr.sliceBound, asIntOf, run_underlying h1, (tyK_spec h2 w).2, hle, cutA])
theorem v_slice_lohi {A : Option Addr} {m c e kk tt : Nat} (he : eltK P tt = some (e, kk)) (hx : ev L x = some (.slice A m c)) (hy : ev L y = some (.int .i64 i)) (hz : ev L z = some (.int .i64 j))
    (q r : Nat) (hq : i = (q : Int)) (hr : j = (r : Int)) (hle : q ≤ r) (hle' : r ≤ c)
    : OV P n E I L H ⟨some d, .slice tt x (some y) (some z) none, ty, pos, af, none⟩ (.slice (cutA A c q kk) (r - q) (c - q)) :=
  (fun a w st _ => by
    obtain ⟨h1, bb, h2⟩ := eltK_spec he
    subst hq hr
    simp [execOp, st.ev hx, st.ev hy, st.ev hz, Instr.sliceAt, Instr.slice, Instr.sliceBounds, Instr.sliceBound, asIntOf, run_underlying h1, (tyK_spec h2 w).2, hle, hle', cutA])
theorem v_makeFunc {fn : Fn} {first captured : List Operand} {fs cs : List Value} (hf : evs L first = some fs) (hc : evs L captured = some cs) :
    OV P n E I L H ⟨some d, .makeFunc fn first.toArray captured.toArray, ty, pos, af, none⟩ (.func fn fs.toArray cs.toArray) :=
  (fun a w st _ => by
    have h1 : first.toArray.map a.eval = fs.toArray := by rw [← evs_spec st first fs hf]; simp
    have h2 : captured.toArray.map a.eval = cs.toArray := by rw [← evs_spec st captured cs hc]; simp
    simp only [execOp, Instr.makeFunc, h1, h2]
    rfl)

/-! memory -/
theorem o_box {v : Value} {tt : Nat} (cs : List Value) (hx : ev L x = some v) (hc : v.cells = cs.toArray) (hd : Nat.blt d n.sz = true)
    (k : ∀ g, SX n E I ((d, .pointer (some ⟨g, 0, none⟩)) :: L) (.blk g tt cs :: H) K) :
    SX n E I L H (one P ops Q ⟨some d, .box tt x, ty, pos, af, none⟩ K) :=
  o_gen (fun g : Nat => .pointer (some ⟨g, 0, none⟩)) (fun _ => I) (fun g => .blk g tt cs :: H) (fun _ => True) hd
    (fun a w st m => ⟨w.heap.size, w.alloc (.cells cs.toArray tt), trivial, by simp [execOp, st.ev hx, Instr.box, newVar, newRow, hc], m.alloc tt cs⟩) fun g _ => k g
theorem o_alloc {tt : Nat} {zs : List Value} (hz : zeroK P tt = some zs) (hd : Nat.blt d n.sz = true)
    (k : ∀ g, SX n E I ((d, .pointer (some ⟨g, 0, none⟩)) :: L) (.blk g tt zs :: H) K) :
    SX n E I L H (one P ops Q ⟨some d, .alloc tt, ty, pos, af, none⟩ K) :=
  o_gen (fun g : Nat => .pointer (some ⟨g, 0, none⟩)) (fun _ => I) (fun g => .blk g tt zs :: H) (fun _ => True) hd
    (fun a w st m => by
      obtain ⟨z, h1, h2⟩ := zeroK_spec hz w
      exact ⟨w.heap.size, w.alloc (.cells zs.toArray tt), trivial, by simp [execOp, Instr.alloc, newVar, newRow, h1, h2], m.alloc tt zs⟩) fun g _ => k g
/-- a load out of a private block -/
theorem v_ld {g off tt t' : Nat} {cs : List Value} {v : Value} (hm : Res.blk g t' cs ∈ H) (ht : tyK P tt = some (false, 1)) (hx : ev L x = some (.pointer (some ⟨g, off, none⟩))) (hv : cs[off]? = some v) : OV P n E I L H ⟨some d, .load tt x, ty, pos, af, none⟩ (v) :=
  (fun a w st m => by
    have hg : w.heap[g]? = some (.cells cs.toArray t' (0, 0)) := m.holds _ hm
    have hc : w.cell? ⟨g, off, none⟩ = some v := by rw [cell_of_row w g off _ t' _ hg]; simpa using hv
    simp [execOp, st.ev hx, Instr.loadAt, Instr.sureAddr, run_load_one ht hc])
theorem v_ldw {g tt t' kk : Nat} {cs : List Value} (hm : Res.blk g t' cs ∈ H) (ht : tyK P tt = some (true, kk)) (hx : ev L x = some (.pointer (some ⟨g, 0, none⟩))) (hk : cs.length = kk) : OV P n E I L H ⟨some d, .load tt x, ty, pos, af, none⟩ (.agg cs.toArray) :=
  (fun a w st m => by
    have hg : w.heap[g]? = some (.cells cs.toArray t' (0, 0)) := m.holds _ hm
    have hc := run_load_agg (P := P) (w := w) (a := ⟨g, 0, none⟩) ht hk (fun j v hv => by rw [add_lit, cell_of_row w g _ _ t' _ hg]; simpa using hv)
    simp [execOp, st.ev hx, Instr.loadAt, Instr.sureAddr, hc])
theorem v_ldp {g off tt t' kk : Nat} {cs : List Value} (vs : List Value) (hm : Res.blk g t' cs ∈ H) (ht : tyK P tt = some (true, kk)) (hx : ev L x = some (.pointer (some ⟨g, off, none⟩))) (hv : (cs.drop off).take kk = vs) (hk : vs.length = kk) : OV P n E I L H ⟨some d, .load tt x, ty, pos, af, none⟩ (.agg vs.toArray) :=
  (fun a w st m => by
    have hg : w.heap[g]? = some (.cells cs.toArray t' (0, 0)) := m.holds _ hm
    have hc := run_load_agg (P := P) (w := w) (a := ⟨g, off, none⟩) ht hk (fun j v hj => by
      rw [add_lit, cell_of_row w g _ _ t' _ hg]
      rw [← hv, List.getElem?_take] at hj
      split at hj
      · simpa [List.getElem?_drop] using hj
      · cases hj)
    simp [execOp, st.ev hx, Instr.loadAt, Instr.sureAddr, hc])
/-- a load out of immutable memory -/
theorem v_ldI {b off tt : Nat} {v : Value} (ht : tyK P tt = some (false, 1)) (hx : ev L x = some (.pointer (some ⟨b, off, none⟩))) (hv : ICell I b off v) : OV P n E I L H ⟨some d, .load tt x, ty, pos, af, none⟩ (v) :=
  (fun a w st m => by simp [execOp, st.ev hx, Instr.loadAt, Instr.sureAddr, run_load_one ht (hv.at_ m.con)])
theorem v_ldIa {b off tt kk : Nat} {vs : List Value} (ht : tyK P tt = some (true, kk)) (hx : ev L x = some (.pointer (some ⟨b, off, none⟩))) (hv : ICells I b off vs) (hk : vs.length = kk) : OV P n E I L H ⟨some d, .load tt x, ty, pos, af, none⟩ (.agg vs.toArray) :=
  (fun a w st m => by
    have hc := run_load_agg (P := P) (w := w) (a := ⟨b, off, none⟩) ht hk (fun j v hj => by rw [add_lit]; exact (hv j v hj).at_ m.con)
    simp [execOp, st.ev hx, Instr.loadAt, Instr.sureAddr, hc])
end

/-! stores -/
section
variable {P : Program}
theorem run_store_cell {w : World} {g off t : Nat} {cs : List Value} {v : Value} (hg : w.heap[g]? = some (.cells cs.toArray t (0, 0))) (ho : off < cs.length) (hv : v.oneCell' = true) :
    (store ⟨g, off, none⟩ v).run P w = .ok () (w.setCell ⟨g, off, none⟩ v) := by
  have hc : w.cell? ⟨g, off, none⟩ = some (cs[off]) := by rw [cell_of_row w g off _ t _ hg]; simp [ho]
  have hf : w.frozen? ⟨g, off, none⟩ = false := by simp [World.frozen?, hg]
  rw [run_store P w _ v _ hv]
  simp [hc, hf]
theorem heap_setCell_at {w : World} {g off t : Nat} {cs : List Value} (v : Value) (hg : w.heap[g]? = some (.cells cs.toArray t (0, 0))) :
    (w.setCell ⟨g, off, none⟩ v).heap[g]? = some (.cells (cs.set off v).toArray t (0, 0)) := by
  have := heap_setCell_same w g off cs.toArray t v hg
  rw [this]
  simp
theorem run_storeCells {t g : Nat} : ∀ (vs : List Value) (w : World) (cs : List Value) (off i : Nat), w.heap[g]? = some (.cells cs.toArray t (0, 0)) → off + i + vs.length ≤ cs.length → (∀ v ∈ vs, v.oneCell' = true) →
    ∃ w', (storeCells ⟨g, off, none⟩ vs i).run P w = .ok () w' ∧ w'.heap[g]? = some (.cells (cs.take (off + i) ++ vs ++ cs.drop (off + i + vs.length)).toArray t (0, 0)) ∧
      w'.os = w.os ∧ w'.tape = w.tape ∧ w'.output = w.output ∧ w'.heap.size = w.heap.size ∧ ∀ k, k ≠ g → w'.heap[k]? = w.heap[k]? := by
  intro vs
  induction vs with
  | nil => intro w cs off i hg hl _; exact ⟨w, rfl, by simpa using hg, rfl, rfl, rfl, rfl, fun _ _ => rfl⟩
  | cons v vs ih =>
    intro w cs off i hg hl hv
    simp only [List.length_cons] at hl
    have h1 := run_store_cell (P := P) (v := v) hg (off := off + i) (by omega) (hv v (by simp))
    have h2 := heap_setCell_at (off := off + i) v hg
    obtain ⟨w', hr, hh, r1, r2, r3, r4, r5⟩ := ih (w.setCell ⟨g, off + i, none⟩ v) (cs.set (off + i) v) off (i + 1) h2 (by simp; omega) (fun u hu => hv u (by simp [hu]))
    refine ⟨w', ?_, ?_, r1, r2, r3, by rw [r4]; simp, fun k hk => by rw [r5 k hk]; exact heap_setCell_other w _ k v hk⟩
    · simp only [storeCells, add_lit, Sem.run_bind, h1, Result.andThen_ok]
      exact hr
    · rw [hh]
      congr 3
      have e1 : (cs.set (off + i) v).take (off + (i + 1)) = cs.take (off + i) ++ [v] := by
        rw [show off + (i + 1) = (off + i) + 1 from by omega, List.take_succ_eq_append_getElem (by simp; omega)]
        rw [List.take_set_of_le (Nat.le_refl _)]
        simp
      have e2 : (cs.set (off + i) v).drop (off + (i + 1) + vs.length) = cs.drop (off + i + (v :: vs).length) := by
        rw [List.drop_set_of_lt (by omega)]
        congr 1
        simp only [List.length_cons]
        omega
      rw [e1, e2]
      simp
end
section
variable {P : Program} {ρ : Option Nat} {n : Sz} {E : Ent} {I : IMap} {L : LL} {H : List Res} {Q : Exit → Act → World → Prop} {ops : Array Oper} {K : Act → World → Prop}
variable {ty : Nat} {pos : String} {af : Array Edge} {x y : Operand}
/-- a store of a whole private block -/
theorem o_stw {g tt t' kk : Nat} {b : Bool} {cs : List Value} {v : Value} (vs : List Value) (ht : tyK P tt = some (b, kk)) (hx : ev L x = some (.pointer (some ⟨g, 0, none⟩))) (hy : ev L y = some v)
    (hv : v.cells = vs.toArray) (hk : vs.length = kk) (ho : cs.length = kk) (h1 : vs.all (·.oneCell') = true)
    (k : SX n E I L (.blk g t' vs :: H) K) : SX n E I L (.blk g t' cs :: H) (one P ops Q ⟨none, .store tt x y, ty, pos, af, none⟩ K) :=
  o_skip (fun a w st m => by
    have hg : w.heap[g]? = some (.cells cs.toArray t' (0, 0)) := m.blk
    obtain ⟨w', hr, hh, r1, r2, r3, r4, r5⟩ := run_storeCells (P := P) vs w cs 0 0 hg (by omega) (fun v hv => by simpa using List.all_eq_true.1 h1 v hv)
    refine ⟨w', ?_, m.step r1 r2 r3 (by omega) (fun k hk hne => r5 k (fun e => hne (by subst e; rfl))) ?_ (fun g' hg' => .inl hg')⟩
    · simp [execOp, st.ev hx, st.ev hy, Instr.storeAt, Instr.sureAddr, storeVar, (tyK_spec ht w).2, hv, hk, hr]
    · show w'.heap[g]? = _
      rw [hh]
      have : cs.drop vs.length = [] := List.drop_eq_nil_of_le (by omega)
      simp [this]) k
/-- a store of one cell -/
theorem o_st1 {g off tt t' : Nat} {b : Bool} {cs : List Value} {v : Value} (ht : tyK P tt = some (b, 1)) (hx : ev L x = some (.pointer (some ⟨g, off, none⟩))) (hy : ev L y = some v)
    (hv : v.oneCell' = true) (ho : Nat.blt off cs.length = true)
    (k : SX n E I L (.blk g t' (cs.set off v) :: H) K) : SX n E I L (.blk g t' cs :: H) (one P ops Q ⟨none, .store tt x y, ty, pos, af, none⟩ K) :=
  o_skip (fun a w st m => by
    have hg : w.heap[g]? = some (.cells cs.toArray t' (0, 0)) := m.blk
    have hr := run_store_cell (P := P) (v := v) hg (off := off) (by simpa [Nat.blt_eq] using ho) hv
    have hc : v.cells = #[v] := by cases v <;> first | rfl | cases hv
    refine ⟨_, ?_, m.step (w' := w.setCell ⟨g, off, none⟩ v) (r' := .blk g t' (cs.set off v)) rfl rfl rfl (by simp) (fun k hk hne => heap_setCell_other w _ k v (fun e => hne (by subst e; rfl))) (heap_setCell_at v hg) (fun g' hg' => .inl hg')⟩
    simp [execOp, st.ev hx, st.ev hy, Instr.storeAt, Instr.sureAddr, storeVar, (tyK_spec ht w).2, hc, storeCells, add_lit, hr]) k
/-- a store into a private block: vs into the cells from off on -/
theorem o_st {g off tt t' kk : Nat} {b : Bool} {cs : List Value} {v : Value} (vs ds : List Value) (ht : tyK P tt = some (b, kk)) (hx : ev L x = some (.pointer (some ⟨g, off, none⟩))) (hy : ev L y = some v)
    (hv : v.cells = vs.toArray) (hk : vs.length = kk) (ho : Nat.ble (off + kk) cs.length = true) (h1 : vs.all (·.oneCell') = true) (hds : cs.take off ++ (vs ++ cs.drop (off + kk)) = ds)
    (k : SX n E I L (.blk g t' ds :: H) K) : SX n E I L (.blk g t' cs :: H) (one P ops Q ⟨none, .store tt x y, ty, pos, af, none⟩ K) :=
  o_skip (fun a w st m => by
    have hg : w.heap[g]? = some (.cells cs.toArray t' (0, 0)) := m.blk
    obtain ⟨w', hr, hh, r1, r2, r3, r4, r5⟩ := run_storeCells (P := P) vs w cs off 0 hg (by have := Nat.le_of_ble_eq_true ho; omega) (fun v hv => by simpa using List.all_eq_true.1 h1 v hv)
    refine ⟨w', ?_, m.step r1 r2 r3 (by omega) (fun k hk hne => r5 k (fun e => hne (by subst e; rfl))) ?_ (fun g' hg' => .inl hg')⟩
    · simp [execOp, st.ev hx, st.ev hy, Instr.storeAt, Instr.sureAddr, storeVar, (tyK_spec ht w).2, hv, hk, hr]
    · show w'.heap[g]? = _
      rw [hh, ← hds, ← hk]
      simp) k
end
end Go.Sx
