/- Rows in pieces: what lies in a block of the call's own, element by element. -/
import Derived.Test.YtkmdojpfccjnoaaGreatSxKey
import Derived.Lib.AppendZerosOnto
import Derived.Lib.Overlaps
import Derived.Room.Entries
import Derived.Laws.Shifts
set_option linter.all false
namespace Go.Sx
open Go
def Uk (k : Nat) (xss : List (List Value)) : Prop := ∀ c ∈ xss, c.length = k
theorem Uk.append {k : Nat} {a b : List (List Value)} (h : Uk k a) (h' : Uk k b) : Uk k (a ++ b) := fun c hc => (List.mem_append.1 hc).elim (h c) (h' c)
theorem Uk.take {k : Nat} {a : List (List Value)} (h : Uk k a) (i : Nat) : Uk k (a.take i) := fun c hc => h c (List.mem_of_mem_take hc)
theorem Uk.drop {k : Nat} {a : List (List Value)} (h : Uk k a) (i : Nat) : Uk k (a.drop i) := fun c hc => h c (List.mem_of_mem_drop hc)
theorem Uk.rep {k : Nat} {c : List Value} (h : c.length = k) (i : Nat) : Uk k (List.replicate i c) := fun d hd => by rw [List.eq_of_mem_replicate hd]; exact h
theorem Uk.set {k : Nat} {a : List (List Value)} {c : List Value} (h : Uk k a) (hc : c.length = k) (i : Nat) : Uk k (a.set i c) := fun d hd => by
  rcases List.mem_or_eq_of_mem_set hd with hd | rfl
  · exact h d hd
  · exact hc
theorem flat_len {k : Nat} {xss : List (List Value)} (h : Uk k xss) : xss.flatten.length = xss.length * k := by
  induction xss with
  | nil => simp
  | cons c r ih =>
    have h1 := h c (by simp)
    have h2 := ih (fun d hd => h d (by simp [hd]))
    simp only [List.flatten_cons, List.length_append, h1, h2, List.length_cons, Nat.add_mul]
    omega
theorem flat_drop {k : Nat} {xss : List (List Value)} (h : Uk k xss) (i : Nat) : xss.flatten.drop (i * k) = (xss.drop i).flatten := by
  induction xss generalizing i with
  | nil => simp
  | cons c r ih =>
    have h1 := h c (by simp)
    have h2 : Uk k r := fun d hd => h d (by simp [hd])
    cases i with
    | zero => simp
    | succ i =>
      rw [List.flatten_cons, List.drop_succ_cons, ← ih h2 i, List.drop_append, List.drop_eq_nil_of_le (by rw [h1, Nat.add_mul]; omega), List.nil_append, h1]
      congr 1
      rw [Nat.add_mul]; omega
theorem flat_take {k : Nat} {xss : List (List Value)} (h : Uk k xss) (i : Nat) : xss.flatten.take (i * k) = (xss.take i).flatten := by
  have h1 : (xss.take i).flatten ++ (xss.drop i).flatten = xss.flatten := by rw [← List.flatten_append, List.take_append_drop]
  have h2 := flat_drop h i
  have h3 : xss.flatten.take (i * k) ++ xss.flatten.drop (i * k) = xss.flatten := List.take_append_drop _ _
  rw [h2] at h3
  exact List.append_cancel_right (h3.trans h1.symm)
theorem flat_at {k : Nat} {xss : List (List Value)} (h : Uk k xss) {i : Nat} {c : List Value} (hi : xss[i]? = some c) : (xss.flatten.drop (i * k)).take k = c := by
  obtain ⟨hl, he⟩ := List.getElem?_eq_some_iff.1 hi
  rw [flat_drop h, List.drop_eq_getElem_cons hl, he, List.flatten_cons, List.take_append_of_le_length (by rw [h c (he ▸ List.getElem_mem hl)]; omega), List.take_of_length_le (by rw [h c (he ▸ List.getElem_mem hl)]; omega)]
theorem flat_splice {k : Nat} {xss yss : List (List Value)} (h : Uk k xss) (h' : Uk k yss) (o : Nat) : xss.flatten.take (o * k) ++ (yss.flatten ++ xss.flatten.drop (o * k + yss.length * k)) = (xss.take o ++ (yss ++ xss.drop (o + yss.length))).flatten := by
  rw [← Nat.add_mul, flat_take h, flat_drop h, List.flatten_append, List.flatten_append]
theorem flat_set {k : Nat} {xss : List (List Value)} (h : Uk k xss) {i : Nat} {c : List Value} (hi : i < xss.length) (hc : c.length = k) : xss.flatten.take (i * k) ++ (c ++ xss.flatten.drop (i * k + k)) = (xss.set i c).flatten := by
  have := flat_splice h (yss := [c]) (by intro d hd; simp at hd; subst hd; exact hc) i
  simp only [List.flatten_cons, List.flatten_nil, List.append_nil, List.length_cons, List.length_nil, Nat.zero_add, Nat.one_mul] at this
  rw [this, List.set_eq_take_append_cons_drop, if_pos hi]
  rfl
theorem zrep_flat (zs : List Value) (n : Nat) : zrep zs n = (List.replicate n zs).flatten := by
  induction n with
  | zero => rfl
  | succ n ih => rw [zrep, List.replicate_succ, List.flatten_cons, ih]
/-- pieces that read as a list -/
inductive FlatC {α : Type} [Enc α] (I : IMap) : List (List Value) → List α → Prop
  | nil : FlatC I [] []
  | cons {c : List Value} {x : α} {xss : List (List Value)} {l : List α} : Enc.rd I c x → FlatC I xss l → FlatC I (c :: xss) (x :: l)
section
variable {α : Type} [Enc α] {I I' : IMap} {xss yss : List (List Value)} {l m : List α}
theorem FlatC.flat (h : FlatC I xss l) : Flat I xss.flatten l := by
  induction h with
  | nil => exact .nil
  | cons h1 _ ih => rw [List.flatten_cons]; exact .cons h1 ih
theorem FlatC.of {ws : List Value} (h : Flat I ws l) : ∃ xss, ws = xss.flatten ∧ FlatC I xss l := by
  induction h with
  | nil => exact ⟨[], rfl, .nil⟩
  | cons h1 _ ih => obtain ⟨xss, rfl, h2⟩ := ih; exact ⟨_ :: xss, rfl, .cons h1 h2⟩
theorem FlatC.len (h : FlatC I xss l) : xss.length = l.length := by
  induction h with
  | nil => rfl
  | cons _ _ ih => simp [ih]
theorem FlatC.uk (h : FlatC I xss l) : Uk (Enc.k α) xss := by
  induction h with
  | nil => intro c hc; cases hc
  | cons h1 _ ih => intro c hc; rcases List.mem_cons.1 hc with rfl | hc; exact Enc.len h1; exact ih c hc
theorem FlatC.le (h : FlatC I xss l) (hI : ILe I I') : FlatC I' xss l := by
  induction h with
  | nil => exact .nil
  | cons h1 _ ih => exact .cons (Enc.mono hI h1) ih
theorem FlatC.append (h : FlatC I xss l) (h' : FlatC I yss m) : FlatC I (xss ++ yss) (l ++ m) := by
  induction h with
  | nil => exact h'
  | cons h1 _ ih => exact .cons h1 ih
theorem FlatC.take (h : FlatC I xss l) (i : Nat) : FlatC I (xss.take i) (l.take i) := by
  induction h generalizing i with
  | nil => simp; exact .nil
  | cons h1 _ ih => cases i with
    | zero => exact .nil
    | succ i => exact .cons h1 (ih i)
theorem FlatC.drop (h : FlatC I xss l) (i : Nat) : FlatC I (xss.drop i) (l.drop i) := by
  induction h generalizing i with
  | nil => simp; exact .nil
  | cons h1 h2 ih => cases i with
    | zero => exact .cons h1 h2
    | succ i => exact ih i
theorem FlatC.set {c : List Value} {x : α} (h : FlatC I xss l) (hx : Enc.rd I c x) (i : Nat) : FlatC I (xss.set i c) (l.set i x) := by
  induction h generalizing i with
  | nil => exact .nil
  | cons h1 h2 ih => cases i with
    | zero => exact .cons hx h2
    | succ i => exact .cons h1 (ih i)
theorem FlatC.at_ (h : FlatC I xss l) {i : Nat} (hi : i < l.length) : ∃ c, xss[i]? = some c ∧ Enc.rd I c l[i] := by
  induction h generalizing i with
  | nil => exact absurd hi (by simp)
  | cons h1 h2 ih => cases i with
    | zero => exact ⟨_, rfl, h1⟩
    | succ i => obtain ⟨c, h3, h4⟩ := ih (i := i) (by simpa using hi); exact ⟨c, by simpa using h3, by simpa using h4⟩
theorem FlatC.one (h : FlatC I xss l) : xss.flatten.all (·.oneCell') = true := h.flat.all
theorem RdA.pieces {A : Option Addr} (h : RdA I A l) : ∃ xss, FlatC I xss l ∧ (0 < l.length → ∃ b o, A = some ⟨b, o, none⟩ ∧ ICells I b o xss.flatten) := by
  rcases Nat.eq_zero_or_pos l.length with h0 | hp
  · obtain rfl := List.eq_nil_of_length_eq_zero h0
    exact ⟨[], .nil, fun h => absurd h (by simp)⟩
  · obtain ⟨b, o, e, hx⟩ := h hp
    obtain ⟨ws, h1, h2⟩ := Flat.of_rd l o hx
    obtain ⟨xss, rfl, h3⟩ := FlatC.of h1
    exact ⟨xss, h3, fun _ => ⟨b, o, e, h2⟩⟩
end
section
variable {P : Program} {ρ : Option Nat} {n : Sz} {E : Ent} {I : IMap} {L : LL} {H : List Res} {Q : Exit → Act → World → Prop} {ops : Array Oper} {K : Act → World → Prop}
variable {d ty : Nat} {pos : String} {af : Array Edge} {x y z : Operand}
theorem v_ldc {g off tt t' k : Nat} {xss : List (List Value)} {c : List Value} (hm : Res.blk g t' xss.flatten ∈ H) (hU : Uk k xss) (ht : tyK P tt = some (true, k)) (hx : ev L x = some (.pointer (some ⟨g, off, none⟩))) (i : Nat) (ho : off = i * k) (hi : xss[i]? = some c) :
    OV P n E I L H ⟨some d, .load tt x, ty, pos, af, none⟩ (.agg c.toArray) := v_ldp c hm ht hx (by subst ho; exact flat_at hU hi) (hU c (List.mem_of_getElem? hi))
theorem o_stc {g off tt t' k : Nat} {b : Bool} {xss : List (List Value)} {v : Value} (c : List Value) (i : Nat) (hU : Uk k xss) (ht : tyK P tt = some (b, k)) (hx : ev L x = some (.pointer (some ⟨g, off, none⟩))) (hy : ev L y = some v)
    (hv : v.cells = c.toArray) (hk : c.length = k) (h1 : c.all (·.oneCell') = true) (ho : off = i * k) (hi : i < xss.length)
    (kk : SX n E I L (.blk g t' (xss.set i c).flatten :: H) K) : SX n E I L (.blk g t' xss.flatten :: H) (one P ops Q ⟨none, .store tt x y, ty, pos, af, none⟩ K) := by
  subst ho
  refine o_st c _ ht hx hy hv hk ?_ h1 (flat_set hU hi hk) kk
  rw [flat_len hU]
  apply Nat.ble_eq_true_of_le
  have : (i + 1) * k ≤ xss.length * k := Nat.mul_le_mul_right _ hi
  rw [Nat.add_mul] at this
  omega
theorem v_cap {tt e m c : Nat} {A : Option Addr} (ht : P.underlying tt = some (.slice e)) (hx : ev L x = some (.slice A m c)) : OV P n E I L H ⟨some d, .call { callee := .builtin .cap, args := #[x], argTypes := #[tt] }, ty, pos, af, none⟩ (.int .i64 (c : Int)) := fun a w st _ => by
  simp [execOp, st.ev hx, resolve, invoke, builtin, Builtin.cap_, run_underlying ht, goInt]
theorem v_shr1 {tt : Nat} {k kk : IntKind} {i : Int} {tyy : Nat} (hx : ev L x = some (.int k i)) (hk : 1 ≤ k.bits) : OV P n E I L H ⟨some d, .binOp .shr tt x (.const (.int kk 1)) tyy, ty, pos, af, none⟩ (.int k (i / 2)) := fun a w st _ => by
  have h := shift_shr_any k kk i 1 (by omega)
  have h2 : min (1 : Int).toNat k.bits = 1 := by omega
  rw [h2] at h
  have hy : a.eval (.const (.int kk 1)) = .int kk 1 := rfl
  have hb : binOp .shr tt (.int k i) (.int kk 1) = pure (.int k (i / 2)) := h
  simp [execOp, st.ev hx, hy, eqGuard_shr, hb]
theorem v_seqnil {tt e m c tyy : Nat} {A : Option Addr} (ht : P.underlying tt = some (.slice e)) (hx : ev L x = some (.slice A m c)) : OV P n E I L H ⟨some d, .binOp .eql tt x (.const (.slice none 0 0)) tyy, ty, pos, af, none⟩ (.bool A.isNone) := fun a w st _ => by
  have hy : a.eval (.const (.slice none 0 0)) = .slice none 0 0 := rfl
  have he : (Op.equalIn (9999 + 1) tt (.slice A m c) (.slice none 0 0)).run P w = .ok A.isNone w := by
    rw [Op.equalIn]
    cases A <;> simp [run_underlying ht]
  have hb : (binOp .eql tt (.slice A m c) (.slice none 0 0)).run P w = .ok (.bool A.isNone) w := by
    have h1 : binOp .eql tt (.slice A m c) (.slice none 0 0) = (do Pure.pure (.bool (← Op.equal tt (.slice A m c) (.slice none 0 0)))) := by cases A <;> rfl
    rw [h1]
    simp only [Sem.run_bind, Op.equal, Op.maxDepth]
    rw [he]
    rfl
  have hg : (eqGuard .eql tt x (.const (.slice none 0 0)) (.slice A m c) (.slice none 0 0)).run P w = .ok () w := by cases A <;> rfl
  simp only [execOp, st.ev hx, hy, Sem.run_bind, hg, hb, Result.andThen_ok, Sem.run_pure]
/-- make([]T, n) -/
theorem o_makeSlice {tt e k bytes q : Nat} {zs : List Value} {kl : IntKind} (he : P.underlying tt = some (.slice e)) (hb : bytesK P e = some (zs, k, bytes)) (hzs : zs.length = k) (hk0 : Nat.blt 0 k = true)
    (hx : ev L x = some (.int kl (q : Nat))) (hq : q * bytes ≤ 140737488355328) (hq2 : q ≤ 9223372036854775807) (hd : Nat.blt d n.sz = true)
    (kk : ∀ g, SX n E I ((d, .slice (some ⟨g, 0, none⟩) q q) :: L) (.blk g e (List.replicate q zs).flatten :: H) K) : SX n E I L H (one P ops Q ⟨some d, .makeSlice tt x x, ty, pos, af, none⟩ K) :=
  o_gen (fun g : Nat => .slice (some ⟨g, 0, none⟩) q q) (fun _ => I) (fun g => .blk g e (List.replicate q zs).flatten :: H) (fun _ => True) hd
    (fun a w st m => by
      unfold bytesK at hb
      split at hb
      · rename_i inf hi
        cases hz : inf.zero with
        | none => simp [hz] at hb
        | some z0 =>
          simp only [hz, Option.map_some, Option.some.injEq, Prod.mk.injEq] at hb
          obtain ⟨hz1, hz2, hz3⟩ := hb
          have hk' : 0 < k := by simpa [Nat.blt_eq] using hk0
          have hr := run_make (P := P) w tt e inf z0 he hi hz kl kl (q : Int) (q : Int) (by omega) (by omega) (by
            rw [hz3, ← Int.natCast_mul, Nat.mul_comm]; omega) (by omega)
          have hcs : madeCells z0.cells ((q : Int).toNat * inf.size) = (List.replicate q zs).flatten.toArray := by
            have : z0.cells = zs.toArray := by rw [← hz1]
            rw [hz2, this, ← hzs, Int.toNat_natCast, zrep_made zs (by omega), zrep_flat]
          rw [hcs, Int.toNat_natCast] at hr
          refine ⟨w.heap.size, w.alloc (.cells (List.replicate q zs).flatten.toArray e), trivial, ?_, m.alloc e (List.replicate q zs).flatten⟩
          simp only [execOp, st.ev hx, Sem.run_bind, hr, Result.andThen_ok, Sem.run_pure]
      · cases hb) fun g _ => kk g
theorem run_stored {g t o : Nat} {vs cs : List Value} {w : World} (m : Mem E I (.blk g t cs :: H) w) (hl : o + vs.length ≤ cs.length) (h1 : vs.all (·.oneCell') = true) :
    ∃ w', (storeCells ⟨g, o, none⟩ vs 0).run P w = .ok () w' ∧ Mem E I (.blk g t (cs.take o ++ (vs ++ cs.drop (o + vs.length))) :: H) w' := by
  have hg : w.heap[g]? = some (.cells cs.toArray t (0, 0)) := m.blk
  obtain ⟨w', hr, hh, r1, r2, r3, r4, r5⟩ := run_storeCells (P := P) vs w cs o 0 hg (by omega) (fun v hv => by simpa using List.all_eq_true.1 h1 v hv)
  refine ⟨w', hr, m.step r1 r2 r3 (by omega) (fun k hk hne => r5 k (fun e => hne (by subst e; rfl))) ?_ (fun g' hg' => .inl hg')⟩
  show w'.heap[g]? = _
  rw [hh]
  simp
/-- copy(d, s), d in a block of the call's own -/
theorem o_copy {tt ts e k g t' dl dc sl sc : Nat} {D S : Option Addr} {xss : List (List Value)} (yss : List (List Value)) (o : Nat) (he : eltK P tt = some (e, k)) (hx : ev L x = some (.slice D dl dc)) (hy : ev L y = some (.slice S sl sc)) (hn : yss.length = min sl dl) (hU : Uk k xss) (hV : Uk k yss)
    (h1 : yss.flatten.all (·.oneCell') = true) (hD : 0 < yss.length → D = some ⟨g, o * k, none⟩)
    (hS : 0 < yss.length → ∃ b so, S = some ⟨b, so, none⟩ ∧ ∀ w, Mem E I (.blk g t' xss.flatten :: H) w → ∀ j u, yss.flatten[j]? = some u → w.cell? ⟨b, so + j, none⟩ = some u)
    (hfit : o + yss.length ≤ xss.length) (hd : Nat.blt d n.sz = true)
    (kk : SX n E I ((d, .int .i64 (yss.length : Nat)) :: L) (.blk g t' (xss.take o ++ (yss ++ xss.drop (o + yss.length))).flatten :: H) K) :
    SX n E I L (.blk g t' xss.flatten :: H) (one P ops Q ⟨some d, .call { callee := .builtin .copy, args := #[x, y], argTypes := #[tt, ts] }, ty, pos, af, none⟩ K) :=
  o_gen (fun _ : Unit => .int .i64 (yss.length : Nat)) (fun _ => I) (fun _ => .blk g t' (xss.take o ++ (yss ++ xss.drop (o + yss.length))).flatten :: H) (fun _ => True) hd
    (fun a w st m => by
      obtain ⟨hu, bb, hk⟩ := eltK_spec he
      have hsz := (tyK_spec hk w).2
      have hmin : Nat.min sl dl = yss.length := hn.symm
      rcases Nat.eq_zero_or_pos yss.length with h0 | hp
      · obtain rfl := List.eq_nil_of_length_eq_zero h0
        refine ⟨(), w, trivial, ?_, by simpa using m⟩
        have hl0 : ∀ (b : Addr), (loadCells b 0).run P w = .ok #[] w := fun b => run_loadCells_list (P := P) w b [] (fun j v hv => by simp at hv)
        cases D <;> cases S <;> simp [execOp, st.ev hx, st.ev hy, resolve, invoke, builtin, Builtin.copy_, run_underlying hu, Builtin.lenOf, Builtin.firstCells, hsz, hmin, hl0, storeCells, goInt]
      · obtain rfl := hD hp
        obtain ⟨b, so, rfl, hcell⟩ := hS hp
        have hll : yss.flatten.length = yss.length * k := flat_len hV
        have hl := run_loadCells_list (P := P) w ⟨b, so, none⟩ yss.flatten (fun j v hv => by rw [add_lit]; exact hcell w m j v hv)
        rw [hll] at hl
        have hfit' : o * k + yss.flatten.length ≤ xss.flatten.length := by
          rw [hll, flat_len hU, ← Nat.add_mul]; exact Nat.mul_le_mul_right _ hfit
        obtain ⟨w', hr, hm⟩ := run_stored (P := P) m hfit' h1
        rw [hll, flat_splice hU hV] at hm
        refine ⟨(), w', trivial, ?_, hm⟩
        simp [execOp, st.ev hx, st.ev hy, resolve, invoke, builtin, Builtin.copy_, run_underlying hu, Builtin.lenOf, Builtin.firstCells, hsz, hmin, hl, hr, goInt]) fun _ _ => kk
/-- clear(s), s in a block of the call's own -/
theorem o_clear {tt e k g t' m c bytes : Nat} {D : Option Addr} {zs : List Value} {xss : List (List Value)} (o : Nat) (he : P.underlying tt = some (.slice e)) (hb : bytesK P e = some (zs, k, bytes)) (hzs : zs.length = k) (hk0 : Nat.blt 0 k = true) (hz1 : zs.all (·.oneCell') = true)
    (hx : ev L x = some (.slice D m c)) (hU : Uk k xss) (hD : 0 < m → D = some ⟨g, o * k, none⟩) (hfit : o + m ≤ xss.length)
    (kk : SX n E I L (.blk g t' (xss.take o ++ (List.replicate m zs ++ xss.drop (o + m))).flatten :: H) K) :
    SX n E I L (.blk g t' xss.flatten :: H) (one P ops Q ⟨none, .call { callee := .builtin .clear, args := #[x], argTypes := #[tt] }, ty, pos, af, none⟩ K) := by
  intro a w st mm
  unfold one
  rw [if_pos (by rfl)]
  unfold bytesK at hb
  split at hb
  · rename_i inf hi
    cases hz : inf.zero with
    | none => simp [hz] at hb
    | some z0 =>
      simp only [hz, Option.map_some, Option.some.injEq, Prod.mk.injEq] at hb
      obtain ⟨hz1', hz2, hz3⟩ := hb
      have hk' : 0 < k := by simpa [Nat.blt_eq] using hk0
      have key : ∃ w', (execOp a.eval ⟨none, .call { callee := .builtin .clear, args := #[x], argTypes := #[tt] }, ty, pos, af, none⟩).run P w = .ok (.value (.tuple #[])) w' ∧ Mem E I (.blk g t' (xss.take o ++ (List.replicate m zs ++ xss.drop (o + m))).flatten :: H) w' := by
        rcases Nat.eq_zero_or_pos m with h0 | hp
        · subst h0
          refine ⟨w, ?_, by simpa using mm⟩
          cases D <;> simp [execOp, st.ev hx, resolve, invoke, builtin, Builtin.clear_, run_underlying he]
        · obtain rfl := hD hp
          obtain ⟨m, rfl⟩ : ∃ q, m = q + 1 := ⟨m - 1, by omega⟩
          have hzc : (Builtin.zeroCells z0.cells (m + 1)).toList = (List.replicate (m + 1) zs).flatten := by
            have : z0.cells = zs.toArray := by rw [← hz1']
            have h2 : Builtin.zeroCells zs.toArray (m + 1) = madeCells zs.toArray ((m + 1) * zs.length) := by simp [Builtin.zeroCells, madeCells]
            rw [this, h2, zrep_made zs (by omega), zrep_flat]
          have hV : Uk k (List.replicate (m + 1) zs) := Uk.rep hzs _
          have hll : (List.replicate (m + 1) zs).flatten.length = (m + 1) * k := by rw [flat_len hV]; simp
          have hfit' : o * k + (List.replicate (m + 1) zs).flatten.length ≤ xss.flatten.length := by
            rw [hll, flat_len hU, ← Nat.add_mul]; exact Nat.mul_le_mul_right _ hfit
          obtain ⟨w', hr, hm⟩ := run_stored (P := P) mm hfit' (by
            rw [List.all_eq_true]; intro v hv
            obtain ⟨c, hc, hv⟩ := List.mem_flatten.1 hv
            rw [List.eq_of_mem_replicate hc] at hv
            exact List.all_eq_true.1 hz1 v hv)
          have hsp := flat_splice hU hV o
          rw [List.length_replicate] at hsp
          rw [hll, hsp] at hm
          refine ⟨w', ?_, hm⟩
          simp [execOp, st.ev hx, resolve, invoke, builtin, Builtin.clear_, run_underlying he, zeroValue, typeInfo, hi, hz, hzc, hr]
      obtain ⟨w', hr, hm⟩ := key
      rw [wq_value hr]
      exact kk _ _ st hm
  · cases hb
end
end Go.Sx
