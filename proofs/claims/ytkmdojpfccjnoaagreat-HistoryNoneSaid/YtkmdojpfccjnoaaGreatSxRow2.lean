/- A row of the call's own, as a block of pieces and back; append of made elements; overlaps. -/
import Derived.Test.YtkmdojpfccjnoaaGreatSxChunk
set_option linter.all false
namespace Go.Sx
open Go
theorem chunks_of {k : Nat} (q : Nat) : ∀ (l : List Value), l.length = q * k → ∃ rest, Uk k rest ∧ rest.flatten = l ∧ rest.length = q := by
  induction q with
  | zero => intro l h; exact ⟨[], fun c hc => (by cases hc), by simp at h; simp [h], rfl⟩
  | succ q ih =>
    intro l h
    rw [Nat.add_mul] at h
    obtain ⟨r, h1, h2, h3⟩ := ih (l.drop k) (by rw [List.length_drop]; omega)
    refine ⟨l.take k :: r, fun c hc => ?_, ?_, by simp [h3]⟩
    · rcases List.mem_cons.1 hc with rfl | hc
      · rw [List.length_take]; omega
      · exact h1 c hc
    · rw [List.flatten_cons, h2, List.take_append_drop]
/-- what a row is, seen as a block -/
theorem IsRow.open_ {w : World} {v : Value} {e k m : Nat} {xss : List (List Value)} (h : IsRow (look' w) v e k m xss.flatten) (hU : Uk k xss) (hm : xss.length = m) :
    (m = 0 ∧ v = .slice none 0 0) ∨ ∃ g cap rest, v = .slice (some ⟨g, 0, none⟩) m cap ∧ Uk k rest ∧ m + rest.length = cap ∧ cap ≤ maxLen ∧ w.heap[g]? = some (.cells (xss ++ rest).flatten.toArray e (0, 0)) := by
  obtain ⟨h1, h2⟩ := h
  rcases h2 with ⟨h2, h3⟩ | ⟨g, cap, cur, rfl, h3, h4, h5, h6, h7⟩
  · exact .inl ⟨h3, h2⟩
  · right
    obtain ⟨r, r1, r2, r3⟩ := chunks_of (k := k) (cap - m) (cur.toList.drop (m * k)) (by rw [List.length_drop, Array.length_toList, h6, Nat.sub_mul])
    refine ⟨g, cap, r, rfl, r1, by omega, h5, ?_⟩
    have h8 : w.heap[g]? = some (.cells cur e (0, 0)) := h3
    rw [h8]
    congr 2
    apply Array.toList_inj.1
    rw [List.flatten_append, r2, ← h7]
    simp
theorem IsRow.shut {w : World} {g e k m cap : Nat} {xss rest : List (List Value)} (h : w.heap[g]? = some (.cells (xss ++ rest).flatten.toArray e (0, 0))) (hU : Uk k xss) (hR : Uk k rest) (hm : xss.length = m) (hc : m + rest.length = cap) (hl : cap ≤ maxLen) :
    IsRow (look' w) (.slice (some ⟨g, 0, none⟩) m cap) e k m xss.flatten := by
  have hu : Uk k (xss ++ rest) := hU.append hR
  refine ⟨by rw [flat_len hU, hm], .inr ⟨g, cap, _, rfl, h, by omega, hl, ?_, ?_⟩⟩
  · rw [List.size_toArray, flat_len hu, List.length_append, hm, hc]
  · show ((xss ++ rest).flatten.toArray.toList).take (m * k) = _
    rw [List.toList_toArray, flat_take hu, ← hm, List.take_left]
section
variable {P : Program} {ρ : Option Nat} {n : Sz} {E : Ent} {I : IMap} {L : LL} {H : List Res} {Q : Exit → Act → World → Prop} {ops : Array Oper} {K : Act → World → Prop}
theorem sx_row {v : Value} {e k m : Nat} {xss : List (List Value)} (hU : Uk k xss) (hm : xss.length = m) (h0 : m = 0 → v = .slice none 0 0 → SX n E I L H K)
    (h1 : ∀ g cap rest, v = .slice (some ⟨g, 0, none⟩) m cap → Uk k rest → m + rest.length = cap → cap ≤ maxLen → SX n E I L (.blk g e (xss ++ rest).flatten :: H) K) : SX n E I L (.row v e k m xss.flatten :: H) K := by
  intro a w st mm
  have hr : IsRow (look' w) v e k m xss.flatten := mm.holds (.row v e k m xss.flatten) (List.mem_cons_self ..)
  rcases hr.open_ hU hm with ⟨h2, h3⟩ | ⟨g, cap, rest, h2, h3, h4, h5, h6⟩
  · exact h0 h2 h3 a w st mm.drop
  · refine h1 g cap rest h2 h3 h4 h5 a w st (mm.step rfl rfl rfl (Nat.le_refl _) (fun _ _ _ => rfl) h6 (fun g' hg' => ?_))
    subst h2
    exact .inl hg'
theorem sx_unrow {g e k m cap : Nat} {xss rest : List (List Value)} (hU : Uk k xss) (hR : Uk k rest) (hm : xss.length = m) (hc : m + rest.length = cap) (hl : cap ≤ maxLen)
    (h : SX n E I L (.row (.slice (some ⟨g, 0, none⟩) m cap) e k m xss.flatten :: H) K) : SX n E I L (.blk g e (xss ++ rest).flatten :: H) K := by
  intro a w st mm
  have hb : w.heap[g]? = some (.cells (xss ++ rest).flatten.toArray e (0, 0)) := mm.blk
  exact h a w st (mm.step rfl rfl rfl (Nat.le_refl _) (fun _ _ _ => rfl) (IsRow.shut hb hU hR hm hc hl) (fun g' hg' => .inl hg'))
/-- a block is given up, and all of it is known -/
theorem sx_pubB {g t : Nat} {cs : List Value} (h : ∀ I', ILe I I' → I' g = some (.cells cs.toArray t (0, 0)) → SX n E I' L H K) : SX n E I L (.blk g t cs :: H) K := by
  intro a w s mm
  have hh : w.heap[g]? = some (.cells cs.toArray t (0, 0)) := mm.blk
  exact h _ (IMap.pub_le _ (mm.priv _ (List.mem_cons_self ..) g rfl).1) (IMap.pub_same _ _ _) a w s (mm.pub (g := g) rfl hh)
theorem FnX.of_row {f : FuncId} {args : Value → List Value} {p : Value → Res → Prop} {v : Value} {e k m : Nat} {xss : List (List Value)} (hU : Uk k xss) (hm : xss.length = m)
    (h0 : m = 0 → FnX P f (args (.slice none 0 0)).toArray I [] p)
    (h1 : ∀ g cap rest, Uk k rest → m + rest.length = cap → cap ≤ maxLen → FnX P f (args (.slice (some ⟨g, 0, none⟩) m cap)).toArray I [.blk g e (xss ++ rest).flatten] p) : FnX P f (args v).toArray I [.row v e k m xss.flatten] p := by
  refine ⟨fun w mm => ?_⟩
  have hr : IsRow (look' w) v e k m xss.flatten := mm.holds (.row v e k m xss.flatten) (List.mem_cons_self ..)
  rcases hr.open_ hU hm with ⟨h2, h3⟩ | ⟨g, cap, rest, h2, h3, h4, h5, h6⟩
  · subst h3
    exact (h0 h2).go w mm.drop
  · subst h2
    exact (h1 g cap rest h3 h4 h5).go w (mm.step rfl rfl rfl (Nat.le_refl _) (fun _ _ _ => rfl) h6 (fun g' hg' => .inl hg'))
variable {d ty : Nat} {pos : String} {af : Array Edge} {x y z : Operand}
/-- append(s, make([]T, q)...), where there is no room: a new block -/
theorem o_appendMake {tt tn e k g t' bytes q i cap : Nat} {kn kq : IntKind} {A : Option Addr} {zs : List Value} {xss : List (List Value)} (yss : List (List Value)) (he : P.underlying tt = some (.slice e)) (hn : P.underlying tn = some (.int kn)) (hb : bytesK P e = some (zs, k, bytes)) (hzs : zs.length = k) (hk0 : Nat.blt 0 k = true)
    (hx : ev L x = some (.slice A i cap)) (hy : ev L y = some (.int kq (q : Nat))) (hU : Uk k xss) (hys : yss.length = i) (hV : Uk k yss)
    (hA : 0 < i → A = some ⟨g, 0, none⟩ ∧ xss.take i = yss) (hq : 0 < q) (hg : cap < i + q) (hroom : (i + q) * bytes ≤ 140737488355328) (hlen : i + q ≤ maxLen) (hd : Nat.blt d n.sz = true)
    (kk : ∀ g' r, i + q + r ≤ maxLen → SX n E I ((d, .slice (some ⟨g', 0, none⟩) (i + q) (i + q + r)) :: L) (.blk g' e (yss ++ List.replicate (q + r) zs).flatten :: .blk g t' xss.flatten :: H) K) :
    SX n E I L (.blk g t' xss.flatten :: H) (one P ops Q ⟨some d, .call { callee := .builtin .append, args := #[x, y], argTypes := #[tt, tn] }, ty, pos, af, none⟩ K) :=
  o_gen (fun q' : Nat × Nat => .slice (some ⟨q'.1, 0, none⟩) (i + q) (i + q + q'.2)) (fun _ => I) (fun q' => .blk q'.1 e (yss ++ List.replicate (q + q'.2) zs).flatten :: .blk g t' xss.flatten :: H) (fun q' => i + q + q'.2 ≤ maxLen) hd
    (fun a w st mm => by
      unfold bytesK at hb
      split at hb
      · rename_i inf hi
        cases hz : inf.zero with
        | none => simp [hz] at hb
        | some z0 =>
          simp only [hz, Option.map_some, Option.some.injEq, Prod.mk.injEq] at hb
          obtain ⟨hz1, hz2, hz3⟩ := hb
          have hk' : 0 < k := by simpa [Nat.blt_eq] using hk0
          have hz0 : z0.cells = zs.toArray := by rw [← hz1]
          have hold : (Builtin.firstCells inf.size i (.slice A i cap)).run P w.drew = .ok yss.flatten.toArray w.drew := by
            rcases Nat.eq_zero_or_pos i with h0 | hp
            · subst h0
              obtain rfl := List.eq_nil_of_length_eq_zero hys
              have hl0 : ∀ (b : Addr), (loadCells b 0).run P w.drew = .ok #[] w.drew := fun b => run_loadCells_list (P := P) w.drew b [] (fun j v hv => by simp at hv)
              cases A <;> simp [Builtin.firstCells, hl0]
            · obtain ⟨rfl, ht⟩ := hA hp
              have hl := run_loadCells_list (P := P) w.drew ⟨g, 0, none⟩ yss.flatten (fun j v hv => by
                rw [add_lit]
                have hg' : w.drew.heap[g]? = some (.cells xss.flatten.toArray t' (0, 0)) := mm.drew.blk
                rw [cell_of_row w.drew g _ _ t' _ hg', Nat.zero_add]
                rw [← ht, ← flat_take hU, List.getElem?_take] at hv
                split at hv
                · simpa using hv
                · cases hv)
              rw [flat_len hV, hys, ← hz2] at hl
              simp only [Builtin.firstCells]
              exact hl
          have hcapq : grownCap w (i + q) cap e = i + q + (grownCap w (i + q) cap e - (i + q)) := by have := grownCap_ge w (i + q) cap e; omega
          have h48 : Builtin.nextslicecap (i + q) cap * inf.bytes ≤ 281474976710656 := by
            have h1 : Builtin.nextslicecap (i + q) cap * inf.bytes ≤ 2 * (i + q) * inf.bytes := Nat.mul_le_mul_right _ (Room.nextslicecap_le' hg)
            rw [Nat.mul_assoc, hz3] at h1
            rw [hz3]
            omega
          have h48q : q * inf.bytes ≤ 281474976710656 := by
            have h1 : q * inf.bytes ≤ (i + q) * inf.bytes := Nat.mul_le_mul_right _ (by omega)
            rw [hz3] at h1 ⊢
            omega
          have hr := Lib.run_append_grow_zeros (P := P) w tt tn ty e inf z0 kq kn he hn hi hz A i cap yss.flatten hold q hq (by omega) hg (by unfold maxLen at hlen; omega) h48q h48
          have hzc : ∀ q, Builtin.zeroCells z0.cells q = (List.replicate q zs).flatten.toArray := fun q => by
            have h2 : Builtin.zeroCells zs.toArray q = madeCells zs.toArray (q * zs.length) := by simp [Builtin.zeroCells, madeCells]
            rw [hz0, h2, zrep_made zs (by omega), zrep_flat]
          rw [hzc, hzc] at hr
          refine ⟨(w.heap.size, grownCap w (i + q) cap e - (i + q)), w.drew.alloc (.cells (yss ++ List.replicate (q + (grownCap w (i + q) cap e - (i + q))) zs).flatten.toArray e), ?_, ?_, mm.drew.alloc e _⟩
          · show i + q + (grownCap w (i + q) cap e - (i + q)) ≤ maxLen
            rw [← hcapq]
            exact grownCap_le_maxLen w (i + q) cap e hlen
          · have e1 : yss.flatten.toArray ++ (List.replicate q zs).flatten.toArray ++ (List.replicate (grownCap w (i + q) cap e - (i + q)) zs).flatten.toArray = (yss ++ List.replicate (q + (grownCap w (i + q) cap e - (i + q))) zs).flatten.toArray := by
              rw [List.append_toArray, List.append_toArray, ← List.flatten_append, ← List.flatten_append, List.append_assoc, List.replicate_append_replicate]
            rw [e1] at hr
            simp only [execOp, resolve, invoke, builtin, Sem.run_bind, Sem.run_pure, Result.andThen_ok, List.map_toArray, List.map_cons, List.map_nil, st.ev hx, st.ev hy, hr]
            rw [← hcapq]
      · cases hb) fun q' hq' => kk q'.1 q'.2 hq'
end
end Go.Sx
