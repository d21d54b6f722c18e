/- Literals, rows: what builds structs and slices. -/
import Derived.Test.YtkmdojpfccjnoaaGreatSxMap
import Derived.Laws.MakeOwn
import Derived.Laws.AppendOwnNone
import Derived.Maps.AppendAt
set_option linter.all false
namespace Go.Sx
open Go

def plK (P : Program) (t : TypeId) : Option (List (Nat × Nat)) :=
  match P.underlying t with
  | some (.struct fs) => fs.toList.mapM fun f => (tyK P f.type).map fun x => (f.offset, x.2)
  | _ => none
/-- the parts into the cells -/
def fillL (pl : Nat → Option (Nat × Nat)) : List (Nat × Value) → List Value → Option (List Value)
  | [], cs => some cs
  | (i, v) :: r, cs => match pl i with
    | some (off, k) => if Nat.beq v.cells.size k && Nat.ble (off + k) cs.length then fillL pl r (cs.take off ++ (v.cells.toList ++ cs.drop (off + k))) else none
    | none => none
theorem foldl_set (off : Nat) : ∀ (vs : List Value) (k : Nat) (cs : Array Value), off + k + vs.length ≤ cs.size →
    ((vs.zipIdx k).foldl (fun cs (c, j) => cs.setIfInBounds (off + j) c) cs).toList = cs.toList.take (off + k) ++ vs ++ cs.toList.drop (off + k + vs.length) := by
  intro vs
  induction vs with
  | nil => intro k cs h; simp
  | cons v vs ih =>
    intro k cs h
    simp only [List.length_cons] at h
    simp only [List.zipIdx_cons, List.foldl_cons]
    rw [ih (k + 1) _ (by simp; omega)]
    simp only [Array.toList_setIfInBounds]
    have hl : off + k < cs.toList.length := by simp; omega
    have e1 : (cs.toList.set (off + k) v).take (off + (k + 1)) = cs.toList.take (off + k) ++ [v] := by
      rw [show off + (k + 1) = (off + k) + 1 from by omega, List.take_succ_eq_append_getElem (by simpa using hl)]
      rw [List.take_set_of_le (Nat.le_refl _)]
      simp
    have e2 : (cs.toList.set (off + k) v).drop (off + (k + 1) + vs.length) = cs.toList.drop (off + k + (v :: vs).length) := by
      rw [List.drop_set_of_lt (by omega)]
      congr 1
      simp only [List.length_cons]
      omega
    rw [e1, e2]
    simp
theorem fill_eq (pl : Nat → Option (Nat × Nat)) : ∀ (ps : List (Nat × Value)) (cs ds : List Value), fillL pl ps cs = some ds → Instr.fill pl cs.toArray ps = some ds.toArray := by
  intro ps
  induction ps with
  | nil => intro cs ds h; simp only [fillL, Option.some.injEq] at h; subst h; rfl
  | cons p ps ih =>
    obtain ⟨i, v⟩ := p
    intro cs ds h
    simp only [fillL] at h
    split at h
    · rename_i off k hpl
      split at h
      · rename_i hc
        simp only [Bool.and_eq_true] at hc
        obtain ⟨h1, h2⟩ := hc
        have h1' : v.cells.size = k := Nat.eq_of_beq_eq_true h1
        have h2' : off + k ≤ cs.length := Nat.le_of_ble_eq_true h2
        simp only [Instr.fill, hpl]
        rw [if_neg (by simp [h1']; omega)]
        have e : v.cells.zipIdx.foldl (fun cs (c, j) => cs.setIfInBounds (off + j) c) cs.toArray = (cs.take off ++ (v.cells.toList ++ cs.drop (off + k))).toArray := by
          apply Array.toList_inj.1
          rw [← Array.foldl_toList, Array.toList_zipIdx]
          rw [foldl_set off v.cells.toList 0 cs.toArray (by simp [h1']; omega)]
          simp [h1']
        rw [e]
        exact ih _ _ h
      · cases h
    · cases h

section
variable {P : Program}
theorem mapM_places : ∀ (fs : List Field) (pl : List (Nat × Nat)) (w : World), (fs.mapM fun f => (tyK P f.type).map fun x => (f.offset, x.2)) = some pl →
    (fs.mapM fun f => do Pure.pure (f.offset, ← sizeOf f.type) : Sem (List (Nat × Nat))).run P w = .ok pl w := by
  intro fs
  induction fs with
  | nil => intro pl w h; simp at h; subst h; rfl
  | cons f fs ih =>
    intro pl w h
    rw [List.mapM_cons] at h ⊢
    cases hk : tyK P f.type with
    | none => simp [hk] at h
    | some x =>
      cases hr : (fs.mapM fun f => (tyK P f.type).map fun x => (f.offset, x.2)) with
      | none => simp [hk, hr] at h
      | some r =>
        simp [hk, hr] at h
        subst h
        have h2 := (tyK_spec (b := x.1) (k := x.2) hk w).2
        simp only [Sem.run_bind, h2, Result.andThen_ok, Sem.run_pure, ih r w hr]
end

section
variable {P : Program} {ρ : Option Nat} {n : Sz} {E : Ent} {I : IMap} {L : LL} {H : List Res} {Q : Exit → Act → World → Prop} {ops : Array Oper} {K : Act → World → Prop}
variable {d ty : Nat} {pos : String} {af : Array Edge} {x y z : Operand} {i j : Int}

def evp (L : LL) : List (Nat × Operand) → Option (List (Nat × Value))
  | [] => some []
  | (i, x) :: r => match ev L x, evp L r with
    | some v, some vs => some ((i, v) :: vs)
    | _, _ => none
theorem evp_spec {a : Act} (s : St n a L) : ∀ (xs : List (Nat × Operand)) (vs : List (Nat × Value)), evp L xs = some vs → xs.map (fun (i, x) => (i, a.eval x)) = vs := by
  intro xs
  induction xs with
  | nil => intro vs h; simp only [evp, Option.some.injEq] at h; subst h; rfl
  | cons p xs ih =>
    obtain ⟨i, x⟩ := p
    intro vs h
    simp only [evp] at h
    split at h
    · rename_i v us hv hus
      cases h
      simp only [List.map_cons, s.ev hv, ih us hus]
    · cases h
/-- a struct literal -/
theorem v_build {tt : Nat} {pl : List (Nat × Nat)} {zs cs : List Value} {ps : List (Nat × Operand)} {vs : List (Nat × Value)} (hz : zeroK P tt = some zs) (hp : plK P tt = some pl) (hv : evp L ps = some vs) (hf : fillL (pl[·]?) vs zs = some cs) :
    OV P n E I L H ⟨some d, .build tt ps.toArray, ty, pos, af, none⟩ (.agg cs.toArray) := fun a w st _ => by
  obtain ⟨z, h1, h2⟩ := zeroK_spec hz w
  unfold plK at hp
  split at hp
  · rename_i fs hfs
    have hm := mapM_places (P := P) fs.toList pl w hp
    have hm' : (fs.mapM fun f => do Pure.pure (f.offset, ← sizeOf f.type) : Sem (Array (Nat × Nat))).run P w = .ok pl.toArray w := by
      rw [Array.mapM_eq_mapM_toList]
      simp only [Sem.run_map, hm, Result.andThen_ok]
    have hparts : (ps.toArray.map fun (i, x) => (i, a.eval x)).toList = vs := by simpa using evp_spec st ps vs hv
    have hfill := fill_eq (pl[·]?) vs zs cs hf
    have hfill' : Instr.fill (pl.toArray[·]?) zs.toArray vs = some cs.toArray := by simpa using hfill
    simp only [execOp, Instr.build, Sem.run_bind, h1, Result.andThen_ok, run_underlying hfs, hm', hparts, h2, hfill']
    rfl
  · cases hp

/-- zeros -/
def zrep (zs : List Value) : Nat → List Value
  | 0 => []
  | n + 1 => zs ++ zrep zs n
theorem zrep_len (zs : List Value) (n : Nat) : (zrep zs n).length = n * zs.length := by
  induction n with
  | zero => simp [zrep]
  | succ n ih => simp only [zrep, List.length_append, ih, Nat.add_mul]; omega
theorem zrep_made (zs : List Value) (hz : 0 < zs.length) (n : Nat) : madeCells zs.toArray (n * zs.length) = (zrep zs n).toArray := by
  apply Array.ext_getElem?
  intro q
  have key : ∀ (n q : Nat), (zrep zs n)[q]? = if q < n * zs.length then some (zs[q % zs.length]!) else none := by
    intro n
    induction n with
    | zero => intro q; simp [zrep]
    | succ n ih =>
      intro q
      simp only [zrep]
      by_cases h : q < zs.length
      · rw [List.getElem?_append_left h, Nat.mod_eq_of_lt h, if_pos (by rw [Nat.add_mul]; omega), List.getElem?_eq_getElem h, getElem!_pos zs q h]
      · rw [List.getElem?_append_right (by omega), ih]
        have e : (q - zs.length) % zs.length = q % zs.length := (Nat.mod_eq_sub_mod (by omega)).symm
        rw [e]
        by_cases h2 : q < (n + 1) * zs.length
        · rw [if_pos h2, if_pos (by rw [Nat.add_mul] at h2; omega)]
        · rw [if_neg h2, if_neg (by rw [Nat.add_mul] at h2; omega)]
  simp only [madeCells, Array.getElem?_map, List.getElem?_toArray, key, List.size_toArray]
  by_cases h : q < n * zs.length
  · rw [if_pos h, Array.getElem?_range, if_pos h]
    simp
  · rw [if_neg h, Array.getElem?_range, if_neg h]
    rfl

/-- a slice literal: a row of the call's own -/
theorem o_buildSlice {tt e k len : Nat} {zs cs : List Value} {ps : List (Nat × Operand)} {vs : List (Nat × Value)} (he : eltK P tt = some (e, k)) (hz : zeroK P e = some zs) (hk : zs.length = k) (hk0 : Nat.blt 0 k = true) (hl : Nat.ble (len * k) 16777216 = true)
    (hv : evp L ps = some vs) (hf : fillL (fun i => some (i * k, k)) vs (zrep zs len) = some cs) (hcs : cs.length = len * k) (hd : Nat.blt d n.sz = true)
    (kk : ∀ v, SX n E I ((d, v) :: L) (.row v e k len cs :: H) K) : SX n E I L H (one P ops Q ⟨some d, .buildSlice tt len ps.toArray, ty, pos, af, none⟩ K) :=
  o_gen (fun v : Value => v) (fun _ => I) (fun v => .row v e k len cs :: H) (fun _ => True) hd
    (fun a w st m => by
      obtain ⟨h1, bb, h2⟩ := eltK_spec he
      obtain ⟨z, h3, h4⟩ := zeroK_spec hz w
      have hparts : (ps.toArray.map fun (i, x) => (i, a.eval x)).toList = vs := by simpa using evp_spec st ps vs hv
      have hk' : 0 < k := by simpa [Nat.blt_eq] using hk0
      have hl' : len * k ≤ 16777216 := Nat.le_of_ble_eq_true hl
      have hlen : len ≤ len * k := Nat.le_mul_of_pos_right len hk'
      have hinit : (Array.range (len * k)).map ((if len * k = 0 then (#[] : Array Value) else zs.toArray)[· % (if len * k = 0 then (#[] : Array Value) else zs.toArray).size]!) = (zrep zs len).toArray := by
        by_cases h0 : len * k = 0
        · have : len = 0 := by
            rcases Nat.eq_zero_or_pos len with h | h
            · exact h
            · have := Nat.mul_pos h hk'; omega
          subst this
          simp [zrep]
        · rw [if_neg h0]
          subst hk
          exact zrep_made zs hk' len
      have hfill := fill_eq _ vs (zrep zs len) cs hf
      refine ⟨.slice (some ⟨w.heap.size, 0, none⟩) len len, w.alloc (.cells cs.toArray e), trivial, ?_, ?_⟩
      · simp only [execOp, Instr.buildSlice, Sem.run_bind, run_underlying h1, Result.andThen_ok, (tyK_spec h2 w).2]
        rw [if_neg (by omega)]
        by_cases h0 : len * k = 0
        · simp only [h0, if_true] at hinit ⊢
          simp only [Sem.run_bind, Sem.run_pure, Result.andThen_ok, hparts]
          rw [hinit, hfill]
          simp [newRow]
        · simp only [h0, if_false] at hinit ⊢
          simp only [Sem.run_bind, Sem.run_pure, Result.andThen_ok, hparts, h3, h4]
          rw [hinit, hfill]
          simp [newRow]
      · refine m.new rfl rfl rfl (by simp) (fun k hk => Below_old w _ k hk) ⟨hcs, .inr ⟨w.heap.size, len, cs.toArray, rfl, heap_alloc_new w _, Nat.le_refl _, by unfold maxLen; omega, by simpa using hcs, by rw [← hcs]; simp⟩⟩ (fun g hg => ?_)
        simp only [Res.foot, blockOf, Option.some.injEq] at hg
        omega) fun v _ => kk v

theorem Mem.own {v : Value} {e k m : Nat} {xs : List Value} {w : World} (mm : Mem E I H w) (h : Res.row v e k m xs ∈ H) : w.ownsRow 0 e k v m xs := by
  obtain ⟨h1, h2⟩ := mm.holds _ h
  refine ⟨h1, ?_⟩
  rcases h2 with h2 | ⟨g, cap, cur, h3, h4, h5⟩
  · exact .inl h2
  · exact .inr ⟨g, cap, cur, h3, Nat.zero_le _, h4, h5⟩
theorem own_holds {v : Value} {e k m : Nat} {xs : List Value} {w : World} (h : w.ownsRow 0 e k v m xs) : (Res.row v e k m xs).holds w := by
  obtain ⟨h1, h2⟩ := h
  refine ⟨h1, ?_⟩
  rcases h2 with h2 | ⟨g, cap, cur, h3, _, h4, h5⟩
  · exact .inl h2
  · exact .inr ⟨g, cap, cur, h3, h4, h5⟩
theorem ownBlock_eq (v : Value) : v.ownBlock = blockOf v := by
  cases v with
  | slice a l c => cases a <;> rfl
  | _ => rfl
def bytesK (P : Program) (e : TypeId) : Option (List Value × Nat × Nat) := match P.info? e with
  | some i => i.zero.map fun z => (z.cells.toList, i.size, i.bytes)
  | none => none
/-- append(s, x..) where s is a row of the call's own; the cells of x are known -/
theorem o_append {tt e k nn m c bytes : Nat} {v : Value} {A : Option Addr} {zs xs news : List Value} (he : P.underlying tt = some (.slice e)) (hb : bytesK P e = some (zs, k, bytes)) (hzs : zs.length = k) (hk0 : Nat.blt 0 k = true)
    (hx : ev L x = some v) (hy : ev L y = some (.slice A m c)) (hl : news.length = m * k) (h1 : news.all (·.oneCell') = true)
    (hsrc : 0 < m → ∃ b o, A = some ⟨b, o, none⟩ ∧ ∀ w, Mem E I (.row v e k nn xs :: H) w → ∀ j u, news[j]? = some u → w.cell? ⟨b, o + j, none⟩ = some u)
    (hroom : (nn + m) * bytes ≤ 140737488355328) (hlen : nn + m ≤ 9223372036854775807) (hd : Nat.blt d n.sz = true)
    (kk : ∀ v', SX n E I ((d, v') :: L) (.row v' e k (nn + m) (xs ++ news) :: H) K) : SX n E I L (.row v e k nn xs :: H) (one P ops Q ⟨some d, .call { callee := .builtin .append, args := #[x, y], argTypes := #[tt, tt] }, ty, pos, af, none⟩ K) :=
  o_gen (fun v : Value => v) (fun _ => I) (fun v' => .row v' e k (nn + m) (xs ++ news) :: H) (fun _ => True) hd
    (fun a w st mm => by
      have hown := mm.own (List.mem_cons_self ..)
      unfold bytesK at hb
      split at hb
      · rename_i inf hi
        cases hz : inf.zero with
        | none => simp [hz] at hb
        | some z =>
          simp only [hz, Option.map_some, Option.some.injEq, Prod.mk.injEq] at hb
          obtain ⟨hz1, hz2, hz3⟩ := hb
          have hzz : z.cells.size = k := by rw [← hzs, ← hz1]; simp
          have hk' : 0 < k := by simpa [Nat.blt_eq] using hk0
          have fin : ∀ v' w', (Builtin.append_ #[tt, tt] ty #[v, .slice A m c]).run P w = .ok v' w' → w'.ownsRow 0 e k v' (nn + m) (xs ++ news) → w.grownBy w' v.ownBlock → (v'.ownBlock = v.ownBlock ∨ v'.ownBlock = some w.heap.size) →
              ∃ v' w', True ∧ (execOp a.eval ⟨some d, .call { callee := .builtin .append, args := #[x, y], argTypes := #[tt, tt] }, ty, pos, af, none⟩).run P w = .ok (.value v') w' ∧ Mem E I (.row v' e k (nn + m) (xs ++ news) :: H) w' := by
            intro v' w' hr ho hg hv
            refine ⟨v', w', trivial, ?_, ?_⟩
            · simp only [execOp, resolve, invoke, builtin, Sem.run_bind, Sem.run_pure, Result.andThen_ok, List.map_toArray, List.map_cons, List.map_nil, st.ev hx, st.ev hy, hr]
            · refine mm.step hg.os hg.tape hg.output hg.size (fun q hq hne => hg.block q hq (fun e' => hne (by simp only [Res.foot]; rw [← ownBlock_eq]; exact e'.symm))) (own_holds ho) (fun g hg' => ?_)
              simp only [Res.foot, ← ownBlock_eq] at hg' ⊢
              rcases hv with hv | hv
              · exact .inl (hv ▸ hg')
              · rw [hv] at hg'; cases hg'; exact .inr (Nat.le_refl _)
          rcases Nat.eq_zero_or_pos m with h0 | hm
          · subst h0
            have hn : news = [] := List.eq_nil_of_length_eq_zero (by simpa using hl)
            subst hn
            cases A with
            | none =>
              have hr : (Builtin.append_ #[tt, tt] ty #[v, .slice none 0 c]).run P w = .ok v w := by
                obtain ⟨_, hv | ⟨g, cap, cur, hv, _, _, hnc, _⟩⟩ := hown
                · obtain ⟨rfl, rfl⟩ := hv
                  simp [Builtin.append_, run_underlying he, sizeOf, typeInfo, hi, Builtin.lenOf, Builtin.firstCells]
                · subst hv
                  simp [Builtin.append_, run_underlying he, sizeOf, typeInfo, hi, Builtin.lenOf, Builtin.firstCells, hnc, storeCells]
              exact fin v w hr (by simpa using hown) ⟨rfl, rfl, rfl, Nat.le_refl _, fun _ _ _ => rfl⟩ (.inl rfl)
            | some ad =>
              obtain ⟨v', w', hr, ho, hg, _, hv⟩ := run_append_own_at (P := P) w 0 tt ty e inf z k bytes he hi hz hz2 hz3 hzz hk' v nn xs hown ad 0 c [] (by simp) (fun j u hu => by simp at hu) (by simp) (by unfold maxLen; omega) hroom (Nat.zero_le _)
              exact fin v' w' hr ho hg hv
          · obtain ⟨b, o, rfl, hcell⟩ := hsrc hm
            obtain ⟨v', w', hr, ho, hg, _, hv⟩ := run_append_own_at (P := P) w 0 tt ty e inf z k bytes he hi hz hz2 hz3 hzz hk' v nn xs hown ⟨b, o, none⟩ m c news hl (fun j u hu => by rw [add_lit]; exact hcell w mm j u hu) (fun u hu => by simpa using List.all_eq_true.1 h1 u hu) (by unfold maxLen; omega) hroom (Nat.zero_le _)
            exact fin v' w' hr ho hg hv
      · cases hb) fun v' _ => kk v'
end
end Go.Sx
