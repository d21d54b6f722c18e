/- Maps of the call's own: made, asked, written. -/
import Derived.Test.YtkmdojpfccjnoaaGreatSxDraw
import Derived.Laws.StructEq
set_option linter.all false
namespace Go.Sx
open Go

def mget {κ : Type} [DecidableEq κ] : List (κ × Value) → κ → Option Value
  | [], _ => none
  | (k', v) :: r, k => if k' = k then some v else mget r k
def mput {κ : Type} [DecidableEq κ] : List (κ × Value) → κ → Value → List (κ × Value)
  | [], k, v => [(k, v)]
  | (k', u) :: r, k, v => if k' = k then (k', v) :: r else (k', u) :: mput r k v
def emap {κ : Type} (enc : κ → Value) (kvs : List (κ × Value)) : List (Value × Value) := kvs.map fun p => (enc p.1, p.2)
/-- where a key stands, with its value -/
def mfind {κ : Type} [DecidableEq κ] : List (κ × Value) → κ → Nat → Option (Nat × Value)
  | [], _, _ => none
  | (k', v) :: r, k, i => if k' = k then some (i, v) else mfind r k (i + 1)
theorem mfind_get {κ : Type} [DecidableEq κ] (kvs : List (κ × Value)) (k : κ) : ∀ i, (mfind kvs k i).map (·.2) = mget kvs k := by
  induction kvs with
  | nil => intro i; rfl
  | cons p r ih => obtain ⟨k', v⟩ := p; intro i; simp only [mfind, mget]; split; rfl; exact ih _
theorem mfind_none {κ : Type} [DecidableEq κ] {kvs : List (κ × Value)} {k : κ} : ∀ {i}, mfind kvs k i = none → ∀ v, mput kvs k v = kvs ++ [(k, v)] := by
  induction kvs with
  | nil => intro i _ v; rfl
  | cons p r ih =>
    obtain ⟨k', u⟩ := p
    intro i h v
    simp only [mfind] at h
    split at h
    · cases h
    · rename_i hne; simp only [mput, if_neg hne, ih h v, List.cons_append]
theorem mfind_some {κ : Type} [DecidableEq κ] {kvs : List (κ × Value)} {k : κ} : ∀ {i j u}, mfind kvs k i = some (j, u) → i ≤ j ∧ kvs[j - i]? = some (k, u) ∧ ∀ v, mput kvs k v = kvs.set (j - i) (k, v) := by
  induction kvs with
  | nil => intro i j u h; cases h
  | cons p r ih =>
    obtain ⟨k', u'⟩ := p
    intro i j u h
    simp only [mfind] at h
    split at h
    · rename_i he
      simp only [Option.some.injEq, Prod.mk.injEq] at h
      obtain ⟨rfl, rfl⟩ := h
      subst he
      exact ⟨Nat.le_refl _, by simp, fun v => by simp [mput]⟩
    · rename_i hne
      obtain ⟨h1, h2, h3⟩ := ih h
      refine ⟨by omega, ?_, fun v => ?_⟩
      · rw [show j - i = (j - (i + 1)) + 1 from by omega, List.getElem?_cons_succ]; exact h2
      · rw [show j - i = (j - (i + 1)) + 1 from by omega, List.set_cons_succ, mput, if_neg hne, h3 v]

/-- the model asks keys of this type just as Lean does -/
structure KeyOK {κ : Type} [DecidableEq κ] (P : Program) (kt : TypeId) (enc : κ → Value) : Prop where
  find : ∀ (w : World) (k : κ) (es : List MapEntry) (kvs : List (κ × Value)), es.map (fun e => (e.key, e.val)) = emap enc kvs → (Instr.findKey kt (enc k) es).run P w = .ok (mfind kvs k 0) w
  check : ∀ (w : World) (b : Bool) (k : κ), (Instr.checkKey b 10000 kt (enc k)).run P w = .ok () w
  same : ∀ k : κ, Instr.sameBits 10000 (enc k) (enc k) = true

theorem ba_beq (a b : ByteArray) : (a == b) = decide (a = b) := (beq_toListBytes a b).trans (str_eq a b)
theorem key_string {P : Program} {kt : TypeId} (h : P.underlying kt = some .string) : KeyOK P kt Value.string where
  find := by
    intro w k es kvs he
    have key : ∀ (es : List MapEntry) (kvs : List (ByteArray × Value)) (i : Nat), es.map (fun e => (e.key, e.val)) = emap Value.string kvs → Instr.findNow .string (.string k) es i = some (mfind kvs k i) := by
      intro es
      induction es with
      | nil => intro kvs i he; cases kvs <;> simp_all [emap, Instr.findNow, mfind]
      | cons e es ih =>
        intro kvs i he
        cases kvs with
        | nil => simp [emap] at he
        | cons p kvs =>
          obtain ⟨k', v⟩ := p
          simp only [List.map_cons, emap, List.cons.injEq, Prod.mk.injEq] at he
          obtain ⟨⟨h1, h2⟩, h3⟩ := he
          simp only [Instr.findNow, h1, Instr.sameNow, ba_beq]
          by_cases hk : k' = k
          · subst hk; simp [mfind, h2]
          · have : ¬ k = k' := fun e => hk e.symm
            simp only [this, decide_false, mfind, if_neg hk]
            exact ih kvs (i + 1) h3
    simp only [Instr.findKey, Sem.run_bind, run_underlying h, Result.andThen_ok, key es kvs 0 he]
    rfl
  check := by
    intro w b k
    show (Instr.checkKey b (9999 + 1) kt (Value.string k)).run P w = _
    rw [Instr.checkKey]
    simp [run_underlying h]
  same := by
    intro k
    show (k == k) = true
    rw [ba_beq]
    simp

section
variable {P : Program} {ρ : Option Nat} {n : Sz} {E : Ent} {I : IMap} {L : LL} {H : List Res} {Q : Exit → Act → World → Prop} {ops : Array Oper} {K : Act → World → Prop}
variable {d ty : Nat} {pos : String} {af : Array Edge} {x y z : Operand}
theorem Mem.mp {r : Nat} {es : List (Value × Value)} {w : World} (m : Mem E I H w) (h : Res.mp r es ∈ H) : ∃ entries clock, w.heap[r]? = some (.map entries clock) ∧ entries.toList.map (fun e => (e.key, e.val)) = es ∧ (entries.toList.map (·.born)).Nodup ∧ ∀ e ∈ entries.toList, e.born < clock := by
  obtain ⟨o, h1, entries, clock, rfl, h2⟩ := m.holds _ h
  exact ⟨entries, clock, h1, h2⟩
theorem run_getMap {w : World} {r : Nat} {entries : Array MapEntry} {clock : Nat} (h : w.heap[r]? = some (.map entries clock)) : (getObj r).run P w = .ok (.map entries clock) w := by
  simp [getObj, Sem.run, h]

theorem o_makeMap {mt kt et : Nat} (ht : P.underlying mt = some (.map kt et)) (hd : Nat.blt d n.sz = true)
    (k : ∀ r, SX n E I ((d, .map (some r)) :: L) (.mp r [] :: H) K) : SX n E I L H (one P ops Q ⟨some d, .makeMap mt none, ty, pos, af, none⟩ K) :=
  o_gen (fun r : Nat => .map (some r)) (fun _ => I) (fun r => .mp r [] :: H) (fun _ => True) hd
    (fun a w st m => ⟨w.heap.size, w.alloc (.map #[] 0), trivial, by simp [execOp, Instr.makeMap, run_underlying ht],
      m.new rfl rfl rfl (by simp) (fun k hk => Below_old w _ k hk) ⟨_, heap_alloc_new w _, #[], 0, rfl, rfl, by simp, by simp⟩ (fun g hg => by simp only [Res.foot, Option.some.injEq] at hg; omega)⟩) fun r _ => k r
variable {κ : Type} [DecidableEq κ] {enc : κ → Value}
def zvK (P : Program) (t : TypeId) : Option Value := (P.info? t).bind (·.zero)
theorem zvK_spec {t : TypeId} {z : Value} (h : zvK P t = some z) (w : World) : (zeroValue t).run P w = .ok z w := by
  unfold zvK at h
  cases hi : P.info? t with
  | none => simp [hi] at h
  | some i => simp [hi] at h; simp [zeroValue, typeInfo, hi, h]
theorem run_lookup {w : World} {mt kt et r : Nat} {zv : Value} {kvs : List (κ × Value)} (hK : KeyOK P kt enc) (ht : P.underlying mt = some (.map kt et)) (hz : zvK P et = some zv) (m : Mem E I H w) (hm : Res.mp r (emap enc kvs) ∈ H) (key : κ) (c : Bool) :
    (Instr.lookup mt (.map (some r)) (enc key) c).run P w = .ok (if c then .tuple #[(mget kvs key).getD zv, .bool (mget kvs key).isSome] else (mget kvs key).getD zv) w := by
  obtain ⟨entries, clock, h1, h2, _⟩ := m.mp hm
  have h3 := hK.find w key entries.toList kvs h2
  have h4 := mfind_get kvs key 0
  simp only [Instr.lookup, Sem.run_bind, run_underlying ht, Result.andThen_ok, run_getMap h1, Sem.run_pure, hK.check, h3]
  cases hf : mfind kvs key 0 with
  | none =>
    rw [hf] at h4
    simp only [Option.map_none] at h4
    simp only [Sem.run_bind, zvK_spec hz, Result.andThen_ok, Sem.run_pure, ← h4]
    cases c <;> rfl
  | some q =>
    rw [hf] at h4
    simp only [Option.map_some] at h4
    simp only [Sem.run_pure, Result.andThen_ok, ← h4]
    cases c <;> rfl
theorem v_lookup {mt kt et r : Nat} {zv : Value} {kvs : List (κ × Value)} (hm : Res.mp r (emap enc kvs) ∈ H) (hK : KeyOK P kt enc) (ht : P.underlying mt = some (.map kt et)) (hz : zvK P et = some zv) (key : κ) (hx : ev L x = some (.map (some r))) (hy : ev L y = some (enc key)) :
    OV P n E I L H ⟨some d, .lookup mt x y false, ty, pos, af, none⟩ ((mget kvs key).getD zv) := fun a w st m => by
  simp only [execOp, st.ev hx, st.ev hy, Sem.run_bind, run_lookup hK ht hz m hm key false, Result.andThen_ok]
  rfl
theorem v_lookup2 {mt kt et r : Nat} {zv : Value} {kvs : List (κ × Value)} (hm : Res.mp r (emap enc kvs) ∈ H) (hK : KeyOK P kt enc) (ht : P.underlying mt = some (.map kt et)) (hz : zvK P et = some zv) (key : κ) (hx : ev L x = some (.map (some r))) (hy : ev L y = some (enc key)) :
    OV P n E I L H ⟨some d, .lookup mt x y true, ty, pos, af, none⟩ (.tuple #[(mget kvs key).getD zv, .bool (mget kvs key).isSome]) := fun a w st m => by
  simp only [execOp, st.ev hx, st.ev hy, Sem.run_bind, run_lookup hK ht hz m hm key true, Result.andThen_ok]
  rfl
theorem v_len_map {mt kt et r : Nat} {es : List (Value × Value)} (hm : Res.mp r es ∈ H) (ht : P.underlying mt = some (.map kt et)) (hx : ev L x = some (.map (some r))) :
    OV P n E I L H ⟨some d, .call { callee := .builtin .len, args := #[x], argTypes := #[mt] }, ty, pos, af, none⟩ (.int .i64 (es.length : Int)) := fun a w st m => by
  obtain ⟨entries, clock, h1, h2, _⟩ := m.mp hm
  have : entries.size = es.length := by rw [← h2]; simp
  simp [execOp, st.ev hx, resolve, invoke, builtin, Builtin.len_, run_underlying ht, run_getMap h1, goInt, this]

theorem emap_get {kvs : List (κ × Value)} {es : List MapEntry} (h : es.map (fun e => (e.key, e.val)) = emap enc kvs) {j : Nat} {k : κ} {u : Value} (hj : kvs[j]? = some (k, u)) : ∃ e, es[j]? = some e ∧ e.key = enc k ∧ e.val = u := by
  have h1 : (es.map (fun e => (e.key, e.val)))[j]? = some (enc k, u) := by rw [h, emap, List.getElem?_map, hj]; rfl
  rw [List.getElem?_map] at h1
  cases he : es[j]? with
  | none => simp [he] at h1
  | some e =>
    simp only [he, Option.map_some, Option.some.injEq, Prod.mk.injEq] at h1
    exact ⟨e, rfl, h1.1, h1.2⟩
/-- m[k] = v -/
theorem o_mapUpdate {mt kt et r : Nat} {v : Value} {kvs : List (κ × Value)} (hK : KeyOK P kt enc) (ht : P.underlying mt = some (.map kt et)) (key : κ) (hx : ev L x = some (.map (some r))) (hy : ev L y = some (enc key)) (hv : ev L z = some v)
    (k : SX n E I L (.mp r (emap enc (mput kvs key v)) :: H) K) : SX n E I L (.mp r (emap enc kvs) :: H) (one P ops Q ⟨none, .mapUpdate mt x y z, ty, pos, af, none⟩ K) :=
  o_skip (fun a w st m => by
    obtain ⟨entries, clock, h1, h2, h3, h4⟩ := m.mp (List.mem_cons_self ..)
    have hlt : r < w.heap.size := (Array.getElem?_eq_some_iff.1 h1).1
    have hf := hK.find w key entries.toList kvs h2
    have hset : ∀ o : Obj, (setObj r o).run P w = .ok () { w with heap := w.heap.setIfInBounds r o } := fun o => by simp [setObj, Sem.run, h1]
    have hnew : ∀ o : Obj, ({ w with heap := w.heap.setIfInBounds r o } : World).heap[r]? = some o := fun o => by simp [hlt]
    have hstep : ∀ (o : Obj), MapIs o (emap enc (mput kvs key v)) → Mem E I (.mp r (emap enc (mput kvs key v)) :: H) { w with heap := w.heap.setIfInBounds r o } := fun o ho =>
      m.step rfl rfl rfl (by simp) (fun k hk hne => by
        have : r ≠ k := fun e => hne (by rw [← e]; rfl)
        simp [Array.getElem?_setIfInBounds_ne this]) ⟨o, hnew o, ho⟩ (fun g hg => .inl hg)
    cases hm : mfind kvs key 0 with
    | none =>
      refine ⟨_, ?_, hstep (.map (entries.push { key := enc key, val := v, born := clock }) (clock + 1)) ⟨_, _, rfl, ?_, ?_, ?_⟩⟩
      · simp only [execOp, st.ev hx, st.ev hy, st.ev hv, Instr.mapUpdate, Sem.run_bind, run_underlying ht, Result.andThen_ok, run_getMap h1, hK.check, hf, hm, hset]
        rfl
      · rw [mfind_none hm]
        simp [h2, emap]
      · simp only [Array.toList_push, List.map_append, List.map_cons, List.map_nil]
        rw [List.nodup_append]
        refine ⟨h3, by simp, fun a ha b hb e => ?_⟩
        simp only [List.mem_singleton] at hb
        subst e hb
        obtain ⟨e, he, hc⟩ := List.mem_map.1 ha
        have := h4 e he
        omega
      · intro e he
        simp only [Array.toList_push, List.mem_append, List.mem_singleton] at he
        rcases he with he | rfl
        · have := h4 e he; omega
        · simp
    | some q =>
      obtain ⟨j, u⟩ := q
      obtain ⟨_, hj, hp⟩ := mfind_some hm
      simp only [Nat.sub_zero] at hj hp
      obtain ⟨e, he, hek, heu⟩ := emap_get h2 hj
      have he' : entries[j]? = some e := by simpa using he
      refine ⟨_, ?_, hstep (.map (entries.modify j fun e => { e with key := enc key, val := v }) clock) ⟨_, _, rfl, ?_, ?_, ?_⟩⟩
      · simp only [execOp, st.ev hx, st.ev hy, st.ev hv, Instr.mapUpdate, Sem.run_bind, run_underlying ht, Result.andThen_ok, run_getMap h1, hK.check, hf, hm, he', Option.map_some, Option.getD_some, hek, Instr.keyThatStays, hK.same, if_true, Sem.run_pure, hset]
      · rw [hp v]
        apply List.ext_getElem?
        intro i
        simp only [Array.toList_modify, List.getElem?_map, emap, List.getElem?_modify, List.getElem?_set]
        have h2i : (entries.toList.map fun e => (e.key, e.val))[i]? = (emap enc kvs)[i]? := by rw [h2]
        simp only [emap, List.getElem?_map] at h2i
        by_cases hij : j = i
        · subst hij
          have : j < kvs.length := (List.getElem?_eq_some_iff.1 hj).1
          simp [he, this]
        · simp only [hij, if_false]
          simpa using h2i
      · have : (entries.modify j fun e => { e with key := enc key, val := v }).toList.map (·.born) = entries.toList.map (·.born) := by
          apply List.ext_getElem?
          intro i
          simp only [Array.toList_modify, List.getElem?_map, List.getElem?_modify]
          cases entries.toList[i]? with
          | none => rfl
          | some e => by_cases hij : j = i <;> simp [hij]
        rw [this]; exact h3
      · intro e' he'
        rw [Array.toList_modify] at he'
        obtain ⟨i, hi⟩ := List.getElem?_of_mem he'
        rw [List.getElem?_modify] at hi
        cases hei : entries.toList[i]? with
        | none => simp [hei] at hi
        | some e0 =>
          simp only [hei, Option.map_some, Option.some.injEq] at hi
          have := h4 e0 (List.mem_of_getElem? hei)
          by_cases hij : j = i
          · subst hij; simp at hi; subst hi; exact this
          · simp [hij] at hi; subst hi; exact this) k
end
end Go.Sx
