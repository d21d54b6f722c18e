/- Contracts of functions; calls; where a function begins and ends. -/
import Derived.Test.YtkmdojpfccjnoaaGreatSxOps
set_option linter.all false
namespace Go.Sx
open Go

def Post (E : Ent) (post : Value → IMap → List Res → Prop) (e : Ending) (w : World) : Prop := ∃ v I H, e = .returned v ∧ Mem E I H w ∧ post v I H
/-- THE CONTRACT: called in whatever world that has the memory I and the private blocks H it returns a value, a memory, private blocks as 'post' says; nothing else has turned -/
structure FnH (P : Program) (f : FuncId) (args : Array Value) (I : IMap) (H : List Res) (post : Value → IMap → List Res → Prop) : Prop where
  go : ∀ w, Mem ⟨foots H, I, w⟩ I H w → After P (callFunc f args) w (Post ⟨foots H, I, w⟩ post)
/-- without private blocks, and with no memory of its own: just a value -/
def FnV (P : Program) (f : FuncId) (args : Array Value) (I : IMap) (v : Value) : Prop := FnH P f args I [] fun u I' H' => u = v ∧ I' = I ∧ H' = []
/-- without private blocks: a value, and what it refers to -/
def FnI (P : Program) (f : FuncId) (args : Array Value) (I : IMap) (post : Value → IMap → Prop) : Prop := FnH P f args I [] fun u I' H' => post u I' ∧ H' = []

def argsL : List Value → Nat → LL
  | [], _ => []
  | v :: r, i => (i, v) :: argsL r (i + 1)
theorem look_argsL (vs : List Value) : ∀ (k i : Nat) (v : Value), look (argsL vs k) i = some v → k ≤ i ∧ vs[i - k]? = some v := by
  induction vs with
  | nil => intro k i v h; simp [argsL, look] at h
  | cons u vs ih =>
    intro k i v h
    simp only [argsL, look] at h
    cases hb : Nat.beq i k with
    | true =>
      obtain rfl : i = k := Nat.eq_of_beq_eq_true hb
      rw [hb] at h
      simp at h
      exact ⟨Nat.le_refl _, by simpa using h⟩
    | false =>
      rw [hb] at h
      obtain ⟨h1, h2⟩ := ih (k + 1) i v h
      refine ⟨by omega, ?_⟩
      rw [show i - k = (i - (k + 1)) + 1 from by omega, List.getElem?_cons_succ]
      exact h2

section
variable {P : Program} {ρ : Option Nat} {n : Sz} {E : Ent} {I : IMap} {L : LL} {H : List Res} {Q : Exit → Act → World → Prop} {ops : Array Oper} {K : Act → World → Prop}

/-- what the body of a function is to come to -/
def FinQ (P : Program) (fn : Func) (R : Ending → World → Prop) : Exit → Act → World → Prop := bodyPostM Fence.wide 0 P fn R
theorem enter {f : FuncId} {fn : Func} {c : Code} {args : List Value} {k : Nat} {post : Value → IMap → List Res → Prop} (hf : P.funcs[f]? = some fn) (hcall : ∀ (args : Array Value) (w : World), (callFunc f args).run P w = .ok (.enter f args) w) (hb : fn.body = some c) (hn : fn.ntmps = k)
    (hl : Nat.ble args.length k = true) (h : ∀ w, SX ⟨k, []⟩ ⟨foots H, I, w⟩ I (argsL args 0) H (c.wq none P (FinQ P fn (Post ⟨foots H, I, w⟩ post)))) : FnH P f args.toArray I H post := by
  refine ⟨fun w m => ?_⟩
  unfold After
  rw [hcall]
  refine (callsIn_wide (n := 0)).1 (callsIn_of_wp_marks (F := Fence.wide) hf hb trivial (h w _ _ ⟨?_, rfl, ?_⟩ m))
  · simp only [List.size_toArray, Array.size_append, Array.size_replicate, hn]
    have : args.length ≤ k := by simpa using hl
    omega
  · intro i v hv
    obtain ⟨_, h2⟩ := look_argsL args 0 i v hv
    have hlt : i < args.length := by
      rcases Nat.lt_or_ge i args.length with h | h
      · exact h
      · simp [List.getElem?_eq_none h] at h2
    rw [Array.getElem?_append_left (by simpa using hlt)]
    simpa using h2

/-! results -/
def RV (P : Program) (L : LL) (H : List Res) : ResultVar → Value → Prop
  | .tmp t, v => look L t = some v
  | .cell a ty, v => ∃ g t' cs, look L a = some (.pointer (some ⟨g, 0, none⟩)) ∧ Res.blk g t' cs ∈ H ∧ ((tyK P ty = some (false, 1) ∧ cs = [v]) ∨ (∃ k, tyK P ty = some (true, k) ∧ cs.length = k ∧ v = .agg cs.toArray))
def rs (tmps : Array Value) : ResultVar → Sem Value
  | .tmp t => Pure.pure (tmps.getD t undef)
  | .cell a t => do loadVar t (← asAddr (tmps.getD a undef))
theorem results_eq (fn : Func) (tmps : Array Value) : results fn tmps = (do let vs ← fn.results.mapM (rs tmps); Pure.pure (if h : vs.size = 1 then vs[0] else .tuple vs)) := by
  unfold results
  congr 2
theorem RV.run {a : Act} {w : World} {r : ResultVar} {v : Value} (h : RV P L H r v) (s : St n a L) (m : Mem E I H w) : (rs a.tmps r).run P w = .ok v w := by
  cases r with
  | tmp t => have := s.get t v h; simp [rs, this]
  | cell x t =>
    obtain ⟨g, t', cs, h1, h2, h3⟩ := h
    have hx := s.get x _ h1
    have hg : w.heap[g]? = some (.cells cs.toArray t' (0, 0)) := m.holds _ h2
    simp only [rs, Array.getD_eq_getD_getElem?, hx, Option.getD_some, asAddr, Sem.run_bind, Sem.run_pure, Result.andThen_ok]
    rcases h3 with ⟨h3, rfl⟩ | ⟨k, h3, h4, rfl⟩
    · exact run_load_one h3 (by rw [cell_of_row w g 0 _ t' _ hg]; rfl)
    · exact run_load_agg h3 h4 (fun j v hv => by rw [add_lit, cell_of_row w g _ _ t' _ hg]; simpa using hv)
theorem m0 {r : Res} {H : List Res} : r ∈ r :: H := List.mem_cons_self ..
theorem m1 {a r : Res} {H : List Res} : r ∈ a :: r :: H := List.mem_cons_of_mem _ m0
theorem m2 {a b r : Res} {H : List Res} : r ∈ a :: b :: r :: H := List.mem_cons_of_mem _ m1
theorem m3 {a b c r : Res} {H : List Res} : r ∈ a :: b :: c :: r :: H := List.mem_cons_of_mem _ m2
theorem m4 {a b c d r : Res} {H : List Res} : r ∈ a :: b :: c :: d :: r :: H := List.mem_cons_of_mem _ m3
theorem m5 {a b c d e r : Res} {H : List Res} : r ∈ a :: b :: c :: d :: e :: r :: H := List.mem_cons_of_mem _ m4
theorem m6 {a b c d e f r : Res} {H : List Res} : r ∈ a :: b :: c :: d :: e :: f :: r :: H := List.mem_cons_of_mem _ m5
theorem m7 {a b c d e f g r : Res} {H : List Res} : r ∈ a :: b :: c :: d :: e :: f :: g :: r :: H := List.mem_cons_of_mem _ m6

theorem sx_end {k : Nat} (fn : Func) {R : Ending → World → Prop} {v : Value} (hr : ∀ a w, St ⟨k, []⟩ a L → Mem E I H w → (results fn a.tmps).run P w = .ok v w) (hR : SX ⟨k, []⟩ E I L H fun _ w => R (.returned v) w) :
    SX ⟨k, []⟩ E I L H (FinQ P fn R .ret) ∧ SX ⟨k, []⟩ E I L H (FinQ P fn R .normal) := by
  have key : ∀ a w, St ⟨k, []⟩ a L → Mem E I H w → LeavesInM Fence.wide 0 P fn a.tmps R a.defers .returning w := fun a w s m => by
    rw [s.defers]
    exact ⟨v, hr a w s m, hR a w s m⟩
  exact ⟨key, key⟩
theorem mark_take {k r : Nat} {D : List Nat} {a : Act} {w : World} (s : St ⟨k, r :: D⟩ a L) (m : Mem E I (.any r (.deferred (some [])) :: H) w) {fn : Func} {R : Ending → World → Prop}
    (h : SX ⟨k, D⟩ E I L (.any r (.deferred none) :: H) (FinQ P fn R .ret)) : LeavesInM Fence.wide 0 P fn a.tmps R a.defers .returning w := by
  have hr : w.heap[r]? = some (.deferred (some [])) := m.holds _ (List.mem_cons_self ..)
  have hlt : r < w.heap.size := (Array.getElem?_eq_some_iff.1 hr).1
  rw [s.defers]
  show _ ∧ (_ ∨ _)
  refine ⟨by simp, .inl ⟨r, w.putObj r (.deferred none), rfl, run_takeDeferred hr, ?_⟩⟩
  have m' : Mem E I (.any r (.deferred none) :: H) (w.putObj r (.deferred none)) :=
    m.step rfl rfl rfl (by simp) (fun k hk hne => World.putObj_heap_other (fun e => hne (by subst e; rfl))) (World.putObj_heap_same hlt) (fun g hg => .inl hg)
  exact h { a with defers := (Sz.mk k D).marks } _ ⟨s.size, rfl, s.get⟩ m'
/-- behind a range over a function: its mark is taken off -/
theorem q_mark {k r : Nat} {D : List Nat} {fn : Func} {R : Ending → World → Prop} (h : SX ⟨k, D⟩ E I L (.any r (.deferred none) :: H) (FinQ P fn R .ret)) : SX ⟨k, r :: D⟩ E I L (.any r (.deferred (some [])) :: H) (FinQ P fn R .ret) :=
  fun _ _ s m => mark_take s m h
theorem q_markn {k r : Nat} {D : List Nat} {fn : Func} {R : Ending → World → Prop} (h : SX ⟨k, D⟩ E I L (.any r (.deferred none) :: H) (FinQ P fn R .ret)) : SX ⟨k, r :: D⟩ E I L (.any r (.deferred (some [])) :: H) (FinQ P fn R .normal) :=
  fun _ _ s m => mark_take s m h
theorem q_post {post : Value → IMap → List Res → Prop} {v : Value} {H' : List Res} (hm : ∀ w, Mem E I H w → Mem E I H' w) (hp : post v I H') : SX n E I L H fun _ w => Post E post (.returned v) w :=
  fun _ w _ m => ⟨v, I, H', rfl, hm w m, hp⟩
theorem Mem.none {E : Ent} {I : IMap} {H : List Res} {w : World} (m : Mem E I H w) : Mem E I [] w :=
  ⟨m.upd, m.con, m.mono, m.fresh, fun _ h => (by cases h), fun _ h => (by cases h), List.nodup_nil⟩

variable {fn : Func} {post : Value → IMap → List Res → Prop} {R : Ending → World → Prop}
theorem run0 (hf : fn.results = #[]) (a : Act) (w : World) : (results fn a.tmps).run P w = .ok (.tuple #[]) w := by simp [results, hf]
theorem run1 {r : ResultVar} {v : Value} (hf : fn.results = #[r]) (h : RV P L H r v) (a : Act) (w : World) (s : St n a L) (m : Mem E I H w) : (results fn a.tmps).run P w = .ok v w := by
  simp [results_eq, hf, h.run s m]
theorem run2 {r0 r1 : ResultVar} {v0 v1 : Value} (hf : fn.results = #[r0, r1]) (h0 : RV P L H r0 v0) (h1 : RV P L H r1 v1) (a : Act) (w : World) (s : St n a L) (m : Mem E I H w) :
    (results fn a.tmps).run P w = .ok (.tuple #[v0, v1]) w := by
  simp [results_eq, hf, h0.run s m, h1.run s m]
theorem run3 {r0 r1 r2 : ResultVar} {v0 v1 v2 : Value} (hf : fn.results = #[r0, r1, r2]) (h0 : RV P L H r0 v0) (h1 : RV P L H r1 v1) (h2 : RV P L H r2 v2) (a : Act) (w : World) (s : St n a L) (m : Mem E I H w) :
    (results fn a.tmps).run P w = .ok (.tuple #[v0, v1, v2]) w := by
  simp [results_eq, hf, h0.run s m, h1.run s m, h2.run s m]
theorem run4 {r0 r1 r2 r3 : ResultVar} {v0 v1 v2 v3 : Value} (hf : fn.results = #[r0, r1, r2, r3]) (h0 : RV P L H r0 v0) (h1 : RV P L H r1 v1) (h2 : RV P L H r2 v2) (h3 : RV P L H r3 v3) (a : Act) (w : World) (s : St n a L) (m : Mem E I H w) :
    (results fn a.tmps).run P w = .ok (.tuple #[v0, v1, v2, v3]) w := by
  simp [results_eq, hf, h0.run s m, h1.run s m, h2.run s m, h3.run s m]

variable {k : Nat}
theorem fin0 (hf : fn.results = #[]) (h : SX ⟨k, []⟩ E I L H fun _ w => R (.returned (.tuple #[])) w) : SX ⟨k, []⟩ E I L H (FinQ P fn R .ret) := (sx_end fn (fun a w _ _ => run0 hf a w) h).1
theorem end0 (hf : fn.results = #[]) (h : SX ⟨k, []⟩ E I L H fun _ w => R (.returned (.tuple #[])) w) : SX ⟨k, []⟩ E I L H (FinQ P fn R .normal) := (sx_end fn (fun a w _ _ => run0 hf a w) h).2
theorem fin1 {r : ResultVar} {v : Value} (hf : fn.results = #[r]) (h0 : RV P L H r v) (h : SX ⟨k, []⟩ E I L H fun _ w => R (.returned v) w) : SX ⟨k, []⟩ E I L H (FinQ P fn R .ret) := (sx_end fn (run1 hf h0) h).1
theorem fin2 {r0 r1 : ResultVar} {v0 v1 : Value} (hf : fn.results = #[r0, r1]) (h0 : RV P L H r0 v0) (h1 : RV P L H r1 v1) (h : SX ⟨k, []⟩ E I L H fun _ w => R (.returned (.tuple #[v0, v1])) w) :
    SX ⟨k, []⟩ E I L H (FinQ P fn R .ret) := (sx_end fn (run2 hf h0 h1) h).1
theorem fin3 {r0 r1 r2 : ResultVar} {v0 v1 v2 : Value} (hf : fn.results = #[r0, r1, r2]) (h0 : RV P L H r0 v0) (h1 : RV P L H r1 v1) (h2 : RV P L H r2 v2) (h : SX ⟨k, []⟩ E I L H fun _ w => R (.returned (.tuple #[v0, v1, v2])) w) :
    SX ⟨k, []⟩ E I L H (FinQ P fn R .ret) := (sx_end fn (run3 hf h0 h1 h2) h).1
theorem fin4 {r0 r1 r2 r3 : ResultVar} {v0 v1 v2 v3 : Value} (hf : fn.results = #[r0, r1, r2, r3]) (h0 : RV P L H r0 v0) (h1 : RV P L H r1 v1) (h2 : RV P L H r2 v2) (h3 : RV P L H r3 v3) (h : SX ⟨k, []⟩ E I L H fun _ w => R (.returned (.tuple #[v0, v1, v2, v3])) w) :
    SX ⟨k, []⟩ E I L H (FinQ P fn R .ret) := (sx_end fn (run4 hf h0 h1 h2 h3) h).1
/-- the end of a function that has made nothing but a value -/
theorem q_v {v u : Value} (h : v = u) : SX n E I L H fun _ w => Post E (fun u' I' H' => u' = u ∧ I' = I ∧ H' = []) (.returned v) w := q_post (fun _ m => m.none) ⟨h, rfl, rfl⟩
theorem q_i {v : Value} {p : Value → IMap → Prop} (h : p v I) : SX n E I L H fun _ w => Post E (fun u' I' H' => p u' I' ∧ H' = []) (.returned v) w := q_post (fun _ m => m.none) ⟨h, rfl⟩

/-! calls -/
/-- the callee's part of the memory is in front -/
theorem Mem.call {Hc H0 : List Res} {w : World} (m : Mem E I (Hc ++ H0) w) : Mem ⟨foots Hc, I, w⟩ I Hc w := by
  have hd : (foots Hc ++ foots H0).Nodup := by have := m.dist; simpa [foots] using this
  exact ⟨Upd.refl _ _, m.con, ILe.refl _, fun b hb => .inl hb, fun r hr => m.holds r (by simp [hr]), fun r hr g hg => ⟨(m.priv r (by simp [hr]) g hg).1, .inr (mem_foots.2 ⟨r, hr, hg⟩)⟩, (List.nodup_append.1 hd).1⟩
theorem Mem.back {Hc H0 Hc' : List Res} {I' : IMap} {w w' : World} (m : Mem E I (Hc ++ H0) w) (m' : Mem ⟨foots Hc, I, w⟩ I' Hc' w') : Mem E I' (Hc' ++ H0) w' := by
  have hd : (foots Hc ++ foots H0).Nodup := by have := m.dist; simpa [foots] using this
  have hE := m.upd.size
  have hs := m'.upd.size
  have hdis : ∀ r ∈ H0, ∀ g, r.foot = some g → g ∉ foots Hc := fun r hr g hg hm => (List.nodup_append.1 hd).2.2 g hm g (mem_foots.2 ⟨r, hr, hg⟩) rfl
  have hlt : ∀ r ∈ H0, ∀ g, r.foot = some g → g < w.heap.size := fun r hr g hg => Res.lt (m.holds r (by simp [hr])) hg
  have hpc : ∀ g ∈ foots Hc, E.w.heap.size ≤ g ∨ g ∈ E.X := fun g hg => by
    obtain ⟨r, hr, hf⟩ := mem_foots.1 hg
    exact (m.priv r (by simp [hr]) g hf).2
  refine ⟨⟨m'.upd.os.trans m.upd.os, m'.upd.tape.trans m.upd.tape, m'.upd.output.trans m.upd.output, Nat.le_trans hE hs, fun k hk hX => ?_⟩, m'.con, m.mono.trans m'.mono, fun b hb => ?_, ?_, ?_, ?_⟩
  · rw [m'.upd.block k (by simp; omega) (fun hc => by
      rcases hpc k hc with h | h
      · omega
      · exact hX h)]
    exact m.upd.block k hk hX
  · rcases m'.fresh b hb with h | h | h
    · exact m.fresh b h
    · exact .inr (.inl (by simp at h; omega))
    · exact .inr (hpc b h)
  · intro r hr
    rcases List.mem_append.1 hr with hr | hr
    · exact m'.holds r hr
    · have hh : r.holds w := m.holds r (by simp [hr])
      exact Res.keep hh fun g hg => m'.upd.block g (hlt r hr g hg) (hdis r hr g hg)
  · intro r hr g hg
    rcases List.mem_append.1 hr with hr | hr
    · obtain ⟨h1, h2⟩ := m'.priv r hr g hg
      refine ⟨h1, ?_⟩
      rcases h2 with h2 | h2
      · exact .inl (by simp at h2; omega)
      · exact hpc g h2
    · obtain ⟨h1, h2⟩ := m.priv r (by simp [hr]) g hg
      refine ⟨?_, h2⟩
      cases hI : I' g with
      | none => rfl
      | some o =>
        rcases m'.fresh g (by rw [hI]; simp) with h | h | h
        · exact absurd h1 h
        · have := hlt r hr g hg; simp at h; omega
        · exact absurd h (hdis r hr g hg)
  · have : foots (Hc' ++ H0) = foots Hc' ++ foots H0 := by simp [foots]
    rw [this, List.nodup_append]
    refine ⟨m'.dist, (List.nodup_append.1 hd).2.1, fun a ha b hb e => ?_⟩
    subst e
    obtain ⟨r, hr, hf⟩ := mem_foots.1 ha
    obtain ⟨q, hq, hqf⟩ := mem_foots.1 hb
    rcases (m'.priv r hr a hf).2 with h | h
    · have := hlt q hq a hqf; simp at h; omega
    · exact hdis q hq a hqf h

/-- the callee and what it is given -/
def callArgs (L : LL) (fo : Operand) (as : List Operand) : Option (FuncId × List Value) :=
  match ev L fo, evs L as with
  | some (.func (.func f) fs cs), some vs => some (f, fs.toList ++ (vs ++ cs.toList))
  | _, _ => none
theorem run_call {a : Act} {w : World} {fo : Operand} {as : List Operand} {ats : Array TypeId} {f : FuncId} {args : List Value} (s : St n a L) (h : callArgs L fo as = some (f, args)) (o : Oper)
    (ho : o.op = .call { callee := .value fo, args := as.toArray, argTypes := ats }) : (execOp a.eval o).run P w = (callFunc f args.toArray).run P w := by
  unfold callArgs at h
  split at h
  · rename_i f' fs cs vs hf hv
    simp only [Option.some.injEq, Prod.mk.injEq] at h
    obtain ⟨rfl, rfl⟩ := h
    have ha : as.toArray.map a.eval = vs.toArray := by rw [← evs_spec s as vs hv]; simp
    simp only [execOp, ho, resolve, ha, s.ev hf, Deferred.ofValue, Sem.run_bind, Sem.run_pure, Result.andThen_ok, invoke]
    congr 1
    congr 1
    simp
  · cases h
variable {d ty : Nat} {pos : String} {af : Array Edge}
/-- whatever an operation comes to by a contract -/
theorem o_after {op : Op} {Hc H0 : List Res} {x : Sem Next} (hc : ∀ w, Mem ⟨foots Hc, I, w⟩ I Hc w → After P x w (Post ⟨foots Hc, I, w⟩ post)) (hr : ∀ a w, St n a L → (execOp a.eval ⟨some d, op, ty, pos, af, none⟩).run P w = x.run P w) (hd : Nat.blt d n.sz = true)
    (k : ∀ v I' H', ILe I I' → post v I' H' → SX n E I' ((d, v) :: L) (H' ++ H0) K) :
    SX n E I L (Hc ++ H0) (one P ops Q ⟨some d, op, ty, pos, af, none⟩ K) := by
  intro a w s m
  unfold one
  rw [if_pos (by rfl)]
  refine wq_after ?_
  have h1 := hc w m.call
  unfold After at h1 ⊢
  rw [hr a w s]
  have key : ∀ e w'', Post ⟨foots Hc, I, w⟩ post e w'' → (match e with | .returned v => K (a.put (some d) v) w'' | _ => False) := by
    rintro e w'' ⟨v', I', H', rfl, hm, hp⟩
    exact k _ I' H' hm.mono hp _ _ (s.put hd) (m.back hm)
  split at h1
  · rename_i v w' hr; exact key _ _ h1
  · rename_i f' args' w' hr; exact Calls.mono h1 key
  · rename_i l f' tmps assign body w' hr; exact RoundIn.mono h1 key
  · exact h1.elim
/-- a call -/
theorem o_callH {Hc H0 : List Res} {fo : Operand} {as : List Operand} {ats : Array TypeId} {f : FuncId} {args : List Value} (hc : FnH P f args.toArray I Hc post) (h : callArgs L fo as = some (f, args)) (hd : Nat.blt d n.sz = true)
    (k : ∀ v I' H', ILe I I' → post v I' H' → SX n E I' ((d, v) :: L) (H' ++ H0) K) :
    SX n E I L (Hc ++ H0) (one P ops Q ⟨some d, .call { callee := .value fo, args := as.toArray, argTypes := ats }, ty, pos, af, none⟩ K) :=
  o_after hc.go (fun a w s => run_call s h _ rfl) hd k
theorem o_call {p : Value → IMap → Prop} {fo : Operand} {as : List Operand} {ats : Array TypeId} {f : FuncId} {args : List Value} (hc : FnI P f args.toArray I p) (h : callArgs L fo as = some (f, args)) (hd : Nat.blt d n.sz = true)
    (k : ∀ v I', ILe I I' → p v I' → SX n E I' ((d, v) :: L) H K) :
    SX n E I L H (one P ops Q ⟨some d, .call { callee := .value fo, args := as.toArray, argTypes := ats }, ty, pos, af, none⟩ K) :=
  o_callH (Hc := []) hc h hd fun v I' H' hI hp => by obtain ⟨h1, rfl⟩ := hp; exact k v I' hI h1
theorem o_callV {v : Value} {fo : Operand} {as : List Operand} {ats : Array TypeId} {f : FuncId} {args : List Value} (hc : FnV P f args.toArray I v) (h : callArgs L fo as = some (f, args)) (hd : Nat.blt d n.sz = true)
    (k : SX n E I ((d, v) :: L) H K) :
    SX n E I L H (one P ops Q ⟨some d, .call { callee := .value fo, args := as.toArray, argTypes := ats }, ty, pos, af, none⟩ K) :=
  o_callH (Hc := []) hc h hd fun u I' H' hI hp => by obtain ⟨rfl, rfl, rfl⟩ := hp; exact k
/-- a contract over more memory -/
theorem FnH.mono {f : FuncId} {args : Array Value} {Hc : List Res} {post' : Value → IMap → List Res → Prop} (h : FnH P f args I Hc post) (hp : ∀ v I' H', ILe I I' → post v I' H' → post' v I' H') : FnH P f args I Hc post' :=
  ⟨fun w m => (h.go w m).mono fun _ _ ⟨v, I', H', he, hm, hq⟩ => ⟨v, I', H', he, hm, hp _ _ _ hm.mono hq⟩⟩
end
end Go.Sx
