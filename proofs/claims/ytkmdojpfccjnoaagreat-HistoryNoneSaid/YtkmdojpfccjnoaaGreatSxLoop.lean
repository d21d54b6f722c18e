/- Ranging over a function: what the iterator is told of the rounds, what the loop is told of the iterator. -/
import Derived.Test.YtkmdojpfccjnoaaGreatSxData
set_option linter.all false
namespace Go.Sx
open Go

/-- one call of yield -/
def YieldH (P : Program) (l : Nat) (args : List Value) (I : IMap) (H : List Res) (post : Value → IMap → List Res → Prop) : Prop :=
  ∀ w, Mem ⟨foots H, I, w⟩ I H w → After P (Instr.yield l args.toArray) w (Post ⟨foots H, I, w⟩ post)
/-- the rounds: J true pre: on behind the rounds pre; J false pre: the last one of pre has stopped it -/
def YieldsS {α : Type} (P : Program) (l : Nat) (rd : IMap → List Value → α → Prop) (ok : List α → α → Prop) (J : Bool → List α → IMap → List Res → Prop) : Prop :=
  ∀ pre x vs I H, J true pre I H → rd I vs x → ok pre x → YieldH P l vs I H fun u I' H' => ∃ b, u = .bool b ∧ J b (pre ++ [x]) I' H'
def JMono {α : Type} (J : Bool → List α → IMap → List Res → Prop) : Prop := ∀ b pre I I' H, ILe I I' → J b pre I H → J b pre I' H
/-- THE CONTRACT OF AN ITERATOR: whatever the rounds do: it yields the values of a list, in order: 'full' all of it, 'part' up to where it was stopped -/
def FnIt {α : Type} (P : Program) (f : FuncId) (cap : List Value) (I0 : IMap) (rd : IMap → List Value → α → Prop) (ok : List α → α → Prop) (full part : List α → Prop) : Prop :=
  ∀ (l : Nat) (J : Bool → List α → IMap → List Res → Prop) (I : IMap) (Hc : List Res), ILe I0 I → JMono J → YieldsS P l rd ok J → J true [] I Hc →
    FnH P f (.func (.yield l) #[] #[] :: cap).toArray I Hc fun _ I' H' => ∃ b pre, J b pre I' H' ∧ (if b then full pre else part pre)

section
variable {P : Program} {ρ : Option Nat} {n : Sz} {E : Ent} {I I' : IMap} {L : LL} {H : List Res} {Q : Exit → Act → World → Prop} {ops : Array Oper} {K : Act → World → Prop}
variable {d ty : Nat} {pos : String} {af : Array Edge}
theorem run_call_yield {a : Act} {w : World} {fo : Operand} {as : List Operand} {ats : Array TypeId} {l : Nat} {args : List Value} (s : St n a L) (hf : ev L fo = some (.func (.yield l) #[] #[])) (ha : evs L as = some args) (o : Oper)
    (ho : o.op = .call { callee := .value fo, args := as.toArray, argTypes := ats }) : (execOp a.eval o).run P w = (Instr.yield l args.toArray).run P w := by
  have ha' : as.toArray.map a.eval = args.toArray := by rw [← evs_spec s as args ha]; simp
  simp only [execOp, ho, resolve, ha', s.ev hf, Deferred.ofValue, Sem.run_bind, Sem.run_pure, Result.andThen_ok, invoke]
  congr 1
  congr 1
  simp
/-- yield, in the iterator: the caller's part of the memory is behind -/
theorem o_yield {α : Type} {l : Nat} {rd : IMap → List Value → α → Prop} {ok : List α → α → Prop} {J : Bool → List α → IMap → List Res → Prop} {Hc : List Res} {fo : Operand} {as : List Operand} {ats : Array TypeId} {vs : List Value} {pre : List α} {x : α}
    (hy : YieldsS P l rd ok J) (hJ : J true pre I Hc) (hr : rd I vs x) (hk : ok pre x) (hf : ev L fo = some (.func (.yield l) #[] #[])) (ha : evs L as = some vs) (hd : Nat.blt d n.sz = true)
    (k : ∀ b I' Hc', ILe I I' → J b (pre ++ [x]) I' Hc' → SX n E I' ((d, .bool b) :: L) (H ++ Hc') K) :
    SX n E I L (H ++ Hc) (one P ops Q ⟨some d, .call { callee := .value fo, args := as.toArray, argTypes := ats }, ty, pos, af, none⟩ K) := by
  refine sx_perm List.perm_append_comm ?_
  refine o_after (hy pre x vs I Hc hJ hr hk) (fun a w s => run_call_yield s hf ha _ rfl) hd fun v I' H' hI hp => ?_
  obtain ⟨b, rfl, hp⟩ := hp
  exact sx_perm List.perm_append_comm (k b I' H' hI hp)

/-! the rounds -/
def putAll : List (Nat × Value) → LL → LL
  | [], L => L
  | (i, v) :: r, L => putAll r ((i, v) :: L)
theorem St.putAll {k : Nat} : ∀ (ps : List (Nat × Value)) {a : Act} {L : LL}, St ⟨k, []⟩ a L → (∀ p ∈ ps, p.1 < k) → St ⟨k, []⟩ { a with tmps := ps.foldl (fun t p => t.setIfInBounds p.1 p.2) a.tmps } (putAll ps L)
  | [], _, _, s, _ => s
  | (i, v) :: r, a, L, s, h => by
    have hi : i < k := h (i, v) (by simp)
    have s1 : St ⟨k, []⟩ (a.put (some i) v) ((i, v) :: L) := s.put (by simpa [Nat.blt_eq] using hi)
    exact St.putAll r s1 (fun p hp => h p (by simp [hp]))
/-- what is known of the loop's record -/
structure Rec where
  l : Nat
  D : Nat
  ready : Loop
  hs : ready.state = .ready
  hp : ready.pending = none
def Rec.busy (r : Rec) : Loop := { r.ready with state := .busy }
def Rec.done (r : Rec) (c : Code) : Loop := { r.ready with state := .done, pending := some c }
def Rec.mark (r : Rec) : Res := .any r.D (.deferred (some []))
/-- what the rounds hand on -/
def JR {α σ : Type} (I0 : IMap) (r : Rec) (Hx : σ → List Res) (p : List α → IMap → σ → Prop) (px : List α → IMap → σ → Code → Prop) : Bool → List α → IMap → List Res → Prop
  | true, pre, I, H => ∃ s, H = .any r.l (.loop r.ready) :: r.mark :: Hx s ∧ ILe I0 I ∧ p pre I s
  | false, pre, I, H => ∃ s c, H = .any r.l (.loop (r.done c)) :: r.mark :: Hx s ∧ ILe I0 I ∧ px pre I s c
def RFin {α σ : Type} (P : Program) (E : Ent) (I0 : IMap) (r : Rec) (Hx : σ → List Res) (p : List α → IMap → σ → Prop) (px : List α → IMap → σ → Code → Prop) (pre : List α) : Exit → Act → World → Prop :=
  roundPost P r.l (Post E fun u I' H' => ∃ b, u = .bool b ∧ JR I0 r Hx p px b pre I' H')
/-- behind the assignments to the loop's variables -/
def RBegin (P : Program) (r : Rec) (body : Code) (R : Exit → Act → World → Prop) : Exit → Act → World → Prop :=
  Exit.then (fun a w => ∃ w', (Instr.beginRound r.l).run P w = .ok () w' ∧ body.wq (some r.l) P R a w') (fun _ _ _ => False)
variable {α σ : Type} {I0 : IMap} {r : Rec} {Hx : σ → List Res} {p : List α → IMap → σ → Prop} {px : List α → IMap → σ → Code → Prop} {pre : List α}
theorem step_loop {w : World} {o o' : Loop} {l : Nat} (m : Mem E I (.any l (.loop o) :: H) w) : Mem E I (.any l (.loop o') :: H) (w.putObj l (.loop o')) := by
  have hr : w.heap[l]? = some (.loop o) := m.holds _ (List.mem_cons_self ..)
  have hlt : l < w.heap.size := (Array.getElem?_eq_some_iff.1 hr).1
  exact m.step rfl rfl rfl (by simp) (fun k hk hne => World.putObj_heap_other (fun e => hne (by subst e; rfl))) (World.putObj_heap_same hlt) (fun g hg => .inl hg)
theorem r_begin {body : Code} {R : Exit → Act → World → Prop} (h : SX n E I L (.any r.l (.loop r.busy) :: H) (body.wq (some r.l) P R)) : SX n E I L (.any r.l (.loop r.ready) :: H) (RBegin P r body R .normal) := by
  intro a w s m
  have hl : w.heap[r.l]? = some (.loop r.ready) := m.holds _ (List.mem_cons_self ..)
  exact ⟨_, run_beginRound hl r.hs, h a _ s (step_loop m)⟩
theorem r_next (s' : σ) (hI : ILe I0 I) (hp : p pre I s') (hH : H = Hx s') : SX n E I L (.any r.l (.loop r.busy) :: r.mark :: H) (RFin P E I0 r Hx p px pre .normal) := by
  subst hH
  intro a w s m
  have hl : w.heap[r.l]? = some (.loop r.busy) := m.holds _ (List.mem_cons_self ..)
  refine ⟨_, _, run_endRound none hl, .bool true, I, _, rfl, step_loop m, true, rfl, s', ?_, hI, hp⟩
  have : (({ r.busy with state := if (none : Option Code).isNone = true then .ready else .done, pending := none } : Loop)) = r.ready := by
    have h1 := r.hs; have h2 := r.hp
    unfold Rec.busy
    cases hr : r.ready
    rw [hr] at h1 h2
    simp only at h1 h2
    subst h1 h2
    rfl
  rw [this]
theorem r_jump {c : Code} (s' : σ) (hI : ILe I0 I) (hp : px pre I s' c) (hH : H = Hx s') {a : Act} {w : World} (m : Mem E I (.any r.l (.loop r.busy) :: r.mark :: H) w) :
    ∃ v w', (Instr.endRound r.l (some c)).run P w = .ok v w' ∧ Post E (fun u I' H' => ∃ b, u = .bool b ∧ JR I0 r Hx p px b pre I' H') (.returned v) w' := by
  subst hH
  have hl : w.heap[r.l]? = some (.loop r.busy) := m.holds _ (List.mem_cons_self ..)
  exact ⟨_, _, run_endRound (some c) hl, .bool false, I, _, rfl, step_loop m, false, rfl, s', c, rfl, hI, hp⟩
theorem r_ret (s' : σ) (hI : ILe I0 I) (hp : px pre I s' .ret) (hH : H = Hx s') : SX n E I L (.any r.l (.loop r.busy) :: r.mark :: H) (RFin P E I0 r Hx p px pre .ret) := fun _ _ _ m => r_jump (a := ⟨#[], []⟩) s' hI hp hH m
theorem r_exit {id : Nat} (s' : σ) (hI : ILe I0 I) (hp : px pre I s' (.exit id)) (hH : H = Hx s') : SX n E I L (.any r.l (.loop r.busy) :: r.mark :: H) (RFin P E I0 r Hx p px pre (.exit id)) := fun _ _ _ m => r_jump (a := ⟨#[], []⟩) s' hI hp hH m
/-- THE STATEMENT, outermost -/
theorem c_range {k gf : Nat} {D : List Nat} {H0 : List Res} {g : Operand} {ps : List Nat} {assign body : Code} {cap : List Value} {rd : IMap → List Value → α → Prop} {ok : List α → α → Prop} {full part : List α → Prop}
    (s0 : σ) (Hx : σ → List Res) (p : List α → IMap → σ → Prop) (px : List α → IMap → σ → Code → Prop)
    (hg : ev L g = some (.func (.func gf) #[] cap.toArray)) (hcall : ∀ (args : Array Value) (w : World), (callFunc gf args).run P w = .ok (.enter gf args) w)
    (hit : FnIt P gf cap I rd ok full part) (hlen : ∀ I vs x, rd I vs x → vs.length = ps.length) (hps : ps.all (fun i => Nat.blt i k) = true)
    (hmp : ∀ pre I I' s, ILe I I' → p pre I s → p pre I' s) (hmx : ∀ pre I I' s c, ILe I I' → px pre I s c → px pre I' s c)
    (h0 : p [] I s0) (hH : Hx s0 ++ H0 = H)
    (round : ∀ (r : Rec) (E1 : Ent) pre x vs I1 s, ILe I I1 → p pre I1 s → rd I1 vs x → ok pre x →
      SX ⟨k, []⟩ E1 I1 (putAll (ps.zip vs) L) (.any r.l (.loop r.ready) :: r.mark :: Hx s) (assign.wq (some r.l) P (RBegin P r body (RFin P E1 I r Hx p px (pre ++ [x])))))
    (hdone : ∀ D' pre I1 s, ILe I I1 → full pre → p pre I1 s → SX ⟨k, D' :: D⟩ E I1 L (.any D' (.deferred (some [])) :: (Hx s ++ H0)) (Q .normal))
    (hstop : ∀ D' pre I1 s c, ILe I I1 → part pre → px pre I1 s c → SX ⟨k, D' :: D⟩ E I1 L (.any D' (.deferred (some [])) :: (Hx s ++ H0)) (c.wq none P Q)) :
    SX ⟨k, D⟩ E I L H ((Code.rangeFunc g ps.toArray assign body).wq none P Q) := by
  subst hH
  intro a w s m
  refine wpIn_rangeFunc ?_
  intro fn _
  obtain ⟨rec, hrec⟩ : ∃ rec : Loop, rec = { state := .ready, pending := none, fn, tmps := a.tmps, params := ps.toArray, assign, body, defers := w.heap.size } := ⟨_, rfl⟩
  obtain ⟨W1, hW1⟩ : ∃ W1, (w.alloc (.deferred (some []))).alloc (.loop rec) = W1 := ⟨_, rfl⟩
  obtain ⟨r, hr⟩ : ∃ r : Rec, r = ⟨w.heap.size + 1, w.heap.size, rec, by rw [hrec], by rw [hrec]⟩ := ⟨_, rfl⟩
  have hrl : r.l = w.heap.size + 1 := by rw [hr]
  have hrD : r.D = w.heap.size := by rw [hr]
  have hrr : r.ready = rec := by rw [hr]
  have hevg : a.eval g = .func (.func gf) #[] cap.toArray := s.ev hg
  refine ⟨w.heap.size + 1, [{ target := .collected w.heap.size, args := #[] }], W1, { target := .fn (.func gf) cap.toArray, args := #[.func (.yield (w.heap.size + 1)) #[] #[]] }, W1, gf,
    #[.func (.yield (w.heap.size + 1)) #[] #[]] ++ cap.toArray, W1, ?_, ?_, fun _ _ => trivial, ?_, fun h => by simp [fen, Fence.wide] at h, ?_⟩
  · rw [← hW1, hrec]; exact run_enterLoop_outer _ _ _ _ _
  · simp only [resolve, hevg]
    simp [go_sem]
  · simp [invoke, go_sem, hcall]
  have m1 : Mem E I (.any r.D (.deferred (some [])) :: (Hx s0 ++ H0)) (w.alloc (.deferred (some []))) := by
    rw [hrD]
    exact m.new rfl rfl rfl (by simp) (fun k hk => Below_old w _ k hk) (heap_alloc_new w _) fun g hg => by simp only [Res.foot, Option.some.injEq] at hg; omega
  have m2 : Mem E I ((.any r.l (.loop r.ready) :: r.mark :: Hx s0) ++ H0) W1 := by
    rw [hrl, hrr, ← hW1]
    have hsz : (w.alloc (.deferred (some []))).heap.size = w.heap.size + 1 := by simp
    refine m1.new rfl rfl rfl (by simp) (fun k hk => Below_old _ _ k hk) ?_ fun g hg => by simp only [Res.foot, Option.some.injEq] at hg; omega
    have := heap_alloc_new (w.alloc (.deferred (some []))) (.loop rec)
    rw [hsz] at this
    exact this
  -- the rounds
  have hJm : JMono (JR I r Hx p px) := by
    rintro (_ | _) pre I1 I2 H1 hle ⟨s1, h⟩
    · obtain ⟨c, h1, h2, h3⟩ := h
      exact ⟨s1, c, h1, h2.trans hle, hmx _ _ _ _ _ hle h3⟩
    · obtain ⟨h1, h2, h3⟩ := h
      exact ⟨s1, h1, h2.trans hle, hmp _ _ _ _ hle h3⟩
  have hy : YieldsS P r.l rd ok (JR I r Hx p px) := by
    rintro pre x vs I1 H1 ⟨s1, rfl, hle, hp1⟩ hx hok w1 mw
    have hl1 : w1.heap[r.l]? = some (.loop r.ready) := mw.holds _ (List.mem_cons_self ..)
    have hI1 := round r ⟨foots (.any r.l (.loop r.ready) :: r.mark :: Hx s1), I1, w1⟩ pre x vs I1 s1 hle hp1 hx hok
    have hvl : vs.toArray.size = r.ready.params.size := by rw [hrr, hrec]; simp [hlen _ _ _ hx]
    unfold After
    rw [run_yield (P := P) hl1 hvl]
    refine roundIn_of_wpIn trivial ?_
    have st1 : St ⟨k, []⟩ { tmps := ((r.ready.params.zip vs.toArray).foldl (fun tmps x => tmps.setIfInBounds x.1 x.2) r.ready.tmps), defers := [] } (putAll (ps.zip vs) L) := by
      have h0 : St ⟨k, []⟩ { a with defers := [] } L := ⟨s.size, rfl, s.get⟩
      have h1 := h0.putAll (ps.zip vs) (fun q hq => by
        have h2 := List.all_eq_true.1 hps q.1 (List.of_mem_zip hq).1
        simpa [Nat.blt_eq] using h2)
      have e : (r.ready.params.zip vs.toArray).foldl (fun tmps x => tmps.setIfInBounds x.1 x.2) r.ready.tmps = (ps.zip vs).foldl (fun t p => t.setIfInBounds p.1 p.2) a.tmps := by
        rw [hrr, hrec]
        simp
      rw [e]
      exact h1
    have m1 := Mem.call (E := ⟨foots (.any r.l (.loop r.ready) :: r.mark :: Hx s1), I1, w1⟩) (Hc := .any r.l (.loop r.ready) :: r.mark :: Hx s1) (H0 := []) (by simpa using mw)
    have h3 := hI1 _ _ st1 m1
    have e2 : r.ready.assign = assign := by rw [hrr, hrec]
    have e3 : r.ready.body = body := by rw [hrr, hrec]
    rw [e2, e3]
    exact h3
  have hf := (hit r.l (JR I r Hx p px) I _ (ILe.refl I) hJm hy ⟨s0, rfl, ILe.refl I, h0⟩).go W1 m2.call
  unfold After at hf
  rw [hcall] at hf
  have hargs : #[.func (.yield (w.heap.size + 1)) #[] #[]] ++ cap.toArray = (Value.func (.yield r.l) #[] #[] :: cap).toArray := by rw [hrl]; simp
  rw [hargs]
  refine callsIn_fen (Calls.mono hf ?_)
  rintro e w2 ⟨v, I', H', rfl, hm', b, pre, hJ, hfp⟩
  have hb := m2.back hm'
  have hsame : ∀ _ : Unit, St ⟨k, r.D :: D⟩ { a with defers := [{ target := .collected w.heap.size, args := #[] }] ++ a.defers } L := fun _ => ⟨s.size, by rw [hrD]; show _ :: a.defers = _; rw [s.defers]; rfl, s.get⟩
  cases b with
  | true =>
    obtain ⟨s2, rfl, hle, hp2⟩ := hJ
    have hl2 : w2.heap[w.heap.size + 1]? = some (.loop r.ready) := by rw [← hrl]; exact hb.holds _ (List.mem_cons_self ..)
    refine ⟨none, _, by have := run_endLoop (P := P) hl2 (by rw [r.hs]; simp); rw [r.hp] at this; exact this, ?_⟩
    rw [← hrl]
    have m3 := (step_loop (o' := { r.ready with state := .exhausted, pending := none }) hb).drop
    exact hdone r.D pre I' s2 hle hfp hp2 _ _ (hsame ()) m3
  | false =>
    obtain ⟨s2, c, rfl, hle, hp2⟩ := hJ
    have hl2 : w2.heap[w.heap.size + 1]? = some (.loop (r.done c)) := by rw [← hrl]; exact hb.holds _ (List.mem_cons_self ..)
    refine ⟨some c, _, by have := run_endLoop (P := P) hl2 (by simp [Rec.done]); exact this, ?_⟩
    rw [← hrl]
    have m3 := (step_loop (o' := { r.done c with state := .exhausted }) hb).drop
    exact hstop r.D pre I' s2 c hle hfp hp2 _ _ (hsame ()) m3
end
end Go.Sx
