/- fleet.Apply in plain Lean; lending a block to a callee. -/
import Derived.Test.YtkmdojpfccjnoaaGreatMIns
set_option linter.all false
namespace Go.Sx
open Go
section
variable {P : Program} {ρ : Option Nat} {n : Sz} {E : Ent} {I : IMap} {L : LL} {H : List Res} {Q : Exit → Act → World → Prop} {ops : Array Oper} {K : Act → World → Prop}
variable {d ty : Nat} {pos : String} {af : Array Edge}
theorem o_lendB {v : Value} {g t : Nat} {cs : List Value} {fo : Operand} {as : List Operand} {ats : Array TypeId} {f : FuncId} {args : List Value}
    (hm : Res.blk g t cs ∈ H) (hc : ∀ I2, ILe I I2 → ICells I2 g 0 cs → FnV P f args.toArray I2 v) (h : callArgs L fo as = some (f, args)) (hd : Nat.blt d n.sz = true)
    (kk : SX n E I ((d, v) :: L) H K) :
    SX n E I L H (one P ops Q ⟨some d, .call { callee := .value fo, args := as.toArray, argTypes := ats }, ty, pos, af, none⟩ K) := by
  intro a w s mm
  have hg : w.heap[g]? = some (.cells cs.toArray t (0, 0)) := mm.holds _ hm
  have hpriv := (mm.priv _ hm g rfl).1
  have hle : ILe I (I.pub g (.cells cs.toArray t (0, 0))) := IMap.pub_le _ hpriv
  have hR : ICells (I.pub g (.cells cs.toArray t (0, 0))) g 0 cs := fun j u hu => ⟨_, t, (0, 0), IMap.pub_same _ _ _, by rw [Nat.zero_add]; simpa using hu⟩
  have m2 : Mem ⟨[], I.pub g (.cells cs.toArray t (0, 0)), w⟩ (I.pub g (.cells cs.toArray t (0, 0))) [] w := ⟨Upd.refl _ _, fun b o hb => by
    unfold IMap.pub at hb
    split at hb
    · rename_i e; subst e; cases hb; exact hg
    · exact mm.con b o hb, ILe.refl _, fun b hb => .inl hb, fun _ h => (by cases h), fun _ h => (by cases h), List.nodup_nil⟩
  have back : ∀ w', Mem ⟨[], I.pub g (.cells cs.toArray t (0, 0)), w⟩ (I.pub g (.cells cs.toArray t (0, 0))) [] w' → Mem E I H w' := fun w' m' =>
    mm.other m'.upd.os m'.upd.tape m'.upd.output m'.upd.size (fun k hk => m'.upd.block k hk (by simp))
  unfold one
  rw [if_pos (by rfl)]
  refine wq_after ?_
  have h1 := (hc _ hle hR).go w m2
  unfold After at h1 ⊢
  rw [run_call s h ⟨some d, .call { callee := .value fo, args := as.toArray, argTypes := ats }, ty, pos, af, none⟩ rfl (ats := ats)]
  have key : ∀ e w'', Post ⟨[], (I.pub g (.cells cs.toArray t (0, 0))), w⟩ (fun u I' H' => u = v ∧ I' = (I.pub g (.cells cs.toArray t (0, 0))) ∧ H' = []) e w'' → (match e with | .returned v => K (a.put (some d) v) w'' | _ => False) := by
    rintro e w'' ⟨u, I', H', rfl, hm', rfl, rfl, rfl⟩
    exact kk _ _ (s.put hd) (back _ hm')
  split at h1
  · rename_i v w' hr; exact key _ _ h1
  · rename_i f' args' w' hr; exact Calls.mono h1 key
  · rename_i l f' tmps assign body w' hr; exact RoundIn.mono h1 key
  · exact h1.elim
end
abbrev Res2 := List Part × Int
def failR (n : Int) : Res2 := ([], n)
def putR (st : List Part) (p : Part) : Res2 := (putL Part.name st p, 0)
def newP (e : Evt) : Part := ⟨e.part, e.kind, nil8, nil8, e.day, e.day, false, [], zLife⟩
def applyMake (c : List Kind) (st : List Part) (e : Evt) : Res2 :=
  if (findP st e.part).isSome = true then failR 3 else if (findK c e.kind).isSome = false then failR 4 else if ((st.length : Nat) : Int) = 20000 then failR 7 else putR st (newP e)
def seatTaken (st : List Part) (e : Evt) : Bool := st.any fun x => decide (x.into = e.into) && decide (x.slot = e.slot)
def holdsAny (st : List Part) (s : ByteArray) : Bool := st.any fun x => decide (x.into = s)
def applyFit (c : List Kind) (st : List Part) (e : Evt) (p q : Part) (kd : Kind) : Res2 :=
  if (kd.vehicle || !takesF c q.kind e.slot p.kind) = true then failR 4 else if ¬ p.into = nil8 then failR 5 else if seatTaken st e = true then failR 6 else putR st { p with into := e.into, slot := e.slot }
def applyRemove (st : List Part) (p : Part) : Res2 := if p.into = nil8 then failR 5 else putR st { p with into := nil8, slot := nil8 }
def applyRun (st : List Part) (p : Part) (kd : Kind) : Res2 := if kd.vehicle = false then failR 4 else putR st p
def overhauled (e : Evt) (p : Part) : Part := { p with since := if e.day > p.since then e.day else p.since, life := zLife }
def noted (e : Evt) (p : Part) : Part := { p with props := putL Prp.key p.props ⟨e.key, e.value⟩ }
def applyNote (st : List Part) (e : Evt) (p : Part) : Res2 := if (60 : Int) < ((noted e p).props.length : Nat) then failR 7 else putR st (noted e p)
def applyScrap (st : List Part) (p : Part) : Res2 := if (!decide (p.into = nil8) || holdsAny st p.name) = true then failR 5 else putR st { p with scrapped := true }
def applyOp (c : List Kind) (st : List Part) (e : Evt) (p q : Part) (kd : Kind) : Res2 :=
  if e.op = 2 then applyFit c st e p q kd else if e.op = 3 then applyRemove st p else if e.op = 4 then applyRun st p kd else if e.op = 5 then putR st (overhauled e p) else if e.op = 6 then applyNote st e p else if e.op = 7 then applyScrap st p else putR st p
def partP (st : List Part) (e : Evt) : Part := (findP st e.part).getD zPart
def otherO (st : List Part) (e : Evt) : Option Part := if e.op = 2 then findP st e.into else findP st e.part
def otherP (st : List Part) (e : Evt) : Part := (otherO st e).getD zPart
def kindP (c : List Kind) (st : List Part) (e : Evt) : Kind := (findK c (partP st e).kind).getD zKind
def applyRest (c : List Kind) (st : List Part) (e : Evt) : Res2 :=
  if (!(findP st e.part).isSome || !(otherO st e).isSome) = true then failR 2 else if ((partP st e).scrapped || (otherP st e).scrapped) = true then failR 5 else applyOp c st e (partP st e) (otherP st e) (kindP c st e)
def applyF (c : List Kind) (st : List Part) (e : Evt) : Res2 :=
  if (!validS c st || !validE e) = true then failR 1 else if e.op = 1 then applyMake c st e else applyRest c st e
/-- what a fleet comes to -/
def StIs (J : IMap) (r : Res2) (u : Value) : Prop := ∃ w, u = .tuple #[.agg #[w], .int .i64 r.2] ∧ RdS J w r.1
theorem StIs.fail {J : IMap} {r : Res2} {n : Int} (h : r = failR n) : StIs J r (.tuple #[.agg #[.slice none 0 0], .int .i64 n]) := by subst h; exact ⟨_, rfl, RdS.nil'⟩
theorem StIs.put {J : IMap} {r : Res2} {st : List Part} {p : Part} {w : Value} (h : r = putR st p) (hw : RdS J w (putL Part.name st p)) : StIs J r (.tuple #[.agg #[w], .int .i64 0]) := by subst h; exact ⟨w, rfl, hw⟩
theorem validS_ord {c : List Kind} {st : List Part} (h : validS c st = true) : Srt Part.name st ∧ st.length ≤ 20000 := by
  simp only [validS, bad0S, Bool.and_eq_true, Bool.not_eq_true', Bool.or_eq_false_iff, Bool.not_eq_false', decide_eq_false_iff_not] at h
  exact ⟨Srt.of_ord h.1.2, by omega⟩
theorem allP_mem {α : Type} {f : List α → α → Bool} {l : List α} (h : allP f l l.length = true) {x : α} (hx : x ∈ l) : ∃ pre, f pre x = true := by
  obtain ⟨i, hi, rfl⟩ := List.getElem_of_mem hx
  rw [allP, List.all_eq_true] at h
  have h1 := h i (List.mem_range.2 hi)
  simp only [List.getElem?_eq_getElem hi] at h1
  exact ⟨_, h1⟩
theorem validS_part {c : List Kind} {st : List Part} (h : validS c st = true) {p : Part} (hp : p ∈ st) : Srt Prp.key p.props ∧ p.props.length ≤ 60 := by
  simp only [validS, Bool.and_eq_true] at h
  obtain ⟨pre, h1⟩ := allP_mem h.2 hp
  simp only [partFine, bad1P, Bool.and_eq_true, Bool.not_eq_true', Bool.or_eq_false_iff, Bool.not_eq_false'] at h1
  have h2 := h1.1.1
  simp only [rightP, partBad, Bool.and_eq_true, Bool.not_eq_true', Bool.or_eq_false_iff, decide_eq_false_iff_not] at h2
  exact ⟨Srt.of_ord h2.2.1.1.1, by omega⟩
theorem find_mem {st : List Part} {s : ByteArray} {p : Part} (h : findP st s = some p) : p ∈ st := List.mem_of_find?_eq_some h
theorem partP_mem {st : List Part} {e : Evt} (h : (findP st e.part).isSome = true) : partP st e ∈ st := by
  obtain ⟨p, hp⟩ := Option.isSome_iff_exists.1 h
  have : partP st e = p := by rw [partP, hp]; rfl
  rw [this]; exact find_mem hp
end Go.Sx
