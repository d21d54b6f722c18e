/- Maps whose keys are pairs of strings; what a map has after a write. -/
import Derived.Test.YtkmdojpfccjnoaaGreatSxEq
set_option linter.all false
namespace Go.Sx
open Go
def enc2 (p : ByteArray × ByteArray) : Value := .agg #[.string p.1, .string p.2]
def strPairK (P : Program) (kt : TypeId) : Bool := match P.underlying kt with
  | some (.struct fs) => match fs.toList with
    | [f, g] => decide (tyK P f.type = some (false, 1)) && (decide (tyK P g.type = some (false, 1)) && (decide (f.offset = 0) && (decide (g.offset = 1) && (decide (f.name ≠ "_") && (decide (g.name ≠ "_") && ((match P.underlying f.type with | some .string => true | _ => false) && (match P.underlying g.type with | some .string => true | _ => false)))))))
    | _ => false
  | _ => false
theorem strPair_spec {P : Program} {kt : TypeId} (h : strPairK P kt = true) : ∃ fs f g, P.underlying kt = some (.struct fs) ∧ fs.toList = [f, g] ∧ tyK P f.type = some (false, 1) ∧ tyK P g.type = some (false, 1) ∧ f.offset = 0 ∧ g.offset = 1 ∧ f.name ≠ "_" ∧ g.name ≠ "_" ∧
    P.underlying f.type = some .string ∧ P.underlying g.type = some .string := by
  unfold strPairK at h
  split at h
  · rename_i fs hfs
    split at h
    · rename_i f g hl
      simp only [Bool.and_eq_true, decide_eq_true_eq] at h
      obtain ⟨h1, h2, h3, h4, h5, h6, h7, h8⟩ := h
      refine ⟨fs, f, g, hfs, hl, h1, h2, h3, h4, h5, h6, ?_, ?_⟩
      · split at h7
        · assumption
        · cases h7
      · split at h8
        · assumption
        · cases h8
    · cases h
  · cases h
theorem key_pair {P : Program} {kt : TypeId} (h : strPairK P kt = true) (he : ∀ p q, eqV P 9 kt (enc2 p) (enc2 q) = some (decide (p = q))) : KeyOK P kt enc2 where
  find := by
    obtain ⟨fs, f, g, h1, _⟩ := strPair_spec h
    intro w k es kvs hes
    have key : ∀ (es : List MapEntry) (kvs : List ((ByteArray × ByteArray) × Value)) (i : Nat), es.map (fun e => (e.key, e.val)) = emap enc2 kvs → (Instr.findAsking kt (enc2 k) es i).run P w = .ok (mfind kvs k i) w := by
      intro es
      induction es with
      | nil => intro kvs i he; cases kvs <;> simp_all [emap, Instr.findAsking, mfind]
      | cons e es ih =>
        intro kvs i hes
        cases kvs with
        | nil => simp [emap] at hes
        | cons p kvs =>
          obtain ⟨k', v⟩ := p
          simp only [List.map_cons, emap, List.cons.injEq, Prod.mk.injEq] at hes
          obtain ⟨⟨h1, h2⟩, h3⟩ := hes
          have hr := eqV_run (P := P) 9 kt _ _ _ (he k k') 10000 (by omega) w
          simp only [Instr.findAsking, h1, Sem.run_bind, Op.equal, Op.maxDepth, hr, Result.andThen_ok]
          by_cases hk : k' = k
          · subst hk; simp [mfind, h2]
          · have : ¬ k = k' := fun e => hk e.symm
            simp only [this, decide_false, Bool.false_eq_true, if_false, mfind, if_neg hk]
            exact ih kvs (i + 1) h3
    simp only [Instr.findKey, Sem.run_bind, run_underlying h1, Result.andThen_ok]
    cases es with
    | nil => cases kvs <;> simp_all [emap, Instr.findNow, mfind]
    | cons e es =>
      have : Instr.findNow (.struct fs) (enc2 k) (e :: es) 0 = none := by simp [Instr.findNow, enc2, Instr.sameNow]
      simp only [this]
      exact key _ kvs 0 hes
  check := by
    obtain ⟨fs, f, g, h1, h2, h3, h4, h5, h6, h7, h8, h9, h10⟩ := strPair_spec h
    intro w b k
    show (Instr.checkKey b (9999 + 1) kt (enc2 k)).run P w = _
    rw [Instr.checkKey]
    have e1 : (part f.type #[Value.string k.1, Value.string k.2] f.offset).run P w = .ok (.string k.1) w := partV_run (by simp [partV, h3, h5]) w
    have e2 : (part g.type #[Value.string k.1, Value.string k.2] g.offset).run P w = .ok (.string k.2) w := partV_run (by simp [partV, h4, h6]) w
    have c1 : (Instr.checkKey b (9998 + 1) f.type (.string k.1)).run P w = .ok () w := by rw [Instr.checkKey]; simp [run_underlying h9]
    have c2 : (Instr.checkKey b (9998 + 1) g.type (.string k.2)).run P w = .ok () w := by rw [Instr.checkKey]; simp [run_underlying h10]
    simp only [enc2, Sem.run_bind, run_underlying h1, Result.andThen_ok]
    rw [← Array.forIn_toList, h2]
    simp only [List.forIn_cons, List.forIn_nil, ne_eq, h7, h8, not_false_eq_true, if_true, Sem.run_bind, Sem.run_pure, Result.andThen_ok, e1, e2, c1, c2]
  same := by
    intro k
    show Instr.sameBits (9999 + 1) (enc2 k) (enc2 k) = true
    have hs : ∀ s : ByteArray, (s == s) = true := fun s => by rw [ba_beq]; simp
    simp only [enc2, Instr.sameBits]
    simp [Instr.sameBits, hs]
theorem mget_mput {κ : Type} [DecidableEq κ] (kvs : List (κ × Value)) (k s : κ) (v : Value) : mget (mput kvs k v) s = if k = s then some v else mget kvs s := by
  induction kvs with
  | nil => simp [mput, mget]
  | cons p r ih =>
    obtain ⟨k', u⟩ := p
    simp only [mput]
    by_cases h : k' = k
    · subst h
      simp only [if_true, mget]
      split <;> rfl
    · simp only [h, if_false, mget, ih]
      by_cases h2 : k' = s
      · subst h2
        have : ¬ k = k' := fun e => h e.symm
        simp [this]
      · simp [h2]
section
variable {P : Program} {ρ : Option Nat} {n : Sz} {E : Ent} {I : IMap} {L : LL} {H : List Res} {Q : Exit → Act → World → Prop} {ops : Array Oper} {K : Act → World → Prop} {w0 : World}
variable {d ty : Nat} {pos : String} {af : Array Edge} {fo : Operand} {as : List Operand} {ats : Array TypeId} {f : FuncId} {args : List Value} {r r' : Res} {X : List Nat} {I' : IMap}
/-- a contract: one thing of the caller's own is lent, and comes back as it was -/
def FnK (P : Program) (f : FuncId) (args : Array Value) (I : IMap) (r : Res) (p : Value → Prop) : Prop := FnH P f args I [r] fun u I' H' => p u ∧ I' = I ∧ H' = [r]
/-- .. comes back changed -/
def FnM (P : Program) (f : FuncId) (args : Array Value) (I : IMap) (r r' : Res) : Prop := FnH P f args I [r] fun u I' H' => u = .tuple #[] ∧ I' = I ∧ H' = [r']
/-- one thing of one's own comes out -/
def FnX (P : Program) (f : FuncId) (args : Array Value) (I : IMap) (Hc : List Res) (p : Value → Res → Prop) : Prop := FnH P f args I Hc fun u I' H' => I' = I ∧ ∃ r', H' = [r'] ∧ p u r'
theorem o_callK {p : Value → Prop} (hc : FnK P f args.toArray I r p) (h : callArgs L fo as = some (f, args)) (hd : Nat.blt d n.sz = true) (k : ∀ v, p v → SX n E I ((d, v) :: L) (r :: H) K) :
    SX n E I L (r :: H) (one P ops Q ⟨some d, .call { callee := .value fo, args := as.toArray, argTypes := ats }, ty, pos, af, none⟩ K) :=
  o_callH (Hc := [r]) (H0 := H) hc h hd fun u I' H' hI hp => by obtain ⟨h1, rfl, rfl⟩ := hp; exact k u h1
theorem o_callM (hc : FnM P f args.toArray I r r') (h : callArgs L fo as = some (f, args)) (hd : Nat.blt d n.sz = true) (k : SX n E I ((d, .tuple #[]) :: L) (r' :: H) K) :
    SX n E I L (r :: H) (one P ops Q ⟨some d, .call { callee := .value fo, args := as.toArray, argTypes := ats }, ty, pos, af, none⟩ K) :=
  o_callH (Hc := [r]) (H0 := H) hc h hd fun u I' H' hI hp => by obtain ⟨rfl, rfl, rfl⟩ := hp; exact k
theorem o_callX0 {p : Value → Res → Prop} (hc : FnX P f args.toArray I [] p) (h : callArgs L fo as = some (f, args)) (hd : Nat.blt d n.sz = true) (k : ∀ v r', p v r' → SX n E I ((d, v) :: L) (r' :: H) K) :
    SX n E I L H (one P ops Q ⟨some d, .call { callee := .value fo, args := as.toArray, argTypes := ats }, ty, pos, af, none⟩ K) :=
  o_callH (Hc := []) (H0 := H) hc h hd fun u I' H' hI hp => by obtain ⟨rfl, r', rfl, h1⟩ := hp; exact k u r' h1
theorem o_callX1 {p : Value → Res → Prop} (hc : FnX P f args.toArray I [r] p) (h : callArgs L fo as = some (f, args)) (hd : Nat.blt d n.sz = true) (k : ∀ v r', p v r' → SX n E I ((d, v) :: L) (r' :: H) K) :
    SX n E I L (r :: H) (one P ops Q ⟨some d, .call { callee := .value fo, args := as.toArray, argTypes := ats }, ty, pos, af, none⟩ K) :=
  o_callH (Hc := [r]) (H0 := H) hc h hd fun u I' H' hI hp => by obtain ⟨rfl, r', rfl, h1⟩ := hp; exact k u r' h1
theorem Mem.origR {w : World} (m : Mem ⟨X, I, w0⟩ I' H w) (hH : ∀ r ∈ H, ∀ g, r.foot = some g → w0.heap.size ≤ g ∨ g ∈ X) : Mem ⟨X, I, w0⟩ I H w := m.orig
theorem q_k {v : Value} {p : Value → Prop} (h : p v) : SX n ⟨X, I, w0⟩ I' L [r] fun _ w => Post ⟨X, I, w0⟩ (fun u' I'' H' => p u' ∧ I'' = I ∧ H' = [r]) (.returned v) w :=
  fun _ w _ m => ⟨v, I, [r], rfl, m.orig, h, rfl, rfl⟩
theorem q_m : SX n ⟨X, I, w0⟩ I' L [r] fun _ w => Post ⟨X, I, w0⟩ (fun u' I'' H' => u' = .tuple #[] ∧ I'' = I ∧ H' = [r]) (.returned (.tuple #[])) w :=
  fun _ w _ m => ⟨_, I, [r], rfl, m.orig, rfl, rfl, rfl⟩
theorem q_m' (h : r = r') : SX n ⟨X, I, w0⟩ I' L [r] fun _ w => Post ⟨X, I, w0⟩ (fun u' I'' H' => u' = .tuple #[] ∧ I'' = I ∧ H' = [r']) (.returned (.tuple #[])) w := h ▸ q_m
theorem q_x {v : Value} {p : Value → Res → Prop} (h : p v r) : SX n ⟨X, I, w0⟩ I' L [r] fun _ w => Post ⟨X, I, w0⟩ (fun u' I'' H' => I'' = I ∧ ∃ r', H' = [r'] ∧ p u' r') (.returned v) w :=
  fun _ w _ m => ⟨v, I, [r], rfl, m.orig, rfl, r, rfl, h⟩
end
end Go.Sx
