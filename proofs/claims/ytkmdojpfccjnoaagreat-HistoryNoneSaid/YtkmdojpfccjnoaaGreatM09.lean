/- Events, as the program has them, in plain Lean. -/
import Derived.Test.YtkmdojpfccjnoaaGreatSxEq
import Derived.Test.YtkmdojpfccjnoaaGreatM08
set_option linter.all false
namespace Go.Sx
open Go
def zUse : Use := ⟨⟨0, 0⟩, ⟨0, 0⟩, ⟨0, 0⟩⟩
def zEvt : Evt := ⟨0, 0, nil8, nil8, nil8, nil8, nil8, nil8, zUse⟩
def opWords : List ByteArray := [⟨#[]⟩, ⟨#[109, 97, 107, 101]⟩, ⟨#[102, 105, 116]⟩, ⟨#[114, 101, 109, 111, 118, 101]⟩, ⟨#[114, 117, 110]⟩, ⟨#[111, 118, 101, 114, 104, 97, 117, 108]⟩, ⟨#[110, 111, 116, 101]⟩, ⟨#[115, 99, 114, 97, 112]⟩]
def wordOf (op : Int) : ByteArray := if op < 0 ∨ 8 ≤ op then nil8 else (opWords[op.toNat]?).getD nil8
theorem wordOf_out {op : Int} (h : op < 0 ∨ 8 ≤ op) : wordOf op = nil8 := if_pos h
theorem wordOf_at {op : Int} (h0 : 0 ≤ op) (h8 : op < 8) : (opWords.map Value.string)[op.toNat]? = some (.string (wordOf op)) := by
  have h : op.toNat < opWords.length := by show op.toNat < 8; omega
  rw [List.getElem?_map, List.getElem?_eq_getElem h, wordOf, if_neg (by omega), List.getElem?_eq_getElem h]
  rfl
theorem wordOf_empty (op : Int) : wordOf op = nil8 ↔ op < 1 ∨ 8 ≤ op := by
  unfold wordOf
  split
  · rename_i h; simp; omega
  · rename_i h
    obtain ⟨q, rfl⟩ : ∃ q : Nat, op = q := ⟨op.toNat, by omega⟩
    have hq : q < 8 := by omega
    constructor
    · intro he
      match q, hq, he with
      | 0, _, _ => left; decide
      | 1, _, he => exact absurd he (by decide)
      | 2, _, he => exact absurd he (by decide)
      | 3, _, he => exact absurd he (by decide)
      | 4, _, he => exact absurd he (by decide)
      | 5, _, he => exact absurd he (by decide)
      | 6, _, he => exact absurd he (by decide)
      | 7, _, he => exact absurd he (by decide)
    · intro he
      have : q = 0 := by omega
      subst this
      rfl
def useAt (u : Use) : Nat → Ivl
  | 0 => u.km
  | 1 => u.cycles
  | _ => u.load
theorem use_low (e : Evt) {i : Nat} (h : i < 3) : e.cells[8 + 2 * i + 0]? = some (ci (useAt e.use i).low) := by
  match i, h with
  | 0, _ => rfl
  | 1, _ => rfl
  | 2, _ => rfl
theorem use_high (e : Evt) {i : Nat} (h : i < 3) : e.cells[8 + 2 * i + 1]? = some (ci (useAt e.use i).high) := by
  match i, h with
  | 0, _ => rfl
  | 1, _ => rfl
  | 2, _ => rfl
def usePtrs (g o : Nat) : List Value := [.pointer (some ⟨g, o + 0, none⟩), .pointer (some ⟨g, o + 2, none⟩), .pointer (some ⟨g, o + 4, none⟩)]
theorem usePtrs_at (g o : Nat) {i : Nat} (h : i < 3) : (usePtrs g o)[i]? = some (.pointer (some ⟨g, o + 2 * i, none⟩)) := by
  match i, h with
  | 0, _ => rfl
  | 1, _ => rfl
  | 2, _ => rfl
def ivlOk (i : Ivl) : Bool := !((decide (i.low < 0) || decide (i.high < i.low)) || decide (1000000 < i.high))
def useTo (u : Use) (n : Nat) : Bool := (List.range n).all fun i => ivlOk (useAt u i)
theorem use_not {u : Use} {i : Nat} (hi : i < 3) (h : ivlOk (useAt u i) = false) : useTo u 3 = false := all_not (p := fun i => ivlOk (useAt u i)) hi h
theorem use_succ {u : Use} {i : Nat} (h : useTo u i = true) (hp : ivlOk (useAt u i) = true) : useTo u (i + 1) = true := all_succ h hp
/-- what must be empty -/
def restOf (e : Evt) : Evt :=
  let r : Evt := { e with op := 0, day := 0, part := nil8 }
  if e.op = 1 then { r with kind := nil8 } else if e.op = 2 then { r with into := nil8, slot := nil8 } else if e.op = 6 then { r with key := nil8, value := nil8 } else if e.op = 4 then { r with use := zUse } else r
def namesOf (e : Evt) : List ByteArray := if e.op = 1 then [e.kind] else if e.op = 2 then [e.into, e.slot] else if e.op = 6 then [e.key] else []
def opBad (e : Evt) : Bool := if e.op = 2 then decide (e.into = e.part) else if e.op = 6 then decide (e.value = nil8) || decide ((200 : Int) < (e.value.size : Nat)) else if e.op = 4 then !useTo e.use 3 else false
def evBad (e : Evt) : Bool := ((decide (wordOf e.op = nil8) || decide (e.day < 0)) || decide (40000 < e.day)) || !nameOk e.part
def validE (e : Evt) : Bool := !evBad e && !opBad e && decide (restOf e = zEvt) && !((namesOf e).any fun s => !nameOk s)
def SmE (e : Evt) : Prop := Sm e.part ∧ Sm e.kind ∧ Sm e.into ∧ Sm e.slot ∧ Sm e.key ∧ Sm e.value
theorem names_sm {e : Evt} (h : SmE e) {s : ByteArray} (hs : s ∈ namesOf e) : Sm s := by
  obtain ⟨h1, h2, h3, h4, h5, h6⟩ := h
  unfold namesOf at hs
  split at hs
  · simp at hs; subst hs; exact h2
  · split at hs
    · simp at hs; rcases hs with rfl | rfl <;> assumption
    · split at hs
      · simp at hs; subst hs; exact h5
      · simp at hs
def Ivl.eqB (a b : Ivl) : Bool := decide (a.low = b.low) && (decide (a.high = b.high) && true)
def Use.eqB (a b : Use) : Bool := Ivl.eqB a.km b.km && (Ivl.eqB a.cycles b.cycles && (Ivl.eqB a.load b.load && true))
def Life.eqB (a b : Life) : Bool := Ivl.eqB a.km b.km && (Ivl.eqB a.cycles b.cycles && (Ivl.eqB a.damage b.damage && true))
def Evt.eqB (a b : Evt) : Bool := decide (a.op = b.op) && (decide (a.day = b.day) && (decide (a.part = b.part) && (decide (a.kind = b.kind) && (decide (a.into = b.into) && (decide (a.slot = b.slot) && (decide (a.key = b.key) && (decide (a.value = b.value) && (Use.eqB a.use b.use && true))))))))
def Prp.eqB (a b : Prp) : Bool := decide (a.key = b.key) && (decide (a.value = b.value) && true)
theorem Ivl.eqB_eq (a b : Ivl) : Ivl.eqB a b = decide (a = b) := by
  cases a; cases b; simp [Ivl.eqB]
theorem Use.eqB_eq (a b : Use) : Use.eqB a b = decide (a = b) := by
  cases a; cases b; simp [Use.eqB, Ivl.eqB_eq]
theorem Life.eqB_eq (a b : Life) : Life.eqB a b = decide (a = b) := by
  cases a; cases b; simp [Life.eqB, Ivl.eqB_eq]
theorem Evt.eqB_eq (a b : Evt) : Evt.eqB a b = decide (a = b) := by
  cases a; cases b; simp [Evt.eqB, Use.eqB_eq]
theorem Prp.eqB_eq (a b : Prp) : Prp.eqB a b = decide (a = b) := by
  cases a; cases b; simp [Prp.eqB]
/-- the names that an event is about -/
def minS (s t : ByteArray) : ByteArray := if (sLt s t || decide (s = t)) = true then s else t
def maxS (s t : ByteArray) : ByteArray := if (!sLt s t) = true then s else t
def namesE (e : Evt) : List ByteArray := if validE e = false then [] else if e.op = 2 then [minS e.part e.into, maxS e.part e.into] else [e.part]
def shortE (e : Evt) : Bool := ((((decide (((e.part.size : Nat) : Int) ≤ 300) && decide (((e.kind.size : Nat) : Int) ≤ 300)) && decide (((e.into.size : Nat) : Int) ≤ 300)) && decide (((e.slot.size : Nat) : Int) ≤ 300)) && decide (((e.key.size : Nat) : Int) ≤ 300)) && decide (((e.value.size : Nat) : Int) ≤ 300)
def fewE (l : List Evt) (n : Int) : Bool := allP (fun _ e => shortE e) l l.length && decide (((l.length : Nat) : Int) ≤ n)
theorem same_no {α : Type} [DecidableEq α] {l m : List α} {i : Nat} (h1 : i < l.length) (h2 : i < m.length) (h : decide (l[i] = m[i]) = false) : decide (l = m) = false := by
  rw [decide_eq_false_iff_not] at h ⊢
  rintro rfl
  exact h rfl
theorem same_next {α : Type} {l m : List α} {i : Nat} (h1 : i < l.length) (h2 : i < m.length) (ht : l.take i = m.take i) (h : l[i] = m[i]) : l.take (i + 1) = m.take (i + 1) := by
  rw [← take_succ_of h1, ← take_succ_of h2, ht, h]
theorem same_end {α : Type} {l m : List α} {i : Nat} (h : l.length = m.length) (hi : l.length ≤ i) (ht : l.take i = m.take i) : l = m := by
  rw [List.take_of_length_le hi, List.take_of_length_le (by omega)] at ht
  exact ht
end Go.Sx
