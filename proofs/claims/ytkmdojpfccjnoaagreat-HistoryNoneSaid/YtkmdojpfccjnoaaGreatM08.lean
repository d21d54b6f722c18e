/- The catalog, as the program has it, in plain Lean. -/
import Derived.Test.YtkmdojpfccjnoaaGreatSxRow
set_option linter.all false
namespace Go.Sx
open Go
abbrev nil8 : ByteArray := ⟨#[]⟩
def zKind : Kind := ⟨nil8, false, []⟩
def zSlot : Slot := ⟨nil8, [], 0⟩
def findK (c : List Kind) (s : ByteArray) : Option Kind := c.find? fun k => decide (k.name = s)
def slotF (c : List Kind) (k s : ByteArray) : Option Slot := ((findK c k).getD zKind).slots.find? fun x => decide (x.name = s)
def takesF (c : List Kind) (k s p : ByteArray) : Bool := match slotF c k s with | some x => decide (p ∈ x.kinds) | none => false
def kindIn (pre : List Kind) (ks : List ByteArray) (n : ByteArray) : Bool := !(hit id ks n) && hitV Kind.name (fun k => !k.vehicle) pre n
def slotFine (pre : List Kind) (sl : List Slot) (s : Slot) : Bool := !(((hit Slot.name sl s.name || !nameOk s.name) || decide (s.normal < 1)) || decide ((s.kinds.length : Int) < s.normal)) && allP (kindIn pre) s.kinds s.kinds.length
def kindFine (pre : List Kind) (k : Kind) : Bool := !((hit Kind.name pre k.name || !nameOk k.name) || decide ((12 : Int) < (k.slots.length : Nat))) && allP (slotFine pre) k.slots k.slots.length
def validC (c : List Kind) : Bool := allP kindFine c c.length && decide (((c.length : Nat) : Int) ≤ 60)
abbrev Sm (s : ByteArray) : Prop := s.size ≤ 9223372036854775807
def SmS (s : Slot) : Prop := Sm s.name ∧ ∀ k ∈ s.kinds, Sm k
def SmC (c : List Kind) : Prop := ∀ k ∈ c, Sm k.name ∧ ∀ s ∈ k.slots, SmS s
/-- the reference's -/
def kindInR (c : List Kind) (ks : List ByteArray) (n : ByteArray) : Bool := !((!(findK c n).isSome || ((findK c n).getD zKind).vehicle) || decide (n ∈ ks))
def slotR (c : List Kind) (s : Slot) : Bool := !((!nameRef s.name || decide (s.normal < 1)) || decide ((s.kinds.length : Int) < s.normal)) && allP (kindInR c) s.kinds s.kinds.length
def slotFineR (c : List Kind) (sl : List Slot) (s : Slot) : Bool := !(!slotR c s || decide (s.name ∈ sl.map Slot.name))
def kindFineR (pre : List Kind) (k : Kind) : Bool := !(((findK pre k.name).isSome || !nameRef k.name) || decide ((12 : Int) < (k.slots.length : Nat))) && allP (slotFineR pre) k.slots k.slots.length
def validR (c : List Kind) : Bool := !decide ((60 : Int) < (c.length : Nat)) && allP kindFineR c c.length
def fewSlot (s : Slot) : Bool := !(decide ((100 : Int) < (s.name.size : Nat)) || decide ((15 : Int) < (s.kinds.length : Nat))) && allP (fun _ k => !decide ((100 : Int) < ((k : ByteArray).size : Nat))) s.kinds s.kinds.length
def fewKind (k : Kind) : Bool := !(decide ((100 : Int) < (k.name.size : Nat)) || decide ((15 : Int) < (k.slots.length : Nat))) && allP (fun _ s => fewSlot s) k.slots k.slots.length
def fewC (c : List Kind) : Bool := !decide ((65 : Int) < (c.length : Nat)) && allP (fun _ k => fewKind k) c c.length
/-- what the program finds -/
def KindIs (I : IMap) (r : Option Kind) (u : Value) : Prop := ∃ vs, u = .tuple #[.agg vs.toArray, .bool r.isSome] ∧ Enc.rd I vs (r.getD zKind)
def SlotIs (I : IMap) (r : Option Slot) (u : Value) : Prop := ∃ vs, u = .tuple #[.agg vs.toArray, .bool r.isSome] ∧ Enc.rd I vs (r.getD zSlot)
theorem KindIs.of {I : IMap} {r : Option Kind} {k : Kind} {vs : List Value} (h : r = some k) (hr : Enc.rd I vs k) : KindIs I r (.tuple #[.agg vs.toArray, .bool true]) := by subst h; exact ⟨vs, rfl, hr⟩
theorem SlotIs.of {I : IMap} {r : Option Slot} {k : Slot} {vs : List Value} (h : r = some k) (hr : Enc.rd I vs k) : SlotIs I r (.tuple #[.agg vs.toArray, .bool true]) := by subst h; exact ⟨vs, rfl, hr⟩
theorem KindIs.none {I : IMap} {r : Option Kind} (h : r = none) : KindIs I r (.tuple #[.agg #[.string ⟨#[]⟩, .bool false, .slice none 0 0], .bool false]) := by subst h; exact ⟨_, rfl, _, rfl, RdS.nil'⟩
theorem SlotIs.none {I : IMap} {r : Option Slot} (h : r = none) : SlotIs I r (.tuple #[.agg #[.string ⟨#[]⟩, .slice none 0 0, .int .i64 0], .bool false]) := by subst h; exact ⟨_, rfl, _, rfl, RdS.nil'⟩
end Go.Sx
