/- What the data are in Lean, and how they lie in memory. -/
import Derived.Test.YtkmdojpfccjnoaaGreatSxAid
import Derived.Lib.Bytealg
set_option linter.all false
namespace Go.Sx
open Go

structure Ivl where
  low : Int
  high : Int
  deriving DecidableEq
structure Use where
  km : Ivl
  cycles : Ivl
  load : Ivl
  deriving DecidableEq
structure Evt where
  op : Int
  day : Int
  part : ByteArray
  kind : ByteArray
  into : ByteArray
  slot : ByteArray
  key : ByteArray
  value : ByteArray
  use : Use
  deriving DecidableEq
structure Slot where
  name : ByteArray
  kinds : List ByteArray
  normal : Int
  deriving DecidableEq
structure Kind where
  name : ByteArray
  vehicle : Bool
  slots : List Slot
  deriving DecidableEq
structure Prp where
  key : ByteArray
  value : ByteArray
  deriving DecidableEq
structure Life where
  km : Ivl
  cycles : Ivl
  damage : Ivl
  deriving DecidableEq
structure Part where
  name : ByteArray
  kind : ByteArray
  into : ByteArray
  slot : ByteArray
  made : Int
  since : Int
  scrapped : Bool
  props : List Prp
  life : Life
  deriving DecidableEq

/-! the cells -/
abbrev ci (n : Int) : Value := .int .i64 n
def Ivl.cells (i : Ivl) : List Value := [ci i.low, ci i.high]
def Use.cells (u : Use) : List Value := [ci u.km.low, ci u.km.high, ci u.cycles.low, ci u.cycles.high, ci u.load.low, ci u.load.high]
def Life.cells (u : Life) : List Value := [ci u.km.low, ci u.km.high, ci u.cycles.low, ci u.cycles.high, ci u.damage.low, ci u.damage.high]
def Evt.cells (e : Evt) : List Value := [ci e.op, ci e.day, .string e.part, .string e.kind, .string e.into, .string e.slot, .string e.key, .string e.value,
  ci e.use.km.low, ci e.use.km.high, ci e.use.cycles.low, ci e.use.cycles.high, ci e.use.load.low, ci e.use.load.high]
def Prp.cells (p : Prp) : List Value := [.string p.key, .string p.value]
def Part.cells (p : Part) (ps : Value) : List Value := [.string p.name, .string p.kind, .string p.into, .string p.slot, ci p.made, ci p.since, .bool p.scrapped, ps,
  ci p.life.km.low, ci p.life.km.high, ci p.life.cycles.low, ci p.life.cycles.high, ci p.life.damage.low, ci p.life.damage.high]
def Slot.cells (s : Slot) (ks : Value) : List Value := [.string s.name, ks, ci s.normal]
def Kind.cells (k : Kind) (ss : Value) : List Value := [.string k.name, .bool k.vehicle, ss]

instance : Enc Ivl where
  k := 2
  rd _ vs x := vs = x.cells
  len h := by rw [h]; rfl
  mono _ h := h
  one h := by rw [h]; rfl
instance : Enc Use where
  k := 6
  rd _ vs x := vs = x.cells
  len h := by rw [h]; rfl
  mono _ h := h
  one h := by rw [h]; rfl
instance : Enc Life where
  k := 6
  rd _ vs x := vs = x.cells
  len h := by rw [h]; rfl
  mono _ h := h
  one h := by rw [h]; rfl
instance : Enc Evt where
  k := 14
  rd _ vs x := vs = x.cells
  len h := by rw [h]; rfl
  mono _ h := h
  one h := by rw [h]; rfl
instance : Enc Prp where
  k := 2
  rd _ vs x := vs = x.cells
  len h := by rw [h]; rfl
  mono _ h := h
  one h := by rw [h]; rfl
theorem RdS.one {α : Type} [Enc α] {I : IMap} {v : Value} {l : List α} (h : RdS I v l) : v.oneCell' = true := by obtain ⟨A, c, rfl, _⟩ := h; rfl
instance : Enc Slot where
  k := 3
  rd I vs x := ∃ ks, vs = x.cells ks ∧ RdS I ks x.kinds
  len h := by obtain ⟨ks, rfl, _⟩ := h; rfl
  mono hI h := by obtain ⟨ks, rfl, h⟩ := h; exact ⟨ks, rfl, h.le hI⟩
  one h := by obtain ⟨ks, rfl, h⟩ := h; obtain ⟨A, c, rfl, _⟩ := h; rfl
instance : Enc Kind where
  k := 3
  rd I vs x := ∃ ss, vs = x.cells ss ∧ RdS I ss x.slots
  len h := by obtain ⟨ks, rfl, _⟩ := h; rfl
  mono hI h := by obtain ⟨ks, rfl, h⟩ := h; exact ⟨ks, rfl, h.le hI⟩
  one h := by obtain ⟨ks, rfl, h⟩ := h; obtain ⟨A, c, rfl, _⟩ := h; rfl
instance : Enc Part where
  k := 14
  rd I vs x := ∃ ps, vs = x.cells ps ∧ RdS I ps x.props
  len h := by obtain ⟨ks, rfl, _⟩ := h; rfl
  mono hI h := by obtain ⟨ks, rfl, h⟩ := h; exact ⟨ks, rfl, h.le hI⟩
  one h := by obtain ⟨ks, rfl, h⟩ := h; obtain ⟨A, c, rfl, _⟩ := h; rfl

/-! comparisons -/
def cmpI (x y : Int) : Int := if x < y then -1 else if y < x then 1 else 0
def cmpS (x y : ByteArray) : Int := if sLt x y = true then -1 else if (!(sLt x y || decide (x = y))) = true then 1 else 0
/-! layer 5: names -/
def isLetter (c : UInt8) : Bool := (decide ((97 : Int) ≤ c.toNat) && decide ((c.toNat : Int) ≤ 122)) || (decide ((65 : Int) ≤ c.toNat) && decide ((c.toNat : Int) ≤ 90))
def isDigit (c : UInt8) : Bool := decide ((48 : Int) ≤ c.toNat) && decide ((c.toNat : Int) ≤ 57)
def isWord (c : UInt8) : Bool := isLetter c || isDigit c || decide ((c.toNat : Int) = 95)
/-- the first n bytes of a name, as the reference has it -/
def wordsTo (s : ByteArray) (n : Nat) : Bool := (List.range n).all fun i => isWord (s[i]!)
def nameRef (s : ByteArray) : Bool := wordsTo s s.size && ((decide ((0 : Int) < (s.size : Nat)) && decide (((s.size : Nat) : Int) ≤ 24)) && isLetter (s[0]!))
/-- a name, as the program has it -/
def nameChar (s : ByteArray) (i : Nat) : Bool := isLetter (s[i]!) || (decide (i ≠ 0) && (isDigit (s[i]!) || decide (((s[i]!).toNat : Int) = 95)))
def charsTo (s : ByteArray) (n : Nat) : Bool := (List.range n).all fun i => nameChar s i
def nameOk (s : ByteArray) : Bool := charsTo s s.size && ((!decide (s = ⟨#[]⟩)) && decide (((s.size : Nat) : Int) ≤ 24))
theorem words_succ {s : ByteArray} {i : Nat} (h : wordsTo s i = true) (hp : isWord (s[i]!) = true) : wordsTo s (i + 1) = true := all_succ h hp
theorem words_not {s : ByteArray} {i n : Nat} (hi : i < n) (hp : isWord (s[i]!) = false) : wordsTo s n = false := all_not (p := fun i => isWord (s[i]!)) hi hp
theorem chars_succ {s : ByteArray} {i : Nat} (h : charsTo s i = true) (hp : nameChar s i = true) : charsTo s (i + 1) = true := all_succ h hp
theorem chars_not {s : ByteArray} {i n : Nat} (hi : i < n) (hp : nameChar s i = false) : charsTo s n = false := all_not (p := fun i => nameChar s i) hi hp
/-- the class of a byte, as the program's table has it before the three last entries -/
def clsLow (c : UInt8) : Bool := decide ((97 : Int) ≤ c.toNat) && decide ((c.toNat : Int) ≤ 122)
def clsUp (c : UInt8) : Bool := decide ((65 : Int) ≤ c.toNat) && decide ((c.toNat : Int) ≤ 90)
def clsBlank (c : UInt8) : Bool := decide (0 ≤ Lib.indexByte [32, 9, 10] c)
def clsSym (c : UInt8) : Bool := decide (0 ≤ Lib.indexByte [59, 44, 46, 58, 40, 41, 123, 125, 91, 93, 61, 60, 62, 47, 43, 45, 42] c)
def clsOf (c : UInt8) : Int := if clsLow c || clsUp c then 3 else if isDigit c then 4 else if clsBlank c then 1 else if clsSym c then 6 else 0
def clsRow (i : Nat) : List Value := (List.range 256).map fun j => .int .u8 (if j < i then clsOf j.toUInt8 else 0)
def clsTab : List Value := (((clsRow 256).set 35 (.int .u8 2)).set 95 (.int .u8 5)).set 34 (.int .u8 7)
def clsFin (c : UInt8) : Int := if c = 34 then 7 else if c = 95 then 5 else if c = 35 then 2 else clsOf c
theorem clsRow_len (i : Nat) : (clsRow i).length = 256 := by simp [clsRow]
theorem clsRow_set (i : Nat) (hi : i < 256) (v : Int) (hv : v = clsOf i.toUInt8) : (clsRow i).set i (.int .u8 v) = clsRow (i + 1) := by
  subst hv
  apply List.ext_getElem?
  intro j
  simp only [clsRow, List.getElem?_set, List.getElem?_map, List.length_map, List.length_range]
  by_cases hj : j < 256
  · rw [List.getElem?_range hj]
    by_cases e : i = j
    · subst e; simp [hi]
    · simp only [if_neg e, Option.map_some]
      congr 3
      exact propext ⟨fun _ => by omega, fun _ => by omega⟩
  · rw [List.getElem?_eq_none (by simpa using hj)]
    simp only [Option.map_none]
    split
    · omega
    · rfl
theorem clsRow_skip (i : Nat) (hi : i < 256) (hv : clsOf i.toUInt8 = 0) : clsRow i = clsRow (i + 1) := by
  rw [← clsRow_set i hi 0 hv.symm]
  apply List.ext_getElem?
  intro j
  simp only [clsRow, List.getElem?_set, List.getElem?_map, List.length_map, List.length_range]
  by_cases hj : j < 256
  · rw [List.getElem?_range hj]
    by_cases e : i = j
    · subst e; simp [hi]
    · simp only [if_neg e]
  · rw [List.getElem?_eq_none (by simpa using hj)]
    simp only [Option.map_none]
    split
    · omega
    · rfl
theorem clsRow_st (i : Nat) (hi : i < 256) (v : Int) (hv : clsOf i.toUInt8 = v) : clsRow (i + 1) = (clsRow i).set (0 + i * 1) (.int .u8 v) := by
  rw [show 0 + i * 1 = i from by omega]; exact (clsRow_set i hi v hv.symm).symm
theorem clsOf_3 {c : UInt8} (h : (clsLow c || clsUp c) = true) : clsOf c = 3 := by rw [clsOf, if_pos h]
theorem clsOf_4 {c : UInt8} (h : (clsLow c || clsUp c) = false) (h4 : isDigit c = true) : clsOf c = 4 := by rw [clsOf, if_neg (by rw [h]; decide), if_pos h4]
theorem clsOf_1 {c : UInt8} (h : (clsLow c || clsUp c) = false) (h4 : isDigit c = false) (h1 : clsBlank c = true) : clsOf c = 1 := by rw [clsOf, if_neg (by rw [h]; decide), if_neg (by rw [h4]; decide), if_pos h1]
theorem clsOf_6 {c : UInt8} (h : (clsLow c || clsUp c) = false) (h4 : isDigit c = false) (h1 : clsBlank c = false) (h6 : clsSym c = true) : clsOf c = 6 := by
  rw [clsOf, if_neg (by rw [h]; decide), if_neg (by rw [h4]; decide), if_neg (by rw [h1]; decide), if_pos h6]
theorem clsOf_0 {c : UInt8} (h : (clsLow c || clsUp c) = false) (h4 : isDigit c = false) (h1 : clsBlank c = false) (h6 : clsSym c = false) : clsOf c = 0 := by
  rw [clsOf, if_neg (by rw [h]; decide), if_neg (by rw [h4]; decide), if_neg (by rw [h1]; decide), if_neg (by rw [h6]; decide)]
theorem clsTab_len : clsTab.length = 256 := by simp [clsTab, clsRow_len]
theorem clsTab_at (c : UInt8) : clsTab[c.toNat]? = some (.int .u8 (clsFin c)) := by
  have hc : c.toNat < 256 := c.toNat_lt
  have h0 : (clsRow 256)[c.toNat]? = some (.int .u8 (clsOf c)) := by
    simp only [clsRow, List.getElem?_map, List.getElem?_range hc, Option.map_some, if_pos hc]
    congr 3
    simp
  have e : ∀ k : Nat, k < 256 → (k = c.toNat ↔ c = k.toUInt8) := fun k hk => by
    constructor
    · intro h; subst h; simp
    · intro h; subst h; simp; omega
  unfold clsTab clsFin
  simp only [List.getElem?_set, List.length_set, clsRow_len]
  have e1 := e 34 (by omega)
  have e2 := e 95 (by omega)
  have e3 := e 35 (by omega)
  by_cases h1 : c = 34
  · rw [if_pos (e1.2 h1), if_pos h1]; simp
  · rw [if_neg (fun h => h1 (e1.1 h)), if_neg h1]
    by_cases h2 : c = 95
    · rw [if_pos (e2.2 h2), if_pos h2]; simp
    · rw [if_neg (fun h => h2 (e2.1 h)), if_neg h2]
      by_cases h3 : c = 35
      · rw [if_pos (e3.2 h3), if_pos h3]; simp
      · rw [if_neg (fun h => h3 (e3.1 h)), if_neg h3, h0]
theorem cls_all : (List.range 256).all (fun n => (decide (clsFin n.toUInt8 = 3) == isLetter n.toUInt8) && ((decide (clsFin n.toUInt8 = 4) == isDigit n.toUInt8) && (decide (clsFin n.toUInt8 = 5) == decide ((n.toUInt8.toNat : Int) = 95)))) = true := by decide +kernel
theorem cls_is (c : UInt8) : decide (clsFin c = 3) = isLetter c ∧ decide (clsFin c = 4) = isDigit c ∧ decide (clsFin c = 5) = decide ((c.toNat : Int) = 95) := by
  have h := List.all_eq_true.1 cls_all c.toNat (List.mem_range.2 c.toNat_lt)
  have e : c.toNat.toUInt8 = c := by simp
  rw [e] at h
  simpa [Bool.and_eq_true, beq_iff_eq] using h
end Go.Sx
