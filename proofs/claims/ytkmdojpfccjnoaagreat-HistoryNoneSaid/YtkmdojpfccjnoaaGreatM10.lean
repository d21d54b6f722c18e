/- Fleets, as the program has them, in plain Lean. -/
import Derived.Test.YtkmdojpfccjnoaaGreatSxKey
import Derived.Test.YtkmdojpfccjnoaaGreatM09
set_option linter.all false
namespace Go.Sx
open Go
def zLife : Life := ⟨⟨0, 0⟩, ⟨0, 0⟩, ⟨0, 0⟩⟩
def zPart : Part := ⟨nil8, nil8, nil8, nil8, 0, 0, false, [], zLife⟩
def PartIs (I : IMap) (r : Option Part) (u : Value) : Prop := ∃ vs, u = .tuple #[.agg vs.toArray, .bool r.isSome] ∧ Enc.rd I vs (r.getD zPart)
theorem PartIs.of {I : IMap} {r : Option Part} {k : Part} {vs : List Value} (h : r = some k) (hr : Enc.rd I vs k) : PartIs I r (.tuple #[.agg vs.toArray, .bool true]) := by subst h; exact ⟨vs, rfl, hr⟩
theorem PartIs.none {I : IMap} {r : Option Part} (h : r = none) : PartIs I r (.tuple #[.agg (zPart.cells (.slice none 0 0)).toArray, .bool false]) := by subst h; exact ⟨_, rfl, _, rfl, RdS.nil'⟩
def findP (st : List Part) (s : ByteArray) : Option Part := st.find? fun p => decide (p.name = s)
/-- the index of the parts -/
def Ix (kvs : List (ByteArray × Value)) (st : List Part) : Prop := ∀ s, mget kvs s = (st.findIdx? fun p => decide (p.name = s)).map fun i => ci (i : Nat)
theorem Ix.nil : Ix [] [] := fun s => rfl
theorem Ix.isS {kvs : List (ByteArray × Value)} {st : List Part} (h : Ix kvs st) (s : ByteArray) : (mget kvs s).isSome = (st.findIdx? fun p => decide (p.name = s)).isSome := by rw [h s]; simp
theorem Ix.put {kvs : List (ByteArray × Value)} {st : List Part} {p : Part} {j : Nat} (h : Ix kvs st) (hj : j = st.length) (hn : (mget kvs p.name).isSome = false) : Ix (mput kvs p.name (ci (j : Nat))) (st ++ [p]) := by
  subst hj
  intro s
  have h1 : st.findIdx? (fun q => decide (q.name = p.name)) = none := by rw [h.isS] at hn; simpa using hn
  rw [mget_mput, List.findIdx?_append]
  by_cases e : p.name = s
  · subst e
    simp [h1]
  · rw [if_neg e, h s]
    simp [e]
theorem Ix.skip {kvs : List (ByteArray × Value)} {st : List Part} {p : Part} (h : Ix kvs st) (hn : (mget kvs p.name).isSome = true) : Ix kvs (st ++ [p]) := by
  intro s
  rw [h s, List.findIdx?_append]
  by_cases e : p.name = s
  · subst e
    rw [h.isS] at hn
    obtain ⟨i, hi⟩ := Option.isSome_iff_exists.1 hn
    simp [hi]
  · simp [e]
theorem Ix.look {kvs : List (ByteArray × Value)} {st : List Part} (h : Ix kvs st) (s : ByteArray) : ∃ (z : Int) (b : Bool), (mget kvs s).getD (.int .i64 0) = .int .i64 z ∧ (mget kvs s).isSome = b ∧
    (b = true → ∃ (i : Nat) (hi : i < st.length), z = (i : Int) ∧ findP st s = some st[i]) ∧ (b = false → findP st s = none) := by
  rw [h s]
  cases hf : st.findIdx? fun p => decide (p.name = s) with
  | none =>
    refine ⟨0, false, rfl, rfl, fun h => (by cases h), fun _ => ?_⟩
    rw [List.findIdx?_eq_none_iff] at hf
    rw [findP, List.find?_eq_none]
    intro x hx
    simpa using hf x hx
  | some i =>
    refine ⟨i, true, rfl, rfl, fun _ => ?_, fun h => (by cases h)⟩
    rw [List.findIdx?_eq_some_iff_getElem] at hf
    obtain ⟨hi, hp, hn⟩ := hf
    refine ⟨i, hi, rfl, ?_⟩
    rw [findP, List.find?_eq_some_iff_getElem]
    exact ⟨hp, i, hi, rfl, fun j hj => by simpa using hn j hj⟩
/-- what is strictly ordered by a name -/
def ordAt {α : Type} (nm : α → ByteArray) (pre : List α) (x : α) : Bool := match pre.getLast? with | some y => sLt (nm y) (nm x) | none => true
def ordF {α : Type} (nm : α → ByteArray) (l : List α) : Bool := allP (ordAt nm) l l.length
theorem ord_succ {α : Type} {nm : α → ByteArray} {l : List α} {i : Nat} (h1 : 1 ≤ i) (hi : i < l.length) (h : allP (ordAt nm) l i = true) (hp : sLt (nm (l[i - 1]'(by omega))) (nm l[i]) = true) :
    allP (ordAt nm) l (i + 1) = true := by
  refine allP_succ h hi ?_
  have : (l.take i).getLast? = some (l[i - 1]'(by omega)) := by
    rw [List.getLast?_eq_getElem?, List.length_take, Nat.min_eq_left (by omega), List.getElem?_take, if_pos (by omega), List.getElem?_eq_getElem]
  simp only [ordAt, this]; exact hp
theorem ord_not {α : Type} {nm : α → ByteArray} {l : List α} {i : Nat} (h1 : 1 ≤ i) (hi : i < l.length) (hp : sLt (nm (l[i - 1]'(by omega))) (nm l[i]) = false) : ordF nm l = false := by
  refine allP_not hi ?_
  have : (l.take i).getLast? = some (l[i - 1]'(by omega)) := by
    rw [List.getLast?_eq_getElem?, List.length_take, Nat.min_eq_left (by omega), List.getElem?_take, if_pos (by omega), List.getElem?_eq_getElem]
  simp only [ordAt, this]; exact hp
theorem ord_start {α : Type} {nm : α → ByteArray} (l : List α) : allP (ordAt nm) l 1 = true := by
  cases l <;> simp [allP, List.range_succ, ordAt]
theorem allP_le {α : Type} {f : List α → α → Bool} {l : List α} {i j : Nat} (hij : j ≤ i) (h : allP f l i = true) : allP f l j = true := by
  rw [allP, List.all_eq_true] at h ⊢
  intro k hk
  exact h k (List.mem_range.2 (by have := List.mem_range.1 hk; omega))
/-- a part that is right, as far as it goes alone -/
def lifeOk (i : Ivl) : Bool := (decide (0 ≤ i.low) && decide (i.low ≤ i.high)) && decide (i.high ≤ 1000000000000)
def propOk (p : Prp) : Bool := (nameOk p.key && !decide (p.value = nil8)) && decide (((p.value.size : Nat) : Int) ≤ 200)
def partBad (c : List Kind) (p : Part) : Bool := ((((!(findK c p.kind).isSome || !nameOk p.name) || decide (p.made < 0)) || decide (p.since < p.made)) || decide (40000 < p.since)) || decide ((60 : Int) < (p.props.length : Nat))
def rightP (c : List Kind) (p : Part) : Bool := !partBad c p && allP (fun _ q => propOk q) p.props p.props.length && (((ordF Prp.key p.props && lifeOk p.life.km) && lifeOk p.life.cycles) && lifeOk p.life.damage)
def SmP (p : Part) : Prop := Sm p.name ∧ ∀ q ∈ p.props, Sm q.key
def SmF (st : List Part) : Prop := ∀ p ∈ st, SmP p
def seatOf (p : Part) : ByteArray × ByteArray := (p.into, p.slot)
def seated (pre : List Part) : List Part := pre.filter fun p => !decide (p.into = nil8)
def bad1P (c : List Kind) (p : Part) : Bool := !rightP c p || !(decide (p.into = nil8) == decide (p.slot = nil8))
def bad2P (c : List Kind) (st : List Part) (pre : List Part) (p : Part) : Bool :=
  (((!(findP st p.into).isSome || p.scrapped) || ((findP st p.into).getD zPart).scrapped) || hit seatOf (seated pre) (seatOf p)) || !takesF c ((findP st p.into).getD zPart).kind p.slot p.kind
def partFine (c : List Kind) (st : List Part) (pre : List Part) (p : Part) : Bool := !bad1P c p && (decide (p.into = nil8) || !bad2P c st pre p)
def bad0S (c : List Kind) (st : List Part) : Bool := (!validC c || decide ((20000 : Int) < (st.length : Nat))) || !ordF Part.name st
def validS (c : List Kind) (st : List Part) : Bool := !bad0S c st && allP (partFine c st) st st.length
theorem seated_take {st : List Part} {i : Nat} (hi : i < st.length) (h : st[i].into = nil8) : seated (st.take (i + 1)) = seated (st.take i) := by
  rw [← take_succ_of hi, seated, List.filter_append]; simp [h, seated]
theorem seated_take' {st : List Part} {i : Nat} (hi : i < st.length) (h : ¬ st[i].into = nil8) : seated (st.take (i + 1)) = seated (st.take i) ++ [st[i]] := by
  rw [← take_succ_of hi, seated, List.filter_append]; simp [h, seated]
end Go.Sx
