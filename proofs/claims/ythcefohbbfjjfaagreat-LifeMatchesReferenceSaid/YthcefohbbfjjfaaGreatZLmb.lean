/- The library of a symbolic run and the walks: merged. -/
import Derived.Test.YthcefohbbfjjfaaGreatZLma
import Derived.SizedLaws
import Derived.Test.YthcefohbbfjjfaaGreatChecked
/- Fleets, as_ the program has them, in plain Lean. -/
set_option linter.all false
namespace Go.Sx
open Go
def zLife : Life := ⟨⟨0, 0⟩, ⟨0, 0⟩, ⟨0, 0⟩⟩
def zPart : Part := ⟨nil8, nil8, nil8, nil8, 0, 0, false, [], zLife⟩
def PartIs (I : IMap) (r : Option Part) (u : Value) : Prop := ∃ vs, u = .tuple #[.agg vs.toArray, .bool r.isSome] ∧ Enc.rd I vs (r.getD zPart)
theorem PartIs.of {I : IMap} {r : Option Part} {k : Part} {vs : List Value} (h : r = some k) (hr : Enc.rd I vs k) : PartIs I r (.tuple #[.agg vs.toArray, .bool true]) := by subst h; exact ⟨vs, rfl, hr⟩
theorem PartIs.none {I : IMap} {r : Option Part} (h : r = none) : PartIs I r (.tuple #[.agg (zPart.cells (.slice none 0 0)).toArray, .bool false]) := by subst h; exact ⟨_, rfl, _, rfl, RdS.nil'⟩
def findP (st : List Part) (s : ByteArray) : Option Part := st.find? fun p => decide (p.name = s)
/-- the index of the parts -/
def Ix (kvs : List (ByteArray × Value)) (st : List Part) : Prop := ∀ s, mget kvs s = (st.findIdx? fun p => decide (p.name = s)).map fun i => ci (i : Nat)
theorem Ix.nil : Ix [] [] := fun s => rfl
theorem Ix.isS {kvs : List (ByteArray × Value)} {st : List Part} (h : Ix kvs st) (s : ByteArray) : (mget kvs s).isSome = (st.findIdx? fun p => decide (p.name = s)).isSome := by rw [h s]; simp
theorem mput_nodup {kvs : List (ByteArray × Value)} {k : ByteArray} {v : Value} (h : (kvs.map Prod.fst).Nodup) : ((mput kvs k v).map Prod.fst).Nodup := by
  have key : ∀ (kvs : List (ByteArray × Value)), (kvs.map Prod.fst).Nodup → ((mput kvs k v).map Prod.fst).Nodup ∧ ∀ x, x ∈ (mput kvs k v).map Prod.fst → x = k ∨ x ∈ kvs.map Prod.fst := by
    intro kvs
    induction kvs with
    | nil => intro _; simp [mput]
    | cons p r ih =>
      obtain ⟨k', u⟩ := p
      intro h
      rw [List.map_cons, List.nodup_cons] at h
      simp only [mput]
      split
      · exact ⟨by rw [List.map_cons, List.nodup_cons]; exact h, fun x hx => .inr hx⟩
      · rename_i hne
        obtain ⟨h1, h2⟩ := ih h.2
        refine ⟨by rw [List.map_cons, List.nodup_cons]; exact ⟨fun hm => (h2 _ hm).elim hne h.1, h1⟩, fun x hx => ?_⟩
        rw [List.map_cons, List.mem_cons] at hx ⊢
        rcases hx with hx | hx
        · exact .inr (.inl hx)
        · exact (h2 x hx).imp id .inr
  exact (key kvs h).1
theorem Ix.put {kvs : List (ByteArray × Value)} {st : List Part} {p : Part} {j : Nat} (h : Ix kvs st) (hj : j = st.length) (hn : (mget kvs p.name).isSome = false) : Ix (mput kvs p.name (ci (j : Nat))) (st ++ [p]) := by
  subst hj
  intro s
  have h1 : st.findIdx? (fun q => decide (q.name = p.name)) = none := by rw [h.isS] at hn; simpa using hn
  rw [mget_mput, List.findIdx?_append]
  by_cases e : p.name = s
  · subst e
    simp [h1]
  · rw [if_neg e, h s]
    simp [e]
theorem Ix.skip {kvs : List (ByteArray × Value)} {st : List Part} {p : Part} (h : Ix kvs st) (hn : (mget kvs p.name).isSome = true) : Ix kvs (st ++ [p]) := by
  intro s
  rw [h s, List.findIdx?_append]
  by_cases e : p.name = s
  · subst e
    rw [h.isS] at hn
    obtain ⟨i, hi⟩ := Option.isSome_iff_exists.1 hn
    simp [hi]
  · simp [e]
theorem Ix.look {kvs : List (ByteArray × Value)} {st : List Part} (h : Ix kvs st) (s : ByteArray) : ∃ (z : Int) (b : Bool), (mget kvs s).getD (.int .i64 0) = .int .i64 z ∧ (mget kvs s).isSome = b ∧
    (b = true → ∃ (i : Nat) (hi : i < st.length), z = (i : Int) ∧ findP st s = some st[i]) ∧ (b = false → findP st s = none) := by
  rw [h s]
  cases hf : st.findIdx? fun p => decide (p.name = s) with
  | none =>
    refine ⟨0, false, rfl, rfl, fun h => (by cases h), fun _ => ?_⟩
    rw [List.findIdx?_eq_none_iff] at hf
    rw [findP, List.find?_eq_none]
    intro x hx
    simpa using hf x hx
  | some i =>
    refine ⟨i, true, rfl, rfl, fun _ => ?_, fun h => (by cases h)⟩
    rw [List.findIdx?_eq_some_iff_getElem] at hf
    obtain ⟨hi, hp, hn⟩ := hf
    refine ⟨i, hi, rfl, ?_⟩
    rw [findP, List.find?_eq_some_iff_getElem]
    exact ⟨hp, i, hi, rfl, fun j hj => by simpa using hn j hj⟩
/-- what is strictly ordered by a name -/
def ordAt {α : Type} (nm : α → ByteArray) (pre : List α) (x : α) : Bool := match pre.getLast? with | some y => sLt (nm y) (nm x) | none => true
def ordF {α : Type} (nm : α → ByteArray) (l : List α) : Bool := allP (ordAt nm) l l.length
theorem ord_succ {α : Type} {nm : α → ByteArray} {l : List α} {i : Nat} (h1 : 1 ≤ i) (hi : i < l.length) (h : allP (ordAt nm) l i = true) (hp : sLt (nm (l[i - 1]'(by omega))) (nm l[i]) = true) :
    allP (ordAt nm) l (i + 1) = true := by
  refine allP_succ h hi ?_
  have : (l.take i).getLast? = some (l[i - 1]'(by omega)) := by
    rw [List.getLast?_eq_getElem?, List.length_take, Nat.min_eq_left (by omega), List.getElem?_take, if_pos (by omega), List.getElem?_eq_getElem]
  simp only [ordAt, this]; exact hp
theorem ord_not {α : Type} {nm : α → ByteArray} {l : List α} {i : Nat} (h1 : 1 ≤ i) (hi : i < l.length) (hp : sLt (nm (l[i - 1]'(by omega))) (nm l[i]) = false) : ordF nm l = false := by
  refine allP_not hi ?_
  have : (l.take i).getLast? = some (l[i - 1]'(by omega)) := by
    rw [List.getLast?_eq_getElem?, List.length_take, Nat.min_eq_left (by omega), List.getElem?_take, if_pos (by omega), List.getElem?_eq_getElem]
  simp only [ordAt, this]; exact hp
theorem ord_start {α : Type} {nm : α → ByteArray} (l : List α) : allP (ordAt nm) l 1 = true := by
  cases l <;> simp [allP, List.range_succ, ordAt]
theorem allP_le {α : Type} {f : List α → α → Bool} {l : List α} {i j : Nat} (hij : j ≤ i) (h : allP f l i = true) : allP f l j = true := by
  rw [allP, List.all_eq_true] at h ⊢
  intro k hk
  exact h k (List.mem_range.2 (by have := List.mem_range.1 hk; omega))
/-- a part that is right, as_ far as_ it goes alone -/
def lifeOk (i : Ivl) : Bool := (decide (0 ≤ i.low) && decide (i.low ≤ i.high)) && decide (i.high ≤ 1000000000000)
def propOk (p : Prp) : Bool := (nameOk p.key && !decide (p.value = nil8)) && decide (((p.value.size : Nat) : Int) ≤ 200)
def partBad (c : List Kind) (p : Part) : Bool := ((((!(findK c p.kind).isSome || !nameOk p.name) || decide (p.made < 0)) || decide (p.since < p.made)) || decide (40000 < p.since)) || decide ((60 : Int) < (p.props.length : Nat))
def rightP (c : List Kind) (p : Part) : Bool := !partBad c p && allP (fun _ q => propOk q) p.props p.props.length && (((ordF Prp.key p.props && lifeOk p.life.km) && lifeOk p.life.cycles) && lifeOk p.life.damage)
def SmP (p : Part) : Prop := Sm p.name ∧ ∀ q ∈ p.props, Sm q.key
def SmF (st : List Part) : Prop := ∀ p ∈ st, SmP p
def seatOf (p : Part) : ByteArray × ByteArray := (p.into, p.slot)
def seated (pre : List Part) : List Part := pre.filter fun p => !decide (p.into = nil8)
def bad1P (c : List Kind) (p : Part) : Bool := !rightP c p || !(decide (p.into = nil8) == decide (p.slot = nil8))
def bad2P (c : List Kind) (st : List Part) (pre : List Part) (p : Part) : Bool :=
  (((!(findP st p.into).isSome || p.scrapped) || ((findP st p.into).getD zPart).scrapped) || hit seatOf (seated pre) (seatOf p)) || !takesF c ((findP st p.into).getD zPart).kind p.slot p.kind
def partFine (c : List Kind) (st : List Part) (pre : List Part) (p : Part) : Bool := !bad1P c p && (decide (p.into = nil8) || !bad2P c st pre p)
def bad0S (c : List Kind) (st : List Part) : Bool := (!validC c || decide ((20000 : Int) < (st.length : Nat))) || !ordF Part.name st
def validS (c : List Kind) (st : List Part) : Bool := !bad0S c st && allP (partFine c st) st st.length
theorem seated_take {st : List Part} {i : Nat} (hi : i < st.length) (h : st[i].into = nil8) : seated (st.take (i + 1)) = seated (st.take i) := by
  rw [← take_succ_of hi, seated, List.filter_append]; simp [h, seated]
theorem seated_take' {st : List Part} {i : Nat} (hi : i < st.length) (h : ¬ st[i].into = nil8) : seated (st.take (i + 1)) = seated (st.take i) ++ [st[i]] := by
  rw [← take_succ_of hi, seated, List.filter_append]; simp [h, seated]
end Go.Sx

/- The order of names; looking for a name in an ordered list; putting into it. -/
set_option linter.all false
namespace Go.Sx
open Go
theorem bl_irrefl : ∀ l : List UInt8, Op.bytesLess l l = false
  | [] => rfl
  | a :: l => by simp [Op.bytesLess, bl_irrefl l]
theorem bl_trans : ∀ (a b c : List UInt8), Op.bytesLess a b = true → Op.bytesLess b c = true → Op.bytesLess a c = true := by
  intro a
  induction a with
  | nil =>
    intro b c h1 h2
    cases c with
    | nil => cases b <;> simp [Op.bytesLess] at h2
    | cons => rfl
  | cons x a ih =>
    intro b c h1 h2
    cases b with
    | nil => simp [Op.bytesLess] at h1
    | cons y b =>
      cases c with
      | nil => simp [Op.bytesLess] at h2
      | cons z c =>
        simp only [Op.bytesLess, Bool.or_eq_true, decide_eq_true_eq, Bool.and_eq_true, beq_iff_eq] at h1 h2 ⊢
        rcases h1 with h1 | ⟨rfl, h1⟩
        · rcases h2 with h2 | ⟨rfl, h2⟩
          · exact .inl (UInt8.lt_trans h1 h2)
          · exact .inl h1
        · rcases h2 with h2 | ⟨rfl, h2⟩
          · exact .inl h2
          · exact .inr ⟨rfl, ih b c h1 h2⟩
theorem bl_tri : ∀ (a b : List UInt8), Op.bytesLess a b = false → Op.bytesLess b a = false → a = b := by
  intro a
  induction a with
  | nil => intro b h1 h2; cases b with
    | nil => rfl
    | cons => simp [Op.bytesLess] at h1
  | cons x a ih =>
    intro b h1 h2
    cases b with
    | nil => simp [Op.bytesLess] at h2
    | cons y b =>
      simp only [Op.bytesLess, Bool.or_eq_false_iff, decide_eq_false_iff_not, Bool.and_eq_false_iff, beq_eq_false_iff_ne] at h1 h2
      obtain ⟨h1, h3⟩ := h1
      obtain ⟨h2, h4⟩ := h2
      have e : x = y := by
        apply UInt8.toNat_inj.1
        have a1 : ¬ x.toNat < y.toNat := fun h => h1 (UInt8.lt_iff_toNat_lt.2 h)
        have a2 : ¬ y.toNat < x.toNat := fun h => h2 (UInt8.lt_iff_toNat_lt.2 h)
        omega
      subst e
      have h3' : Op.bytesLess a b = false := by rcases h3 with h | h; exact absurd rfl h; simpa using h
      have h4' : Op.bytesLess b a = false := by rcases h4 with h | h; exact absurd rfl h; simpa using h
      rw [ih b h3' h4']
theorem sLt_irrefl (s : ByteArray) : sLt s s = false := bl_irrefl _
theorem sLt_trans {a b c : ByteArray} (h1 : sLt a b = true) (h2 : sLt b c = true) : sLt a c = true := bl_trans _ _ _ h1 h2
theorem sLt_tri {a b : ByteArray} (h1 : sLt a b = false) (h2 : sLt b a = false) : a = b := by
  have h := bl_tri _ _ h1 h2
  have := str_eq a b
  rw [h] at this
  simpa using this.symm
theorem sLt_asymm {a b : ByteArray} (h : sLt a b = true) : sLt b a = false := by
  cases h2 : sLt b a with
  | false => rfl
  | true => have := sLt_trans h h2; rw [sLt_irrefl] at this; cases this
theorem cmpS_neg {a b : ByteArray} : cmpS a b < 0 ↔ sLt a b = true := by
  unfold cmpS; split
  · rename_i h; simp [h]
  · rename_i h; split <;> simp [h]
theorem cmpS_zero {a b : ByteArray} : cmpS a b = 0 ↔ a = b := by
  unfold cmpS; split
  · rename_i h
    constructor
    · intro h2; cases h2
    · rintro rfl; rw [sLt_irrefl] at h; cases h
  · rename_i h
    split
    · rename_i h2
      constructor
      · intro h3; cases h3
      · rintro rfl; simp at h2
    · rename_i h2; simp [h] at h2; simp [h2]
/-- strictly ordered -/
def Srt {α : Type} (nm : α → ByteArray) (l : List α) : Prop := ∀ i j (hj : j < l.length) (hi : i < j), sLt (nm (l[i]'(by omega))) (nm l[j]) = true
theorem Srt.of_ord {α : Type} {nm : α → ByteArray} {l : List α} (h : ordF nm l = true) : Srt nm l := by
  have step : ∀ j (hj : j + 1 < l.length), sLt (nm (l[j]'(by omega))) (nm l[j + 1]) = true := by
    intro j hj
    rw [ordF, allP, List.all_eq_true] at h
    have h1 := h (j + 1) (List.mem_range.2 hj)
    have h2 : (l.take (j + 1)).getLast? = some (l[j]'(by omega)) := by
      rw [List.getLast?_eq_getElem?, List.length_take, Nat.min_eq_left (by omega), List.getElem?_take, if_pos (by omega), List.getElem?_eq_getElem]
      rfl
    simpa [List.getElem?_eq_getElem hj, ordAt, h2] using h1
  intro i j
  induction j with
  | zero => intro hj hi; omega
  | succ j ih =>
    intro hj hi
    rcases Nat.lt_or_ge i j with hij | hij
    · exact sLt_trans (ih (by omega) hij) (step j hj)
    · obtain rfl : i = j := by omega
      exact step i hj
/-- where a name stands, or would stand -/
def posF {α : Type} (nm : α → ByteArray) (l : List α) (s : ByteArray) : Nat := l.findIdx fun x => !sLt (nm x) s
def atF {α : Type} (nm : α → ByteArray) (l : List α) (s : ByteArray) : Bool := match l[posF nm l s]? with | some x => decide (nm x = s) | none => false
theorem pos_le {α : Type} (nm : α → ByteArray) (l : List α) (s : ByteArray) : posF nm l s ≤ l.length := List.findIdx_le_length
theorem pos_eq {α : Type} {nm : α → ByteArray} {l : List α} {s : ByteArray} {i : Nat} (hi : i ≤ l.length) (h1 : ∀ q x, q < i → l[q]? = some x → sLt (nm x) s = true) (h2 : ∀ q x, i ≤ q → l[q]? = some x → sLt (nm x) s = false) : posF nm l s = i := by
  rcases Nat.lt_or_ge i l.length with h | h
  · refine (List.findIdx_eq h).2 ⟨by simp [h2 i _ (Nat.le_refl _) (List.getElem?_eq_getElem h)], fun j hj => ?_⟩
    simp [h1 j _ hj (List.getElem?_eq_getElem (by omega))]
  · obtain rfl : i = l.length := by omega
    refine List.findIdx_eq_length.2 fun x hx => ?_
    obtain ⟨j, hj, rfl⟩ := List.getElem_of_mem hx
    simp [h1 j _ hj (List.getElem?_eq_getElem hj)]
theorem bs_lo {α : Type} {nm : α → ByteArray} {l : List α} {s : ByteArray} {h : Nat} (hs : Srt nm l) (hh : h < l.length) (hl : sLt (nm l[h]) s = true) (q : Nat) (x : α) (hq : q < h + 1) (hx : l[q]? = some x) : sLt (nm x) s = true := by
  obtain ⟨hql, rfl⟩ := List.getElem?_eq_some_iff.1 hx
  rcases Nat.lt_or_ge q h with hqh | hqh
  · exact sLt_trans (hs q h hh hqh) hl
  · obtain rfl : q = h := by omega
    exact hl
theorem bs_hi {α : Type} {nm : α → ByteArray} {l : List α} {s : ByteArray} {h : Nat} (hs : Srt nm l) (hh : h < l.length) (hl : sLt (nm l[h]) s = false) (q : Nat) (x : α) (hq : h ≤ q) (hx : l[q]? = some x) : sLt (nm x) s = false := by
  obtain ⟨hql, rfl⟩ := List.getElem?_eq_some_iff.1 hx
  rcases Nat.lt_or_ge h q with hqh | hqh
  · cases hc : sLt (nm l[q]) s with
    | false => rfl
    | true => have := sLt_trans (hs h q hql hqh) hc; rw [this] at hl; cases hl
  · obtain rfl : q = h := by omega
    exact hl
theorem at_of {α : Type} {nm : α → ByteArray} {l : List α} {s : ByteArray} {i : Nat} (hp : posF nm l s = i) (hi : i < l.length) : atF nm l s = decide (nm l[i] = s) := by
  simp [atF, hp, hi]
theorem at_no {α : Type} {nm : α → ByteArray} {l : List α} {s : ByteArray} {i : Nat} (hp : posF nm l s = i) (hi : ¬ i < l.length) : atF nm l s = false := by
  simp [atF, hp, List.getElem?_eq_none (by omega : l.length ≤ i)]
theorem atF_lt {α : Type} {nm : α → ByteArray} {l : List α} {s : ByteArray} (h : atF nm l s = true) : posF nm l s < l.length := by
  rcases Nat.lt_or_ge (posF nm l s) l.length with h1 | h1
  · exact h1
  · rw [at_no rfl (by omega)] at h; cases h
theorem wrap_u64 (x : Int) (h0 : 0 ≤ x) (h : x < 18446744073709551616) : IntKind.u64.wrap x = x := by
  simp [IntKind.wrap, IntKind.signed, IntKind.bits]
  omega
/-- put into an ordered list -/
def putL {α : Type} (nm : α → ByteArray) (l : List α) (x : α) : List α := if atF nm l (nm x) = true then l.set (posF nm l (nm x)) x else l.take (posF nm l (nm x)) ++ x :: l.drop (posF nm l (nm x))
end Go.Sx

/- What slices.Insert does to pieces. -/
set_option linter.all false
namespace Go.Sx
open Go
section
variable {α : Type}
theorem ins_grow {xs : List α} {c z : α} {i n q r : Nat} (hn : xs.length = n) (hi : i ≤ n) (hq : i + q = n + 1) :
    (((xs.take i ++ List.replicate (q + r) z).take i ++ ([c] ++ (xs.take i ++ List.replicate (q + r) z).drop (i + [c].length))).take (i + 1) ++
      (xs.drop i ++ ((xs.take i ++ List.replicate (q + r) z).take i ++ ([c] ++ (xs.take i ++ List.replicate (q + r) z).drop (i + [c].length))).drop (i + 1 + (xs.drop i).length))) = (xs.take i ++ c :: xs.drop i) ++ List.replicate r z := by
  have h1 : (xs.take i).length = i := by rw [List.length_take]; omega
  have h2 : (xs.take i ++ List.replicate (q + r) z).take i = xs.take i := by rw [List.take_append_of_le_length (by omega), List.take_of_length_le (by omega)]
  have h3 : (xs.take i ++ List.replicate (q + r) z).drop (i + [c].length) = List.replicate (q + r - 1) z := by
    rw [List.drop_append, List.drop_eq_nil_of_le (by simp; omega), List.nil_append, h1, List.drop_replicate]
    congr 1
    simp
  rw [h2, h3]
  have h4 : (xs.take i ++ ([c] ++ List.replicate (q + r - 1) z)).take (i + 1) = xs.take i ++ [c] := by
    rw [List.take_append, List.take_of_length_le (by omega), h1]
    congr 1
    rw [show i + 1 - i = 1 from by omega]
    rfl
  have h5 : (xs.take i ++ ([c] ++ List.replicate (q + r - 1) z)).drop (i + 1 + (xs.drop i).length) = List.replicate r z := by
    rw [List.drop_append, List.drop_eq_nil_of_le (by omega), List.nil_append, h1, List.length_drop, List.drop_append, List.drop_eq_nil_of_le (by simp; omega), List.nil_append, List.drop_replicate]
    congr 1
    simp
    omega
  rw [h4, h5]
  simp
theorem ins_place {xs rest : List α} {c : α} {i n : Nat} (hn : xs.length = n) (hi : i ≤ n) (hr : 0 < rest.length) :
    ((((xs ++ rest).take (i + 1) ++ ((((xs ++ rest).drop i).take (n - i)) ++ (xs ++ rest).drop (i + 1 + (((xs ++ rest).drop i).take (n - i)).length))).take i) ++
      ([c] ++ ((xs ++ rest).take (i + 1) ++ ((((xs ++ rest).drop i).take (n - i)) ++ (xs ++ rest).drop (i + 1 + (((xs ++ rest).drop i).take (n - i)).length))).drop (i + [c].length))) = (xs.take i ++ c :: xs.drop i) ++ rest.drop 1 := by
  have h1 : ((xs ++ rest).drop i).take (n - i) = xs.drop i := by
    rw [List.drop_append_of_le_length (by omega), List.take_append_of_le_length (by rw [List.length_drop]; omega), List.take_of_length_le (by rw [List.length_drop]; omega)]
  rw [h1]
  have h2 : ((xs ++ rest).take (i + 1)).length = i + 1 := by rw [List.length_take, List.length_append]; omega
  have h3 : (xs ++ rest).drop (i + 1 + (xs.drop i).length) = rest.drop 1 := by
    rw [List.length_drop, List.drop_append, List.drop_eq_nil_of_le (by omega), List.nil_append]
    congr 1
    omega
  rw [h3]
  rw [List.take_append_of_le_length (by omega), List.take_take, Nat.min_eq_left (by omega), List.take_append_of_le_length (by omega)]
  rw [List.drop_append, List.drop_eq_nil_of_le (by simp; omega), List.nil_append, h2]
  rw [show i + [c].length - (i + 1) = 0 from by simp]
  simp
end
section
variable {P : Program} {ρ : Option Nat} {n : Sz} {E : Ent} {I : IMap} {L : LL} {H : List Res} {Q : Exit → Act → World → Prop} {ops : Array Oper} {K : Act → World → Prop}
variable {d ty : Nat} {pos : String} {af : Array Edge}
theorem sx_blk_eq {g t : Nat} {xss yss : List (List Value)} (h : xss = yss) (k : SX n E I L (.blk g t yss.flatten :: H) K) : SX n E I L (.blk g t xss.flatten :: H) K := h ▸ k
theorem OV.cast {op : Op} {dst : Option Nat} {v u : Value} (h : OV P n E I L H ⟨dst, op, ty, pos, af, none⟩ v) (e : v = u) : OV P n E I L H ⟨dst, op, ty, pos, af, none⟩ u := e ▸ h
theorem cutA_some {g c o k : Nat} (h : o < c) : cutA (some ⟨g, 0, none⟩) c o k = some ⟨g, o * k, none⟩ := by
  unfold cutA
  rw [if_neg (by omega)]
  simp [add_lit]
/-- where the cells of a private block are read from -/
theorem src_blk {g t k o m : Nat} {xss : List (List Value)} (hm : Res.blk g t xss.flatten ∈ H) (hU : Uk k xss) (w : World) (mm : Mem E I H w) (j : Nat) (u : Value) (hu : ((xss.drop o).take m).flatten[j]? = some u) : w.cell? ⟨g, o * k + j, none⟩ = some u := by
  have hg : w.heap[g]? = some (.cells xss.flatten.toArray t (0, 0)) := mm.holds _ hm
  rw [cell_of_row w g _ _ t _ hg]
  rw [← flat_take (hU.drop o), ← flat_drop hU, List.getElem?_take] at hu
  split at hu
  · simpa [List.getElem?_drop] using hu
  · cases hu
end
end Go.Sx

/- fleet.Apply in plain Lean; lending a block to a callee. -/
set_option linter.all false
namespace Go.Sx
open Go
section
variable {P : Program} {ρ : Option Nat} {n : Sz} {E : Ent} {I : IMap} {L : LL} {H : List Res} {Q : Exit → Act → World → Prop} {ops : Array Oper} {K : Act → World → Prop}
variable {d ty : Nat} {pos : String} {af : Array Edge}
theorem o_lendB {v : Value} {g t : Nat} {cs : List Value} {fo : Operand} {as_ : List Operand} {ats : Array TypeId} {f : FuncId} {args : List Value}
    (hm : Res.blk g t cs ∈ H) (hc : ∀ I2, ILe I I2 → ICells I2 g 0 cs → FnV P f args.toArray I2 v) (h : callArgs L fo as_ = some (f, args)) (hd : Nat.blt d n.sz = true)
    (kk : SX n E I ((d, v) :: L) H K) :
    SX n E I L H (one P ops Q ⟨some d, .call { callee := .value fo, args := as_.toArray, argTypes := ats }, ty, pos, af, none⟩ K) := by
  intro a w s mm
  have hg : w.heap[g]? = some (.cells cs.toArray t (0, 0)) := mm.holds _ hm
  have hpriv := (mm.priv _ hm g rfl).1
  have hle : ILe I (I.pub g (.cells cs.toArray t (0, 0))) := IMap.pub_le _ hpriv
  have hR : ICells (I.pub g (.cells cs.toArray t (0, 0))) g 0 cs := fun j u hu => ⟨_, t, (0, 0), IMap.pub_same _ _ _, by rw [Nat.zero_add]; simpa using hu⟩
  have m2 : Mem ⟨[], I.pub g (.cells cs.toArray t (0, 0)), w⟩ (I.pub g (.cells cs.toArray t (0, 0))) [] w := ⟨Upd.refl _ _, fun b o hb => by
    unfold IMap.pub at hb
    split at hb
    · rename_i e; subst e; cases hb; exact hg
    · exact mm.con b o hb, ILe.refl _, fun b hb => .inl hb, fun _ h => (by cases h), fun _ h => (by cases h), List.nodup_nil⟩
  have back : ∀ w', Mem ⟨[], I.pub g (.cells cs.toArray t (0, 0)), w⟩ (I.pub g (.cells cs.toArray t (0, 0))) [] w' → Mem E I H w' := fun w' m' =>
    mm.other m'.upd.os m'.upd.tape m'.upd.output m'.upd.size (fun k hk => m'.upd.block k hk (by simp))
  unfold one
  rw [if_pos (by rfl)]
  refine wq_after ?_
  have h1 := (hc _ hle hR).go w m2
  unfold After at h1 ⊢
  rw [run_call s h ⟨some d, .call { callee := .value fo, args := as_.toArray, argTypes := ats }, ty, pos, af, none⟩ rfl (ats := ats)]
  have key : ∀ e w'', Post ⟨[], (I.pub g (.cells cs.toArray t (0, 0))), w⟩ (fun u I' H' => u = v ∧ I' = (I.pub g (.cells cs.toArray t (0, 0))) ∧ H' = []) e w'' → (match e with | .returned v => K (a.put (some d) v) w'' | _ => False) := by
    rintro e w'' ⟨u, I', H', rfl, hm', rfl, rfl, rfl⟩
    exact kk _ _ (s.put hd) (back _ hm')
  split at h1
  · rename_i v w' hr; exact key _ _ h1
  · rename_i f' args' w' hr; exact Calls.mono h1 key
  · rename_i l f' tmps assign body w' hr; exact RoundIn.mono h1 key
  · exact h1.elim
end
abbrev Res2 := List Part × Int
def failR (n : Int) : Res2 := ([], n)
def putR (st : List Part) (p : Part) : Res2 := (putL Part.name st p, 0)
def newP (e : Evt) : Part := ⟨e.part, e.kind, nil8, nil8, e.day, e.day, false, [], zLife⟩
def applyMake (c : List Kind) (st : List Part) (e : Evt) : Res2 :=
  if (findP st e.part).isSome = true then failR 3 else if (findK c e.kind).isSome = false then failR 4 else if ((st.length : Nat) : Int) = 20000 then failR 7 else putR st (newP e)
def seatTaken (st : List Part) (e : Evt) : Bool := st.any fun x => decide (x.into = e.into) && decide (x.slot = e.slot)
def holdsAny (st : List Part) (s : ByteArray) : Bool := st.any fun x => decide (x.into = s)
def applyFit (c : List Kind) (st : List Part) (e : Evt) (p q : Part) (kd : Kind) : Res2 :=
  if (kd.vehicle || !takesF c q.kind e.slot p.kind) = true then failR 4 else if ¬ p.into = nil8 then failR 5 else if seatTaken st e = true then failR 6 else putR st { p with into := e.into, slot := e.slot }
def applyRemove (st : List Part) (p : Part) : Res2 := if p.into = nil8 then failR 5 else putR st { p with into := nil8, slot := nil8 }
def applyRun (st : List Part) (p : Part) (kd : Kind) : Res2 := if kd.vehicle = false then failR 4 else putR st p
def overhauled (e : Evt) (p : Part) : Part := { p with since := if e.day > p.since then e.day else p.since, life := zLife }
def noted (e : Evt) (p : Part) : Part := { p with props := putL Prp.key p.props ⟨e.key, e.value⟩ }
def applyNote (st : List Part) (e : Evt) (p : Part) : Res2 := if (60 : Int) < ((noted e p).props.length : Nat) then failR 7 else putR st (noted e p)
def applyScrap (st : List Part) (p : Part) : Res2 := if (!decide (p.into = nil8) || holdsAny st p.name) = true then failR 5 else putR st { p with scrapped := true }
def applyOp (c : List Kind) (st : List Part) (e : Evt) (p q : Part) (kd : Kind) : Res2 :=
  if e.op = 2 then applyFit c st e p q kd else if e.op = 3 then applyRemove st p else if e.op = 4 then applyRun st p kd else if e.op = 5 then putR st (overhauled e p) else if e.op = 6 then applyNote st e p else if e.op = 7 then applyScrap st p else putR st p
def partP (st : List Part) (e : Evt) : Part := (findP st e.part).getD zPart
def otherO (st : List Part) (e : Evt) : Option Part := if e.op = 2 then findP st e.into else findP st e.part
def otherP (st : List Part) (e : Evt) : Part := (otherO st e).getD zPart
def kindP (c : List Kind) (st : List Part) (e : Evt) : Kind := (findK c (partP st e).kind).getD zKind
def applyRest (c : List Kind) (st : List Part) (e : Evt) : Res2 :=
  if (!(findP st e.part).isSome || !(otherO st e).isSome) = true then failR 2 else if ((partP st e).scrapped || (otherP st e).scrapped) = true then failR 5 else applyOp c st e (partP st e) (otherP st e) (kindP c st e)
def applyF (c : List Kind) (st : List Part) (e : Evt) : Res2 :=
  if (!validS c st || !validE e) = true then failR 1 else if e.op = 1 then applyMake c st e else applyRest c st e
/-- what a fleet comes to -/
def StIs (J : IMap) (r : Res2) (u : Value) : Prop := ∃ w, u = .tuple #[.agg #[w], .int .i64 r.2] ∧ RdS J w r.1
theorem StIs.fail {J : IMap} {r : Res2} {n : Int} (h : r = failR n) : StIs J r (.tuple #[.agg #[.slice none 0 0], .int .i64 n]) := by subst h; exact ⟨_, rfl, RdS.nil'⟩
theorem StIs.put {J : IMap} {r : Res2} {st : List Part} {p : Part} {w : Value} (h : r = putR st p) (hw : RdS J w (putL Part.name st p)) : StIs J r (.tuple #[.agg #[w], .int .i64 0]) := by subst h; exact ⟨w, rfl, hw⟩
theorem validS_ord {c : List Kind} {st : List Part} (h : validS c st = true) : Srt Part.name st ∧ st.length ≤ 20000 := by
  simp only [validS, bad0S, Bool.and_eq_true, Bool.not_eq_true', Bool.or_eq_false_iff, Bool.not_eq_false', decide_eq_false_iff_not] at h
  exact ⟨Srt.of_ord h.1.2, by omega⟩
theorem allP_mem {α : Type} {f : List α → α → Bool} {l : List α} (h : allP f l l.length = true) {x : α} (hx : x ∈ l) : ∃ pre, f pre x = true := by
  obtain ⟨i, hi, rfl⟩ := List.getElem_of_mem hx
  rw [allP, List.all_eq_true] at h
  have h1 := h i (List.mem_range.2 hi)
  simp only [List.getElem?_eq_getElem hi] at h1
  exact ⟨_, h1⟩
theorem validS_part {c : List Kind} {st : List Part} (h : validS c st = true) {p : Part} (hp : p ∈ st) : Srt Prp.key p.props ∧ p.props.length ≤ 60 := by
  simp only [validS, Bool.and_eq_true] at h
  obtain ⟨pre, h1⟩ := allP_mem h.2 hp
  simp only [partFine, bad1P, Bool.and_eq_true, Bool.not_eq_true', Bool.or_eq_false_iff, Bool.not_eq_false'] at h1
  have h2 := h1.1.1
  simp only [rightP, partBad, Bool.and_eq_true, Bool.not_eq_true', Bool.or_eq_false_iff, decide_eq_false_iff_not] at h2
  exact ⟨Srt.of_ord h2.2.1.1.1, by omega⟩
theorem find_mem {st : List Part} {s : ByteArray} {p : Part} (h : findP st s = some p) : p ∈ st := List.mem_of_find?_eq_some h
theorem partP_mem {st : List Part} {e : Evt} (h : (findP st e.part).isSome = true) : partP st e ∈ st := by
  obtain ⟨p, hp⟩ := Option.isSome_iff_exists.1 h
  have : partP st e = p := by rw [partP, hp]; rfl
  rw [this]; exact find_mem hp
end Go.Sx

/- Sorting events by their day, keeping the order of one day: the plain part. -/
set_option linter.all false
namespace Go.Sx
open Go
/-- what is sorted by a number -/
class Day (α : Type) where
  day : α → Int
  ch : α → List Value
  k : Nat
  len : ∀ x, (ch x).length = k
instance : Day Evt := ⟨Evt.day, Evt.cells, 14, fun _ => rfl⟩
variable {α : Type} [Day α]
def evCh (l : List α) : List (List Value) := l.map Day.ch
theorem evCh_uk (l : List α) : Uk (Day.k α) (evCh l) := fun c hc => by obtain ⟨e, _, rfl⟩ := List.mem_map.1 hc; exact Day.len e
theorem evCh_len (l : List α) : (evCh l).length = l.length := by simp [evCh]
theorem evCh_at {l : List α} {i : Nat} (h : i < l.length) : (evCh l)[i]? = some (Day.ch l[i]) := by simp [evCh, h]
theorem evCh_set (l : List α) (i : Nat) (e : α) : (evCh l).set i (Day.ch e) = evCh (l.set i e) := by simp [evCh, List.map_set]
theorem evCh_ukE (l : List Evt) : Uk 14 (evCh l) := evCh_uk l
theorem evCh_flat {I : IMap} (l : List Evt) : FlatC I (evCh l) l := by
  induction l with
  | nil => exact .nil
  | cons e l ih => exact .cons rfl ih
theorem evCh_rest {l : List Evt} {rest : List (List Value)} {i : Nat} (h : i < l.length) : (evCh l ++ rest)[i]? = some (Day.ch l[i]) := by
  rw [List.getElem?_append_left (by rw [evCh_len]; exact h)]; exact evCh_at h
theorem evCh_set' (l : List Evt) (rest : List (List Value)) (i : Nat) (h : i < l.length) (e : Evt) : (evCh l ++ rest).set i (Day.ch e) = evCh (l.set i e) ++ rest := by
  rw [List.set_append_left _ _ (by rw [evCh_len]; exact h), evCh_set]
theorem evCh_of {I : IMap} {xss : List (List Value)} {l : List Evt} (h : FlatC I xss l) : xss = evCh l := by
  induction h with
  | nil => rfl
  | cons h1 _ ih => rw [ih]; simp only [evCh, List.map_cons]; rw [show _ = _ from h1]; rfl
/-- exchange two -/
def swp (l : List α) (i j : Nat) : List α := match l[i]?, l[j]? with
  | some x, some y => (l.set i y).set j x
  | _, _ => l
theorem swp_eq {l : List α} {i j : Nat} (hi : i < l.length) (hj : j < l.length) : swp l i j = (l.set i l[j]).set j l[i] := by simp [swp, hi, hj]
theorem swp_len (l : List α) (i j : Nat) : (swp l i j).length = l.length := by unfold swp; split <;> simp
def dayAt (l : List α) (k : Nat) : Int := (l[k]?.map Day.day).getD 0
theorem dayAt_eq {l : List α} {k : Nat} (h : k < l.length) : dayAt l k = Day.day l[k] := by simp [dayAt, h]
theorem swp_get {l : List α} {i j : Nat} (hi : i < l.length) (hj : j < l.length) (k : Nat) : (swp l i j)[k]? = if k = j then l[i]? else if k = i then l[j]? else l[k]? := by
  rw [swp_eq hi hj, List.getElem?_set, List.getElem?_set]
  by_cases h1 : j = k
  · subst h1; simp [hj, hi]
  · have : ¬ k = j := fun e => h1 e.symm
    by_cases h2 : i = k
    · subst h2; simp [h1, this, hi, hj]
    · have h3 : ¬ k = i := fun e => h2 e.symm
      simp [h1, h2, this, h3]
theorem swp_day {l : List α} {i j : Nat} (hi : i < l.length) (hj : j < l.length) (k : Nat) : dayAt (swp l i j) k = if k = j then dayAt l i else if k = i then dayAt l j else dayAt l k := by
  unfold dayAt
  rw [swp_get hi hj]
  split
  · rfl
  · split <;> rfl
/-- as_ many of each day, in the same order -/
def Stb (l m : List α) : Prop := l.length = m.length ∧ ∀ d : Int, m.filter (fun e => decide (Day.day e = d)) = l.filter (fun e => decide (Day.day e = d))
theorem Stb.refl (l : List α) : Stb l l := ⟨rfl, fun _ => rfl⟩
theorem Stb.trans {l m k : List α} (h : Stb l m) (h' : Stb m k) : Stb l k := ⟨h.1.trans h'.1, fun d => (h'.2 d).trans (h.2 d)⟩
/-- x in front of what is later than it may go behind -/
theorem filter_swap (a b : List α) (d : Int) (h : ∀ x ∈ a, ∀ y ∈ b, Day.day x ≠ Day.day y) : (b ++ a).filter (fun e => decide (Day.day e = d)) = (a ++ b).filter (fun e => decide (Day.day e = d)) := by
  rw [List.filter_append, List.filter_append]
  by_cases ha : a.filter (fun e => decide (Day.day e = d)) = []
  · rw [ha]; simp
  · have hb : b.filter (fun e => decide (Day.day e = d)) = [] := by
      rw [List.filter_eq_nil_iff]
      intro y hy
      obtain ⟨x, hx⟩ := List.exists_mem_of_ne_nil _ ha
      rw [List.mem_filter] at hx
      have := h x hx.1 y hy
      simp at hx ⊢
      omega
    rw [hb]; simp
theorem Stb.block {p a b s : List α} (h : ∀ x ∈ a, ∀ y ∈ b, Day.day x ≠ Day.day y) : Stb (p ++ (a ++ (b ++ s))) (p ++ (b ++ (a ++ s))) := by
  refine ⟨by simp; omega, fun d => ?_⟩
  have := filter_swap a b d h
  rw [List.filter_append, List.filter_append] at this
  simp only [List.filter_append]
  congr 1
  rw [← List.append_assoc, this, List.append_assoc]
def swpN (l : List α) (a b : Nat) : Nat → List α
  | 0 => l
  | k + 1 => swp (swpN l a b k) (a + k) (b + k)
theorem swpN_len (l : List α) (a b : Nat) : ∀ k, (swpN l a b k).length = l.length
  | 0 => rfl
  | k + 1 => by rw [swpN, swp_len, swpN_len l a b k]
theorem evCh_swp {l : List α} {i j : Nat} (hi : i < l.length) (hj : j < l.length) : ((evCh l).set i (Day.ch l[j])).set j (Day.ch l[i]) = evCh (swp l i j) := by
  rw [evCh_set, evCh_set, swp_eq hi hj]
theorem evCh_swp' {l : List α} {i j : Nat} (hi : i < l.length) (hj : j < l.length) (hij : i ≠ j) : ((evCh l).set j (Day.ch l[i])).set i (Day.ch l[j]) = evCh (swp l i j) := by
  rw [evCh_set, evCh_set, swp_eq hi hj, List.set_comm _ _ hij.symm]
theorem split2 (m : List α) {j : Nat} (hj : j + 1 < m.length) : m = m.take j ++ ([m[j]] ++ ([m[j + 1]] ++ m.drop (j + 2))) := by
  conv => lhs; rw [← List.take_append_drop j m, List.drop_eq_getElem_cons (by omega), List.drop_eq_getElem_cons hj]
  rfl
theorem swp_adj (m : List α) {j : Nat} (hj : j + 1 < m.length) : swp m (j + 1) j = m.take j ++ ([m[j + 1]] ++ ([m[j]] ++ m.drop (j + 2))) := by
  rw [swp_eq hj (by omega)]
  apply List.ext_getElem?
  intro k
  rw [List.getElem?_set, List.getElem?_set, List.getElem?_append]
  simp only [List.length_take, List.length_set]
  have hmin : min j m.length = j := by omega
  rw [hmin]
  by_cases h1 : k < j
  · simp [h1, show ¬ j = k by omega, show ¬ j + 1 = k by omega, List.getElem?_take]
  · rw [if_neg h1]
    obtain ⟨q, rfl⟩ : ∃ q, k = j + q := ⟨k - j, by omega⟩
    rw [Nat.add_sub_cancel_left]
    match q with
    | 0 => simp; omega
    | 1 => simp [hj]
    | q + 2 =>
      simp only [show ¬ j = j + (q + 2) by omega, show ¬ j + 1 = j + (q + 2) by omega, if_false]
      simp [List.getElem?_drop]
      congr 1
      omega
theorem swp_stb {l m : List α} {j : Nat} (h : Stb l m) (hj : j + 1 < m.length) (hd : dayAt m (j + 1) < dayAt m j) : Stb l (swp m (j + 1) j) := by
  refine h.trans ?_
  have e := split2 m hj
  rw [swp_adj m hj]
  conv => arg 1; rw [e]
  refine Stb.block fun x hx y hy => ?_
  rw [List.mem_singleton] at hx hy
  subst hx hy
  rw [dayAt_eq hj, dayAt_eq (by omega)] at hd
  omega
theorem swp_stb' {l m : List α} {j : Nat} (h : Stb l m) (h0 : 0 < j) (hj : j < m.length) (hd : dayAt m j < dayAt m (j - 1)) : Stb l (swp m j (j - 1)) := by
  obtain ⟨q, rfl⟩ : ∃ q, j = q + 1 := ⟨j - 1, by omega⟩
  exact swp_stb h hj hd
theorem cmpI_neg {a b : Int} : cmpI a b < 0 ↔ a < b := by
  unfold cmpI
  split
  · rename_i h; simp [h]
  · rename_i h; split <;> simp [h]
/-- a segment is sorted, and nothing else has turned -/
structure Seg (l m : List α) (a b : Nat) : Prop where
  stb : Stb l m
  out : ∀ k, k < a ∨ b ≤ k → m[k]? = l[k]?
  srt : ∀ p q, a ≤ p → p < q → q < b → dayAt m p ≤ dayAt m q
theorem Seg.one (l : List α) (a : Nat) : Seg l l a (a + 1) := ⟨Stb.refl l, fun _ _ => rfl, fun p q h1 h2 h3 => by omega⟩
theorem Seg.none {l : List α} {a b : Nat} (h : b ≤ a + 1) : Seg l l a b := ⟨Stb.refl l, fun _ _ => rfl, fun p q h1 h2 h3 => by omega⟩
/-- .. but for the element at j, that is on its way down -/
structure Ins (l m : List α) (a i j : Nat) : Prop where
  stb : Stb l m
  out : ∀ k, k < a ∨ i + 1 ≤ k → m[k]? = l[k]?
  srt : ∀ p q, a ≤ p → p < q → q ≤ i → q ≠ j → dayAt m p ≤ dayAt m q
theorem Ins.start {l m : List α} {a i : Nat} (h : Seg l m a i) : Ins l m a i i := ⟨h.stb, fun k hk => h.out k (by omega), fun p q h1 h2 h3 h4 => h.srt p q h1 h2 (by omega)⟩
theorem Ins.step {l m : List α} {a i j : Nat} (h : Ins l m a i j) (h1 : a < j) (h2 : j ≤ i) (h3 : i < m.length) (hd : dayAt m j < dayAt m (j - 1)) : Ins l (swp m j (j - 1)) a i (j - 1) := by
  refine ⟨swp_stb' h.stb (by omega) (by omega) hd, fun k hk => ?_, fun p q p1 p2 p3 p4 => ?_⟩
  · rw [swp_get (by omega) (by omega), if_neg (by omega), if_neg (by omega)]
    exact h.out k hk
  · rw [swp_day (by omega) (by omega), swp_day (by omega) (by omega)]
    rw [if_neg p4]
    by_cases hq : q = j
    · subst hq
      rw [if_pos rfl]
      by_cases hp : p = q - 1
      · rw [if_pos hp]; omega
      · rw [if_neg hp, if_neg (by omega)]
        exact h.srt p (q - 1) p1 (by omega) (by omega) (by omega)
    · rw [if_neg hq]
      by_cases hp : p = j - 1
      · rw [if_pos hp]
        exact h.srt j q (by omega) (by omega) p3 hq
      · rw [if_neg hp]
        by_cases hp2 : p = j
        · rw [if_pos hp2]
          exact h.srt (j - 1) q (by omega) (by omega) p3 hq
        · rw [if_neg hp2]
          exact h.srt p q p1 p2 p3 hq
theorem Ins.done {l m : List α} {a i j : Nat} (h : Ins l m a i j) (h1 : a ≤ j) (h2 : j ≤ i) (hd : j = a ∨ dayAt m (j - 1) ≤ dayAt m j) : Seg l m a (i + 1) := by
  refine ⟨h.stb, fun k hk => h.out k hk, fun p q p1 p2 p3 => ?_⟩
  by_cases hq : q = j
  · subst hq
    rcases hd with hd | hd
    · omega
    · rcases Nat.lt_or_ge p (q - 1) with hp | hp
      · exact Int.le_trans (h.srt p (q - 1) p1 hp (by omega) (by omega)) hd
      · obtain rfl : p = q - 1 := by omega
        exact hd
  · exact h.srt p q p1 p2 (by omega) hq
theorem Seg.len {l m : List α} {a b : Nat} (h : Seg l m a b) : m.length = l.length := h.stb.1.symm
theorem Ins.len {l m : List α} {a i j : Nat} (h : Ins l m a i j) : m.length = l.length := h.stb.1.symm
/-! blocks that change their places, place by place -/
def swpG (f : Nat → Option α) (a b n k : Nat) : Option α := if a ≤ k ∧ k < a + n then f (k - a + b) else if b ≤ k ∧ k < b + n then f (k - b + a) else f k
/-- [m - i, m) and [m, m + j), the one for the other -/
def rotG (f : Nat → Option α) (m i j k : Nat) : Option α := if m - i ≤ k ∧ k < m - i + j then f (k + i) else if m - i + j ≤ k ∧ k < m + j then f (k - j) else f k
theorem swpN_get {l : List α} {a b : Nat} : ∀ (n : Nat), a + n ≤ b → b + n ≤ l.length → ∀ k, (swpN l a b n)[k]? = swpG (l[·]?) a b n k
  | 0, _, _, k => by
    simp only [swpN, swpG]
    rw [if_neg (by omega), if_neg (by omega)]
  | n + 1, h1, h2, k => by
    have hl := swpN_len l a b n
    rw [swpN, swp_get (by omega) (by omega)]
    have ih := swpN_get n (l := l) (a := a) (b := b) (by omega) (by omega)
    rw [ih, ih, ih]
    simp only [swpG]
    repeat' split
    all_goals first
      | (exfalso; omega)
      | rfl
      | (congr 1; omega)
theorem rot_gt {f g : Nat → Option α} {m i j : Nat} (hm : i ≤ m) (h : j < i) (hg : ∀ k, g k = swpG f (m - i) m j k) (k : Nat) : rotG g m (i - j) j k = rotG f m i j k := by
  simp only [rotG, hg, swpG]
  repeat' split
  all_goals first
    | (exfalso; omega)
    | rfl
    | (congr 1; omega)
theorem rot_lt {f g : Nat → Option α} {m i j : Nat} (hm : i ≤ m) (h : i < j) (hg : ∀ k, g k = swpG f (m - i) (m + j - i) i k) (k : Nat) : rotG g m i (j - i) k = rotG f m i j k := by
  simp only [rotG, hg, swpG]
  repeat' split
  all_goals first
    | (exfalso; omega)
    | rfl
    | (congr 1; omega)
theorem rot_eq {f g : Nat → Option α} {m i : Nat} (hm : i ≤ m) (hg : ∀ k, g k = swpG f (m - i) m i k) (k : Nat) : g k = rotG f m i i k := by
  simp only [rotG, hg, swpG]
  repeat' split
  all_goals first
    | (exfalso; omega)
    | rfl
    | (congr 1; omega)
end Go.Sx

/- Merging two sorted segments: the plain part. -/
set_option linter.all false
namespace Go.Sx
open Go
variable {α : Type} [Day α]
/-- a piece of a list -/
def pc (l : List α) (a b : Nat) : List α := (l.drop a).take (b - a)
theorem pc_get {l : List α} {a b : Nat} (k : Nat) : (pc l a b)[k]? = if k < b - a then l[a + k]? else none := by
  rw [pc, List.getElem?_take, List.getElem?_drop]
theorem pc_len {l : List α} {a b : Nat} (h : b ≤ l.length) : (pc l a b).length = b - a := by rw [pc, List.length_take, List.length_drop]; omega
theorem pc_mem {l : List α} {a b : Nat} {x : α} (hx : x ∈ pc l a b) : ∃ p, a ≤ p ∧ p < b ∧ l[p]? = some x := by
  obtain ⟨k, hk⟩ := List.getElem?_of_mem hx
  rw [pc_get] at hk
  split at hk
  · exact ⟨a + k, by omega, by omega, hk⟩
  · cases hk
theorem mem_pc {l : List α} {a b p : Nat} {x : α} (h1 : a ≤ p) (h2 : p < b) (hx : l[p]? = some x) : x ∈ pc l a b := by
  refine List.mem_of_getElem? (i := p - a) ?_
  rw [pc_get, if_pos (by omega), show a + (p - a) = p from by omega]
  exact hx
theorem cut3 {l : List α} {a b : Nat} (h1 : a ≤ b) (h2 : b ≤ l.length) : l = l.take a ++ (pc l a b ++ l.drop b) := by
  have e : pc l a b ++ l.drop b = l.drop a := by
    have := List.take_append_drop (b - a) (l.drop a)
    rw [List.drop_drop, show a + (b - a) = b from by omega] at this
    exact this
  rw [e, List.take_append_drop]
theorem day_of {l : List α} {p : Nat} {x : α} (h : l[p]? = some x) : dayAt l p = Day.day x := by simp [dayAt, h]
/-- what has turned within a segment only has the same elements there -/
theorem seg_mem {l m : List α} {a b : Nat} (hs : Stb l m) (ho : ∀ k, k < a ∨ b ≤ k → m[k]? = l[k]?) (h1 : a ≤ b) (h2 : b ≤ l.length) {p : Nat} (hp1 : a ≤ p) (hp2 : p < b) : ∃ q, a ≤ q ∧ q < b ∧ dayAt m p = dayAt l q := by
  have hml : m.length = l.length := hs.1.symm
  have et : m.take a = l.take a := by
    apply List.ext_getElem?
    intro k
    rw [List.getElem?_take, List.getElem?_take]
    split
    · exact ho k (.inl (by omega))
    · rfl
  have ed : m.drop b = l.drop b := by
    apply List.ext_getElem?
    intro k
    rw [List.getElem?_drop, List.getElem?_drop]
    exact ho _ (.inr (by omega))
  have hx : m[p]? = some m[p] := List.getElem?_eq_getElem (by omega)
  obtain ⟨y, hy⟩ : ∃ y, y = m[p] := ⟨_, rfl⟩
  rw [← hy] at hx
  have key : ∀ d : Int, (pc m a b).filter (fun e => decide (Day.day e = d)) = (pc l a b).filter (fun e => decide (Day.day e = d)) := by
    intro d
    have hf := hs.2 d
    rw [show l.filter (fun e => decide (Day.day e = d)) = (l.take a ++ (pc l a b ++ l.drop b)).filter (fun e => decide (Day.day e = d)) from congrArg _ (cut3 h1 h2),
      show m.filter (fun e => decide (Day.day e = d)) = (m.take a ++ (pc m a b ++ m.drop b)).filter (fun e => decide (Day.day e = d)) from congrArg _ (cut3 h1 (by omega)), et, ed] at hf
    simp only [List.filter_append] at hf
    exact List.append_cancel_right (List.append_cancel_left hf)
  have hmem : y ∈ (pc m a b).filter (fun e => decide (Day.day e = Day.day y)) := List.mem_filter.2 ⟨mem_pc hp1 hp2 hx, by simp⟩
  rw [key] at hmem
  obtain ⟨hm1, hm2⟩ := List.mem_filter.1 hmem
  obtain ⟨q, q1, q2, q3⟩ := pc_mem hm1
  exact ⟨q, q1, q2, by rw [day_of hx, day_of q3]⟩
/-- exchanging two blocks, as_ lists -/
theorem rot_list {l k : List α} {a m b : Nat} (h1 : a ≤ m) (h2 : m ≤ b) (h3 : b ≤ l.length) (hk : k.length = l.length) (hr : ∀ q, k[q]? = rotG (l[·]?) m (m - a) (b - m) q) : k = l.take a ++ (pc l m b ++ (pc l a m ++ l.drop b)) := by
  apply List.ext_getElem?
  intro q
  rw [hr, rotG]
  have l1 : (l.take a).length = a := by rw [List.length_take]; omega
  have l2 := pc_len (l := l) (a := m) (b := b) h3
  have l3 := pc_len (l := l) (a := a) (b := m) (by omega)
  rw [List.getElem?_append, l1, List.getElem?_append, l2, List.getElem?_append, l3, List.getElem?_take, pc_get, pc_get, List.getElem?_drop]
  repeat' split
  all_goals first
    | (exfalso; omega)
    | rfl
    | (congr 1; omega)
theorem rot_stb {l k : List α} {a m b : Nat} (h1 : a ≤ m) (h2 : m ≤ b) (h3 : b ≤ l.length) (hk : k.length = l.length) (hr : ∀ q, k[q]? = rotG (l[·]?) m (m - a) (b - m) q) (hd : ∀ p q, a ≤ p → p < m → m ≤ q → q < b → dayAt l q < dayAt l p) : Stb l k := by
  have e := rot_list h1 h2 h3 hk hr
  have e2 : l = l.take a ++ (pc l a m ++ (pc l m b ++ l.drop b)) := by
    conv => lhs; rw [cut3 (l := l) (a := a) (b := m) h1 (by omega)]
    congr 2
    have := cut3 (l := l.drop m) (a := 0) (b := b - m) (by omega) (by rw [List.length_drop]; omega)
    simp only [List.take_zero, List.nil_append, List.drop_drop, show m + (b - m) = b from by omega] at this
    exact this
  rw [e]
  conv => arg 1; rw [e2]
  refine Stb.block fun x hx y hy => ?_
  obtain ⟨p, p1, p2, p3⟩ := pc_mem hx
  obtain ⟨q, q1, q2, q3⟩ := pc_mem hy
  have := hd p q p1 p2 q1 q2
  rw [day_of p3, day_of q3] at this
  omega
theorem rot_day {l k : List α} {m i j : Nat} (hr : ∀ q, k[q]? = rotG (l[·]?) m i j q) (q : Nat) : dayAt k q = if m - i ≤ q ∧ q < m - i + j then dayAt l (q + i) else if m - i + j ≤ q ∧ q < m + j then dayAt l (q - j) else dayAt l q := by
  unfold dayAt
  rw [hr, rotG]
  repeat' split
  all_goals rfl
/-- merged halves, the first of which is not behind the second -/
theorem seg_join {l m : List α} {a c b : Nat} (hs : Stb l m) (ho : ∀ k, k < a ∨ b ≤ k → m[k]? = l[k]?) (h1 : ∀ p q, a ≤ p → p < q → q < c → dayAt m p ≤ dayAt m q) (h2 : ∀ p q, c ≤ p → p < q → q < b → dayAt m p ≤ dayAt m q) (h3 : ∀ p q, a ≤ p → p < c → c ≤ q → q < b → dayAt m p ≤ dayAt m q) : Seg l m a b :=
  ⟨hs, ho, fun p q p1 p2 p3 => by
    rcases Nat.lt_or_ge q c with hq | hq
    · exact h1 p q p1 p2 hq
    · rcases Nat.lt_or_ge p c with hp | hp
      · exact h3 p q p1 hp hq p3
      · exact h2 p q hp p2 p3⟩
/-- sorted between two places -/
def SrtD (l : List α) (a b : Nat) : Prop := ∀ p q, a ≤ p → p < q → q < b → dayAt l p ≤ dayAt l q
theorem SrtD.le {l : List α} {a b : Nat} (h : SrtD l a b) {p q : Nat} (h1 : a ≤ p) (h2 : p ≤ q) (h3 : q < b) : dayAt l p ≤ dayAt l q := by
  rcases Nat.lt_or_ge p q with hp | hp
  · exact h p q h1 hp h3
  · obtain rfl : p = q := by omega
    exact Int.le_refl _
theorem SrtD.sub {l : List α} {a b a' b' : Nat} (h : SrtD l a b) (h1 : a ≤ a') (h2 : b' ≤ b) : SrtD l a' b' := fun p q p1 p2 p3 => h p q (by omega) p2 (by omega)
theorem SrtD.none {l : List α} {a b : Nat} (h : b ≤ a + 1) : SrtD l a b := fun p q h1 h2 h3 => by omega
theorem Seg.toD {l m : List α} {a b : Nat} (h : Seg l m a b) : SrtD m a b := h.srt
/-- a turn of two neighbouring pieces -/
structure Rot (l k : List α) (a s m e b : Nat) : Prop where
  stb : Stb l k
  out : ∀ q, q < s ∨ e ≤ q → k[q]? = l[q]?
  day : ∀ q, dayAt k q = if s ≤ q ∧ q < s + (e - m) then dayAt l (q + (m - s)) else if s + (e - m) ≤ q ∧ q < e then dayAt l (q - (e - m)) else dayAt l q
theorem Rot.of {l k : List α} {a s m e b : Nat} (h1 : s ≤ m) (h2 : m ≤ e) (h3 : e ≤ l.length) (hk : k.length = l.length) (hr : ∀ q, k[q]? = rotG (l[·]?) m (m - s) (e - m) q) (hd : ∀ p q, s ≤ p → p < m → m ≤ q → q < e → dayAt l q < dayAt l p) : Rot l k a s m e b := by
  refine ⟨rot_stb h1 h2 h3 hk hr hd, fun q hq => ?_, fun q => ?_⟩
  · rw [hr, rotG, if_neg (by omega), if_neg (by omega)]
  · rw [rot_day hr, show m - (m - s) = s from by omega, show m + (e - m) = e from by omega]
theorem Rot.id {l : List α} {a s m e b : Nat} (h : s = m ∨ e = m) (h1 : s ≤ m) (h2 : m ≤ e) : Rot l l a s m e b := by
  refine ⟨Stb.refl l, fun _ _ => rfl, fun q => ?_⟩
  rcases h with rfl | rfl
  · split
    · congr 1; omega
    · split
      · exfalso; omega
      · rfl
  · split
    · exfalso; omega
    · split
      · congr 1; omega
      · rfl
theorem Rot.len {l k : List α} {a s m e b : Nat} (h : Rot l k a s m e b) : k.length = l.length := h.stb.1.symm
/-- the four pieces behind a turn -/
theorem Rot.p1 {l k : List α} {a s m e b : Nat} (h : Rot l k a s m e b) (h1 : SrtD l a m) (g1 : s ≤ m) : SrtD k a s := fun p q p1 p2 p3 => by
  rw [h.day, h.day, if_neg (by omega), if_neg (by omega), if_neg (by omega), if_neg (by omega)]
  exact h1 p q p1 p2 (by omega)
theorem Rot.p2 {l k : List α} {a s m e b : Nat} (h : Rot l k a s m e b) (h2 : SrtD l m b) (g1 : s ≤ m) (g2 : m ≤ e) (g3 : e ≤ b) : SrtD k s (s + (e - m)) := fun p q p1 p2 p3 => by
  rw [h.day, h.day, if_pos (by omega), if_pos (by omega)]
  exact h2 _ _ (by omega) (by omega) (by omega)
theorem Rot.p3 {l k : List α} {a s m e b : Nat} (h : Rot l k a s m e b) (h1 : SrtD l a m) (g0 : a ≤ s) (g1 : s ≤ m) (g2 : m ≤ e) : SrtD k (s + (e - m)) e := fun p q p1 p2 p3 => by
  rw [h.day, h.day, if_neg (by omega), if_pos (by omega), if_neg (by omega), if_pos (by omega)]
  exact h1 _ _ (by omega) (by omega) (by omega)
theorem Rot.p4 {l k : List α} {a s m e b : Nat} (h : Rot l k a s m e b) (h2 : SrtD l m b) (g1 : s ≤ m) (g2 : m ≤ e) : SrtD k e b := fun p q p1 p2 p3 => by
  rw [h.day, h.day, if_neg (by omega), if_neg (by omega), if_neg (by omega), if_neg (by omega)]
  exact h2 p q (by omega) p2 p3
theorem Rot.cross {l k : List α} {a s m e b : Nat} (h : Rot l k a s m e b) (h1 : SrtD l a m) (h2 : SrtD l m b) (g0 : a ≤ s) (g1 : s ≤ m) (g2 : m ≤ e) (g3 : e ≤ b)
    (hx : ∀ p q, s ≤ p → p < m → m ≤ q → q < e → dayAt l q < dayAt l p) (hy : ∀ p q, a ≤ p → p < s → e ≤ q → q < b → dayAt l p ≤ dayAt l q) (p q : Nat) (p1 : a ≤ p) (p2 : p < s + (e - m)) (q1 : s + (e - m) ≤ q) (q2 : q < b) : dayAt k p ≤ dayAt k q := by
  rw [h.day p, h.day q]
  by_cases hp : s ≤ p
  · rw [if_pos ⟨hp, p2⟩]
    by_cases hq : q < e
    · rw [if_neg (by omega), if_pos ⟨q1, hq⟩]
      exact Int.le_of_lt (hx _ _ (by omega) (by omega) (by omega) (by omega))
    · rw [if_neg (by omega), if_neg (by omega)]
      exact h2.le (by omega) (by omega) q2
  · rw [if_neg (by omega), if_neg (by omega)]
    by_cases hq : q < e
    · rw [if_neg (by omega), if_pos ⟨q1, hq⟩]
      exact h1.le p1 (by omega) (by omega)
    · rw [if_neg (by omega), if_neg (by omega)]
      exact hy p q p1 (by omega) (by omega) q2
/-- both halves merged: all of it is -/
theorem Rot.done {l k k1 k2 : List α} {a s m e b c : Nat} (h : Rot l k a s m e b) (h1 : SrtD l a m) (h2 : SrtD l m b) (g0 : a ≤ s) (g1 : s ≤ m) (g2 : m ≤ e) (g3 : e ≤ b) (g4 : b ≤ l.length) (hc : s + (e - m) = c)
    (hx : ∀ p q, s ≤ p → p < m → m ≤ q → q < e → dayAt l q < dayAt l p) (hy : ∀ p q, a ≤ p → p < s → e ≤ q → q < b → dayAt l p ≤ dayAt l q) (s1 : Seg k k1 a c) (s2 : Seg k1 k2 c b) : Seg l k2 a b := by
  subst hc
  have hl := h.len
  have hl1 := s1.len
  have d1 : ∀ p, p < s + (e - m) → k2[p]? = k1[p]? := fun p hp => s2.out p (.inl hp)
  have d2 : ∀ p, s + (e - m) ≤ p → k1[p]? = k[p]? := fun p hp => s1.out p (.inr hp)
  have e1 : ∀ p, p < s + (e - m) → dayAt k2 p = dayAt k1 p := fun p hp => by unfold dayAt; rw [d1 p hp]
  refine seg_join (c := s + (e - m)) (h.stb.trans (s1.stb.trans s2.stb)) (fun q hq => ?_) (fun p q p1 p2 p3 => ?_) (fun p q p1 p2 p3 => s2.srt p q p1 p2 p3) (fun p q p1 p2 p3 p4 => ?_)
  · rw [s2.out q (by omega), s1.out q (by omega), h.out q (by omega)]
  · rw [e1 p (by omega), e1 q p3]; exact s1.srt p q p1 p2 p3
  · rw [e1 p p2]
    obtain ⟨p', a1, a2, a3⟩ := seg_mem s1.stb s1.out (by omega) (by omega) p1 p2
    obtain ⟨q', b1, b2, b3⟩ := seg_mem s2.stb s2.out (by omega) (by omega) p3 p4
    have : dayAt k1 q' = dayAt k q' := by unfold dayAt; rw [d2 q' b1]
    rw [a3, b3, this]
    exact h.cross h1 h2 g0 g1 g2 g3 hx hy p' q' a1 a2 b1 b2
/-- one element on its way up -/
def bub (l : List α) (a : Nat) : Nat → List α
  | 0 => l
  | k + 1 => swp (bub l a k) (a + k) (a + k + 1)
theorem bub_len (l : List α) (a : Nat) : ∀ k, (bub l a k).length = l.length
  | 0 => rfl
  | k + 1 => by rw [bub, swp_len, bub_len l a k]
theorem bub_get {l : List α} {a : Nat} : ∀ (n : Nat), a + n < l.length → ∀ k, (bub l a n)[k]? = rotG (l[·]?) (a + 1) 1 n k
  | 0, _, k => by simp only [bub, rotG]; rw [if_neg (by omega)]; split; · congr 1
                  · rfl
  | n + 1, h, k => by
    have hl := bub_len l a n
    rw [bub, swp_get (by omega) (by omega)]
    have ih := bub_get n (l := l) (a := a) (by omega)
    rw [ih, ih, ih]
    simp only [rotG]
    repeat' split
    all_goals first
      | (exfalso; omega)
      | rfl
      | (congr 1; omega)
/-- .. on its way down -/
def bud (l : List α) (m : Nat) : Nat → List α
  | 0 => l
  | k + 1 => swp (bud l m k) (m - k) (m - k - 1)
theorem bud_len (l : List α) (m : Nat) : ∀ k, (bud l m k).length = l.length
  | 0 => rfl
  | k + 1 => by rw [bud, swp_len, bud_len l m k]
theorem bud_get {l : List α} {m : Nat} (hm : m < l.length) : ∀ (n : Nat), n ≤ m → ∀ k, (bud l m n)[k]? = rotG (l[·]?) m n 1 k
  | 0, _, k => by simp only [bud, rotG]; split; · congr 1
                  · split
                    · exfalso; omega
                    · rfl
  | n + 1, h, k => by
    have hl := bud_len l m n
    rw [bud, swp_get (by omega) (by omega)]
    have ih := bud_get hm n (by omega)
    rw [ih, ih, ih]
    simp only [rotG]
    repeat' split
    all_goals first
      | (exfalso; omega)
      | rfl
      | (congr 1; omega)
/-- the first piece is one element -/
theorem merge_up {l : List α} {a b i : Nat} (hs : SrtD l (a + 1) b) (h1 : a + 1 ≤ i) (h2 : i ≤ b) (h3 : b ≤ l.length) (hlo : ∀ q, a + 1 ≤ q → q < i → dayAt l q < dayAt l a) (hhi : ∀ q, i ≤ q → q < b → dayAt l a ≤ dayAt l q) : Seg l (bub l a (i - 1 - a)) a b := by
  have hR : Rot l (bub l a (i - 1 - a)) a a (a + 1) i b := Rot.of (by omega) h1 (by omega) (bub_len _ _ _) (fun q => by rw [bub_get _ (by omega)]; congr 1 <;> omega)
    (fun p q p1 p2 p3 p4 => by obtain rfl : p = a := by omega
                               exact hlo q p3 p4)
  refine ⟨hR.stb, fun k hk => hR.out k (by omega), fun p q p1 p2 p3 => ?_⟩
  rw [hR.day p, hR.day q]
  by_cases hp : p < i - 1
  · rw [if_pos (by omega)]
    by_cases hq : q < i - 1
    · rw [if_pos (by omega)]; exact hs _ _ (by omega) (by omega) (by omega)
    · by_cases hq2 : q = i - 1
      · rw [if_neg (by omega), if_pos (by omega), show q - (i - (a + 1)) = a from by omega]; exact Int.le_of_lt (hlo _ (by omega) (by omega))
      · rw [if_neg (by omega), if_neg (by omega)]; exact hs _ _ (by omega) (by omega) (by omega)
  · by_cases hp2 : p = i - 1
    · rw [if_neg (by omega), if_pos (by omega), if_neg (by omega), if_neg (by omega), show p - (i - (a + 1)) = a from by omega]; exact hhi _ (by omega) p3
    · rw [if_neg (by omega), if_neg (by omega), if_neg (by omega), if_neg (by omega)]; exact hs _ _ (by omega) (by omega) (by omega)
/-- the second piece is one element -/
theorem merge_down {l : List α} {a m i : Nat} (hs : SrtD l a m) (h1 : a ≤ i) (h2 : i ≤ m) (h3 : m < l.length) (hlo : ∀ q, a ≤ q → q < i → dayAt l q ≤ dayAt l m) (hhi : ∀ q, i ≤ q → q < m → dayAt l m < dayAt l q) : Seg l (bud l m (m - i)) a (m + 1) := by
  have hR : Rot l (bud l m (m - i)) a i m (m + 1) (m + 1) := Rot.of h2 (by omega) (by omega) (bud_len _ _ _) (fun q => by rw [bud_get h3 _ (by omega)]; congr 1; omega)
    (fun p q p1 p2 p3 p4 => by obtain rfl : q = m := by omega
                               exact hhi p p1 p2)
  refine ⟨hR.stb, fun k hk => hR.out k (by omega), fun p q p1 p2 p3 => ?_⟩
  rw [hR.day p, hR.day q]
  by_cases hp : p < i
  · rw [if_neg (by omega), if_neg (by omega)]
    by_cases hq : q < i
    · rw [if_neg (by omega), if_neg (by omega)]; exact hs _ _ (by omega) (by omega) (by omega)
    · by_cases hq2 : q = i
      · rw [if_pos (by omega), show q + (m - i) = m from by omega]; exact hlo _ (by omega) (by omega)
      · rw [if_neg (by omega), if_pos (by omega)]; exact hs _ _ (by omega) (by omega) (by omega)
  · by_cases hp2 : p = i
    · rw [if_pos (by omega), if_neg (by omega), if_pos (by omega), show p + (m - i) = m from by omega]; exact Int.le_of_lt (hhi _ (by omega) (by omega))
    · rw [if_neg (by omega), if_pos (by omega), if_neg (by omega), if_pos (by omega)]; exact hs _ _ (by omega) (by omega) (by omega)
theorem Seg.refl' {k : List α} {a c : Nat} (h : SrtD k a c) : Seg k k a c := ⟨Stb.refl k, fun _ _ => rfl, h⟩
theorem Rot.left {l k : List α} {a s m e b c : Nat} (h : Rot l k a s m e b) (h1 : SrtD l a m) (h2 : SrtD l m b) (g1 : s ≤ m) (g2 : m ≤ e) (g3 : e ≤ b) (hc : s + (e - m) = c) (hn : ¬ (a < s ∧ s < c)) (g0 : a ≤ s) : SrtD k a c := by
  subst hc
  by_cases hs : a = s
  · subst hs; exact h.p2 h2 g1 g2 g3
  · exact (h.p1 h1 g1).sub (Nat.le_refl _) (by omega)
theorem Rot.right {l k : List α} {a s m e b c : Nat} (h : Rot l k a s m e b) (h1 : SrtD l a m) (h2 : SrtD l m b) (g0 : a ≤ s) (g1 : s ≤ m) (g2 : m ≤ e) (hc : s + (e - m) = c) (hn : ¬ (c < e ∧ e < b)) (g3 : e ≤ b) : SrtD k c b := by
  subst hc
  by_cases hs : e = b
  · subst hs; exact h.p3 h1 g0 g1 g2
  · exact (h.p4 h2 g1 g2).sub (by omega) (Nat.le_refl _)
theorem Seg.keepD {k k1 : List α} {a c p q : Nat} (h : Seg k k1 a c) (hc : c ≤ p) (hs : SrtD k p q) : SrtD k1 p q := fun x y h1 h2 h3 => by
  have e : ∀ z, c ≤ z → dayAt k1 z = dayAt k z := fun z hz => by unfold dayAt; rw [h.out z (.inr hz)]
  rw [e x (by omega), e y (by omega)]; exact hs x y h1 h2 h3
/-- where the two sorted pieces are parted -/
theorem spl_fin {l : List α} {a m b c S R s : Nat} (m1 : SrtD l a m) (m2 : SrtD l m b) (ham : a < m) (hmb : m < b) (hc : c = (a + b) / 2) (hS : (c < m ∧ S = c + m - b ∧ R = c) ∨ (m ≤ c ∧ S = a ∧ R = m)) (hs1 : S ≤ s) (hs2 : s ≤ R)
    (lo : ∀ q, S ≤ q → q < s → dayAt l q ≤ dayAt l (c + m - 1 - q)) (hi : ∀ q, s ≤ q → q < R → dayAt l (c + m - 1 - q) < dayAt l q) :
    (∀ p q, s ≤ p → p < m → m ≤ q → q < c + m - s → dayAt l q < dayAt l p) ∧ (∀ p q, a ≤ p → p < s → c + m - s ≤ q → q < b → dayAt l p ≤ dayAt l q) := by
  refine ⟨fun p q p1 p2 q1 q2 => ?_, fun p q p1 p2 q1 q2 => ?_⟩
  · have hlt : s < R := by omega
    have h1 := hi s (Nat.le_refl _) hlt
    have h2 := m1.le (p := s) (q := p) (by omega) p1 p2
    have h3 := m2.le (p := q) (q := c + m - 1 - s) q1 (by omega) (by omega)
    omega
  · have hlt : S < s := by omega
    have h1 := lo (s - 1) (by omega) (by omega)
    have h2 := m1.le (p := p) (q := s - 1) p1 (by omega) (by omega)
    have h3 := m2.le (p := c + m - 1 - (s - 1)) (q := q) (by omega) (by omega) q2
    omega
theorem spl_up {l : List α} {a m b c S R r h : Nat} (m1 : SrtD l a m) (m2 : SrtD l m b) (ham : a < m) (hmb : m < b) (hc : c = (a + b) / 2) (hS : (c < m ∧ S = c + m - b ∧ R = c) ∨ (m ≤ c ∧ S = a ∧ R = m)) (h1 : S ≤ h) (h2 : h < r) (h3 : r ≤ R)
    (hd : dayAt l h ≤ dayAt l (c + m - 1 - h)) (q : Nat) (q1 : S ≤ q) (q2 : q < h + 1) : dayAt l q ≤ dayAt l (c + m - 1 - q) := by
  have e1 := m1.le (p := q) (q := h) (by omega) (by omega) (by omega)
  have e2 := m2.le (p := c + m - 1 - h) (q := c + m - 1 - q) (by omega) (by omega) (by omega)
  omega
theorem spl_dn {l : List α} {a m b c S R s h : Nat} (m1 : SrtD l a m) (m2 : SrtD l m b) (ham : a < m) (hmb : m < b) (hc : c = (a + b) / 2) (hS : (c < m ∧ S = c + m - b ∧ R = c) ∨ (m ≤ c ∧ S = a ∧ R = m)) (h1 : S ≤ s) (h2 : s ≤ h) (h3 : h < R)
    (hd : dayAt l (c + m - 1 - h) < dayAt l h) (q : Nat) (q1 : h ≤ q) (q2 : q < R) : dayAt l (c + m - 1 - q) < dayAt l q := by
  have e1 := m1.le (p := h) (q := q) (by omega) (by omega) (by omega)
  have e2 := m2.le (p := c + m - 1 - q) (q := c + m - 1 - h) (by omega) (by omega) (by omega)
  omega
theorem day_lt {l : List α} {i j : Nat} {hi : i < l.length} {hj : j < l.length} (h : cmpI (Day.day l[i]) (Day.day l[j]) < 0) : dayAt l i < dayAt l j := by
  rw [cmpI_neg] at h; rw [dayAt_eq hi, dayAt_eq hj]; exact h
theorem day_ge {l : List α} {i j : Nat} {hi : i < l.length} {hj : j < l.length} (h : ¬ cmpI (Day.day l[i]) (Day.day l[j]) < 0) : dayAt l j ≤ dayAt l i := by
  rw [cmpI_neg] at h; rw [dayAt_eq hi, dayAt_eq hj]; omega
end Go.Sx

/- The blocks of the stable sort; what is sorted stably is one list alone. -/
set_option linter.all false
namespace Go.Sx
open Go
variable {α : Type} [Day α]
/-- the first places, block by block -/
inductive Pre (l : List α) (q : Nat) : Nat → Prop
  | zero : Pre l q 0
  | snoc {a : Nat} : Pre l q a → SrtD l a (a + q) → Pre l q (a + q)
/-- the last places, block by block -/
inductive Blk (l : List α) (q n : Nat) : Nat → Prop
  | done {s : Nat} : n ≤ s → Blk l q n s
  | step {s : Nat} : SrtD l s (min (s + q) n) → Blk l q n (s + q) → Blk l q n s
theorem SrtD.same {l m : List α} {a b : Nat} (h : SrtD l a b) (he : ∀ k, a ≤ k → k < b → m[k]? = l[k]?) : SrtD m a b := fun p q p1 p2 p3 => by
  have e : ∀ z, a ≤ z → z < b → dayAt m z = dayAt l z := fun z h1 h2 => by unfold dayAt; rw [he z h1 h2]
  rw [e p p1 (by omega), e q (by omega) p3]; exact h p q p1 p2 p3
theorem Pre.same {l m : List α} {q a : Nat} (h : Pre l q a) (he : ∀ k, k < a → m[k]? = l[k]?) : Pre m q a := by
  induction h with
  | zero => exact .zero
  | snoc h1 h2 ih => exact .snoc (ih fun k hk => he k (by omega)) (h2.same fun k _ hk => he k hk)
theorem Blk.same {l m : List α} {q n s : Nat} (h : Blk l q n s) (he : ∀ k, s ≤ k → k < n → m[k]? = l[k]?) : Blk m q n s := by
  induction h with
  | done h => exact .done h
  | step h1 h2 ih => exact .step (h1.same fun k h3 h4 => he k h3 (by omega)) (ih fun k hk hk2 => he k (by omega) hk2)
theorem Pre.blk {l : List α} {q n a : Nat} (h : Pre l q a) (han : a ≤ n) (hb : Blk l q n a) : Blk l q n 0 := by
  induction h with
  | zero => exact hb
  | snoc h1 h2 ih => exact ih (by omega) (.step (h2.sub (Nat.le_refl _) (by omega)) hb)
theorem Pre.put {l m : List α} {q a : Nat} (h : Pre l q a) (hs : Seg l m a (a + q)) : Pre m q (a + q) := .snoc (h.same fun k hk => hs.out k (.inl hk)) hs.srt
theorem Pre.last {l m : List α} {q a n : Nat} (h : Pre l q a) (hs : Seg l m a n) (han : a ≤ n) (hq : n < a + q) : Blk m q n 0 :=
  (h.same fun k hk => hs.out k (.inl hk)).blk han (.step (hs.toD.sub (Nat.le_refl _) (by omega)) (.done (by omega)))
theorem Blk.two {l : List α} {q n s : Nat} (h : Blk l q n s) (hs : s + 2 * q ≤ n) (hq : 1 ≤ q) : SrtD l s (s + q) ∧ SrtD l (s + q) (s + 2 * q) ∧ Blk l q n (s + 2 * q) := by
  cases h with
  | done h => omega
  | step h1 h2 => cases h2 with
    | done h => omega
    | step h3 h4 => exact ⟨h1.sub (Nat.le_refl _) (by omega), h3.sub (Nat.le_refl _) (by omega), by rw [show s + 2 * q = s + q + q from by omega]; exact h4⟩
theorem Blk.one {l : List α} {q n s : Nat} (h : Blk l q n s) (hs : s + q < n) : SrtD l s (s + q) ∧ (n ≤ s + 2 * q → SrtD l (s + q) n) := by
  cases h with
  | done h => omega
  | step h1 h2 => cases h2 with
    | done h => omega
    | step h3 h4 => exact ⟨h1.sub (Nat.le_refl _) (by omega), fun h => h3.sub (Nat.le_refl _) (by omega)⟩
theorem Blk.all {l : List α} {q n s : Nat} (h : Blk l q n s) (hs : n ≤ s + q) : SrtD l s n := by
  cases h with
  | done h => exact SrtD.none (by omega)
  | step h1 h2 => exact h1.sub (Nat.le_refl _) (by omega)
/-! one list alone -/
def Srtd (l : List α) : Prop := l.Pairwise fun x y => Day.day x ≤ Day.day y
theorem SrtD.pw {l : List α} (h : SrtD l 0 l.length) : Srtd l := by
  rw [Srtd, List.pairwise_iff_getElem]
  intro i j hi hj hij
  have := h i j (Nat.zero_le _) hij hj
  rwa [dayAt_eq hi, dayAt_eq hj] at this
theorem stb_one : ∀ (m m' : List α), Srtd m → Srtd m' → (∀ d : Int, m.filter (fun e => decide (Day.day e = d)) = m'.filter (fun e => decide (Day.day e = d))) → m = m' := by
  intro m
  induction m with
  | nil =>
    intro m' _ _ h
    cases m' with
    | nil => rfl
    | cons y r => have := h (Day.day y); simp at this
  | cons x r ih =>
    intro m' h1 h2 h
    cases m' with
    | nil => have := h (Day.day x); simp at this
    | cons y r' =>
      unfold Srtd at h1 h2
      rw [List.pairwise_cons] at h1 h2
      have hx : x ∈ (y :: r') := by
        have : x ∈ (y :: r').filter (fun e => decide (Day.day e = Day.day x)) := by rw [← h]; simp
        exact (List.mem_filter.1 this).1
      have hy : y ∈ (x :: r) := by
        have : y ∈ (x :: r).filter (fun e => decide (Day.day e = Day.day y)) := by rw [h]; simp
        exact (List.mem_filter.1 this).1
      have d1 : Day.day y ≤ Day.day x := by
        rcases List.mem_cons.1 hx with e | hx
        · rw [e]; exact Int.le_refl _
        · exact h2.1 x hx
      have d2 : Day.day x ≤ Day.day y := by
        rcases List.mem_cons.1 hy with e | hy
        · rw [e]; exact Int.le_refl _
        · exact h1.1 y hy
      have hd : Day.day y = Day.day x := Int.le_antisymm d1 d2
      have h0 := h (Day.day x)
      simp only [List.filter_cons, hd, decide_true, if_true, List.cons.injEq] at h0
      obtain ⟨rfl, h0⟩ := h0
      congr 1
      refine ih r' h1.2 h2.2 fun d => ?_
      have h3 := h d
      simp only [List.filter_cons] at h3
      split at h3
      · simpa using h3
      · exact h3
def insD (e : α) : List α → List α
  | [] => [e]
  | x :: r => if Day.day e ≤ Day.day x then e :: x :: r else x :: insD e r
/-- the course of a list -/
def sortF (l : List α) : List α := l.foldr insD []
theorem insD_mem {e y : α} : ∀ {l : List α}, y ∈ insD e l ↔ y = e ∨ y ∈ l
  | [] => by simp [insD]
  | x :: r => by
    simp only [insD]
    split
    · simp
    · simp only [List.mem_cons, insD_mem (l := r)]
      constructor
      · rintro (h | h | h)
        · exact .inr (.inl h)
        · exact .inl h
        · exact .inr (.inr h)
      · rintro (h | h | h)
        · exact .inr (.inl h)
        · exact .inl h
        · exact .inr (.inr h)
theorem insD_srt {e : α} : ∀ {l : List α}, Srtd l → Srtd (insD e l)
  | [], _ => by simp [insD, Srtd]
  | x :: r, h => by
    unfold Srtd at h
    have h' := List.pairwise_cons.1 h
    simp only [insD]
    split
    · rename_i hd
      refine List.pairwise_cons.2 ⟨fun y hy => ?_, h⟩
      rcases List.mem_cons.1 hy with rfl | hy
      · exact hd
      · exact Int.le_trans hd (h'.1 y hy)
    · rename_i hd
      refine List.pairwise_cons.2 ⟨fun y hy => ?_, insD_srt h'.2⟩
      rcases insD_mem.1 hy with rfl | hy
      · omega
      · exact h'.1 y hy
theorem insD_len (e : α) : ∀ l : List α, (insD e l).length = l.length + 1
  | [] => rfl
  | x :: r => by simp only [insD]; split; · simp
                 · simp [insD_len e r]
theorem insD_filter (e : α) (d : Int) : ∀ l : List α, (insD e l).filter (fun e => decide (Day.day e = d)) = (e :: l).filter (fun e => decide (Day.day e = d))
  | [] => rfl
  | x :: r => by
    simp only [insD]
    split
    · rfl
    · rename_i hd
      rw [List.filter_cons, insD_filter e d r]
      simp only [List.filter_cons]
      by_cases h1 : Day.day x = d
      · by_cases h2 : Day.day e = d
        · omega
        · simp [h1, h2]
      · simp [h1]
theorem sortF_srt : ∀ l : List α, Srtd (sortF l)
  | [] => List.Pairwise.nil
  | x :: r => insD_srt (sortF_srt r)
theorem sortF_len : ∀ l : List α, (sortF l).length = l.length
  | [] => rfl
  | x :: r => (insD_len x (sortF r)).trans (by rw [sortF_len r]; rfl)
theorem sortF_filter (d : Int) : ∀ l : List α, (sortF l).filter (fun e => decide (Day.day e = d)) = l.filter (fun e => decide (Day.day e = d))
  | [] => rfl
  | x :: r => (insD_filter x d (sortF r)).trans (by rw [List.filter_cons, List.filter_cons, sortF_filter d r])
theorem sortF_is {l m : List α} (h : Stb l m) (hs : Srtd m) : m = sortF l := stb_one m _ hs (sortF_srt l) fun d => by rw [h.2 d, sortF_filter]
theorem sortF_mem {l : List α} {x : α} : x ∈ sortF l ↔ x ∈ l := by
  have h : ∀ (m : List α), x ∈ m ↔ x ∈ m.filter (fun e => decide (Day.day e = Day.day x)) := fun m => by simp
  rw [h, sortF_filter, ← h]
section
variable {P : Program} {n : Sz} {E : Ent} {I : IMap} {L : LL} {H : List Res} {K : Act → World → Prop}
theorem sx_unrow0 {g e k m : Nat} {xss : List (List Value)} (hU : Uk k xss) (hm : xss.length = m) (hl : m ≤ maxLen) (h : SX n E I L (.row (.slice (some ⟨g, 0, none⟩) m m) e k m xss.flatten :: H) K) : SX n E I L (.blk g e xss.flatten :: H) K := by
  have := sx_unrow (rest := []) hU (fun c hc => (by cases hc)) hm (by simp) hl h
  simpa using this
end
end Go.Sx

/- Ranging over a function: what the iterator is told of the rounds, what the loop is told of the iterator. -/
set_option linter.all false
namespace Go.Sx
open Go

section
variable {P : Program} {ρ : Option Nat} {n : Sz} {E : Ent} {I I' : IMap} {L : LL} {H : List Res} {Q : Exit → Act → World → Prop} {ops : Array Oper} {K : Act → World → Prop}
variable {d ty : Nat} {pos : String} {af : Array Edge}
/-! the rounds -/
/-- what is known of the loop's record -/
structure Rec where
  l : Nat
  D : Nat
  ready : Loop
  hs : ready.state = .ready
  hp : ready.pending = none
def Rec.done (r : Rec) (c : Code) : Loop := { r.ready with state := .done, pending := some c }
variable {α σ : Type} {I0 : IMap} {r : Rec} {Hx : σ → List Res} {p : List α → IMap → σ → Prop} {px : List α → IMap → σ → Code → Prop} {pre : List α}
end
end Go.Sx

/- Loops and meetings of ways with four and five things that turn; yield with blocks of one's own in front. -/
set_option linter.all false
namespace Go.Sx
open Go
section
variable {P : Program} {ρ : Option Nat} {n : Sz} {E : Ent} {I I' : IMap} {L : LL} {H : List Res} {K : Act → World → Prop} {Q : Exit → Act → World → Prop} {ops : Array Oper} {N : Act → World → Prop}
variable {α β γ δ ε : Type}
def NextS4 (n : Sz) (E : Ent) (Ix : α → β → γ → δ → IMap) (Lx : α → β → γ → δ → LL) (Hx : α → β → γ → δ → List Res) (p : α → β → γ → δ → Prop) (μ : α → β → γ → δ → Nat) (x : α) (y : β) (z : γ) (t : δ) : Act → World → Prop :=
  fun a w => ∃ x' y' z' t', p x' y' z' t' ∧ μ x' y' z' t' < μ x y z t ∧ St n a (Lx x' y' z' t') ∧ Mem E (Ix x' y' z' t') (Hx x' y' z' t') w
theorem c_loop4 (x0 : α) (y0 : β) (z0 : γ) (t0 : δ) (Ix : α → β → γ → δ → IMap) (Lx : α → β → γ → δ → LL) (Hx : α → β → γ → δ → List Res) (p : α → β → γ → δ → Prop) (μ : α → β → γ → δ → Nat) {c : Code}
    (h0 : p x0 y0 z0 t0) (hI : Ix x0 y0 z0 t0 = I) (hL : Sub (Lx x0 y0 z0 t0) L) (hH : Hx x0 y0 z0 t0 = H)
    (round : ∀ x y z t, p x y z t → SX n E (Ix x y z t) (Lx x y z t) (Hx x y z t) (c.wq ρ P (Exit.then (NextS4 n E Ix Lx Hx p μ x y z t) Q))) : SX n E I L H ((Code.loop c).wq ρ P Q) :=
  c_loop (α := α × β × γ × δ) (x0, y0, z0, t0) (fun q => Ix q.1 q.2.1 q.2.2.1 q.2.2.2) (fun q => Lx q.1 q.2.1 q.2.2.1 q.2.2.2) (fun q => Hx q.1 q.2.1 q.2.2.1 q.2.2.2) (fun q => p q.1 q.2.1 q.2.2.1 q.2.2.2) (fun q => μ q.1 q.2.1 q.2.2.1 q.2.2.2) h0 hI hL hH
    fun ⟨x, y, z, t⟩ hp => sx_mono (round x y z t hp) fun a w h => cwq_mono (fun e a w q => by
      cases e with
      | normal => obtain ⟨x', y', z', t', h1, h2, h3, h4⟩ := q; exact ⟨(x', y', z', t'), h1, h2, h3, h4⟩
      | _ => exact q) h
theorem q_next4 {Ix : α → β → γ → δ → IMap} {Lx : α → β → γ → δ → LL} {Hx : α → β → γ → δ → List Res} {p : α → β → γ → δ → Prop} {μ : α → β → γ → δ → Nat} {x : α} {y : β} {z : γ} {t : δ} (x' : α) (y' : β) (z' : γ) (t' : δ) (hp : p x' y' z' t') (hμ : μ x' y' z' t' < μ x y z t)
    (hI : Ix x' y' z' t' = I) (hL : Sub (Lx x' y' z' t') L) (hH : Hx x' y' z' t' = H) : SX n E I L H (NextS4 n E Ix Lx Hx p μ x y z t) :=
  fun a w s m => ⟨x', y', z', t', hp, hμ, s.sub hL, by rw [hI, hH]; exact m⟩
def NextS5 (n : Sz) (E : Ent) (Ix : α → β → γ → δ → ε → IMap) (Lx : α → β → γ → δ → ε → LL) (Hx : α → β → γ → δ → ε → List Res) (p : α → β → γ → δ → ε → Prop) (μ : α → β → γ → δ → ε → Nat) (x : α) (y : β) (z : γ) (t : δ) (u : ε) : Act → World → Prop :=
  fun a w => ∃ x' y' z' t' u', p x' y' z' t' u' ∧ μ x' y' z' t' u' < μ x y z t u ∧ St n a (Lx x' y' z' t' u') ∧ Mem E (Ix x' y' z' t' u') (Hx x' y' z' t' u') w
theorem c_loop5 (x0 : α) (y0 : β) (z0 : γ) (t0 : δ) (u0 : ε) (Ix : α → β → γ → δ → ε → IMap) (Lx : α → β → γ → δ → ε → LL) (Hx : α → β → γ → δ → ε → List Res) (p : α → β → γ → δ → ε → Prop) (μ : α → β → γ → δ → ε → Nat) {c : Code}
    (h0 : p x0 y0 z0 t0 u0) (hI : Ix x0 y0 z0 t0 u0 = I) (hL : Sub (Lx x0 y0 z0 t0 u0) L) (hH : Hx x0 y0 z0 t0 u0 = H)
    (round : ∀ x y z t u, p x y z t u → SX n E (Ix x y z t u) (Lx x y z t u) (Hx x y z t u) (c.wq ρ P (Exit.then (NextS5 n E Ix Lx Hx p μ x y z t u) Q))) : SX n E I L H ((Code.loop c).wq ρ P Q) :=
  c_loop (α := α × β × γ × δ × ε) (x0, y0, z0, t0, u0) (fun q => Ix q.1 q.2.1 q.2.2.1 q.2.2.2.1 q.2.2.2.2) (fun q => Lx q.1 q.2.1 q.2.2.1 q.2.2.2.1 q.2.2.2.2) (fun q => Hx q.1 q.2.1 q.2.2.1 q.2.2.2.1 q.2.2.2.2) (fun q => p q.1 q.2.1 q.2.2.1 q.2.2.2.1 q.2.2.2.2) (fun q => μ q.1 q.2.1 q.2.2.1 q.2.2.2.1 q.2.2.2.2) h0 hI hL hH
    fun ⟨x, y, z, t, u⟩ hp => sx_mono (round x y z t u hp) fun a w h => cwq_mono (fun e a w q => by
      cases e with
      | normal => obtain ⟨x', y', z', t', u', h1, h2, h3, h4⟩ := q; exact ⟨(x', y', z', t', u'), h1, h2, h3, h4⟩
      | _ => exact q) h
theorem q_next5 {Ix : α → β → γ → δ → ε → IMap} {Lx : α → β → γ → δ → ε → LL} {Hx : α → β → γ → δ → ε → List Res} {p : α → β → γ → δ → ε → Prop} {μ : α → β → γ → δ → ε → Nat} {x : α} {y : β} {z : γ} {t : δ} {u : ε} (x' : α) (y' : β) (z' : γ) (t' : δ) (u' : ε) (hp : p x' y' z' t' u') (hμ : μ x' y' z' t' u' < μ x y z t u)
    (hI : Ix x' y' z' t' u' = I) (hL : Sub (Lx x' y' z' t' u') L) (hH : Hx x' y' z' t' u' = H) : SX n E I L H (NextS5 n E Ix Lx Hx p μ x y z t u) :=
  fun a w s m => ⟨x', y', z', t', u', hp, hμ, s.sub hL, by rw [hI, hH]; exact m⟩
end
section
variable {P : Program} {n : Sz} {E : Ent} {I : IMap} {L : LL} {Q : Exit → Act → World → Prop} {ops : Array Oper} {K : Act → World → Prop} {d ty : Nat} {pos : String} {af : Array Edge}
variable {α : Type} {l : Nat} {rd : IMap → List Value → α → Prop} {ok : List α → α → Prop} {J : Bool → List α → IMap → List Res → Prop} {Hc : List Res} {fo : Operand} {as_ : List Operand} {ats : Array TypeId} {vs : List Value} {pre : List α} {r1 r2 r3 r4 r5 : Res}
end
section
variable {P : Program} {n : Sz} {E : Ent} {I I' : IMap} {L : LL} {H : List Res} {Q : Exit → Act → World → Prop} {ops : Array Oper} {K : Act → World → Prop} {w0 : World}
variable {d ty : Nat} {pos : String} {af : Array Edge} {fo : Operand} {as_ : List Operand} {ats : Array TypeId} {f : FuncId} {args : List Value} {r : Res} {X : List Nat}
/-- a resource goes in, a value and grown memory come out -/
def FnD (P : Program) (f : FuncId) (args : Array Value) (I : IMap) (r : Res) (p : Value → IMap → Prop) : Prop := FnH P f args I [r] fun u I' H' => p u I' ∧ H' = []
theorem o_callD {p : Value → IMap → Prop} (hc : FnD P f args.toArray I r p) (h : callArgs L fo as_ = some (f, args)) (hd : Nat.blt d n.sz = true) (k : ∀ v I', ILe I I' → p v I' → SX n E I' ((d, v) :: L) H K) :
    SX n E I L (r :: H) (one P ops Q ⟨some d, .call { callee := .value fo, args := as_.toArray, argTypes := ats }, ty, pos, af, none⟩ K) :=
  o_callH (Hc := [r]) hc h hd fun v I' H' hI hp => by obtain ⟨h1, rfl⟩ := hp; exact k v I' hI h1
theorem q_d {v : Value} {p : Value → IMap → Prop} (h : p v I) : SX n E I L H fun _ w => Post E (fun u' I' H' => p u' I' ∧ H' = []) (.returned v) w := q_i h
end
section
variable {n : Sz} {E : Ent} {I : IMap} {L : LL} {H : List Res} {K : Act → World → Prop} {a b r1 r2 r3 r4 r5 r6 r7 r8 r9 : Res}
end
theorem sx_roweq {n : Sz} {E : Ent} {I : IMap} {L : LL} {H : List Res} {K : Act → World → Prop} {v : Value} {t k m : Nat} {xs ys : List Value} (h : xs = ys) (hk : SX n E I L (.row v t k m ys :: H) K) : SX n E I L (.row v t k m xs :: H) K := h ▸ hk
section
variable {P : Program} {n : Sz} {E : Ent} {I : IMap} {L : LL} {H : List Res} {d ty tx tyy : Nat} {pos : String} {af : Array Edge} {x y : Operand}
end
end Go.Sx

/- The course of events in plain Lean: states one after the other; deleting in place. -/
set_option linter.all false
namespace Go.Sx
open Go
theorem idxF_ge {α : Type} (p : α → Bool) (l : List α) : -1 ≤ idxF p l := by
  cases h : l.findIdx? p with
  | none => have : idxF p l = -1 := by simp [idxF, h]
            omega
  | some k => have : idxF p l = (k : Int) := by simp [idxF, h]
              omega
theorem idxF_pos {α : Type} {p : α → Bool} {l : List α} {i : Nat} (h : idxF p l = (i : Int)) (hi : i < l.length) : p l[i] = true ∧ ∀ j x, j < i → l[j]? = some x → p x = false := by
  cases hf : l.findIdx? p with
  | none => have : idxF p l = -1 := by simp [idxF, hf]
            omega
  | some k =>
    have : idxF p l = (k : Int) := by simp [idxF, hf]
    obtain rfl : k = i := by omega
    rw [List.findIdx?_eq_some_iff_getElem] at hf
    obtain ⟨h1, h2, h3⟩ := hf
    exact ⟨h2, fun j x hj hx => by obtain ⟨hlt, rfl⟩ := List.getElem?_eq_some_iff.1 hx; simpa using h3 j hj⟩
/-- what lies in front of a place that is written, what is read behind it -/
structure Del (p : Evt → Bool) (l m : List Evt) (i j : Nat) : Prop where
  len : m.length = l.length
  le : i ≤ j
  hj : j ≤ l.length
  fst : m.take i = (l.take j).filter fun x => !p x
  rest : m.drop j = l.drop j
theorem Del.start {p : Evt → Bool} {l : List Evt} {i : Nat} (hi : i < l.length) (hp : p l[i] = true) (hn : ∀ j x, j < i → l[j]? = some x → p x = false) : Del p l l i (i + 1) := by
  refine ⟨rfl, by omega, by omega, ?_, rfl⟩
  rw [← take_succ_of hi, List.filter_append]
  have h1 : (l.take i).filter (fun x => !p x) = l.take i := by
    rw [List.filter_eq_self]
    intro x hx
    obtain ⟨j, hj, rfl⟩ := List.getElem_of_mem hx
    simp only [List.length_take] at hj
    rw [List.getElem_take, hn j _ (by omega) (List.getElem?_eq_getElem (by omega))]
    rfl
  rw [h1]
  simp [hp]
theorem Del.at_ {p : Evt → Bool} {l m : List Evt} {i j : Nat} (h : Del p l m i j) (hj : j < l.length) : m[j]'(by rw [h.len]; exact hj) = l[j] := by
  have h1 : (m.drop j)[0]? = (l.drop j)[0]? := by rw [h.rest]
  rw [List.getElem?_drop, List.getElem?_drop, List.getElem?_eq_getElem (by rw [h.len]; simpa using hj), List.getElem?_eq_getElem (by simpa using hj)] at h1
  simpa using h1
theorem Del.skip {p : Evt → Bool} {l m : List Evt} {i j : Nat} (h : Del p l m i j) (hj : j < l.length) (hp : p l[j] = true) : Del p l m i (j + 1) := by
  refine ⟨h.len, by have := h.le; omega, by omega, ?_, ?_⟩
  · rw [h.fst, ← take_succ_of hj, List.filter_append]; simp [hp]
  · have := congrArg (List.drop 1) h.rest; simpa [List.drop_drop] using this
theorem Del.keep {p : Evt → Bool} {l m : List Evt} {i j : Nat} (h : Del p l m i j) (hj : j < l.length) (hp : p l[j] = false) : Del p l (m.set i l[j]) (i + 1) (j + 1) := by
  have hl := h.len
  have hle := h.le
  refine ⟨by simp [hl], by omega, by omega, ?_, ?_⟩
  · rw [List.take_succ_eq_append_getElem (by simp; omega), List.take_set_of_le (Nat.le_refl _), h.fst, ← take_succ_of hj, List.filter_append]
    simp [hp]
  · rw [List.drop_set_of_lt (by omega)]
    have := congrArg (List.drop 1) h.rest; simpa [List.drop_drop] using this
/-- the states after the events, until one is not possible -/
def statesF (c : List Kind) : List Part → List Evt → List Res2
  | _, [] => []
  | s, e :: r => applyF c s e :: (if (applyF c s e).2 = 0 then statesF c (applyF c s e).1 r else [])
abbrev Res3 := List Part × Int × Int
/-- a round of the iterator -/
structure StAt (c : List Kind) (l : List Evt) (i : Nat) (st : List Part) : Prop where
  le : i ≤ (statesF c [] l).length
  rest : (statesF c [] l).drop i = statesF c st (l.drop i)
theorem StAt.zero (c : List Kind) (l : List Evt) : StAt c l 0 [] := ⟨Nat.zero_le _, rfl⟩
theorem StAt.step {c : List Kind} {l : List Evt} {i : Nat} {st : List Part} (h : StAt c l i st) (hi : i < l.length) :
    (statesF c [] l).take i ++ [applyF c st l[i]] = (statesF c [] l).take (i + 1) ∧ i < (statesF c [] l).length ∧ ((applyF c st l[i]).2 = 0 → StAt c l (i + 1) (applyF c st l[i]).1) ∧ ((applyF c st l[i]).2 ≠ 0 → (statesF c [] l).take (i + 1) = statesF c [] l) := by
  have h1 := h.rest
  rw [List.drop_eq_getElem_cons hi] at h1
  simp only [statesF] at h1
  have hlt : i < (statesF c [] l).length := by
    rcases Nat.lt_or_ge i (statesF c [] l).length with h2 | h2
    · exact h2
    · rw [List.drop_eq_nil_of_le h2] at h1; cases h1
  rw [List.drop_eq_getElem_cons hlt] at h1
  simp only [List.cons.injEq] at h1
  refine ⟨?_, hlt, fun h0 => ⟨hlt, ?_⟩, fun h0 => ?_⟩
  · rw [← h1.1, take_succ_of hlt]
  · rw [h1.2, if_pos h0]
  · refine List.take_of_length_le ?_
    have h2 := h1.2
    rw [if_neg h0] at h2
    simpa using h2
theorem StAt.last {c : List Kind} {l : List Evt} {i : Nat} {st : List Part} (h : StAt c l i st) (hi : l.length ≤ i) : (statesF c [] l).take i = statesF c [] l := by
  have h1 := h.rest
  rw [List.drop_eq_nil_of_le hi] at h1
  exact List.take_of_length_le (by simpa [statesF] using h1)
/-! small names stay small -/
theorem SmF.nil : SmF [] := fun _ h => by cases h
theorem putL_mem {α : Type} {nm : α → ByteArray} {l : List α} {x y : α} (h : y ∈ putL nm l x) : y = x ∨ y ∈ l := by
  unfold putL at h
  split at h
  · rcases List.mem_or_eq_of_mem_set h with h | h
    · exact .inr h
    · exact .inl h
  · rcases List.mem_append.1 h with h | h
    · exact .inr (List.mem_of_mem_take h)
    · rcases List.mem_cons.1 h with h | h
      · exact .inl h
      · exact .inr (List.mem_of_mem_drop h)
theorem putR_sm {l : List Part} {p : Part} (h : SmF l) (hp : SmP p) : SmF (putR l p).1 := fun q hq => by
  rcases putL_mem (show q ∈ putL Part.name l p from hq) with rfl | hq
  · exact hp
  · exact h q hq
theorem applyF_sm {c : List Kind} {l : List Part} {e : Evt} (h : SmF l) (he : SmE e) : SmF (applyF c l e).1 := by
  have hz : SmP zPart := ⟨(by show (0 : Nat) ≤ _; omega), fun q hq => by simp [zPart] at hq⟩
  have hp : SmP (partP l e) := by
    unfold partP
    cases hf : findP l e.part with
    | none => exact hz
    | some p => exact h p (find_mem hf)
  have hn : SmP (noted e (partP l e)) := ⟨hp.1, fun q hq => by
    rcases putL_mem (show q ∈ putL Prp.key (partP l e).props ⟨e.key, e.value⟩ from hq) with rfl | hq
    · exact he.2.2.2.2.1
    · exact hp.2 q hq⟩
  have hnew : SmP (newP e) := ⟨he.1, fun q hq => by simp [newP] at hq⟩
  have hfail : ∀ k, SmF (failR k).1 := fun k => SmF.nil
  unfold applyF
  split
  · exact hfail 1
  · split
    · unfold applyMake
      repeat' split
      all_goals first
        | exact hfail _
        | exact putR_sm h hnew
    · unfold applyRest
      split
      · exact hfail _
      · split
        · exact hfail _
        · unfold applyOp applyFit applyRemove applyRun applyNote applyScrap
          repeat' split
          all_goals first
            | exact hfail _
            | exact putR_sm h hp
            | exact putR_sm h hn
            | exact putR_sm h ⟨hp.1, hp.2⟩
end Go.Sx

/- Lists in strict order of a name: what putting one in does. -/
set_option linter.all false
namespace Go.Sx
open Go
section
variable {α : Type} {nm : α → ByteArray}
def Inc (nm : α → ByteArray) (l : List α) : Prop := l.Pairwise fun x y => sLt (nm x) (nm y) = true
theorem inc_of {l : List α} (h : Srt nm l) : Inc nm l := by
  rw [Inc, List.pairwise_iff_getElem]
  exact fun i j hi hj hij => h i j hj hij
/-- a list parted at a name -/
structure Cut (nm : α → ByteArray) (s : ByteArray) (a b : List α) : Prop where
  lo : ∀ y ∈ a, sLt (nm y) s = true
  hi : ∀ y ∈ b, sLt s (nm y) = true
theorem cut_of (l : List α) (s : ByteArray) (h : Inc nm l) : (∃ a b, l = a ++ b ∧ Cut nm s a b) ∨ ∃ a y b, l = a ++ y :: b ∧ nm y = s ∧ Cut nm s a b := by
  induction l with
  | nil => exact .inl ⟨[], [], rfl, fun _ h => (by cases h), fun _ h => (by cases h)⟩
  | cons x r ih =>
    have h' := List.pairwise_cons.1 h
    cases hx : sLt (nm x) s with
    | true =>
      rcases ih h'.2 with ⟨a, b, rfl, hc⟩ | ⟨a, y, b, rfl, hy, hc⟩
      · exact .inl ⟨x :: a, b, rfl, fun y hy => by rcases List.mem_cons.1 hy with rfl | hy; exact hx; exact hc.lo y hy, hc.hi⟩
      · exact .inr ⟨x :: a, y, b, rfl, hy, fun y hy => by rcases List.mem_cons.1 hy with rfl | hy; exact hx; exact hc.lo y hy, hc.hi⟩
    | false =>
      by_cases he : nm x = s
      · subst he
        exact .inr ⟨[], x, r, rfl, rfl, fun _ h => (by cases h), fun y hy => h'.1 y hy⟩
      · have hs : sLt s (nm x) = true := by
          cases hs : sLt s (nm x) with
          | true => rfl
          | false => exact absurd (sLt_tri hx hs) he
        exact .inl ⟨[], x :: r, rfl, fun _ h => (by cases h), fun y hy => by
          rcases List.mem_cons.1 hy with rfl | hy
          · exact hs
          · exact sLt_trans hs (h'.1 y hy)⟩
theorem pos_cut {a b : List α} {s : ByteArray} (hc : Cut nm s a b) : posF nm (a ++ b) s = a.length := by
  refine pos_eq (by simp) (fun q x hq hx => ?_) fun q x hq hx => ?_
  · rw [List.getElem?_append_left hq] at hx
    exact hc.lo x (List.mem_of_getElem? hx)
  · rw [List.getElem?_append_right hq] at hx
    exact sLt_asymm (hc.hi x (List.mem_of_getElem? hx))
theorem pos_cut1 {a b : List α} {y : α} {s : ByteArray} (hc : Cut nm s a b) (hy : nm y = s) : posF nm (a ++ y :: b) s = a.length := by
  refine pos_eq (by simp) (fun q x hq hx => ?_) fun q x hq hx => ?_
  · rw [List.getElem?_append_left hq] at hx
    exact hc.lo x (List.mem_of_getElem? hx)
  · rw [List.getElem?_append_right hq] at hx
    rcases List.mem_cons.1 (List.mem_of_getElem? hx) with rfl | hx
    · rw [hy]; exact sLt_irrefl s
    · exact sLt_asymm (hc.hi x hx)
theorem at_cut {a b : List α} {s : ByteArray} (hc : Cut nm s a b) : atF nm (a ++ b) s = false := by
  unfold atF
  rw [pos_cut hc]
  cases b with
  | nil => simp
  | cons y r =>
    rw [List.getElem?_append_right (Nat.le_refl _), Nat.sub_self]
    simp only [List.getElem?_cons_zero, decide_eq_false_iff_not]
    rintro rfl
    have := hc.hi y (by simp)
    rw [sLt_irrefl] at this; cases this
theorem at_cut1 {a b : List α} {y : α} {s : ByteArray} (hc : Cut nm s a b) (hy : nm y = s) : atF nm (a ++ y :: b) s = true := by
  unfold atF
  rw [pos_cut1 hc hy, List.getElem?_append_right (Nat.le_refl _), Nat.sub_self]
  simp [hy]
theorem put_cut {a b : List α} {x : α} (hc : Cut nm (nm x) a b) : putL nm (a ++ b) x = a ++ x :: b := by
  unfold putL
  rw [at_cut hc, pos_cut hc, if_neg (by decide)]
  simp
theorem put_cut1 {a b : List α} {x y : α} (hc : Cut nm (nm x) a b) (hy : nm y = nm x) : putL nm (a ++ y :: b) x = a ++ x :: b := by
  unfold putL
  rw [at_cut1 hc hy, pos_cut1 hc hy, if_pos rfl]
  simp
theorem inc_mid {a b : List α} {x : α} (ha : Inc nm a) (hb : Inc nm b) (hc : Cut nm (nm x) a b) : Inc nm (a ++ x :: b) := by
  rw [Inc, List.pairwise_append, List.pairwise_cons]
  exact ⟨ha, ⟨hc.hi, hb⟩, fun y hy z hz => by
    rcases List.mem_cons.1 hz with rfl | hz
    · exact hc.lo y hy
    · exact sLt_trans (hc.lo y hy) (hc.hi z hz)⟩
theorem put_inc {l : List α} (x : α) (h : Inc nm l) : Inc nm (putL nm l x) := by
  rcases cut_of l (nm x) h with ⟨a, b, rfl, hc⟩ | ⟨a, y, b, rfl, hy, hc⟩
  · rw [put_cut hc]
    rw [Inc, List.pairwise_append] at h
    exact inc_mid h.1 h.2.1 hc
  · rw [put_cut1 hc hy]
    rw [Inc, List.pairwise_append, List.pairwise_cons] at h
    exact inc_mid h.1 h.2.1.2 hc
theorem cut_ne {a b : List α} {s : ByteArray} (hc : Cut nm s a b) {y : α} (hy : y ∈ a ∨ y ∈ b) : nm y ≠ s := by
  rintro rfl
  rcases hy with hy | hy
  · have := hc.lo y hy; rw [sLt_irrefl] at this; cases this
  · have := hc.hi y hy; rw [sLt_irrefl] at this; cases this
theorem put_mem {l : List α} {x z : α} (h : Inc nm l) : z ∈ putL nm l x ↔ z = x ∨ (z ∈ l ∧ nm z ≠ nm x) := by
  rcases cut_of l (nm x) h with ⟨a, b, rfl, hc⟩ | ⟨a, y, b, rfl, hy, hc⟩
  · rw [put_cut hc]
    simp only [List.mem_append, List.mem_cons]
    constructor
    · rintro (h | h | h)
      · exact .inr ⟨.inl h, cut_ne hc (.inl h)⟩
      · exact .inl h
      · exact .inr ⟨.inr h, cut_ne hc (.inr h)⟩
    · rintro (h | ⟨h | h, _⟩)
      · exact .inr (.inl h)
      · exact .inl h
      · exact .inr (.inr h)
  · rw [put_cut1 hc hy]
    simp only [List.mem_append, List.mem_cons]
    constructor
    · rintro (h | h | h)
      · exact .inr ⟨.inl h, cut_ne hc (.inl h)⟩
      · exact .inl h
      · exact .inr ⟨.inr (.inr h), cut_ne hc (.inr h)⟩
    · rintro (h | ⟨h | h | h, hn⟩)
      · exact .inr (.inl h)
      · exact .inl h
      · subst h; exact absurd hy hn
      · exact .inr (.inr h)
theorem inc_uniq {l : List α} (h : Inc nm l) {x y : α} (hx : x ∈ l) (hy : y ∈ l) (he : nm x = nm y) : x = y := by
  obtain ⟨i, hi, rfl⟩ := List.getElem_of_mem hx
  obtain ⟨j, hj, rfl⟩ := List.getElem_of_mem hy
  rw [Inc, List.pairwise_iff_getElem] at h
  rcases Nat.lt_trichotomy i j with hij | rfl | hij
  · have := h i j hi hj hij; rw [he, sLt_irrefl] at this; cases this
  · rfl
  · have := h j i hj hi hij; rw [he, sLt_irrefl] at this; cases this
theorem inc_ext : ∀ {l m : List α}, Inc nm l → Inc nm m → (∀ x, x ∈ l ↔ x ∈ m) → l = m
  | [], [], _, _, _ => rfl
  | [], y :: m, _, _, h => by have := (h y).2 (by simp); cases this
  | x :: l, [], _, _, h => by have := (h x).1 (by simp); cases this
  | x :: l, y :: m, h1, h2, h => by
    have h1' := List.pairwise_cons.1 h1
    have h2' := List.pairwise_cons.1 h2
    have hxy : x = y := by
      rcases List.mem_cons.1 ((h x).1 (by simp)) with e | hx
      · exact e
      · rcases List.mem_cons.1 ((h y).2 (by simp)) with e | hy
        · exact e.symm
        · have a := h2'.1 x hx
          have b := h1'.1 y hy
          have := sLt_trans a b
          rw [sLt_irrefl] at this; cases this
    subst hxy
    congr 1
    refine inc_ext h1'.2 h2'.2 fun z => ?_
    have hz := h z
    simp only [List.mem_cons] at hz
    constructor
    · intro hzl
      rcases hz.1 (.inr hzl) with rfl | hm
      · have := h1'.1 z hzl; rw [sLt_irrefl] at this; cases this
      · exact hm
    · intro hzm
      rcases hz.2 (.inr hzm) with rfl | hm
      · have := h2'.1 z hzm; rw [sLt_irrefl] at this; cases this
      · exact hm
theorem put_comm {l : List α} {x y : α} (h : Inc nm l) (hn : nm x ≠ nm y) : putL nm (putL nm l x) y = putL nm (putL nm l y) x := by
  refine inc_ext (put_inc y (put_inc x h)) (put_inc x (put_inc y h)) fun z => ?_
  rw [put_mem (put_inc x h), put_mem h, put_mem (put_inc y h), put_mem h]
  constructor
  · rintro (rfl | ⟨rfl | ⟨h1, h2⟩, h3⟩)
    · exact .inr ⟨.inl rfl, fun e => hn e.symm⟩
    · exact .inl rfl
    · exact .inr ⟨.inr ⟨h1, h3⟩, h2⟩
  · rintro (rfl | ⟨rfl | ⟨h1, h2⟩, h3⟩)
    · exact .inr ⟨.inl rfl, hn⟩
    · exact .inl rfl
    · exact .inr ⟨.inr ⟨h1, h3⟩, h2⟩
theorem find_inc {l : List α} (h : Inc nm l) {x : α} (hx : x ∈ l) : l.find? (fun y => decide (nm y = nm x)) = some x := by
  cases hf : l.find? fun y => decide (nm y = nm x) with
  | none =>
    rw [List.find?_eq_none] at hf
    have := hf x hx
    simp at this
  | some y =>
    have h1 := List.mem_of_find?_eq_some hf
    have h2 := List.find?_some hf
    rw [inc_uniq h h1 hx (by simpa using h2)]
theorem find_iff {l : List α} (h : Inc nm l) {s : ByteArray} {x : α} : l.find? (fun y => decide (nm y = s)) = some x ↔ x ∈ l ∧ nm x = s := by
  constructor
  · intro hf
    exact ⟨List.mem_of_find?_eq_some hf, by simpa using List.find?_some hf⟩
  · rintro ⟨hx, rfl⟩; exact find_inc h hx
theorem find_none {l : List α} {s : ByteArray} : l.find? (fun y => decide (nm y = s)) = none ↔ ∀ x ∈ l, nm x ≠ s := by
  rw [List.find?_eq_none]; simp
theorem at_find {l : List α} (h : Inc nm l) (s : ByteArray) : atF nm l s = (l.find? fun y => decide (nm y = s)).isSome := by
  rcases cut_of l s h with ⟨a, b, rfl, hc⟩ | ⟨a, y, b, rfl, hy, hc⟩
  · rw [at_cut hc]
    have : (a ++ b).find? (fun y => decide (nm y = s)) = none := find_none.2 fun x hx => cut_ne hc (List.mem_append.1 hx)
    rw [this]; rfl
  · rw [at_cut1 hc hy]
    have : (a ++ y :: b).find? (fun y => decide (nm y = s)) = some y := (find_iff h).2 ⟨by simp, hy⟩
    rw [this]; rfl
theorem put_same {l : List α} {x : α} (h : Inc nm l) (hx : x ∈ l) : putL nm l x = l :=
  inc_ext (put_inc x h) h fun z => by
    rw [put_mem h]
    constructor
    · rintro (rfl | ⟨h1, _⟩)
      · exact hx
      · exact h1
    · intro hz
      by_cases e : nm z = nm x
      · exact .inl (inc_uniq h hz hx e)
      · exact .inr ⟨hz, e⟩
end
end Go.Sx

/- What the laws of the course rest on, in plain Lean. -/
set_option linter.all false
namespace Go.Sx
open Go
theorem fewC_sm {c : List Kind} (h : fewC c = true) : SmC c := by
  simp only [fewC, Bool.and_eq_true, Bool.not_eq_true', decide_eq_false_iff_not] at h
  intro k hk
  obtain ⟨_, h1⟩ := allP_mem h.2 hk
  simp only [fewKind, Bool.and_eq_true, Bool.not_eq_true', Bool.or_eq_false_iff, decide_eq_false_iff_not] at h1
  refine ⟨by unfold Sm; omega, fun s hs => ?_⟩
  obtain ⟨_, h2⟩ := allP_mem h1.2 hs
  simp only [fewSlot, Bool.and_eq_true, Bool.not_eq_true', Bool.or_eq_false_iff, decide_eq_false_iff_not] at h2
  refine ⟨by unfold Sm; omega, fun q hq => ?_⟩
  obtain ⟨_, h3⟩ := allP_mem h2.2 hq
  simp only [Bool.not_eq_true', decide_eq_false_iff_not] at h3
  unfold Sm; omega
/-! the example -/
def nCoach : ByteArray := ⟨#[99, 111, 97, 99, 104]⟩
def nV1 : ByteArray := ⟨#[118, 49]⟩
end Go.Sx

/- The laws of the course in plain Lean. -/
set_option linter.all false
namespace Go.Sx
open Go
/-! the order -/
section
variable {α : Type} [Day α]
/-- where the elements of a day begin -/
def Beg (s : List α) (a : Nat) : Prop := ∀ j x y, j < a → s[j]? = some x → s[a]? = some y → Day.day x < Day.day y
theorem Beg.zero (s : List α) : Beg s 0 := fun j x y h => absurd h (Nat.not_lt_zero j)
end
/-! running on -/
/-! what a loop gathers -/
/-! both catalogs -/
theorem name_same (s : ByteArray) : nameOk s = nameRef s := by
  rw [Bool.eq_iff_iff]
  simp only [nameOk, nameRef, Bool.and_eq_true, Bool.not_eq_true', decide_eq_false_iff_not, decide_eq_true_eq, charsTo, wordsTo, List.all_eq_true, List.mem_range, nameChar, isWord, Bool.or_eq_true]
  have he : s = ⟨#[]⟩ ↔ s.size = 0 := by
    constructor
    · rintro rfl; rfl
    · intro h
      cases s with | mk d => congr 1; exact Array.eq_empty_of_size_eq_zero h
  constructor
  · rintro ⟨h1, h2, h3⟩
    have hp : 0 < s.size := by rcases Nat.eq_zero_or_pos s.size with h | h; · exact absurd (he.2 h) h2
                               · exact h
    refine ⟨fun i hi => ?_, ⟨by omega, h3⟩, ?_⟩
    · rcases h1 i hi with h | ⟨_, h | h⟩
      · exact .inl (.inl h)
      · exact .inl (.inr h)
      · exact .inr h
    · rcases h1 0 hp with h | ⟨h, _⟩
      · exact h
      · exact absurd rfl h
  · rintro ⟨h1, ⟨h2, h3⟩, h4⟩
    refine ⟨fun i hi => ?_, fun h => by have := he.1 h; omega, h3⟩
    by_cases h0 : i = 0
    · subst h0; exact .inl h4
    · rcases h1 i hi with (h | h) | h
      · exact .inl h
      · exact .inr ⟨h0, .inl h⟩
      · exact .inr ⟨h0, .inr h⟩
theorem hit_id (ks : List ByteArray) (n : ByteArray) : hit id ks n = decide (n ∈ ks) := by
  rw [hit_eq, Bool.eq_iff_iff, List.any_eq_true, decide_eq_true_eq]
  constructor
  · rintro ⟨x, hx, he⟩; obtain rfl : x = n := by simpa using he
    exact hx
  · intro h; exact ⟨n, h, by simp⟩
theorem hit_map {α : Type} (nm : α → ByteArray) (l : List α) (s : ByteArray) : hit nm l s = decide (s ∈ l.map nm) := by
  rw [hit_eq, Bool.eq_iff_iff, List.any_eq_true, decide_eq_true_eq, List.mem_map]
  constructor
  · rintro ⟨x, hx, he⟩; exact ⟨x, hx, by simpa using he⟩
  · rintro ⟨x, hx, he⟩; exact ⟨x, hx, by simp [he]⟩
theorem kindIn_same (pre : List Kind) (ks : List ByteArray) (n : ByteArray) : kindIn pre ks n = kindInR pre ks n := by
  unfold kindIn kindInR
  rw [hit_id]
  have h : hitV Kind.name (fun k => !k.vehicle) pre n = ((findK pre n).isSome && !((findK pre n).getD zKind).vehicle) := by
    unfold hitV findK
    cases pre.find? fun k => decide (k.name = n) <;> rfl
  rw [h]
  cases decide (n ∈ ks) <;> cases (findK pre n).isSome <;> cases ((findK pre n).getD zKind).vehicle <;> rfl
theorem slotFine_same (pre : List Kind) (sl : List Slot) (s : Slot) : slotFine pre sl s = slotFineR pre sl s := by
  unfold slotFine slotFineR slotR
  rw [hit_map, name_same, show kindIn pre = kindInR pre from funext fun ks => funext fun n => kindIn_same pre ks n]
  cases decide (s.name ∈ sl.map Slot.name) <;> cases nameRef s.name <;> cases decide (s.normal < 1) <;> cases decide ((s.kinds.length : Int) < s.normal) <;> cases allP (kindInR pre) s.kinds s.kinds.length <;> rfl
theorem kindFine_same (pre : List Kind) (k : Kind) : kindFine pre k = kindFineR pre k := by
  unfold kindFine kindFineR
  rw [name_same, show slotFine pre = slotFineR pre from funext fun sl => funext fun s => slotFine_same pre sl s]
  rfl
theorem valid_same (c : List Kind) : validC c = validR c := by
  unfold validC validR
  rw [show kindFine = kindFineR from funext fun pre => funext fun k => kindFine_same pre k, Bool.and_comm]
  congr 1
  rw [Bool.eq_iff_iff]
  simp
end Go.Sx

/- What the references of catalog, event, fleet and course compute, in plain Lean: the same as_ the program. -/
set_option linter.all false
namespace Go.Sx
open Go
theorem allP_and {α : Type} {f g : List α → α → Bool} (l : List α) (n : Nat) : allP (fun p x => f p x && g p x) l n = (allP f l n && allP g l n) := by
  rw [Bool.eq_iff_iff, Bool.and_eq_true]
  simp only [allP, List.all_eq_true, List.mem_range]
  constructor
  · intro h
    refine ⟨fun i hi => ?_, fun i hi => ?_⟩ <;>
    · have := h i hi
      revert this
      cases l[i]? with
      | none => simp
      | some x => intro h; simp_all
  · rintro ⟨h1, h2⟩ i hi
    have h3 := h1 i hi
    have h4 := h2 i hi
    revert h3 h4
    cases l[i]? with
    | none => simp
    | some x => intro h3 h4; simp_all
theorem row_one {h : Option Nat → Option Obj} {v : Value} {t : TypeId} {k n : Nat} {xs : List Value} (hr : IsRow h v t k n xs) : v.oneCell' = true := by
  obtain ⟨_, ⟨rfl, _⟩ | ⟨g, cap, cur, rfl, _⟩⟩ := hr <;> rfl
theorem row_all {v : Value} (h : v.oneCell' = true) : ([v] : List Value).all (·.oneCell') = true := by simp [h]
theorem sx_row1 {n : Sz} {E : Ent} {I : IMap} {L : LL} {H : List Res} {K : Act → World → Prop} {v : Value} {t k m : Nat} {xs : List Value} (h : v.oneCell' = true → SX n E I L (.row v t k m xs :: H) K) : SX n E I L (.row v t k m xs :: H) K :=
  sx_know (p := v.oneCell' = true) (fun w mm => row_one (mm.holds (.row v t k m xs) (List.mem_cons_self ..))) h
/-! events -/
def ivlR (i : Ivl) : Bool := (decide (0 ≤ i.low) && decide (i.low ≤ i.high)) && decide (i.high ≤ 1000000)
theorem ivlR_eq (i : Ivl) : ivlR i = ivlOk i := by
  unfold ivlR ivlOk; rw [Bool.eq_iff_iff]; simp
def useR (u : Use) : Bool := (ivlR u.km && ivlR u.cycles) && ivlR u.load
theorem useR_eq (u : Use) : useR u = useTo u 3 := by
  simp only [useR, useTo, ivlR_eq]
  simp [List.range_succ, useAt, Bool.and_assoc]
def baseR (e : Evt) : Evt := ⟨e.op, e.day, e.part, nil8, nil8, nil8, nil8, nil8, zUse⟩
def keepR (e : Evt) : Evt :=
  if e.op = 1 then { baseR e with kind := e.kind } else if e.op = 2 then { baseR e with into := e.into, slot := e.slot } else if e.op = 4 then { baseR e with use := e.use } else if e.op = 6 then { baseR e with key := e.key, value := e.value } else baseR e
def goodR (e : Evt) : Bool :=
  if e.op = 1 then nameRef e.kind else if e.op = 2 then (nameRef e.into && nameRef e.slot) && !decide (e.into = e.part) else if e.op = 4 then useR e.use else if e.op = 6 then (nameRef e.key && decide ((1 : Int) ≤ (e.value.size : Nat))) && decide (((e.value.size : Nat) : Int) ≤ 200) else true
def evBadR (e : Evt) : Bool := (((decide (e.op < 1) || decide (7 < e.op)) || decide (e.day < 0)) || decide (40000 < e.day)) || !nameRef e.part
def validER (e : Evt) : Bool := !evBadR e && (goodR e && decide (keepR e = e))
theorem size_nil {s : ByteArray} : s = nil8 ↔ s.size = 0 := by
  constructor
  · rintro rfl; rfl
  · intro h
    cases s with | mk d => congr 1; exact Array.eq_empty_of_size_eq_zero h
theorem lt_one (s : ByteArray) : decide (((s.size : Nat) : Int) < 1) = decide (s = nil8) := by
  rw [decide_eq_decide, size_nil]; omega
theorem one_le (s : ByteArray) : decide ((1 : Int) ≤ (s.size : Nat)) = !decide (s = nil8) := by
  rw [← decide_not, decide_eq_decide, size_nil]; omega
theorem le_not (a b : Int) : decide (a ≤ b) = !decide (b < a) := by
  rw [← decide_not, decide_eq_decide]; omega
theorem evBadR_eq (e : Evt) : evBadR e = evBad e := by
  unfold evBadR evBad
  rw [name_same]
  congr 3
  rw [Bool.eq_iff_iff, Bool.or_eq_true, decide_eq_true_eq, decide_eq_true_eq, decide_eq_true_eq, wordOf_empty]
  omega
theorem keep_rest (e : Evt) : decide (keepR e = e) = decide (restOf e = zEvt) := by
  rw [decide_eq_decide]
  unfold keepR restOf baseR zEvt
  obtain ⟨op, day, part, kind, into, slot, key, value, use⟩ := e
  by_cases h1 : op = 1
  · subst h1; simp [eq_comm]
  by_cases h2 : op = 2
  · subst h2; simp [eq_comm]
  by_cases h4 : op = 4
  · subst h4; simp [eq_comm]
  by_cases h6 : op = 6
  · subst h6; simp [eq_comm]
  · simp [h1, h2, h4, h6, eq_comm]
theorem good_op (e : Evt) : goodR e = (!opBad e && !((namesOf e).any fun s => !nameOk s)) := by
  unfold goodR opBad namesOf
  by_cases h1 : e.op = 1
  · simp [h1, name_same]
  by_cases h2 : e.op = 2
  · simp [h2, name_same, Bool.and_comm]
  by_cases h4 : e.op = 4
  · simp [h4, useR_eq]
  by_cases h6 : e.op = 6
  · rw [if_neg h1, if_neg h2, if_neg h4, if_pos h6, if_neg h2, if_pos h6, if_neg h1, if_neg h2, if_pos h6, one_le, le_not]
    simp only [List.any_cons, List.any_nil, name_same]
    cases nameRef e.key <;> cases decide (e.value = nil8) <;> cases decide ((200 : Int) < (e.value.size : Nat)) <;> rfl
  · simp [h1, h2, h4, h6]
theorem validER_eq (e : Evt) : validER e = validE e := by
  unfold validER validE
  rw [evBadR_eq, good_op, keep_rest]
  cases evBad e <;> cases opBad e <;> cases decide (restOf e = zEvt) <;> cases (namesOf e).any fun s => !nameOk s <;> rfl
/-! fleets -/
def notAfter {α : Type} (nm : α → ByteArray) (pre : List α) (x : α) : Bool := match pre.getLast? with | some y => !sLt (nm y) (nm x) | none => false
theorem notAfter_eq {α : Type} (nm : α → ByteArray) (pre : List α) (x : α) : notAfter nm pre x = !ordAt nm pre x := by
  unfold notAfter ordAt; cases pre.getLast? <;> simp
theorem notAfter_at {α : Type} {nm : α → ByteArray} {l : List α} {i : Nat} (h0 : 0 < i) (hi : i < l.length) : notAfter nm (l.take i) l[i] = !sLt (nm (l[i - 1]'(by omega))) (nm l[i]) := by
  have : (l.take i).getLast? = some (l[i - 1]'(by omega)) := by
    rw [List.getLast?_eq_getElem?, List.length_take, Nat.min_eq_left (by omega), List.getElem?_take, if_pos (by omega), List.getElem?_eq_getElem]
  simp only [notAfter, this]
theorem notAfter_zero {α : Type} {nm : α → ByteArray} {l : List α} {i : Nat} (h0 : ¬ 0 < i) (x : α) : notAfter nm (l.take i) x = false := by
  obtain rfl : i = 0 := by omega
  simp [notAfter]
def propR (pre : List Prp) (q : Prp) : Bool := !(((!nameRef q.key || decide (((q.value.size : Nat) : Int) < 1)) || decide ((200 : Int) < (q.value.size : Nat))) || notAfter Prp.key pre q)
theorem propR_eq (pre : List Prp) (q : Prp) : propR pre q = (propOk q && ordAt Prp.key pre q) := by
  unfold propR propOk
  rw [notAfter_eq, name_same]
  rw [lt_one, le_not]
  cases nameRef q.key <;> cases decide (q.value = nil8) <;> cases decide ((200 : Int) < (q.value.size : Nat)) <;> cases ordAt Prp.key pre q <;> rfl
def ownBadR (c : List Kind) (p : Part) : Bool := ((((!(findK c p.kind).isSome || !nameRef p.name) || decide (p.made < 0)) || decide (p.since < p.made)) || decide (40000 < p.since)) || decide ((60 : Int) < (p.props.length : Nat))
def ownR (c : List Kind) (p : Part) : Bool := !ownBadR c p && (allP propR p.props p.props.length && ((lifeOk p.life.km && lifeOk p.life.cycles) && lifeOk p.life.damage))
theorem ownR_eq (c : List Kind) (p : Part) : ownR c p = rightP c p := by
  unfold ownR rightP
  rw [show ownBadR c p = partBad c p by unfold ownBadR partBad; rw [name_same], show propR = (fun pre q => propOk q && ordAt Prp.key pre q) from funext fun pre => funext fun q => propR_eq pre q, allP_and]
  simp only [ordF]
  cases partBad c p <;> cases allP (fun _ q => propOk q) p.props p.props.length <;> cases allP (ordAt Prp.key) p.props p.props.length <;> simp
def clash (p x : Part) : Bool := decide (x.into = p.into) && decide (x.slot = p.slot)
def bad1R (c : List Kind) (pre : List Part) (p : Part) : Bool := (!ownR c p || notAfter Part.name pre p) || !(decide (p.into = nil8) == decide (p.slot = nil8))
def bad2R (c : List Kind) (st : List Part) (p : Part) : Bool := ((!(findP st p.into).isSome || p.scrapped) || ((findP st p.into).getD zPart).scrapped) || !takesF c ((findP st p.into).getD zPart).kind p.slot p.kind
def partR (c : List Kind) (st pre : List Part) (p : Part) : Bool := !bad1R c pre p && (decide (p.into = nil8) || (!bad2R c st p && !pre.any (clash p)))
def validSR (c : List Kind) (st : List Part) : Bool := !(!validR c || decide ((20000 : Int) < (st.length : Nat))) && allP (partR c st) st st.length
theorem hit_clash (p : Part) (h : ¬ p.into = nil8) (pre : List Part) : hit seatOf (seated pre) (seatOf p) = pre.any (clash p) := by
  rw [hit_eq, Bool.eq_iff_iff, List.any_eq_true, List.any_eq_true]
  constructor
  · rintro ⟨x, hx, he⟩
    rw [seated, List.mem_filter] at hx
    refine ⟨x, hx.1, ?_⟩
    simp only [seatOf, Prod.mk.injEq, decide_eq_true_eq] at he
    simp [clash, he.1, he.2]
  · rintro ⟨x, hx, he⟩
    simp only [clash, Bool.and_eq_true, decide_eq_true_eq] at he
    refine ⟨x, ?_, by simp [seatOf, he.1, he.2]⟩
    rw [seated, List.mem_filter]
    exact ⟨hx, by simp [he.1, h]⟩
theorem partR_eq (c : List Kind) (st pre : List Part) (p : Part) : partR c st pre p = (ordAt Part.name pre p && partFine c st pre p) := by
  unfold partR partFine bad1R bad1P
  rw [notAfter_eq, ownR_eq]
  by_cases h : p.into = nil8
  · simp only [h, decide_true]
    cases rightP c p <;> cases ordAt Part.name pre p <;> cases decide (p.slot = nil8) <;> rfl
  · simp only [bad2R, bad2P, hit_clash p h, decide_eq_false h]
    cases rightP c p <;> cases ordAt Part.name pre p <;> cases decide (p.slot = nil8) <;> cases (findP st p.into).isSome <;> cases p.scrapped <;> cases ((findP st p.into).getD zPart).scrapped <;> cases pre.any (clash p) <;> cases takesF c ((findP st p.into).getD zPart).kind p.slot p.kind <;> rfl
theorem validSR_eq (c : List Kind) (st : List Part) : validSR c st = validS c st := by
  unfold validSR validS bad0S
  rw [valid_same, show partR c st = (fun pre p => ordAt Part.name pre p && partFine c st pre p) from funext fun pre => funext fun p => partR_eq c st pre p, allP_and]
  simp only [ordF]
  cases validR c <;> cases decide ((20000 : Int) < (st.length : Nat)) <;> cases allP (ordAt Part.name) st st.length <;> rfl
/-! putting in -/
section
variable {α : Type} (nm : α → ByteArray) (x : α)
def wStep1 (s : List α × Bool) (y : α) : List α × Bool := if (!s.2 && !sLt (nm y) (nm x)) = true then (s.1 ++ [x], true) else s
def wStep (s : List α × Bool) (y : α) : List α × Bool := if nm y = nm x then wStep1 nm x s y else ((wStep1 nm x s y).1 ++ [y], (wStep1 nm x s y).2)
def wF (l : List α) : List α × Bool := l.foldl (wStep nm x) ([], false)
def withF (l : List α) : List α := if (wF nm x l).2 = true then (wF nm x l).1 else (wF nm x l).1 ++ [x]
variable {nm x}
theorem wF_succ {l : List α} {i : Nat} (hi : i < l.length) : wF nm x (l.take (i + 1)) = wStep nm x (wF nm x (l.take i)) l[i] := by
  rw [← take_succ_of hi, wF, List.foldl_append]; rfl
theorem wF_len (l : List α) : (wF nm x l).1.length ≤ l.length + if (wF nm x l).2 = true then 1 else 0 := by
  suffices ∀ (l : List α) (s : List α × Bool), (l.foldl (wStep nm x) s).1.length + (if s.2 = true then 1 else 0) ≤ s.1.length + l.length + if (l.foldl (wStep nm x) s).2 = true then 1 else 0 by
    have := this l ([], false)
    unfold wF
    simp only [Bool.false_eq_true, if_false, List.length_nil, Nat.zero_add, Nat.add_zero] at this
    exact this
  intro l
  induction l with
  | nil => intro s; rw [List.foldl_nil, List.length_nil]; omega
  | cons y r ih =>
    intro s
    have h := ih (wStep nm x s y)
    rw [List.foldl_cons]
    obtain ⟨s1, s2⟩ := s
    have h2 : (wStep nm x (s1, s2) y).1.length + (if s2 = true then 1 else 0) ≤ s1.length + 1 + (if (wStep nm x (s1, s2) y).2 = true then 1 else 0) := by
      unfold wStep wStep1
      by_cases he : nm y = nm x
      · cases s2 <;> cases sLt (nm y) (nm x) <;> simp [he]
      · cases s2 <;> cases sLt (nm y) (nm x) <;> simp [he]
    simp only [List.length_cons]
    show _ + (if s2 = true then 1 else 0) ≤ s1.length + _ + _
    omega
theorem w_done {b : List α} (p : List α) (h : ∀ y ∈ b, nm y ≠ nm x) : b.foldl (wStep nm x) (p, true) = (p ++ b, true) := by
  induction b generalizing p with
  | nil => simp
  | cons y r ih =>
    rw [List.foldl_cons]
    have : wStep nm x (p, true) y = (p ++ [y], true) := by simp [wStep, wStep1, h y (by simp)]
    rw [this, ih _ (fun z hz => h z (by simp [hz]))]
    simp
theorem w_lo {p a : List α} (h : ∀ y ∈ a, sLt (nm y) (nm x) = true) : a.foldl (wStep nm x) (p, false) = (p ++ a, false) := by
  induction a generalizing p with
  | nil => simp
  | cons y r ih =>
    rw [List.foldl_cons]
    have h1 := h y (by simp)
    have hn : nm y ≠ nm x := by intro e; rw [e, sLt_irrefl] at h1; cases h1
    have : wStep nm x (p, false) y = (p ++ [y], false) := by simp [wStep, wStep1, h1, hn]
    rw [this, ih (fun z hz => h z (by simp [hz]))]
    simp
theorem with_put {l : List α} (h : Inc nm l) : withF nm x l = putL nm l x := by
  rcases cut_of l (nm x) h with ⟨a, b, rfl, hc⟩ | ⟨a, y, b, rfl, hy, hc⟩
  · rw [put_cut hc]
    have h1 : wF nm x (a ++ b) = if b = [] then (a, false) else (a ++ x :: b, true) := by
      rw [wF, List.foldl_append, w_lo hc.lo]
      cases b with
      | nil => simp
      | cons y r =>
        have h2 := hc.hi y (by simp)
        have hn : nm y ≠ nm x := cut_ne hc (.inr (by simp))
        rw [List.foldl_cons]
        have : wStep nm x ([] ++ a, false) y = (a ++ [x] ++ [y], true) := by simp [wStep, wStep1, sLt_asymm h2, hn]
        rw [this, w_done (nm := nm) (x := x) (b := r) _ (fun z hz => cut_ne hc (.inr (by simp [hz])))]
        simp
    unfold withF
    rw [h1]
    by_cases hb : b = []
    · subst hb; simp
    · simp [hb]
  · rw [put_cut1 hc hy]
    have h1 : wF nm x (a ++ y :: b) = (a ++ x :: b, true) := by
      rw [wF, List.foldl_append, w_lo hc.lo, List.foldl_cons]
      have : wStep nm x ([] ++ a, false) y = (a ++ [x], true) := by simp [wStep, wStep1, hy, sLt_irrefl]
      rw [this, w_done (nm := nm) (x := x) (b := b) _ (fun z hz => cut_ne hc (.inr hz))]
      simp
    unfold withF
    rw [h1]; simp
end
theorem seat_end {l : List Part} {p : Part} {m i : Nat} (hq : ∀ j x, j < m → l[j]? = some x → clash p x = false) (hi : i ≤ m) : (l.take i).any (clash p) = false := by
  rw [List.any_eq_false]
  intro x hx
  obtain ⟨j, hj, rfl⟩ := List.getElem_of_mem hx
  rw [List.length_take] at hj
  rw [List.getElem_take]
  simpa using hq j _ (by omega) (List.getElem?_eq_getElem (by omega))
theorem seat_hit {l : List Part} {p : Part} {m i : Nat} (hm : m < i) (hl : m < l.length) (h : clash p l[m] = true) : (l.take i).any (clash p) = true := by
  rw [List.any_eq_true]
  exact ⟨l[m], List.mem_iff_getElem.2 ⟨m, by rw [List.length_take]; omega, List.getElem_take⟩, h⟩
section
variable {α : Type} {nm : α → ByteArray} {x : α} {l : List α} {i : Nat} {out : List α} {b : Bool}
theorem wF_tt (hi : i < l.length) (hw : wF nm x (l.take i) = (out, b)) (h1 : (!b) = true) (h2 : (!sLt (nm l[i]) (nm x)) = true) (h3 : (!decide (nm l[i] = nm x)) = true) : wF nm x (l.take (i + 1)) = (out ++ [x] ++ [l[i]], true) := by
  have h4 : ¬ nm l[i] = nm x := by simpa using h3
  rw [wF_succ hi, hw, wStep, if_neg h4]; simp only [wStep1, h1, h2, Bool.and_self, if_true]
theorem wF_tf (hi : i < l.length) (hw : wF nm x (l.take i) = (out, b)) (h1 : (!b) = true) (h2 : (!sLt (nm l[i]) (nm x)) = true) (h3 : (!decide (nm l[i] = nm x)) = false) : wF nm x (l.take (i + 1)) = (out ++ [x], true) := by
  have h4 : nm l[i] = nm x := by simpa using h3
  rw [wF_succ hi, hw, wStep, if_pos h4]; simp only [wStep1, h1, h2, Bool.and_self, if_true]
theorem wF_ft (hi : i < l.length) (hw : wF nm x (l.take i) = (out, b)) (h1 : (!b && !sLt (nm l[i]) (nm x)) = false) (h3 : (!decide (nm l[i] = nm x)) = true) : wF nm x (l.take (i + 1)) = (out ++ [l[i]], b) := by
  have h4 : ¬ nm l[i] = nm x := by simpa using h3
  rw [wF_succ hi, hw, wStep, if_neg h4]; simp only [wStep1, h1, Bool.false_eq_true, if_false]
theorem wF_ff (hi : i < l.length) (hw : wF nm x (l.take i) = (out, b)) (h1 : (!b && !sLt (nm l[i]) (nm x)) = false) (h3 : (!decide (nm l[i] = nm x)) = false) : wF nm x (l.take (i + 1)) = (out, b) := by
  have h4 : nm l[i] = nm x := by simpa using h3
  rw [wF_succ hi, hw, wStep, if_pos h4]; simp only [wStep1, h1, Bool.false_eq_true, if_false]
theorem w_le (hw : wF nm x (l.take i) = (out, b)) : out.length ≤ i + 1 := by
  have h := wF_len (nm := nm) (x := x) (l.take i)
  rw [hw, List.length_take] at h
  dsimp only at h; split at h <;> omega
theorem with_t (hw : wF nm x l = (out, b)) (h : (!b) = true) : withF nm x l = out ++ [x] := by
  have : b = false := by simpa using h
  simp [withF, hw, this]
theorem with_f (hw : wF nm x l = (out, b)) (h : (!b) = false) : withF nm x l = out := by
  have : b = true := by simpa using h
  simp [withF, hw, this]
theorem any_none {p : α → Bool} (h : ∀ j x, j < l.length → l[j]? = some x → p x = false) : l.any p = false := by
  rw [List.any_eq_false]
  intro y hy
  obtain ⟨j, hj, rfl⟩ := List.getElem_of_mem hy
  simpa using h j _ hj (List.getElem?_eq_getElem hj)
theorem filter_yes {f : α → Bool} (hi : i < l.length) (h : f l[i] = true) : (l.take (i + 1)).filter f = (l.take i).filter f ++ [l[i]] := by
  rw [← take_succ_of hi, List.filter_append]; simp [h]
theorem filter_no {f : α → Bool} (hi : i < l.length) (h : f l[i] = false) : (l.take (i + 1)).filter f = (l.take i).filter f := by
  rw [← take_succ_of hi, List.filter_append]; simp [h]
end
def otherN (e : Evt) : ByteArray := if e.op = 2 then e.into else e.part
theorem otherO_eq (st : List Part) (e : Evt) : otherO st e = findP st (otherN e) := by unfold otherO otherN; split <;> rfl
def heldF (st : List Part) (into slot : ByteArray) : Bool := st.any fun x => decide (x.into = into) && (decide (slot = nil8) || decide (x.slot = slot))
theorem held_any (st : List Part) (s : ByteArray) : heldF st s nil8 = holdsAny st s := by simp [heldF, holdsAny]
theorem held_seat (st : List Part) (e : Evt) (h : e.slot ≠ nil8) : heldF st e.into e.slot = seatTaken st e := by simp [heldF, seatTaken, h]
theorem fit_slot {e : Evt} (h : validE e = true) (h2 : e.op = 2) : e.slot ≠ nil8 := by
  intro he
  simp [validE, namesOf, h2, he] at h
  have : nameOk nil8 = false := by decide
  rw [this] at h; simp at h
theorem find_idx {st : List Part} {s : ByteArray} : decide (0 ≤ idxF (fun p : Part => decide (p.name = s)) st) = (findP st s).isSome := by
  rw [idxF_any, findP, Bool.eq_iff_iff, List.any_eq_true, List.find?_isSome]
/-! the course -/
theorem ins_right {α : Type} [Day α] {l : List α} {e : α} {k : Nat} (hk : k ≤ (sortF l).length) (h1 : ∀ j y, k ≤ j → (sortF l)[j]? = some y → Day.day y > Day.day e)
    (h2 : k = 0 ∨ ∃ y, (sortF l)[k - 1]? = some y ∧ Day.day y ≤ Day.day e) : (sortF l).take k ++ e :: (sortF l).drop k = sortF (l ++ [e]) := by
  have hs := sortF_srt l
  have hd : ∀ y ∈ (sortF l).drop k, Day.day e < Day.day y := by
    intro y hy
    obtain ⟨j, hj, rfl⟩ := List.getElem_of_mem hy
    rw [List.getElem_drop]
    exact h1 (k + j) _ (by omega) (List.getElem?_eq_getElem _)
  have ht : ∀ y ∈ (sortF l).take k, Day.day y ≤ Day.day e := by
    intro y hy
    rcases h2 with rfl | ⟨z, hz, hze⟩
    · simp at hy
    · obtain ⟨j, hj, rfl⟩ := List.getElem_of_mem hy
      rw [List.length_take] at hj
      rw [List.getElem_take]
      obtain ⟨hk1, rfl⟩ := List.getElem?_eq_some_iff.1 hz
      rw [Srtd, List.pairwise_iff_getElem] at hs
      rcases Nat.lt_or_ge j (k - 1) with hlt | hge
      · exact Int.le_trans (hs j (k - 1) (by omega) hk1 hlt) hze
      · obtain rfl : j = k - 1 := by omega
        exact hze
  refine stb_one _ _ ?_ (sortF_srt _) fun d => ?_
  · unfold Srtd at hs ⊢
    rw [← List.take_append_drop k (sortF l), List.pairwise_append] at hs
    rw [List.pairwise_append, List.pairwise_cons]
    refine ⟨hs.1, ⟨fun y hy => Int.le_of_lt (hd y hy), hs.2.1⟩, fun y hy z hz => ?_⟩
    rcases List.mem_cons.1 hz with rfl | hz
    · exact ht y hy
    · exact Int.le_trans (ht y hy) (Int.le_of_lt (hd z hz))
  · rw [sortF_filter, List.filter_append, List.filter_append, ← sortF_filter d l, List.filter_cons]
    conv => rhs; rw [← List.take_append_drop k (sortF l), List.filter_append]
    by_cases he : Day.day e = d
    · have : ((sortF l).drop k).filter (fun e => decide (Day.day e = d)) = [] := by
        rw [List.filter_eq_nil_iff]
        intro y hy
        have := hd y hy
        simp; omega
      rw [this]; simp [he]
    · simp [he]
end Go.Sx

/- The lives of parts: what a run adds, and that nothing else depends on lives. -/
set_option linter.all false
namespace Go.Sx
open Go
/-- where a part is -/
def upP (st : List Part) (n : ByteArray) : ByteArray := ((findP st n).getD zPart).into
/-- whether a part is reached within some steps up -/
def reachF (st : List Part) (v : ByteArray) : Nat → ByteArray → Bool
  | 0, _ => false
  | k + 1, n => !decide (upP st n = nil8) && (decide (upP st n = v) || reachF st v k (upP st n))
/-- a part is inside another one -/
def InsP (st : List Part) (v n : ByteArray) : Prop := ((findP st v).isSome = true ∧ (findP st n).isSome = true ∧ n ≠ v) ∧ ∃ k, reachF st v k n = true
def addLife (d : Ivl) (u : Use) (p : Part) : Part := { p with life := ⟨addI p.life.km u.km, addI p.life.cycles u.cycles, addI p.life.damage d⟩ }
open Classical in
noncomputable def useL (st : List Part) (e : Evt) (d : Ivl) : List Part := st.map fun p => if p.name = e.part ∨ InsP st e.part p.name then addLife d e.use p else p
noncomputable def applyL (f : Fm) (c : List Kind) (st : List Part) (e : Evt) : Res2 :=
  if (applyF c st e).2 = 0 ∧ e.op = 4 then (useL (applyF c st e).1 e (damF f e.use), 0) else applyF c st e
noncomputable def runLGo (f : Fm) (c : List Kind) : List Part → Int → List Evt → Res3
  | s, _, [] => (s, -1, 0)
  | s, i, e :: r => if (applyL f c s e).2 = 0 then runLGo f c (applyL f c s e).1 (i + 1) r else ([], i, (applyL f c s e).2)
noncomputable def runL (f : Fm) (c : List Kind) (l : List Evt) (day : Int) : Res3 :=
  if (!validC c || !validFm f) = true then ([], -1, 1) else runLGo f c [] 0 (sortF (l.filter fun e => !decide (e.day > day)))
/-! without lives -/
def LfOk (p : Part) : Prop := (lifeOk p.life.km = true ∧ lifeOk p.life.cycles = true) ∧ lifeOk p.life.damage = true
def LfInv (st : List Part) : Prop := ∀ p ∈ st, LfOk p
section
variable {c : List Kind} {f : Fm} {st : List Part} {p : Part} {e : Evt} {d : Ivl}
/-! the lives stay in bounds -/
theorem zLife_ok : (lifeOk zLife.km = true ∧ lifeOk zLife.cycles = true) ∧ lifeOk zLife.damage = true := by decide
theorem lifeOk_iff {i : Ivl} : lifeOk i = true ↔ 0 ≤ i.low ∧ i.low ≤ i.high ∧ i.high ≤ (1000000000000 : Int) := by simp [lifeOk, and_assoc]
theorem life_add {i u : Ivl} (hi : lifeOk i = true) (hu : ivOk u = true) (h0 : 0 ≤ u.low) : lifeOk (addI i u) = true := by
  have h1 := lifeOk_iff.1 hi
  have h2 := ivOk_iff.1 hu
  rw [addI_is (ivOk_iff.2 (by omega)) hu, lifeOk_iff]
  unfold satI; dsimp only; omega
theorem LfInv.put {q : Part} (h : LfInv st) (hq : LfOk q) : LfInv (putL Part.name st q) := fun p hp => by
  rcases putL_mem hp with rfl | hp
  · exact hq
  · exact h p hp
theorem LfInv.apply (h : LfInv st) (e : Evt) : LfInv (applyF c st e).1 := by
  have hn : ∀ n, LfInv (failR n).1 := fun n p hp => by cases hp
  have hz : LfOk zPart := zLife_ok
  have hp : LfOk (partP st e) := by
    unfold partP
    cases hq : findP st e.part with
    | none => exact hz
    | some p => exact h p (find_mem hq)
  have hput : ∀ q : Part, LfOk q → LfInv (putR st q).1 := fun q hq => h.put hq
  unfold applyF
  split
  · exact hn _
  split
  · unfold applyMake
    split
    · exact hn _
    split
    · exact hn _
    split
    · exact hn _
    · exact hput _ zLife_ok
  · unfold applyRest
    split
    · exact hn _
    split
    · exact hn _
    · unfold applyOp
      split
      · unfold applyFit
        split
        · exact hn _
        split
        · exact hn _
        split
        · exact hn _
        · exact hput _ hp
      split
      · unfold applyRemove
        split
        · exact hn _
        · exact hput _ hp
      split
      · unfold applyRun
        split
        · exact hn _
        · exact hput _ hp
      split
      · exact hput _ zLife_ok
      split
      · unfold applyNote
        split
        · exact hn _
        · exact hput _ hp
      split
      · unfold applyScrap
        split
        · exact hn _
        · exact hput _ hp
      · exact hput _ hp
theorem LfInv.use (h : LfInv st) (hu : ivOk e.use.km = true ∧ 0 ≤ e.use.km.low) (hu2 : ivOk e.use.cycles = true ∧ 0 ≤ e.use.cycles.low) (hd : ivOk d = true ∧ 0 ≤ d.low) : LfInv (useL st e d) := fun p hp => by
  unfold useL at hp
  obtain ⟨q, hq, rfl⟩ := List.mem_map.1 hp
  have h1 := h q hq
  split
  · exact ⟨⟨life_add h1.1.1 hu.1 hu.2, life_add h1.1.2 hu2.1 hu2.2⟩, life_add h1.2 hd.1 hd.2⟩
  · exact h1
theorem apply_valid (h : (applyF c st e).2 = 0) : validE e = true := by
  unfold applyF at h
  split at h
  · cases h
  · rename_i h2
    have : validS c st = true ∧ validE e = true := by simpa using h2
    exact this.2
theorem run_use (h : validE e = true) (h4 : e.op = 4) : (ivOk e.use.km = true ∧ 0 ≤ e.use.km.low) ∧ (ivOk e.use.cycles = true ∧ 0 ≤ e.use.cycles.low) ∧ useTo e.use 3 = true := by
  have hu : useTo e.use 3 = true := by
    simp only [validE, Bool.and_eq_true, Bool.not_eq_true'] at h
    have h2 := h.1.1.2
    unfold opBad at h2
    rw [if_neg (by omega), if_neg (by omega), if_pos h4] at h2
    simpa using h2
  have hu2 := hu
  rw [← useR_eq] at hu2
  simp only [useR, ivlR, Bool.and_eq_true, decide_eq_true_eq] at hu2
  exact ⟨⟨ivOk_iff.2 (by omega), by omega⟩, ⟨ivOk_iff.2 (by omega), by omega⟩, hu⟩
theorem applyL_code : (applyL f c st e).2 = (applyF c st e).2 := by
  unfold applyL
  split
  · rename_i h; exact h.1.symm
  · rfl
theorem LfInv.step (h : LfInv st) : LfInv (applyL f c st e).1 := by
  unfold applyL
  split
  · rename_i hc
    have hu := run_use (apply_valid hc.1) hc.2
    exact (h.apply e).use hu.1 hu.2.1 damF_ok
  · exact h.apply e
theorem LfInv.nil : LfInv [] := fun p h => by cases h
end
end Go.Sx

/- How setups and parts that come in are read. -/
set_option linter.all false
namespace Go.Sx
open Go
/-- a setup -/
structure Stp where
  kinds : List Kind
  dam : Fm
instance : Enc Stp where
  k := 4
  rd I vs x := ∃ vc sf, vs = [vc, ci x.dam.op, ci x.dam.n, sf] ∧ RdS I vc x.kinds ∧ FmRd I [ci x.dam.op, ci x.dam.n, sf] x.dam
  len h := by obtain ⟨_, _, rfl, _⟩ := h; rfl
  mono hI h := by obtain ⟨a, b, rfl, h1, h2⟩ := h; exact ⟨a, b, rfl, h1.le hI, h2.le hI⟩
  one h := by
    obtain ⟨a, b, rfl, h1, h2⟩ := h
    have h3 := Enc.one (α := Fm) h2
    obtain ⟨A, c, rfl, _⟩ := h1
    simp at h3 ⊢
    exact ⟨rfl, h3⟩
def OkStp (x : Stp) : Prop := (∀ k ∈ x.kinds, OkKd k) ∧ OkFm x.dam
def OkLf (x : Life) : Prop := OkIvl x.km ∧ OkIvl x.cycles ∧ OkIvl x.damage
structure OkPt (p : Part) : Prop where
  made : I64 p.made
  since : I64 p.since
  life : OkLf p.life
section
variable {P : Program} {t : TypeId}
theorem opens_setup {tc tf : TypeId} (hf : fieldsK P t = some [(tc, 0, 1), (tf, 1, 3)]) (hc : P.cellsOf t = 4) (h1 : Opens P tc (List Kind) (fun l => ∀ k ∈ l, OkKd k)) (h2 : Opens P tf Fm OkFm) : Opens P t Stp OkStp := by
  intro H enc w base spare held fuel cs x h
  obtain ⟨hl, hall⟩ := trod_fields hf h
  rw [hc] at hl
  obtain ⟨a0, r0_, rfl, l0_⟩ := len_cons hl
  obtain ⟨a1, r1_, rfl, l1_⟩ := len_cons l0_
  obtain ⟨a2, r2_, rfl, l2_⟩ := len_cons l1_
  obtain ⟨a3, r3_, rfl, l3_⟩ := len_cons l2_
  obtain rfl := len_nil l3_
  obtain ⟨n0, y0, h0⟩ := hall (tc, 0, 1) (by simp)
  obtain ⟨x0, ⟨v0, e0, r0⟩, g0⟩ := h1 enc w base spare held n0 _ y0 h0
  have e0 : [a0] = [v0] := e0
  cases e0
  obtain ⟨n1, y1, h1⟩ := hall (tf, 1, 3) (by simp)
  obtain ⟨x1, r1, g1⟩ := h2 enc w base spare held n1 _ y1 h1
  have r1 : FmRd (Iw w) [a1, a2, a3] x1 := r1
  obtain ⟨s, e1, _⟩ := fm_out r1
  simp only [List.cons.injEq, and_true] at e1
  obtain ⟨rfl, rfl, rfl⟩ := e1
  exact ⟨⟨x0, x1⟩, ⟨_, _, rfl, r0, r1⟩, g0, g1⟩
theorem opens_life {t0 : TypeId} (hf : fieldsK P t = some [(t0, 0, 2), (t0, 2, 2), (t0, 4, 2)]) (hc : P.cellsOf t = 6) (h0 : Opens P t0 Ivl OkIvl) : Opens P t Life OkLf := by
  intro H enc w base spare held fuel cs x h
  obtain ⟨a, b, c, rfl, h1, h2, h3⟩ := opens_three hf hc h0 h
  exact ⟨⟨a, b, c⟩, rfl, h1, h2, h3⟩
theorem opens_prop {ts : TypeId} (hf : fieldsK P t = some [(ts, 0, 1), (ts, 1, 1)]) (hc : P.cellsOf t = 2) (hs : Opens P ts ByteArray SmB) : Opens P t Prp (fun _ => True) := by
  intro H enc w base spare held fuel cs x h
  obtain ⟨hl, hall⟩ := trod_fields hf h
  rw [hc] at hl
  obtain ⟨a0, r0_, rfl, l0_⟩ := len_cons hl
  obtain ⟨a1, r1_, rfl, l1_⟩ := len_cons l0_
  obtain rfl := len_nil l1_
  obtain ⟨n0, y0, h0⟩ := hall (ts, 0, 1) (by simp)
  obtain ⟨x0, e0, g0⟩ := hs enc w base spare held n0 _ y0 h0
  have e0 : [a0] = [.string x0] := e0
  cases e0
  obtain ⟨n1, y1, h1⟩ := hall (ts, 1, 1) (by simp)
  obtain ⟨x1, e1, g1⟩ := hs enc w base spare held n1 _ y1 h1
  have e1 : [a1] = [.string x1] := e1
  cases e1
  exact ⟨⟨x0, x1⟩, rfl, trivial⟩
theorem opens_part {ti ts tb tp tl : TypeId} (hf : fieldsK P t = some [(ts, 0, 1), (ts, 1, 1), (ts, 2, 1), (ts, 3, 1), (ti, 4, 1), (ti, 5, 1), (tb, 6, 1), (tp, 7, 1), (tl, 8, 6)]) (hc : P.cellsOf t = 14) (hs : Opens P ts ByteArray SmB) (hi : Opens P ti Int I64) (hb : Opens P tb Bool (fun _ => True))
    (hp : Opens P tp (List Prp) (fun l => ∀ x ∈ l, True)) (hl : Opens P tl Life OkLf) : Opens P t Part OkPt := by
  intro H enc w base spare held fuel cs x h
  obtain ⟨hlen, hall⟩ := trod_fields hf h
  rw [hc] at hlen
  obtain ⟨a0, r0_, rfl, l0_⟩ := len_cons hlen
  obtain ⟨a1, r1_, rfl, l1_⟩ := len_cons l0_
  obtain ⟨a2, r2_, rfl, l2_⟩ := len_cons l1_
  obtain ⟨a3, r3_, rfl, l3_⟩ := len_cons l2_
  obtain ⟨a4, r4_, rfl, l4_⟩ := len_cons l3_
  obtain ⟨a5, r5_, rfl, l5_⟩ := len_cons l4_
  obtain ⟨a6, r6_, rfl, l6_⟩ := len_cons l5_
  obtain ⟨a7, r7_, rfl, l7_⟩ := len_cons l6_
  obtain ⟨a8, r8_, rfl, l8_⟩ := len_cons l7_
  obtain ⟨a9, r9_, rfl, l9_⟩ := len_cons l8_
  obtain ⟨a10, r10_, rfl, l10_⟩ := len_cons l9_
  obtain ⟨a11, r11_, rfl, l11_⟩ := len_cons l10_
  obtain ⟨a12, r12_, rfl, l12_⟩ := len_cons l11_
  obtain ⟨a13, r13_, rfl, l13_⟩ := len_cons l12_
  obtain rfl := len_nil l13_
  obtain ⟨n0, y0, h0⟩ := hall (ts, 0, 1) (by simp)
  obtain ⟨x0, e0, g0⟩ := hs enc w base spare held n0 _ y0 h0
  have e0 : [a0] = [.string x0] := e0
  cases e0
  obtain ⟨n1, y1, h1⟩ := hall (ts, 1, 1) (by simp)
  obtain ⟨x1, e1, g1⟩ := hs enc w base spare held n1 _ y1 h1
  have e1 : [a1] = [.string x1] := e1
  cases e1
  obtain ⟨n2, y2, h2⟩ := hall (ts, 2, 1) (by simp)
  obtain ⟨x2, e2, g2⟩ := hs enc w base spare held n2 _ y2 h2
  have e2 : [a2] = [.string x2] := e2
  cases e2
  obtain ⟨n3, y3, h3⟩ := hall (ts, 3, 1) (by simp)
  obtain ⟨x3, e3, g3⟩ := hs enc w base spare held n3 _ y3 h3
  have e3 : [a3] = [.string x3] := e3
  cases e3
  obtain ⟨n4, y4, h4⟩ := hall (ti, 4, 1) (by simp)
  obtain ⟨x4, e4, g4⟩ := hi enc w base spare held n4 _ y4 h4
  have e4 : [a4] = [.int .i64 x4] := e4
  cases e4
  obtain ⟨n5, y5, h5⟩ := hall (ti, 5, 1) (by simp)
  obtain ⟨x5, e5, g5⟩ := hi enc w base spare held n5 _ y5 h5
  have e5 : [a5] = [.int .i64 x5] := e5
  cases e5
  obtain ⟨n6, y6, h6⟩ := hall (tb, 6, 1) (by simp)
  obtain ⟨x6, e6, g6⟩ := hb enc w base spare held n6 _ y6 h6
  have e6 : [a6] = [.bool x6] := e6
  cases e6
  obtain ⟨n7, y7, h7⟩ := hall (tp, 7, 1) (by simp)
  obtain ⟨x7, ⟨v7, e7, r7⟩, g7⟩ := hp enc w base spare held n7 _ y7 h7
  have e7 : [a7] = [v7] := e7
  cases e7
  obtain ⟨n8, y8, h8⟩ := hall (tl, 8, 6) (by simp)
  obtain ⟨x8, e8, g8⟩ := hl enc w base spare held n8 _ y8 h8
  have e8 : [a8, a9, a10, a11, a12, a13] = x8.cells := e8
  cases e8
  exact ⟨⟨x0, x1, x2, x3, x4, x5, x6, x7, x8⟩, ⟨_, rfl, r7⟩, ⟨g4, g5, g8⟩⟩
theorem opens_form {ts ti : TypeId} (hf : fieldsK P t = some [(ti, 0, 1), (ti, 1, 1), (ts, 2, 1)]) (hc : P.cellsOf t = 3) (hs : P.underlying ts = some (.slice t)) (hi : P.underlying ti = some (.int .i64)) : Opens P t Fm OkFm := by
  unfold fieldsK at hf
  split at hf
  · rename_i fs h1
    exact opens_fm h1 (Option.some.inj hf) hc hs hi
  · cases hf
end
end Go.Sx

/- Runs of steps of a walk that need no word of their own. -/
set_option linter.all false
namespace Go.Sx
open Go
/-- so many steps lie ahead -/
structure HN (n : Nat) (g : Prop) : Prop where
  out : g
theorem HN.z {s : Prop} (h : HN 0 s) : s := h.out
theorem HN.p {s : Prop} {n : Nat} (h : HN (n + 1) s) : HN n s := ⟨h.out⟩
/-- a fact of the program, found by its left side -/
class Has {α : Type} (a : Option α) (b : outParam α) : Prop where
  eq : a = some b
theorem he {α : Type} {a : Option α} {b : α} [h : Has a b] : a = some b := h.eq
theorem sb {L L' : LL} (h : Sub L' L := by repeat (first | exact trivial | refine ⟨rfl, ?_⟩)) : Sub L' L := h
section
variable {P : Program} {ρ : Option Nat} {n : Sz} {E : Ent} {I I' : IMap} {L L' : LL} {H H' : List Res} {K K' : Act → World → Prop} {Q : Exit → Act → World → Prop} {ops : Array Oper}
theorem cb {c : Operand} {x y : Code} {b : Bool} {p q : Prop} (hc : ev L c = some (.bool b)) (ht : b = true → p → SX n E I L H (x.wq ρ P Q)) (hf : b = false → q → SX n E I L H (y.wq ρ P Q))
    (e1 : b = true → p := by first | (intro h; simp only [bO] at h; exact h) | exact fun h => h) (e2 : b = false → q := by first | (intro h; simp only [bO] at h; exact h) | exact fun h => h) :
    SX n E I L H ((Code.cond c x y).wq ρ P Q) := c_cond hc (fun h => ht h (e1 h)) (fun h => hf h (e2 h))
theorem sxb {v : Bool} {p q : Prop} (t : Nat) (h : look L t = some (.bool v)) (h1 : v = true → p → SX n E I L H K) (h2 : v = false → q → SX n E I L H K)
    (e1 : v = true → p := by first | (intro h; simp only [bO] at h; exact h) | exact fun h => h) (e2 : v = false → q := by first | (intro h; simp only [bO] at h; exact h) | exact fun h => h) : SX n E I L H K := sx_split t h (fun h => h1 h (e1 h)) (fun h => h2 h (e2 h))
variable {d ty : Nat} {pos : String} {af : Array Edge} {x y z : Operand} {tt tx tyy q : Nat} {v : Value}
theorem pr_move (h : OV P n E I L H ⟨some d, .move x, ty, pos, af, none⟩ v) : OV P n E I L H ⟨some d, .move x, ty, pos, af, none⟩ v := h
theorem pr_assign (h : OV P n E I L H ⟨some d, .assign x, ty, pos, af, none⟩ v) : OV P n E I L H ⟨some d, .assign x, ty, pos, af, none⟩ v := h
theorem pr_fieldAddr (h : OV P n E I L H ⟨some d, .fieldAddr tt x q, ty, pos, af, none⟩ v) : OV P n E I L H ⟨some d, .fieldAddr tt x q, ty, pos, af, none⟩ v := h
theorem pr_load (h : OV P n E I L H ⟨some d, .load tt x, ty, pos, af, none⟩ v) : OV P n E I L H ⟨some d, .load tt x, ty, pos, af, none⟩ v := h
theorem pr_field (h : OV P n E I L H ⟨some d, .field tt x q, ty, pos, af, none⟩ v) : OV P n E I L H ⟨some d, .field tt x q, ty, pos, af, none⟩ v := h
theorem pr_extract (h : OV P n E I L H ⟨some d, .extract x q, ty, pos, af, none⟩ v) : OV P n E I L H ⟨some d, .extract x q, ty, pos, af, none⟩ v := h
theorem pr_not (h : OV P n E I L H ⟨some d, .unOp .not tt x, ty, pos, af, none⟩ v) : OV P n E I L H ⟨some d, .unOp .not tt x, ty, pos, af, none⟩ v := h
theorem pr_nil (h : OV P n E I L H ⟨some d, .nilCheck x, ty, pos, af, none⟩ v) : OV P n E I L H ⟨some d, .nilCheck x, ty, pos, af, none⟩ v := h
theorem pr_pick (h : OV P n E I L H ⟨some d, .pick x y z, ty, pos, af, none⟩ v) : OV P n E I L H ⟨some d, .pick x y z, ty, pos, af, none⟩ v := h
theorem pr_lss (h : OV P n E I L H ⟨some d, .binOp .lss tx x y tyy, ty, pos, af, none⟩ v) : OV P n E I L H ⟨some d, .binOp .lss tx x y tyy, ty, pos, af, none⟩ v := h
theorem pr_leq (h : OV P n E I L H ⟨some d, .binOp .leq tx x y tyy, ty, pos, af, none⟩ v) : OV P n E I L H ⟨some d, .binOp .leq tx x y tyy, ty, pos, af, none⟩ v := h
theorem pr_gtr (h : OV P n E I L H ⟨some d, .binOp .gtr tx x y tyy, ty, pos, af, none⟩ v) : OV P n E I L H ⟨some d, .binOp .gtr tx x y tyy, ty, pos, af, none⟩ v := h
theorem pr_geq (h : OV P n E I L H ⟨some d, .binOp .geq tx x y tyy, ty, pos, af, none⟩ v) : OV P n E I L H ⟨some d, .binOp .geq tx x y tyy, ty, pos, af, none⟩ v := h
theorem pr_eql (h : OV P n E I L H ⟨some d, .binOp .eql tx x y tyy, ty, pos, af, none⟩ v) : OV P n E I L H ⟨some d, .binOp .eql tx x y tyy, ty, pos, af, none⟩ v := h
theorem pr_neq (h : OV P n E I L H ⟨some d, .binOp .neq tx x y tyy, ty, pos, af, none⟩ v) : OV P n E I L H ⟨some d, .binOp .neq tx x y tyy, ty, pos, af, none⟩ v := h
theorem pr_add (h : OV P n E I L H ⟨some d, .binOp .add tx x y tyy, ty, pos, af, none⟩ v) : OV P n E I L H ⟨some d, .binOp .add tx x y tyy, ty, pos, af, none⟩ v := h
theorem pr_sub (h : OV P n E I L H ⟨some d, .binOp .sub tx x y tyy, ty, pos, af, none⟩ v) : OV P n E I L H ⟨some d, .binOp .sub tx x y tyy, ty, pos, af, none⟩ v := h
theorem pr_len (h : OV P n E I L H ⟨some d, .call { callee := .builtin .len, args := #[x], argTypes := #[tx] }, ty, pos, af, none⟩ v) : OV P n E I L H ⟨some d, .call { callee := .builtin .len, args := #[x], argTypes := #[tx] }, ty, pos, af, none⟩ v := h
/-- the rule of an operation that only computes -/
theorem va {o : Oper} (h : OV P n E I L H o v := by
    first
      | ((with_unfolding_none refine' pr_move ?_); rotate_left; exact v_move rfl)
      | ((with_unfolding_none refine' pr_assign ?_); rotate_left; exact v_assign rfl)
      | ((with_unfolding_none refine' pr_fieldAddr ?_); rotate_left; exact v_fieldAddr he rfl)
      | ((with_unfolding_none refine' pr_load ?_); rotate_left; (first | exact v_ld m0 he rfl rfl | exact v_ld m1 he rfl rfl | exact v_ld m2 he rfl rfl | exact v_ld m3 he rfl rfl | exact v_ld m4 he rfl rfl | exact v_ld m5 he rfl rfl | exact v_ld m6 he rfl rfl | exact v_ldw m0 he rfl rfl | exact v_ldw m1 he rfl rfl | exact v_ldw m2 he rfl rfl | exact v_ldw m3 he rfl rfl | exact v_ldw m4 he rfl rfl | exact v_ldw m5 he rfl rfl | exact v_ldw m6 he rfl rfl))
      | ((with_unfolding_none refine' pr_pick ?_); rotate_left; (first | exact v_and_f rfl rfl | exact v_or_t rfl rfl | exact v_and_t rfl rfl rfl | exact v_or_f rfl rfl rfl | exact v_and_f (by assumption) rfl | exact v_or_t (by assumption) rfl | exact v_and_t (by assumption) rfl rfl | exact v_or_f (by assumption) rfl rfl))
      | ((with_unfolding_none refine' pr_lss ?_); rotate_left; (first | exact v_lss rfl rfl | exact v_slss rfl rfl))
      | ((with_unfolding_none refine' pr_len ?_); rotate_left; (first | exact v_len_slice he rfl | exact v_len_str he rfl))
      | ((with_unfolding_none refine' pr_extract ?_); rotate_left; exact v_extract rfl rfl)
      | ((with_unfolding_none refine' pr_not ?_); rotate_left; exact v_not rfl)
      | ((with_unfolding_none refine' pr_eql ?_); rotate_left; (first | exact v_eql rfl rfl | exact v_seql rfl rfl))
      | ((with_unfolding_none refine' pr_neq ?_); rotate_left; (first | exact v_neq rfl rfl | exact v_sneq rfl rfl))
      | ((with_unfolding_none refine' pr_leq ?_); rotate_left; (first | exact v_leq rfl rfl | exact v_sleq rfl rfl))
      | ((with_unfolding_none refine' pr_gtr ?_); rotate_left; (first | exact v_gtr rfl rfl | exact v_sgtr rfl rfl))
      | ((with_unfolding_none refine' pr_geq ?_); rotate_left; (first | exact v_geq rfl rfl | exact v_sgeq rfl rfl))
      | ((with_unfolding_none refine' pr_add ?_); rotate_left; exact v_add rfl rfl ⟨by omega, by omega⟩)
      | ((with_unfolding_none refine' pr_sub ?_); rotate_left; exact v_sub rfl rfl ⟨by omega, by omega⟩)
      | ((with_unfolding_none refine' pr_nil ?_); rotate_left; exact v_nilCheck rfl)
      | ((with_unfolding_none refine' pr_field ?_); rotate_left; (first | exact v_field he rfl rfl | exact v_fielda _ he rfl rfl))) : OV P n E I L H o v := h
theorem o_va {rest : List Oper} {op : Op} {v : Value} (hd : Nat.blt d n.sz = true) (h : OV P n E I L H ⟨some d, op, ty, pos, af, none⟩ v) (k : SX n E I ((d, v) :: L) H (wpL P ops Q rest)) : SX n E I L H (wpL P ops Q (⟨some d, op, ty, pos, af, none⟩ :: rest)) := o_v hd h k
theorem o_ya {rest : List Oper} {op : Op} {j : Nat} {b : Bool} {v : Value} {t : Nat} {c : Bool} (ht : (ops[j]?).bind (·.dst) = some t) (hb : look L t = some (.bool c)) (hv : c = b) (hd : Nat.blt d n.sz = true) (h : OV P n E I L H ⟨some d, op, ty, pos, af, none⟩ v) (k : SX n E I ((d, v) :: L) H (wpL P ops Q rest)) : SX n E I L H (wpL P ops Q (⟨some d, op, ty, pos, af, some (j, b)⟩ :: rest)) := o_cons (o_yes ht hb hv (o_val hd h k))
theorem o_na {rest : List Oper} {op : Op} {j : Nat} {b : Bool} {t : Nat} {c : Bool} (ht : (ops[j]?).bind (·.dst) = some t) (hb : look L t = some (.bool c)) (hv : c = !b) (hd : Nat.blt d n.sz = true) (k : SX n E I ((d, undef) :: L) H (wpL P ops Q rest)) : SX n E I L H (wpL P ops Q (⟨some d, op, ty, pos, af, some (j, b)⟩ :: rest)) := o_cons (o_no ht hb hv hd k)
theorem o_na' {rest : List Oper} {op : Op} {j : Nat} {b : Bool} {t : Nat} {c : Bool} (ht : (ops[j]?).bind (·.dst) = some t) (hb : look L t = some (.bool c)) (hv : c = !b) (k : SX n E I L H (wpL P ops Q rest)) : SX n E I L H (wpL P ops Q (⟨none, op, ty, pos, af, some (j, b)⟩ :: rest)) := o_cons (o_no' ht hb hv k)
theorem o_ua {rest : List Oper} {op : Op} {j : Nat} {b : Bool} {t : Nat} (ht : (ops[j]?).bind (·.dst) = some t) (hb : look L t = some undef) (hd : Nat.blt d n.sz = true) (k : SX n E I ((d, undef) :: L) H (wpL P ops Q rest)) : SX n E I L H (wpL P ops Q (⟨some d, op, ty, pos, af, some (j, b)⟩ :: rest)) := o_cons (o_nou ht hb hd k)
/-- so many steps -/
theorem go {g s : Prop} (n : Nat) (hs : s) (h : HN n s → g := by
    intro h
    repeat (first
      | exact HN.z h
      | replace h := HN.p h; first
        | ((with_unfolding_none refine' o_va ?_ ?_ ?_); rotate_left; exact rfl; exact va)
        | with_unfolding_none refine q_then ?_
        | with_unfolding_none refine o_nil ?_
        | with_unfolding_none refine c_seq ?_
        | with_unfolding_none refine c_region ?_
        | with_unfolding_none refine c_skip ?_
        | with_unfolding_none refine q_then_ret ?_
        | with_unfolding_none refine c_ret ?_
        | with_unfolding_none refine c_block ?_
        | with_unfolding_none refine q_block ?_
        | with_unfolding_none refine q_then_exit ?_
        | with_unfolding_none refine q_block_ret ?_
        | with_unfolding_none refine c_exit ?_
        | with_unfolding_none refine q_block_eq ?_
        | ((with_unfolding_none refine' o_na ?_ ?_ ?_ ?_ ?_); rotate_left 2; exact rfl; exact rfl; (first | exact rfl | assumption); exact rfl)
        | ((with_unfolding_none refine' o_ua ?_ ?_ ?_ ?_); rotate_left; exact rfl; exact rfl; exact rfl)
        | ((with_unfolding_none refine' o_na' ?_ ?_ ?_ ?_); rotate_left 2; exact rfl; exact rfl; (first | exact rfl | assumption))
        | ((with_unfolding_none refine' o_ya ?_ ?_ ?_ ?_ ?_ ?_); rotate_left 3; exact rfl; exact rfl; (first | exact rfl | assumption); exact rfl; exact va)
        | ((with_unfolding_none refine q_block_ne ?_ ?_); exact rfl)
        | with_unfolding_none refine o_cons ?_)) : g := h ⟨hs⟩
end
end Go.Sx

/- Walks, printed by a program out of the code of the functions: each theorem is a contract of one function. -/
namespace Go.Proofs.YthcefohbbfjjfaaGreat
open Go Go.Sx
set_option linter.all false
set_option maxRecDepth 20000
set_option maxHeartbeats 4000000
instance T.arr_160 : Has (arrK Tryz.prog 160) (256, 5, 1) := ⟨by kernel_rfl⟩
instance T.elt_63 : Has (eltK Tryz.prog 63) (9, 1) := ⟨by kernel_rfl⟩
instance T.ty_160 : Has (tyK Tryz.prog 160) (true, 256) := ⟨by kernel_rfl⟩
instance T.ty_5 : Has (tyK Tryz.prog 5) (false, 1) := ⟨by kernel_rfl⟩
instance T.ty_9 : Has (tyK Tryz.prog 9) (false, 1) := ⟨by kernel_rfl⟩
instance T.und_3 : Has (Tryz.prog.underlying 3) (.int .i64) := ⟨by kernel_rfl⟩
instance T.und_5 : Has (Tryz.prog.underlying 5) (.int .u8) := ⟨by kernel_rfl⟩
instance T.und_63 : Has (Tryz.prog.underlying 63) (.slice 9) := ⟨by kernel_rfl⟩
instance T.und_9 : Has (Tryz.prog.underlying 9) (.string) := ⟨by kernel_rfl⟩
instance T.zero_160 : Has (zeroK Tryz.prog 160) [.int .u8 0, .int .u8 0, .int .u8 0, .int .u8 0, .int .u8 0, .int .u8 0, .int .u8 0, .int .u8 0, .int .u8 0, .int .u8 0, .int .u8 0, .int .u8 0, .int .u8 0, .int .u8 0, .int .u8 0, .int .u8 0, .int .u8 0, .int .u8 0, .int .u8 0, .int .u8 0, .int .u8 0, .int .u8 0, .int .u8 0, .int .u8 0, .int .u8 0, .int .u8 0, .int .u8 0, .int .u8 0, .int .u8 0, .int .u8 0, .int .u8 0, .int .u8 0, .int .u8 0, .int .u8 0, .int .u8 0, .int .u8 0, .int .u8 0, .int .u8 0, .int .u8 0, .int .u8 0, .int .u8 0, .int .u8 0, .int .u8 0, .int .u8 0, .int .u8 0, .int .u8 0, .int .u8 0, .int .u8 0, .int .u8 0, .int .u8 0, .int .u8 0, .int .u8 0, .int .u8 0, .int .u8 0, .int .u8 0, .int .u8 0, .int .u8 0, .int .u8 0, .int .u8 0, .int .u8 0, .int .u8 0, .int .u8 0, .int .u8 0, .int .u8 0, .int .u8 0, .int .u8 0, .int .u8 0, .int .u8 0, .int .u8 0, .int .u8 0, .int .u8 0, .int .u8 0, .int .u8 0, .int .u8 0, .int .u8 0, .int .u8 0, .int .u8 0, .int .u8 0, .int .u8 0, .int .u8 0, .int .u8 0, .int .u8 0, .int .u8 0, .int .u8 0, .int .u8 0, .int .u8 0, .int .u8 0, .int .u8 0, .int .u8 0, .int .u8 0, .int .u8 0, .int .u8 0, .int .u8 0, .int .u8 0, .int .u8 0, .int .u8 0, .int .u8 0, .int .u8 0, .int .u8 0, .int .u8 0, .int .u8 0, .int .u8 0, .int .u8 0, .int .u8 0, .int .u8 0, .int .u8 0, .int .u8 0, .int .u8 0, .int .u8 0, .int .u8 0, .int .u8 0, .int .u8 0, .int .u8 0, .int .u8 0, .int .u8 0, .int .u8 0, .int .u8 0, .int .u8 0, .int .u8 0, .int .u8 0, .int .u8 0, .int .u8 0, .int .u8 0, .int .u8 0, .int .u8 0, .int .u8 0, .int .u8 0, .int .u8 0, .int .u8 0, .int .u8 0, .int .u8 0, .int .u8 0, .int .u8 0, .int .u8 0, .int .u8 0, .int .u8 0, .int .u8 0, .int .u8 0, .int .u8 0, .int .u8 0, .int .u8 0, .int .u8 0, .int .u8 0, .int .u8 0, .int .u8 0, .int .u8 0, .int .u8 0, .int .u8 0, .int .u8 0, .int .u8 0, .int .u8 0, .int .u8 0, .int .u8 0, .int .u8 0, .int .u8 0, .int .u8 0, .int .u8 0, .int .u8 0, .int .u8 0, .int .u8 0, .int .u8 0, .int .u8 0, .int .u8 0, .int .u8 0, .int .u8 0, .int .u8 0, .int .u8 0, .int .u8 0, .int .u8 0, .int .u8 0, .int .u8 0, .int .u8 0, .int .u8 0, .int .u8 0, .int .u8 0, .int .u8 0, .int .u8 0, .int .u8 0, .int .u8 0, .int .u8 0, .int .u8 0, .int .u8 0, .int .u8 0, .int .u8 0, .int .u8 0, .int .u8 0, .int .u8 0, .int .u8 0, .int .u8 0, .int .u8 0, .int .u8 0, .int .u8 0, .int .u8 0, .int .u8 0, .int .u8 0, .int .u8 0, .int .u8 0, .int .u8 0, .int .u8 0, .int .u8 0, .int .u8 0, .int .u8 0, .int .u8 0, .int .u8 0, .int .u8 0, .int .u8 0, .int .u8 0, .int .u8 0, .int .u8 0, .int .u8 0, .int .u8 0, .int .u8 0, .int .u8 0, .int .u8 0, .int .u8 0, .int .u8 0, .int .u8 0, .int .u8 0, .int .u8 0, .int .u8 0, .int .u8 0, .int .u8 0, .int .u8 0, .int .u8 0, .int .u8 0, .int .u8 0, .int .u8 0, .int .u8 0, .int .u8 0, .int .u8 0, .int .u8 0, .int .u8 0, .int .u8 0, .int .u8 0, .int .u8 0, .int .u8 0, .int .u8 0, .int .u8 0, .int .u8 0, .int .u8 0, .int .u8 0, .int .u8 0, .int .u8 0, .int .u8 0, .int .u8 0, .int .u8 0, .int .u8 0, .int .u8 0, .int .u8 0, .int .u8 0, .int .u8 0, .int .u8 0, .int .u8 0, .int .u8 0, .int .u8 0, .int .u8 0] := ⟨by kernel_rfl⟩
theorem letter05 (I : IMap) (c : UInt8) :
    FnV Tryz.prog 173 #[.int .u8 (c.toNat : Int)] I (.bool (isLetter c)) := by
 refine enter Tryz.func173 Tryz.call173 rfl Tryz.ntmps173 rfl (fun w0 => ?_)
 refine go 10 ?_
 refine sxb 5 rfl (fun h5 p5 => ?_) (fun h5 p5 => ?_)
 ·refine go 4 ?_
  refine sxb 9 rfl (fun h9 p9 => ?_) (fun h9 p9 => ?_)
  ·refine go 11 ?_
   refine fin1 rfl rfl ?_
   exact q_v (by simp [isLetter, h5, h9])
  ·refine go 3 ?_
   refine sxb 12 rfl (fun h12 p12 => ?_) (fun h12 p12 => ?_)
   ·refine go 8 ?_
    refine fin1 rfl rfl ?_
    exact q_v (by simp [isLetter, h5, h9, h12])
   ·refine go 8 ?_
    refine fin1 rfl rfl ?_
    exact q_v (by simp [isLetter, h5, h9, h12])
 ·refine go 7 ?_
  refine sxb 12 rfl (fun h12 p12 => ?_) (fun h12 p12 => ?_)
  ·refine go 8 ?_
   refine fin1 rfl rfl ?_
   exact q_v (by simp [isLetter, h5, h12])
  ·refine go 8 ?_
   refine fin1 rfl rfl ?_
   exact q_v (by simp [isLetter, h5, h12])

theorem digit05 (I : IMap) (c : UInt8) :
    FnV Tryz.prog 195 #[.int .u8 (c.toNat : Int)] I (.bool (isDigit c)) := by
 refine enter Tryz.func195 Tryz.call195 rfl Tryz.ntmps195 rfl (fun w0 => ?_)
 refine go 10 ?_
 refine sxb 5 rfl (fun h5 p5 => ?_) (fun h5 p5 => ?_)
 ·refine go 7 ?_
  refine fin1 rfl rfl ?_
  exact q_v (by simp [isDigit, h5])
 ·refine go 7 ?_
  refine fin1 rfl rfl ?_
  exact q_v (by simp [isDigit, h5])

theorem word05 (I : IMap) (c : UInt8) :
    FnV Tryz.prog 172 #[.int .u8 (c.toNat : Int)] I (.bool (isWord c)) := by
 refine enter Tryz.func172 Tryz.call172 rfl Tryz.ntmps172 rfl (fun w0 => ?_)
 refine go 9 ?_
 refine o_callV (letter05 _ c) rfl rfl ?_
 refine go 1 ?_
 refine sxb 5 rfl (fun h5 p5 => ?_) (fun h5 p5 => ?_)
 ·refine go 11 ?_
  refine fin1 rfl rfl ?_
  exact q_v (by simp [isWord, h5])
 ·refine go 2 ?_
  refine o_yes rfl rfl h5 (o_callV (digit05 _ c) rfl rfl ?_)
  refine go 2 ?_
  refine sxb 9 rfl (fun h9 p9 => ?_) (fun h9 p9 => ?_)
  ·refine go 7 ?_
   refine fin1 rfl rfl ?_
   exact q_v (by simp [isWord, h5, h9])
  ·refine go 7 ?_
   refine fin1 rfl rfl ?_
   exact q_v (by simp [isWord, h5, h9])

theorem name05 (I : IMap) (s : ByteArray) (hs : s.size ≤ 9223372036854775807) :
    FnV Tryz.prog 128 #[.string s] I (.bool (nameRef s)) := by
 refine enter Tryz.func128 Tryz.call128 rfl Tryz.ntmps128 rfl (fun w0 => ?_)
 refine go 12 ?_
 refine c_loop (α := Nat) 0 (fun i => I)
  (fun i => [(0, .string s), (3, .int .i64 (i : Int))])
  (fun i => [])
  (fun i => i ≤ s.size ∧ wordsTo s i = true)
  (fun i => s.size - i) ⟨Nat.zero_le _, rfl⟩ rfl sb rfl ?_
 intro i ⟨hi, hn⟩
 refine go 9 ?_
 refine cb rfl (fun h7 p7 => ?_) (fun h7 p7 => ?_)
 ·refine go 8 ?_
  refine o_v rfl (v_sidx he rfl rfl i (by omega) (by omega)) ?_
  refine go 1 ?_
  refine o_callV (word05 _ _) rfl rfl ?_
  refine go 3 ?_
  refine cb rfl (fun h14 p14 => ?_) (fun h14 p14 => ?_)
  ·refine go 11 ?_
   refine fin1 rfl rfl ?_
   exact q_v (by simp [nameRef, words_not (show i < s.size by omega) p14])
  ·refine go 9 ?_
   exact q_next (i + 1) ⟨by omega, words_succ hn p14⟩ (by omega) rfl sb rfl
 ·refine go 11 ?_
  refine sxb 18 rfl (fun h18 p18 => ?_) (fun h18 p18 => ?_)
  ·refine go 5 ?_
   refine sxb 23 rfl (fun h23 p23 => ?_) (fun h23 p23 => ?_)
   ·refine go 1 ?_
    refine o_cons (o_yes rfl rfl h23 (o_val rfl (v_sidx he rfl rfl 0 (by omega) (by omega)) ?_))
    refine go 1 ?_
    refine o_yes rfl rfl h23 (o_callV (letter05 _ _) rfl rfl ?_)
    refine go 5 ?_
    refine fin1 rfl rfl ?_
    exact q_v (by have e : i = s.size := (by omega); subst e; simp only [nameRef, hn, h7, h18, h23, bS])
   ·refine go 8 ?_
    refine fin1 rfl rfl ?_
    exact q_v (by have e : i = s.size := (by omega); subst e; simp only [nameRef, hn, h7, h18, h23, bS])
  ·refine go 13 ?_
   refine fin1 rfl rfl ?_
   exact q_v (by have e : i = s.size := (by omega); subst e; simp only [nameRef, hn, h7, h18, bS])

theorem in08 (I : IMap) (v : Value) (l : List ByteArray) (s : ByteArray) (hv : RdS I v l) :
    FnV Tryz.prog 130 #[v, .string s] I (.bool (decide (s ∈ l))) := by
 obtain ⟨A, c, rfl, hA, hc, hm⟩ := hv
 refine enter Tryz.func130 Tryz.call130 rfl Tryz.ntmps130 rfl (fun w0 => ?_)
 refine go 12 ?_
 refine c_loop (α := Nat) 0 (fun i => I)
  (fun i => [(0, .slice A l.length c), (1, .string s), (5, .int .i64 (i : Int))])
  (fun i => [])
  (fun i => i ≤ l.length ∧ ∀ j, j < i → l[j]? ≠ some s)
  (fun i => l.length - i) ⟨Nat.zero_le _, fun j hj => absurd hj (Nat.not_lt_zero j)⟩ rfl sb rfl ?_
 intro i ⟨hi, hn⟩
 refine go 9 ?_
 refine cb rfl (fun h9 p9 => ?_) (fun h9 p9 => ?_)
 ·have hlt : i < l.length := by omega
  refine go 8 ?_
  obtain ⟨b14, o14, w14, e14, c14, r14⟩ := RdA.at_ hA (i := i) hlt
  obtain rfl := r14
  refine o_v rfl (v_idx he rfl rfl e14 (i) (by omega) hlt) ?_
  refine o_v rfl (v_ldI he rfl (c14 0 _ rfl)) ?_
  refine go 4 ?_
  refine cb rfl (fun h17 p17 => ?_) (fun h17 p17 => ?_)
  ·refine go 11 ?_
   refine fin1 rfl rfl ?_
   exact q_v (by rw [← p17]; simp)
  ·refine go 9 ?_
   exact q_next (i + 1) ⟨by omega, fun j hj => sx_next hn hlt p17 j hj⟩ (by omega) rfl sb rfl
 ·refine go 11 ?_
  refine fin1 rfl rfl ?_
  exact q_v (by simp only [sx_not_mem l s (fun j hj => hn j (by omega))])

theorem ext_IndexByteString (args : Array Value) (w : World) : (callFunc 203 args).run Tryz.prog w = ((Extern.BytealgIndexByte.indexByte args).run Tryz.prog w).andThen fun v w' => .ok (.value v) w' := by
  have h1 : Extern.findNext Tryz.f203 = none := by kernel_rfl
  have h2 : Extern.find Tryz.f203 = some Extern.BytealgIndexByte.indexByte := by kernel_rfl
  have h3 : (Tryz.f203.name == "runtime.NumGoroutine") = false := by kernel_rfl
  have h4 : Tryz.f203.body.isNone = true := rfl
  simp only [callFunc, Sem.run_bind, run_program, Result.andThen_ok, Tryz.func203, h3, h4, h1, h2]
  simp
theorem indexByteString (I : IMap) (s : ByteArray) (c : UInt8) : FnV Tryz.prog 203 #[.string s, .int .u8 (c.toNat : Int)] I (.int .i64 (Lib.indexByte s.data.toList c)) := by
  refine ⟨fun w m => ?_⟩
  unfold After
  rw [ext_IndexByteString, Lib.run_indexByteString]
  exact ⟨_, I, [], rfl, m, by simp, rfl, rfl⟩

theorem indexByteLite (I : IMap) (s : ByteArray) (c : UInt8) :
    FnV Tryz.prog 188 #[.string s, .int .u8 (c.toNat : Int)] I (.int .i64 (Lib.indexByte s.data.toList c)) := by
 refine enter Tryz.func188 Tryz.call188 rfl Tryz.ntmps188 rfl (fun w0 => ?_)
 refine go 10 ?_
 refine o_callV (indexByteString I s c) rfl rfl ?_
 refine go 4 ?_
 refine fin1 rfl rfl ?_
 exact q_v rfl

theorem indexByte (I : IMap) (s : ByteArray) (c : UInt8) :
    FnV Tryz.prog 156 #[.string s, .int .u8 (c.toNat : Int)] I (.int .i64 (Lib.indexByte s.data.toList c)) := by
 refine enter Tryz.func156 Tryz.call156 rfl Tryz.ntmps156 rfl (fun w0 => ?_)
 refine go 10 ?_
 refine o_callV (indexByteLite I s c) rfl rfl ?_
 refine go 4 ?_
 refine fin1 rfl rfl ?_
 exact q_v rfl

theorem classes (I : IMap) :
    FnV Tryz.prog 105 #[] I (.agg clsTab.toArray) := by
 refine enter Tryz.func105 Tryz.call105 rfl Tryz.ntmps105 rfl (fun w0 => ?_)
 refine go 3 ?_
 refine o_alloc he rfl (fun g0 => ?_)
 refine go 5 ?_
 refine o_alloc he rfl (fun g1 => ?_)
 refine go 9 ?_
 refine c_loop (α := Nat) 0 (fun i => I)
  (fun i => [(1, .pointer (some ⟨g1, 0, none⟩)), (0, .pointer (some ⟨g0, 0, none⟩)), (4, .int .i64 (i : Int))])
  (fun i => [.blk g1 160 (clsRow i), .blk g0 160 (clsRow 0)])
  (fun i => i ≤ 256)
  (fun i => 256 - i) (by omega) rfl sb rfl ?_
 intro i hi
 refine go 6 ?_
 refine cb rfl (fun h5 p5 => ?_) (fun h5 p5 => ?_)
 ·have hlt : i < 256 := by omega
  have hb : ((i.toUInt8.toNat : Nat) : Int) = (i : Int) := by simp; omega
  refine go 3 ?_
  refine c_cut (I' := I) (L' := [(1, .pointer (some ⟨g1, 0, none⟩)), (0, .pointer (some ⟨g0, 0, none⟩)), (4, .int .i64 (i : Int))]) (H' := [.blk g1 160 (clsRow (i + 1)), .blk g0 160 (clsRow 0)]) ?_ ?_
  ·refine go 10 ?_
   refine o_v rfl (v_conv he he rfl (m := ((i.toUInt8.toNat : Nat) : Int)) (by rw [hb]; exact wrap_u8 i hlt)) ?_
   refine go 5 ?_
   refine c_cutL (L' := [(1, .pointer (some ⟨g1, 0, none⟩)), (0, .pointer (some ⟨g0, 0, none⟩)), (4, .int .i64 (i : Int)), (2, .int .i64 (i : Int)), (3, .int .u8 (i.toUInt8.toNat : Int)), (9, .bool (clsLow i.toUInt8 || clsUp i.toUInt8))]) ?_ ?_
   ·refine go 1 ?_
    refine c_cutL (L' := [(1, .pointer (some ⟨g1, 0, none⟩)), (0, .pointer (some ⟨g0, 0, none⟩)), (4, .int .i64 (i : Int)), (2, .int .i64 (i : Int)), (3, .int .u8 (i.toUInt8.toNat : Int)), (9, .bool (clsLow i.toUInt8))]) ?_ ?_
    ·refine go 4 ?_
     refine sxb 12 rfl (fun h12 p12 => ?_) (fun h12 p12 => ?_)
     ·refine go 6 ?_
      exact q_cut ⟨rfl, rfl, rfl, rfl, rfl, (congrArg (fun b => some (Value.bool b)) (by simp only [clsLow, h5, h12, bS])), trivial⟩ rfl rfl
     ·refine go 6 ?_
      exact q_cut ⟨rfl, rfl, rfl, rfl, rfl, (congrArg (fun b => some (Value.bool b)) (by simp only [clsLow, h5, h12, bS])), trivial⟩ rfl rfl
    ·refine cb rfl (fun h9 p9 => ?_) (fun h9 p9 => ?_)
     ·refine go 2 ?_
      exact q_cut ⟨rfl, rfl, rfl, rfl, rfl, (congrArg (fun b => some (Value.bool b)) (by simp only [clsUp, h9, bS])), trivial⟩ rfl rfl
     ·refine go 4 ?_
      refine sxb 18 rfl (fun h18 p18 => ?_) (fun h18 p18 => ?_)
      ·refine go 6 ?_
       exact q_cut ⟨rfl, rfl, rfl, rfl, rfl, (congrArg (fun b => some (Value.bool b)) (by simp only [clsUp, h9, h18, bS])), trivial⟩ rfl rfl
      ·refine go 6 ?_
       exact q_cut ⟨rfl, rfl, rfl, rfl, rfl, (congrArg (fun b => some (Value.bool b)) (by simp only [clsUp, h9, h18, bS])), trivial⟩ rfl rfl
   ·refine cb rfl (fun h9 p9 => ?_) (fun h9 p9 => ?_)
    ·refine go 2 ?_
     refine o_v rfl (v_aidx he rfl rfl i (by omega) (by omega)) ?_
     refine go 1 ?_
     refine o_st1 he rfl rfl rfl (by rw [clsRow_len, Nat.blt_eq]; omega) ?_
     refine go 4 ?_
     exact q_cut sb (congrArg (fun r => [Res.blk g1 _ r, _]) (clsRow_st i hlt _ (clsOf_3 h9))) rfl
    ·refine go 1 ?_
     refine c_cutL (L' := [(1, .pointer (some ⟨g1, 0, none⟩)), (0, .pointer (some ⟨g0, 0, none⟩)), (4, .int .i64 (i : Int)), (2, .int .i64 (i : Int)), (3, .int .u8 (i.toUInt8.toNat : Int)), (24, .bool (isDigit i.toUInt8))]) ?_ ?_
     ·refine go 4 ?_
      refine sxb 27 rfl (fun h27 p27 => ?_) (fun h27 p27 => ?_)
      ·refine go 6 ?_
       exact q_cut ⟨rfl, rfl, rfl, rfl, rfl, (congrArg (fun b => some (Value.bool b)) (by simp only [isDigit, h9, h27, bS])), trivial⟩ rfl rfl
      ·refine go 6 ?_
       exact q_cut ⟨rfl, rfl, rfl, rfl, rfl, (congrArg (fun b => some (Value.bool b)) (by simp only [isDigit, h9, h27, bS])), trivial⟩ rfl rfl
     ·refine cb rfl (fun h24 p24 => ?_) (fun h24 p24 => ?_)
      ·refine go 2 ?_
       refine o_v rfl (v_aidx he rfl rfl i (by omega) (by omega)) ?_
       refine go 1 ?_
       refine o_st1 he rfl rfl rfl (by rw [clsRow_len, Nat.blt_eq]; omega) ?_
       refine go 4 ?_
       exact q_cut sb (congrArg (fun r => [Res.blk g1 _ r, _]) (clsRow_st i hlt _ (clsOf_4 h9 h24))) rfl
      ·refine go 4 ?_
       refine o_callV (indexByte I _ i.toUInt8) rfl rfl ?_
       refine go 4 ?_
       refine cb rfl (fun h33 p33 => ?_) (fun h33 p33 => ?_)
       ·refine go 2 ?_
        refine o_v rfl (v_aidx he rfl rfl i (by omega) (by omega)) ?_
        refine go 1 ?_
        refine o_st1 he rfl rfl rfl (by rw [clsRow_len, Nat.blt_eq]; omega) ?_
        refine go 4 ?_
        exact q_cut sb (congrArg (fun r => [Res.blk g1 _ r, _]) (clsRow_st i hlt _ (clsOf_1 h9 h24 h33))) rfl
       ·refine go 4 ?_
        refine o_callV (indexByte I _ i.toUInt8) rfl rfl ?_
        refine go 4 ?_
        refine cb rfl (fun h39 p39 => ?_) (fun h39 p39 => ?_)
        ·refine go 2 ?_
         refine o_v rfl (v_aidx he rfl rfl i (by omega) (by omega)) ?_
         refine go 1 ?_
         refine o_st1 he rfl rfl rfl (by rw [clsRow_len, Nat.blt_eq]; omega) ?_
         refine go 4 ?_
         exact q_cut sb (congrArg (fun r => [Res.blk g1 _ r, _]) (clsRow_st i hlt _ (clsOf_6 h9 h24 h33 h39))) rfl
        ·refine go 4 ?_
         exact q_cut sb (congrArg (fun r => [Res.blk g1 _ r, _]) (clsRow_skip i hlt (clsOf_0 h9 h24 h33 h39)).symm) rfl
  ·refine go 5 ?_
   exact q_next (i + 1) (by omega) (by omega) rfl sb rfl
 ·refine go 7 ?_
  refine o_v rfl (v_aidx he rfl rfl 35 rfl (by omega)) ?_
  refine go 1 ?_
  refine o_st1 he rfl rfl rfl (by simp only [List.length_set, clsRow_len]; rfl) ?_
  refine o_v rfl (v_aidx he rfl rfl 95 rfl (by omega)) ?_
  refine go 1 ?_
  refine o_st1 he rfl rfl rfl (by simp only [List.length_set, clsRow_len]; rfl) ?_
  refine o_v rfl (v_aidx he rfl rfl 34 rfl (by omega)) ?_
  refine go 1 ?_
  refine o_st1 he rfl rfl rfl (by simp only [List.length_set, clsRow_len]; rfl) ?_
  refine go 6 ?_
  refine bring1 ?_
  refine o_stw _ he rfl rfl rfl rfl rfl rfl ?_
  refine go 3 ?_
  refine fin1 rfl ⟨_, _, _, rfl, m0, .inr ⟨_, he, rfl, rfl⟩⟩ ?_
  have e : i = 256 := (by omega)
  subst e
  exact q_v rfl

theorem lexName (I : IMap) (s : ByteArray) (hs : s.size ≤ 9223372036854775807) :
    FnV Tryz.prog 64 #[.string s] I (.bool (nameOk s)) := by
 refine enter Tryz.func64 Tryz.call64 rfl Tryz.ntmps64 rfl (fun w0 => ?_)
 refine go 8 ?_
 refine o_callV (classes _) rfl rfl ?_
 refine go 1 ?_
 refine o_alloc he rfl (fun g3 => ?_)
 refine go 1 ?_
 refine o_stw _ he rfl rfl rfl rfl rfl rfl ?_
 refine go 11 ?_
 refine c_loop (α := Nat) 0 (fun i => I)
  (fun i => [(0, .string s), (3, .pointer (some ⟨g3, 0, none⟩)), (8, .int .i64 (s.size : Int)), (9, .int .i64 (i : Int))])
  (fun i => [.blk g3 160 clsTab])
  (fun i => i ≤ s.size ∧ charsTo s i = true)
  (fun i => s.size - i) ⟨Nat.zero_le _, rfl⟩ rfl sb rfl ?_
 intro i ⟨hi, hn⟩
 refine go 6 ?_
 refine cb rfl (fun h10 p10 => ?_) (fun h10 p10 => ?_)
 ·refine go 14 ?_
  refine o_v rfl (v_sidx he rfl rfl i (by omega) (by omega)) ?_
  refine o_v rfl (v_aidx he rfl rfl (s[i]!).toNat rfl (s[i]!).toNat_lt) ?_
  refine o_v rfl (v_ld m0 he rfl (by rw [show 0 + (s[i]!).toNat * 1 = (s[i]!).toNat from by omega]; exact clsTab_at _)) ?_
  refine go 8 ?_
  refine sxb 19 rfl (fun h19 p19 => ?_) (fun h19 p19 => ?_)
  ·refine go 3 ?_
   refine sxb 22 rfl (fun h22 p22 => ?_) (fun h22 p22 => ?_)
   ·refine go 10 ?_
    refine c_true rfl ?_
    refine go 11 ?_
    refine fin1 rfl rfl ?_
    exact q_v (by simp only [nameOk, chars_not (show i < s.size by omega) (show nameChar s i = false by simp only [nameChar, ← (cls_is _).1, ← (cls_is _).2.1, ← (cls_is _).2.2]; simp_all), bS])
   ·refine go 3 ?_
    refine sxb 25 rfl (fun h25 p25 => ?_) (fun h25 p25 => ?_)
    ·refine go 7 ?_
     refine cb rfl (fun h30 p30 => ?_) (fun h30 p30 => ?_)
     ·refine go 11 ?_
      refine fin1 rfl rfl ?_
      exact q_v (by simp only [nameOk, chars_not (show i < s.size by omega) (show nameChar s i = false by simp only [nameChar, ← (cls_is _).1, ← (cls_is _).2.1, ← (cls_is _).2.2]; simp_all), bS])
     ·refine go 8 ?_
      exact q_next (i + 1) ⟨by omega, chars_succ hn (by simp only [nameChar, ← (cls_is _).1, ← (cls_is _).2.1, ← (cls_is _).2.2]; simp_all)⟩ (by omega) rfl sb rfl
    ·refine go 7 ?_
     refine c_false rfl ?_
     refine go 8 ?_
     exact q_next (i + 1) ⟨by omega, chars_succ hn (by simp only [nameChar, ← (cls_is _).1, ← (cls_is _).2.1, ← (cls_is _).2.2]; simp_all)⟩ (by omega) rfl sb rfl
  ·refine go 13 ?_
   refine c_false rfl ?_
   refine go 8 ?_
   exact q_next (i + 1) ⟨by omega, chars_succ hn (by simp only [nameChar, ← (cls_is _).1, ← (cls_is _).2.1, ← (cls_is _).2.2]; simp_all)⟩ (by omega) rfl sb rfl
 ·refine go 10 ?_
  refine sxb 34 rfl (fun h34 p34 => ?_) (fun h34 p34 => ?_)
  ·refine go 8 ?_
   refine fin1 rfl rfl ?_
   have e : i = s.size := (by omega)
   subst e
   exact q_v (by simp only [nameOk, hn, h10, h34, bS])
  ·refine go 8 ?_
   refine fin1 rfl rfl ?_
   have e : i = s.size := (by omega)
   subst e
   exact q_v (by simp only [nameOk, hn, h10, h34, bS])

end Go.Proofs.YthcefohbbfjjfaaGreat

/- Walks, printed by a program out of the code of the functions: each theorem is a contract of one function. -/
namespace Go.Proofs.YthcefohbbfjjfaaGreat
open Go Go.Sx
set_option linter.all false
set_option maxRecDepth 20000
set_option maxHeartbeats 4000000
instance T.by_9 : Has (bytesK Tryz.prog 9) ([.string ⟨#[]⟩], 1, 16) := ⟨by kernel_rfl⟩
instance T.elt_109 : Has (eltK Tryz.prog 109) (113, 3) := ⟨by kernel_rfl⟩
instance T.elt_22 : Has (eltK Tryz.prog 22) (111, 3) := ⟨by kernel_rfl⟩
instance T.elt_30 : Has (eltK Tryz.prog 30) (43, 14) := ⟨by kernel_rfl⟩
instance T.elt_37 : Has (eltK Tryz.prog 37) (49, 14) := ⟨by kernel_rfl⟩
instance T.fld_111_0 : Has (fldK Tryz.prog 111 0) (0, false, 1) := ⟨by kernel_rfl⟩
instance T.fld_111_1 : Has (fldK Tryz.prog 111 1) (1, false, 1) := ⟨by kernel_rfl⟩
instance T.fld_111_2 : Has (fldK Tryz.prog 111 2) (2, false, 1) := ⟨by kernel_rfl⟩
instance T.fld_113_0 : Has (fldK Tryz.prog 113 0) (0, false, 1) := ⟨by kernel_rfl⟩
instance T.fld_113_1 : Has (fldK Tryz.prog 113 1) (1, false, 1) := ⟨by kernel_rfl⟩
instance T.fld_113_2 : Has (fldK Tryz.prog 113 2) (2, false, 1) := ⟨by kernel_rfl⟩
instance T.fld_24_0 : Has (fldK Tryz.prog 24 0) (0, false, 1) := ⟨by kernel_rfl⟩
theorem T.mixed : Tryz.prog.follows .mixedOrders = true := by kernel_rfl
instance T.pl_111 : Has (plK Tryz.prog 111) [(0, 1), (1, 1), (2, 1)] := ⟨by kernel_rfl⟩
instance T.pl_113 : Has (plK Tryz.prog 113) [(0, 1), (1, 1), (2, 1)] := ⟨by kernel_rfl⟩
instance T.pl_24 : Has (plK Tryz.prog 24) [(0, 1)] := ⟨by kernel_rfl⟩
instance T.ty_109 : Has (tyK Tryz.prog 109) (false, 1) := ⟨by kernel_rfl⟩
instance T.ty_111 : Has (tyK Tryz.prog 111) (true, 3) := ⟨by kernel_rfl⟩
instance T.ty_113 : Has (tyK Tryz.prog 113) (true, 3) := ⟨by kernel_rfl⟩
instance T.ty_180 : Has (tyK Tryz.prog 180) (false, 1) := ⟨by kernel_rfl⟩
instance T.ty_22 : Has (tyK Tryz.prog 22) (false, 1) := ⟨by kernel_rfl⟩
instance T.ty_220 : Has (tyK Tryz.prog 220) (false, 1) := ⟨by kernel_rfl⟩
instance T.ty_24 : Has (tyK Tryz.prog 24) (true, 1) := ⟨by kernel_rfl⟩
instance T.ty_3 : Has (tyK Tryz.prog 3) (false, 1) := ⟨by kernel_rfl⟩
instance T.ty_4 : Has (tyK Tryz.prog 4) (false, 1) := ⟨by kernel_rfl⟩
instance T.ty_43 : Has (tyK Tryz.prog 43) (true, 14) := ⟨by kernel_rfl⟩
instance T.ty_49 : Has (tyK Tryz.prog 49) (true, 14) := ⟨by kernel_rfl⟩
instance T.ty_63 : Has (tyK Tryz.prog 63) (false, 1) := ⟨by kernel_rfl⟩
instance T.und_109 : Has (Tryz.prog.underlying 109) (.slice 113) := ⟨by kernel_rfl⟩
instance T.und_129 : Has (Tryz.prog.underlying 129) (.map 9 4) := ⟨by kernel_rfl⟩
instance T.und_22 : Has (Tryz.prog.underlying 22) (.slice 111) := ⟨by kernel_rfl⟩
instance T.und_30 : Has (Tryz.prog.underlying 30) (.slice 43) := ⟨by kernel_rfl⟩
instance T.und_37 : Has (Tryz.prog.underlying 37) (.slice 49) := ⟨by kernel_rfl⟩
instance T.zero_111 : Has (zeroK Tryz.prog 111) [.string ⟨#[]⟩, .bool false, .slice none 0 0] := ⟨by kernel_rfl⟩
instance T.zero_113 : Has (zeroK Tryz.prog 113) [.string ⟨#[]⟩, .slice none 0 0, .int .i64 0] := ⟨by kernel_rfl⟩
instance T.zero_24 : Has (zeroK Tryz.prog 24) [.slice none 0 0] := ⟨by kernel_rfl⟩
instance T.zero_9 : Has (zeroK Tryz.prog 9) [.string ⟨#[]⟩] := ⟨by kernel_rfl⟩
instance T.zv_4 : Has (zvK Tryz.prog 4) (.bool false) := ⟨by kernel_rfl⟩
theorem isNaN_int (I : IMap) (x : Int) :
    FnV Tryz.prog 107 #[.int .i64 x] I (.bool false) := by
 refine enter Tryz.func107 Tryz.call107 rfl Tryz.ntmps107 rfl (fun w0 => ?_)
 refine go 14 ?_
 refine fin1 rfl rfl ?_
 exact q_v (by simp)

theorem isNaN_string (I : IMap) (x : ByteArray) :
    FnV Tryz.prog 163 #[.string x] I (.bool false) := by
 refine enter Tryz.func163 Tryz.call163 rfl Tryz.ntmps163 rfl (fun w0 => ?_)
 refine go 14 ?_
 refine fin1 rfl rfl ?_
 exact q_v (by simp)

theorem compare_int (I : IMap) (x y : Int) :
    FnV Tryz.prog 68 #[.int .i64 x, .int .i64 y] I (.int .i64 (cmpI x y)) := by
 refine enter Tryz.func68 Tryz.call68 rfl Tryz.ntmps68 rfl (fun w0 => ?_)
 refine go 9 ?_
 refine o_callV (isNaN_int I x) rfl rfl ?_
 refine go 7 ?_
 refine o_callV (isNaN_int I y) rfl rfl ?_
 refine go 9 ?_
 refine c_false rfl ?_
 refine go 8 ?_
 refine c_false rfl ?_
 refine go 10 ?_
 refine cb rfl (fun h16 p16 => ?_) (fun h16 p16 => ?_)
 ·refine go 7 ?_
  refine fin1 rfl rfl ?_
  exact q_v (by unfold cmpI; simp only [p16, if_true])
 ·refine go 10 ?_
  refine cb rfl (fun h19 p19 => ?_) (fun h19 p19 => ?_)
  ·refine go 7 ?_
   refine fin1 rfl rfl ?_
   exact q_v (by unfold cmpI; simp only [p16, p19, if_true, if_false])
  ·refine go 8 ?_
   refine fin1 rfl rfl ?_
   exact q_v (by unfold cmpI; simp only [p16, p19, if_false])

theorem compare_string (I : IMap) (x y : ByteArray) :
    FnV Tryz.prog 117 #[.string x, .string y] I (.int .i64 (cmpS x y)) := by
 refine enter Tryz.func117 Tryz.call117 rfl Tryz.ntmps117 rfl (fun w0 => ?_)
 refine go 9 ?_
 refine o_callV (isNaN_string I x) rfl rfl ?_
 refine go 7 ?_
 refine o_callV (isNaN_string I y) rfl rfl ?_
 refine go 9 ?_
 refine c_false rfl ?_
 refine go 8 ?_
 refine c_false rfl ?_
 refine go 10 ?_
 refine cb rfl (fun h16 p16 => ?_) (fun h16 p16 => ?_)
 ·refine go 7 ?_
  refine fin1 rfl rfl ?_
  exact q_v (by unfold cmpS; rw [if_pos h16])
 ·refine go 10 ?_
  refine cb rfl (fun h19 p19 => ?_) (fun h19 p19 => ?_)
  ·refine go 7 ?_
   refine fin1 rfl rfl ?_
   exact q_v (by unfold cmpS; rw [if_neg (by rw [h16]; decide), if_pos h19])
  ·refine go 8 ?_
   refine fin1 rfl rfl ?_
   exact q_v (by unfold cmpS; rw [if_neg (by rw [h16]; decide), if_neg (by rw [h19]; decide)])

theorem indexFunc_Kind (I : IMap) (v : Value) (l : List Kind) (hv : RdS I v l) (f : FuncId) (cs : List Value) (p : Kind → Bool) (hp : ∀ x ∈ l, ∀ vs, Enc.rd I vs x → FnV Tryz.prog f ([Value.agg vs.toArray] ++ cs).toArray I (.bool (p x))) :
    FnV Tryz.prog 166 #[v, .func (.func f) #[] cs.toArray] I (.int .i64 (idxF p l)) := by
 obtain ⟨A, c, rfl, hA, hc, hm⟩ := hv
 refine enter Tryz.func166 Tryz.call166 rfl Tryz.ntmps166 rfl (fun w0 => ?_)
 refine go 14 ?_
 refine c_loop (α := Nat) 0 (fun i => I)
  (fun i => [(0, .slice A l.length c), (1, .func (.func f) #[] cs.toArray), (7, .int .i64 (l.length : Int)), (8, .int .i64 (i : Int))])
  (fun i => [])
  (fun i => i ≤ l.length ∧ ∀ j x, j < i → l[j]? = some x → p x = false)
  (fun i => l.length - i) ⟨Nat.zero_le _, fun j x hj => absurd hj (Nat.not_lt_zero j)⟩ rfl sb rfl ?_
 intro i ⟨hi, hn⟩
 refine go 6 ?_
 refine cb rfl (fun h9 p9 => ?_) (fun h9 p9 => ?_)
 ·have hlt : i < l.length := by omega
  refine go 15 ?_
  obtain ⟨b14, o14, w14, e14, c14, r14⟩ := RdA.at_ hA (i := i) hlt
  refine o_v rfl (v_idx he rfl rfl e14 (i) (by omega) hlt) ?_
  refine o_v rfl (v_ldIa he rfl c14 (Enc.len r14)) ?_
  refine go 1 ?_
  refine o_callV (hp _ (List.getElem_mem hlt) _ r14) rfl rfl ?_
  refine go 2 ?_
  refine cb rfl (fun h16 p16 => ?_) (fun h16 p16 => ?_)
  ·refine go 12 ?_
   refine fin1 rfl rfl ?_
   exact q_v (congrArg (Value.int .i64) (idxF_found hlt p16 hn).symm)
  ·refine go 8 ?_
   exact q_next (i + 1) ⟨by omega, idx_next hn hlt p16⟩ (by omega) rfl sb rfl
 ·refine go 11 ?_
  refine fin1 rfl rfl ?_
  exact q_v (congrArg (Value.int .i64) (idxF_none (fun j x hj => hn j x (by omega))).symm)

theorem indexFunc_Slot (I : IMap) (v : Value) (l : List Slot) (hv : RdS I v l) (f : FuncId) (cs : List Value) (p : Slot → Bool) (hp : ∀ x ∈ l, ∀ vs, Enc.rd I vs x → FnV Tryz.prog f ([Value.agg vs.toArray] ++ cs).toArray I (.bool (p x))) :
    FnV Tryz.prog 192 #[v, .func (.func f) #[] cs.toArray] I (.int .i64 (idxF p l)) := by
 obtain ⟨A, c, rfl, hA, hc, hm⟩ := hv
 refine enter Tryz.func192 Tryz.call192 rfl Tryz.ntmps192 rfl (fun w0 => ?_)
 refine go 14 ?_
 refine c_loop (α := Nat) 0 (fun i => I)
  (fun i => [(0, .slice A l.length c), (1, .func (.func f) #[] cs.toArray), (7, .int .i64 (l.length : Int)), (8, .int .i64 (i : Int))])
  (fun i => [])
  (fun i => i ≤ l.length ∧ ∀ j x, j < i → l[j]? = some x → p x = false)
  (fun i => l.length - i) ⟨Nat.zero_le _, fun j x hj => absurd hj (Nat.not_lt_zero j)⟩ rfl sb rfl ?_
 intro i ⟨hi, hn⟩
 refine go 6 ?_
 refine cb rfl (fun h9 p9 => ?_) (fun h9 p9 => ?_)
 ·have hlt : i < l.length := by omega
  refine go 15 ?_
  obtain ⟨b14, o14, w14, e14, c14, r14⟩ := RdA.at_ hA (i := i) hlt
  refine o_v rfl (v_idx he rfl rfl e14 (i) (by omega) hlt) ?_
  refine o_v rfl (v_ldIa he rfl c14 (Enc.len r14)) ?_
  refine go 1 ?_
  refine o_callV (hp _ (List.getElem_mem hlt) _ r14) rfl rfl ?_
  refine go 2 ?_
  refine cb rfl (fun h16 p16 => ?_) (fun h16 p16 => ?_)
  ·refine go 12 ?_
   refine fin1 rfl rfl ?_
   exact q_v (congrArg (Value.int .i64) (idxF_found hlt p16 hn).symm)
  ·refine go 8 ?_
   exact q_next (i + 1) ⟨by omega, idx_next hn hlt p16⟩ (by omega) rfl sb rfl
 ·refine go 11 ?_
  refine fin1 rfl rfl ?_
  exact q_v (congrArg (Value.int .i64) (idxF_none (fun j x hj => hn j x (by omega))).symm)

theorem indexFunc_Part (I : IMap) (v : Value) (l : List Part) (hv : RdS I v l) (f : FuncId) (cs : List Value) (p : Part → Bool) (hp : ∀ x ∈ l, ∀ vs, Enc.rd I vs x → FnV Tryz.prog f ([Value.agg vs.toArray] ++ cs).toArray I (.bool (p x))) :
    FnV Tryz.prog 121 #[v, .func (.func f) #[] cs.toArray] I (.int .i64 (idxF p l)) := by
 obtain ⟨A, c, rfl, hA, hc, hm⟩ := hv
 refine enter Tryz.func121 Tryz.call121 rfl Tryz.ntmps121 rfl (fun w0 => ?_)
 refine go 14 ?_
 refine c_loop (α := Nat) 0 (fun i => I)
  (fun i => [(0, .slice A l.length c), (1, .func (.func f) #[] cs.toArray), (7, .int .i64 (l.length : Int)), (8, .int .i64 (i : Int))])
  (fun i => [])
  (fun i => i ≤ l.length ∧ ∀ j x, j < i → l[j]? = some x → p x = false)
  (fun i => l.length - i) ⟨Nat.zero_le _, fun j x hj => absurd hj (Nat.not_lt_zero j)⟩ rfl sb rfl ?_
 intro i ⟨hi, hn⟩
 refine go 6 ?_
 refine cb rfl (fun h9 p9 => ?_) (fun h9 p9 => ?_)
 ·have hlt : i < l.length := by omega
  refine go 15 ?_
  obtain ⟨b14, o14, w14, e14, c14, r14⟩ := RdA.at_ hA (i := i) hlt
  refine o_v rfl (v_idx he rfl rfl e14 (i) (by omega) hlt) ?_
  refine o_v rfl (v_ldIa he rfl c14 (Enc.len r14)) ?_
  refine go 1 ?_
  refine o_callV (hp _ (List.getElem_mem hlt) _ r14) rfl rfl ?_
  refine go 2 ?_
  refine cb rfl (fun h16 p16 => ?_) (fun h16 p16 => ?_)
  ·refine go 12 ?_
   refine fin1 rfl rfl ?_
   exact q_v (congrArg (Value.int .i64) (idxF_found hlt p16 hn).symm)
  ·refine go 8 ?_
   exact q_next (i + 1) ⟨by omega, idx_next hn hlt p16⟩ (by omega) rfl sb rfl
 ·refine go 11 ?_
  refine fin1 rfl rfl ?_
  exact q_v (congrArg (Value.int .i64) (idxF_none (fun j x hj => hn j x (by omega))).symm)

theorem containsFunc_Part (I : IMap) (v : Value) (l : List Part) (hv : RdS I v l) (f : FuncId) (cs : List Value) (p : Part → Bool) (hp : ∀ x ∈ l, ∀ vs, Enc.rd I vs x → FnV Tryz.prog f ([Value.agg vs.toArray] ++ cs).toArray I (.bool (p x))) :
    FnV Tryz.prog 78 #[v, .func (.func f) #[] cs.toArray] I (.bool (l.any p)) := by
 refine enter Tryz.func78 Tryz.call78 rfl Tryz.ntmps78 rfl (fun w0 => ?_)
 refine go 10 ?_
 refine o_callV (indexFunc_Part I v l hv f cs p hp) rfl rfl ?_
 refine go 5 ?_
 refine fin1 rfl rfl ?_
 exact q_v (congrArg Value.bool (idxF_any p l))

theorem indexFunc_Evt (I : IMap) (v : Value) (l : List Evt) (hv : RdS I v l) (f : FuncId) (cs : List Value) (p : Evt → Bool) (hp : ∀ x ∈ l, ∀ vs, Enc.rd I vs x → FnV Tryz.prog f ([Value.agg vs.toArray] ++ cs).toArray I (.bool (p x))) :
    FnV Tryz.prog 65 #[v, .func (.func f) #[] cs.toArray] I (.int .i64 (idxF p l)) := by
 obtain ⟨A, c, rfl, hA, hc, hm⟩ := hv
 refine enter Tryz.func65 Tryz.call65 rfl Tryz.ntmps65 rfl (fun w0 => ?_)
 refine go 14 ?_
 refine c_loop (α := Nat) 0 (fun i => I)
  (fun i => [(0, .slice A l.length c), (1, .func (.func f) #[] cs.toArray), (7, .int .i64 (l.length : Int)), (8, .int .i64 (i : Int))])
  (fun i => [])
  (fun i => i ≤ l.length ∧ ∀ j x, j < i → l[j]? = some x → p x = false)
  (fun i => l.length - i) ⟨Nat.zero_le _, fun j x hj => absurd hj (Nat.not_lt_zero j)⟩ rfl sb rfl ?_
 intro i ⟨hi, hn⟩
 refine go 6 ?_
 refine cb rfl (fun h9 p9 => ?_) (fun h9 p9 => ?_)
 ·have hlt : i < l.length := by omega
  refine go 15 ?_
  obtain ⟨b14, o14, w14, e14, c14, r14⟩ := RdA.at_ hA (i := i) hlt
  refine o_v rfl (v_idx he rfl rfl e14 (i) (by omega) hlt) ?_
  refine o_v rfl (v_ldIa he rfl c14 (Enc.len r14)) ?_
  refine go 1 ?_
  refine o_callV (hp _ (List.getElem_mem hlt) _ r14) rfl rfl ?_
  refine go 2 ?_
  refine cb rfl (fun h16 p16 => ?_) (fun h16 p16 => ?_)
  ·refine go 12 ?_
   refine fin1 rfl rfl ?_
   exact q_v (congrArg (Value.int .i64) (idxF_found hlt p16 hn).symm)
  ·refine go 8 ?_
   exact q_next (i + 1) ⟨by omega, idx_next hn hlt p16⟩ (by omega) rfl sb rfl
 ·refine go 11 ?_
  refine fin1 rfl rfl ?_
  exact q_v (congrArg (Value.int .i64) (idxF_none (fun j x hj => hn j x (by omega))).symm)

theorem indexFunc_string (I : IMap) (v : Value) (l : List ByteArray) (hv : RdS I v l) (f : FuncId) (cs : List Value) (p : ByteArray → Bool) (hp : ∀ x ∈ l, ∀ vs, Enc.rd I vs x → FnV Tryz.prog f ([Value.string x] ++ cs).toArray I (.bool (p x))) :
    FnV Tryz.prog 162 #[v, .func (.func f) #[] cs.toArray] I (.int .i64 (idxF p l)) := by
 obtain ⟨A, c, rfl, hA, hc, hm⟩ := hv
 refine enter Tryz.func162 Tryz.call162 rfl Tryz.ntmps162 rfl (fun w0 => ?_)
 refine go 14 ?_
 refine c_loop (α := Nat) 0 (fun i => I)
  (fun i => [(0, .slice A l.length c), (1, .func (.func f) #[] cs.toArray), (7, .int .i64 (l.length : Int)), (8, .int .i64 (i : Int))])
  (fun i => [])
  (fun i => i ≤ l.length ∧ ∀ j x, j < i → l[j]? = some x → p x = false)
  (fun i => l.length - i) ⟨Nat.zero_le _, fun j x hj => absurd hj (Nat.not_lt_zero j)⟩ rfl sb rfl ?_
 intro i ⟨hi, hn⟩
 refine go 6 ?_
 refine cb rfl (fun h9 p9 => ?_) (fun h9 p9 => ?_)
 ·have hlt : i < l.length := by omega
  refine go 15 ?_
  obtain ⟨b14, o14, w14, e14, c14, r14⟩ := RdA.at_ hA (i := i) hlt
  obtain rfl := r14
  refine o_v rfl (v_idx he rfl rfl e14 (i) (by omega) hlt) ?_
  refine o_v rfl (v_ldI he rfl (c14 0 _ rfl)) ?_
  refine go 1 ?_
  refine o_callV (hp _ (List.getElem_mem hlt) _ rfl) rfl rfl ?_
  refine go 2 ?_
  refine cb rfl (fun h16 p16 => ?_) (fun h16 p16 => ?_)
  ·refine go 12 ?_
   refine fin1 rfl rfl ?_
   exact q_v (congrArg (Value.int .i64) (idxF_found hlt p16 hn).symm)
  ·refine go 8 ?_
   exact q_next (i + 1) ⟨by omega, idx_next hn hlt p16⟩ (by omega) rfl sb rfl
 ·refine go 11 ?_
  refine fin1 rfl rfl ?_
  exact q_v (congrArg (Value.int .i64) (idxF_none (fun j x hj => hn j x (by omega))).symm)

theorem containsFunc_string (I : IMap) (v : Value) (l : List ByteArray) (hv : RdS I v l) (f : FuncId) (cs : List Value) (p : ByteArray → Bool) (hp : ∀ x ∈ l, ∀ vs, Enc.rd I vs x → FnV Tryz.prog f ([Value.string x] ++ cs).toArray I (.bool (p x))) :
    FnV Tryz.prog 113 #[v, .func (.func f) #[] cs.toArray] I (.bool (l.any p)) := by
 refine enter Tryz.func113 Tryz.call113 rfl Tryz.ntmps113 rfl (fun w0 => ?_)
 refine go 10 ?_
 refine o_callV (indexFunc_string I v l hv f cs p hp) rfl rfl ?_
 refine go 5 ?_
 refine fin1 rfl rfl ?_
 exact q_v (congrArg Value.bool (idxF_any p l))

theorem index_string (I : IMap) (v : Value) (l : List ByteArray) (hv : RdS I v l) (s : ByteArray) :
    FnV Tryz.prog 84 #[v, .string s] I (.int .i64 (idxF (fun x => decide (s = x)) l)) := by
 obtain ⟨A, c, rfl, hA, hc, hm⟩ := hv
 refine enter Tryz.func84 Tryz.call84 rfl Tryz.ntmps84 rfl (fun w0 => ?_)
 refine go 14 ?_
 refine c_loop (α := Nat) 0 (fun i => I)
  (fun i => [(0, .slice A l.length c), (1, .string s), (7, .int .i64 (l.length : Int)), (8, .int .i64 (i : Int))])
  (fun i => [])
  (fun i => i ≤ l.length ∧ ∀ j x, j < i → l[j]? = some x → (fun x => decide (s = x)) x = false)
  (fun i => l.length - i) ⟨Nat.zero_le _, fun j x hj => absurd hj (Nat.not_lt_zero j)⟩ rfl sb rfl ?_
 intro i ⟨hi, hn⟩
 refine go 6 ?_
 refine cb rfl (fun h9 p9 => ?_) (fun h9 p9 => ?_)
 ·have hlt : i < l.length := by omega
  refine go 15 ?_
  obtain ⟨b14, o14, w14, e14, c14, r14⟩ := RdA.at_ hA (i := i) hlt
  obtain rfl := r14
  refine o_v rfl (v_idx he rfl rfl e14 (i) (by omega) hlt) ?_
  refine o_v rfl (v_ldI he rfl (c14 0 _ rfl)) ?_
  refine go 3 ?_
  refine cb rfl (fun h16 p16 => ?_) (fun h16 p16 => ?_)
  ·refine go 12 ?_
   refine fin1 rfl rfl ?_
   exact q_v (congrArg (Value.int .i64) (idxF_found (p := fun x => decide (s = x)) hlt h16 hn).symm)
  ·refine go 8 ?_
   exact q_next (i + 1) ⟨by omega, idx_next (p := fun x => decide (s = x)) hn hlt h16⟩ (by omega) rfl sb rfl
 ·refine go 11 ?_
  refine fin1 rfl rfl ?_
  exact q_v (congrArg (Value.int .i64) (idxF_none (p := fun x => decide (s = x)) (fun j x hj => hn j x (by omega))).symm)

theorem contains_string (I : IMap) (v : Value) (l : List ByteArray) (hv : RdS I v l) (s : ByteArray) :
    FnV Tryz.prog 42 #[v, .string s] I (.bool (decide (s ∈ l))) := by
 refine enter Tryz.func42 Tryz.call42 rfl Tryz.ntmps42 rfl (fun w0 => ?_)
 refine go 10 ?_
 refine o_callV (index_string I v l hv s) rfl rfl ?_
 refine go 5 ?_
 refine fin1 rfl rfl ?_
 exact q_v (congrArg Value.bool ((idxF_any _ l).trans (any_mem s l)))

theorem kindName (I : IMap) (k : Kind) (vs : List Value) (h : Enc.rd I vs k) :
    FnV Tryz.prog 120 #[.agg vs.toArray] I (.string k.name) := by
 obtain ⟨ss, rfl, hs⟩ := h
 refine enter Tryz.func120 Tryz.call120 rfl Tryz.ntmps120 rfl (fun w0 => ?_)
 refine go 3 ?_
 refine o_box _ rfl rfl rfl (fun g1 => ?_)
 refine go 11 ?_
 refine fin1 rfl rfl ?_
 exact q_v rfl

theorem slotName (I : IMap) (k : Slot) (vs : List Value) (h : Enc.rd I vs k) :
    FnV Tryz.prog 169 #[.agg vs.toArray] I (.string k.name) := by
 obtain ⟨ss, rfl, hs⟩ := h
 refine enter Tryz.func169 Tryz.call169 rfl Tryz.ntmps169 rfl (fun w0 => ?_)
 refine go 3 ?_
 refine o_box _ rfl rfl rfl (fun g1 => ?_)
 refine go 11 ?_
 refine fin1 rfl rfl ?_
 exact q_v rfl

theorem indexC_Kind (I : IMap) (k : Kind) (vs : List Value) (h : Enc.rd I vs k) (fn : FuncId) (nm : Kind → ByteArray) (s : ByteArray) (hn : FnV Tryz.prog fn #[.agg vs.toArray] I (.string (nm k))) (g1 g2 : Nat) (c1 : ICells I g1 0 [.func (.func fn) #[] #[]]) (c2 : ICells I g2 0 [.string s]) :
    FnV Tryz.prog 167 #[.agg vs.toArray, .pointer (some ⟨g1, 0, none⟩), .pointer (some ⟨g2, 0, none⟩)] I (.bool (decide (nm k = s))) := by
 have hl := Enc.len h
 refine enter Tryz.func167 Tryz.call167 rfl Tryz.ntmps167 rfl (fun w0 => ?_)
 refine go 3 ?_
 refine o_box _ rfl rfl rfl (fun g3 => ?_)
 refine go 4 ?_
 refine d_startH T.mixed ?_
 refine d_tv 0 rfl rfl (by kernel_rfl) rfl (.refl _) rfl (v_ldI he rfl (c1 0 _ rfl)) ?_
 refine d_tv 1 rfl rfl (by kernel_rfl) rfl (.refl _) rfl (v_ldw m0 he rfl hl) ?_
 refine d_tv 3 rfl rfl (by kernel_rfl) rfl (.refl _) rfl (v_ldI he rfl (c2 0 _ rfl)) ?_
 refine d_one 2 (by kernel_rfl) rfl ?_
 refine o_callV (hn) rfl rfl ?_
 refine d_on (fun _ m => m.keeps (.refl _)) ?_
 refine d_tv 4 rfl rfl (by kernel_rfl) rfl (.refl _) rfl (v_seql rfl rfl) ?_
 refine d_tv 5 rfl rfl (by kernel_rfl) rfl (.refl _) rfl (v_assign rfl) ?_
 refine d_done (by kernel_rfl) ?_
 refine go 2 ?_
 refine fin1 rfl rfl ?_
 exact q_v rfl

theorem index_Kind (I : IMap) (v : Value) (l : List Kind) (hv : RdS I v l) (fn : FuncId) (nm : Kind → ByteArray) (s : ByteArray) (hn : ∀ J, ILe I J → ∀ x ∈ l, ∀ vs, Enc.rd J vs x → FnV Tryz.prog fn #[.agg vs.toArray] J (.string (nm x))) :
    FnV Tryz.prog 119 #[v, .func (.func fn) #[] #[], .string s] I (.int .i64 (idxF (fun x => decide (nm x = s)) l)) := by
 refine enter Tryz.func119 Tryz.call119 rfl Tryz.ntmps119 rfl (fun w0 => ?_)
 refine go 3 ?_
 refine o_box _ rfl rfl rfl (fun g4 => ?_)
 refine go 1 ?_
 refine o_box _ rfl rfl rfl (fun g5 => ?_)
 refine go 6 ?_
 refine bring1 ?_
 refine sx_pub (fun Ig4 jg4 cg4 => ?_)
 refine sx_pub (fun Ig5 jg5 cg5 => ?_)
 refine o_v rfl (v_makeFunc rfl rfl) ?_
 refine go 1 ?_
 refine o_callV (indexFunc_Kind _ v l (hv.le (jg4.trans jg5)) _ [.pointer (some ⟨g4, 0, none⟩), .pointer (some ⟨g5, 0, none⟩)] (fun x => decide (nm x = s)) (fun x hx vs hr => indexC_Kind _ x vs hr fn nm s (hn _ (jg4.trans jg5) x hx vs hr) g4 g5 (cg4.le jg5) cg5)) rfl rfl ?_
 refine go 4 ?_
 refine fin1 rfl rfl ?_
 exact q_vI rfl

theorem indexC_Slot (I : IMap) (k : Slot) (vs : List Value) (h : Enc.rd I vs k) (fn : FuncId) (nm : Slot → ByteArray) (s : ByteArray) (hn : FnV Tryz.prog fn #[.agg vs.toArray] I (.string (nm k))) (g1 g2 : Nat) (c1 : ICells I g1 0 [.func (.func fn) #[] #[]]) (c2 : ICells I g2 0 [.string s]) :
    FnV Tryz.prog 193 #[.agg vs.toArray, .pointer (some ⟨g1, 0, none⟩), .pointer (some ⟨g2, 0, none⟩)] I (.bool (decide (nm k = s))) := by
 have hl := Enc.len h
 refine enter Tryz.func193 Tryz.call193 rfl Tryz.ntmps193 rfl (fun w0 => ?_)
 refine go 3 ?_
 refine o_box _ rfl rfl rfl (fun g3 => ?_)
 refine go 4 ?_
 refine d_startH T.mixed ?_
 refine d_tv 0 rfl rfl (by kernel_rfl) rfl (.refl _) rfl (v_ldI he rfl (c1 0 _ rfl)) ?_
 refine d_tv 1 rfl rfl (by kernel_rfl) rfl (.refl _) rfl (v_ldw m0 he rfl hl) ?_
 refine d_tv 3 rfl rfl (by kernel_rfl) rfl (.refl _) rfl (v_ldI he rfl (c2 0 _ rfl)) ?_
 refine d_one 2 (by kernel_rfl) rfl ?_
 refine o_callV (hn) rfl rfl ?_
 refine d_on (fun _ m => m.keeps (.refl _)) ?_
 refine d_tv 4 rfl rfl (by kernel_rfl) rfl (.refl _) rfl (v_seql rfl rfl) ?_
 refine d_tv 5 rfl rfl (by kernel_rfl) rfl (.refl _) rfl (v_assign rfl) ?_
 refine d_done (by kernel_rfl) ?_
 refine go 2 ?_
 refine fin1 rfl rfl ?_
 exact q_v rfl

theorem index_Slot (I : IMap) (v : Value) (l : List Slot) (hv : RdS I v l) (fn : FuncId) (nm : Slot → ByteArray) (s : ByteArray) (hn : ∀ J, ILe I J → ∀ x ∈ l, ∀ vs, Enc.rd J vs x → FnV Tryz.prog fn #[.agg vs.toArray] J (.string (nm x))) :
    FnV Tryz.prog 168 #[v, .func (.func fn) #[] #[], .string s] I (.int .i64 (idxF (fun x => decide (nm x = s)) l)) := by
 refine enter Tryz.func168 Tryz.call168 rfl Tryz.ntmps168 rfl (fun w0 => ?_)
 refine go 3 ?_
 refine o_box _ rfl rfl rfl (fun g4 => ?_)
 refine go 1 ?_
 refine o_box _ rfl rfl rfl (fun g5 => ?_)
 refine go 6 ?_
 refine bring1 ?_
 refine sx_pub (fun Ig4 jg4 cg4 => ?_)
 refine sx_pub (fun Ig5 jg5 cg5 => ?_)
 refine o_v rfl (v_makeFunc rfl rfl) ?_
 refine go 1 ?_
 refine o_callV (indexFunc_Slot _ v l (hv.le (jg4.trans jg5)) _ [.pointer (some ⟨g4, 0, none⟩), .pointer (some ⟨g5, 0, none⟩)] (fun x => decide (nm x = s)) (fun x hx vs hr => indexC_Slot _ x vs hr fn nm s (hn _ (jg4.trans jg5) x hx vs hr) g4 g5 (cg4.le jg5) cg5)) rfl rfl ?_
 refine go 4 ?_
 refine fin1 rfl rfl ?_
 exact q_vI rfl

theorem catFind (I : IMap) (v : Value) (l : List Kind) (hv : RdS I v l) (s : ByteArray) :
    FnE Tryz.prog 76 #[.agg #[v], .string s] I (KindIs I (findK l s)) := by
 refine enter Tryz.func76 Tryz.call76 rfl Tryz.ntmps76 rfl (fun w0 => ?_)
 refine go 3 ?_
 refine o_box _ rfl rfl rfl (fun g2 => ?_)
 refine go 1 ?_
 refine o_alloc he rfl (fun g4 => ?_)
 refine go 9 ?_
 refine o_callV (index_Kind I _ l hv _ Kind.name s (fun J hJ x _ vs hr => kindName J x vs hr)) rfl rfl ?_
 refine go 10 ?_
 refine cb rfl (fun h12 p12 => ?_) (fun h12 p12 => ?_)
 ·have hN := ((idxF_find (fun x => decide (Kind.name x = s)) l).resolve_right (by rintro ⟨i, hi, e, _⟩; omega)).2
  refine go 3 ?_
  refine o_val rfl (v_build (pl := [(0, 1), (1, 1), (2, 1)]) he he rfl rfl) ?_
  refine go 1 ?_
  refine o_stw _ he rfl rfl rfl rfl rfl rfl ?_
  refine go 5 ?_
  refine fin2 rfl ⟨_, _, _, rfl, m0, .inr ⟨_, he, rfl, rfl⟩⟩ rfl ?_
  exact q_e (KindIs.none hN)
 ·obtain ⟨i, hi, ei, hF⟩ := (idxF_find (fun x => decide (Kind.name x = s)) l).resolve_left (fun h => by omega)
  refine go 7 ?_
  obtain ⟨A, c0, rfl, hA, hc, hm⟩ := hv
  obtain ⟨b17, o17, w17, e17, c17, r17⟩ := RdA.at_ hA (i := i) hi
  obtain ⟨q17, rfl, B17, d17, rfl, hB17, hd17, hm17⟩ := r17
  refine o_v rfl (v_idx he rfl rfl e17 (i) ei hi) ?_
  refine o_v rfl (v_ldIa he rfl c17 rfl) ?_
  refine go 1 ?_
  refine o_stw _ he rfl rfl rfl rfl rfl rfl ?_
  refine go 4 ?_
  refine fin2 rfl ⟨_, _, _, rfl, m0, .inr ⟨_, he, rfl, rfl⟩⟩ rfl ?_
  exact q_e (KindIs.of hF ⟨_, rfl, B17, d17, rfl, hB17, hd17, hm17⟩)

theorem catSlot (I : IMap) (v : Value) (l : List Kind) (hv : RdS I v l) (k s : ByteArray) :
    FnE Tryz.prog 122 #[.agg #[v], .string k, .string s] I (SlotIs I (slotF l k s)) := by
 refine enter Tryz.func122 Tryz.call122 rfl Tryz.ntmps122 rfl (fun w0 => ?_)
 refine go 3 ?_
 refine o_box _ rfl rfl rfl (fun g3 => ?_)
 refine go 1 ?_
 refine o_alloc he rfl (fun g6 => ?_)
 refine go 8 ?_
 refine o_callE (catFind I _ l hv k) rfl rfl (fun v14 q14 => ?_)
 obtain ⟨vs, rfl, ss, rfl, hsl⟩ := q14
 refine go 4 ?_
 refine o_alloc he rfl (fun g8 => ?_)
 refine go 1 ?_
 refine o_stw _ he rfl rfl rfl rfl rfl (by simp [Kind.cells, hsl.one]; exact ⟨rfl, rfl⟩) ?_
 refine go 9 ?_
 refine o_callV (index_Slot I _ _ hsl _ Slot.name s (fun J hJ x _ vs hr => slotName J x vs hr)) rfl rfl ?_
 refine go 10 ?_
 refine cb rfl (fun h22 p22 => ?_) (fun h22 p22 => ?_)
 ·have hN := ((idxF_find (fun x => decide (Slot.name x = s)) ((findK l k).getD zKind).slots).resolve_right (by rintro ⟨i, hi, e, _⟩; omega)).2
  refine go 3 ?_
  refine o_val rfl (v_build (pl := [(0, 1), (1, 1), (2, 1)]) he he rfl rfl) ?_
  refine go 1 ?_
  refine bring1 ?_
  refine o_stw _ he rfl rfl rfl rfl rfl rfl ?_
  refine go 5 ?_
  refine fin2 rfl ⟨_, _, _, rfl, m0, .inr ⟨_, he, rfl, rfl⟩⟩ rfl ?_
  exact q_e (SlotIs.none hN)
 ·obtain ⟨i, hi, ei, hF⟩ := (idxF_find (fun x => decide (Slot.name x = s)) ((findK l k).getD zKind).slots).resolve_left (fun h => by omega)
  obtain ⟨A, c0, rfl, hA, hc, hm⟩ := hsl
  refine go 7 ?_
  obtain ⟨b27, o27, w27, e27, c27, r27⟩ := RdA.at_ hA (i := i) hi
  obtain ⟨q27, rfl, B27, d27, rfl, hB27, hd27, hm27⟩ := r27
  refine o_v rfl (v_idx he rfl rfl e27 (i) ei hi) ?_
  refine o_v rfl (v_ldIa he rfl c27 rfl) ?_
  refine go 1 ?_
  refine bring1 ?_
  refine o_stw _ he rfl rfl rfl rfl rfl rfl ?_
  refine go 4 ?_
  refine fin2 rfl ⟨_, _, _, rfl, m0, .inr ⟨_, he, rfl, rfl⟩⟩ rfl ?_
  exact q_e (SlotIs.of hF ⟨_, rfl, B27, d27, rfl, hB27, hd27, hm27⟩)

theorem catTakes (I : IMap) (v : Value) (l : List Kind) (hv : RdS I v l) (k s p : ByteArray) :
    FnV Tryz.prog 79 #[.agg #[v], .string k, .string s, .string p] I (.bool (takesF l k s p)) := by
 refine enter Tryz.func79 Tryz.call79 rfl Tryz.ntmps79 rfl (fun w0 => ?_)
 refine go 3 ?_
 refine o_box _ rfl rfl rfl (fun g4 => ?_)
 refine go 9 ?_
 refine o_callE (catSlot I _ l hv k s) rfl rfl (fun v15 q15 => ?_)
 obtain ⟨vs, rfl, ss, rfl, hsl⟩ := q15
 refine go 4 ?_
 refine o_alloc he rfl (fun g9 => ?_)
 refine go 1 ?_
 refine o_stw _ he rfl rfl rfl rfl rfl (by simp [Slot.cells, hsl.one]; exact ⟨rfl, rfl⟩) ?_
 refine go 7 ?_
 refine sxb 19 rfl (fun h19 p19 => ?_) (fun h19 p19 => ?_)
 ·refine go 4 ?_
  refine o_yes rfl rfl h19 (o_callV (contains_string I _ _ hsl p) rfl rfl ?_)
  refine go 5 ?_
  refine fin1 rfl rfl ?_
  exact q_v (congrArg Value.bool (by revert h19; unfold takesF; cases slotF l k s <;> simp))
 ·refine go 9 ?_
  refine fin1 rfl rfl ?_
  exact q_v (congrArg Value.bool (by revert h19; unfold takesF; cases slotF l k s <;> simp))

theorem catValid (I : IMap) (v : Value) (l : List Kind) (hv : RdS I v l) (hs : SmC l) :
    FnV Tryz.prog 35 #[.agg #[v]] I (.bool (validC l)) := by
 obtain ⟨A, c0, rfl, hA, hc, hm⟩ := hv
 refine enter Tryz.func35 Tryz.call35 rfl Tryz.ntmps35 rfl (fun w0 => ?_)
 refine go 3 ?_
 refine o_box _ rfl rfl rfl (fun g1 => ?_)
 refine go 6 ?_
 refine o_map0 (Value.string) he rfl (fun r14 => ?_)
 refine go 13 ?_
 refine c_loop (α := Nat) 0 (fun i => I)
  (fun i => [(1, .pointer (some ⟨g1, 0, none⟩)), (3, .map (some r14)), (16, .slice A l.length c0), (17, .int .i64 (l.length : Int)), (18, .int .i64 (i : Int))])
  (fun i => [.mp r14 (emap Value.string (kvsOf Kind.name (fun k => Value.bool (!k.vehicle)) (l.take i))), .blk g1 24 [.slice A l.length c0]])
  (fun i => i ≤ l.length ∧ allP kindFine l i = true)
  (fun i => l.length - i) ⟨Nat.zero_le _, rfl⟩ rfl sb rfl ?_
 intro i ⟨hi, hn⟩
 refine go 6 ?_
 refine cb rfl (fun h19 p19 => ?_) (fun h19 p19 => ?_)
 ·have hlt : i < l.length := by omega
  refine go 6 ?_
  obtain ⟨b20, o20, w20, e20, c20, r20⟩ := RdA.at_ hA (i := i) hlt
  obtain ⟨q20, rfl, B20, d20, rfl, hB20, hd20, hm20⟩ := r20
  refine o_v rfl (v_idx he rfl rfl e20 (i) (by omega) hlt) ?_
  refine o_v rfl (v_ldIa he rfl c20 rfl) ?_
  refine go 1 ?_
  refine o_alloc he rfl (fun g5 => ?_)
  refine go 1 ?_
  refine o_stw _ he rfl rfl rfl rfl rfl rfl ?_
  refine go 8 ?_
  refine o_v rfl (v_get2 m1 (key_string he) he he (l[i].name) rfl rfl rfl (kvs_some _ _ _ _)) ?_
  refine go 8 ?_
  refine c_cut (I' := I) (L' := [(1, .pointer (some ⟨g1, 0, none⟩)), (3, .map (some r14)), (16, .slice A l.length c0), (17, .int .i64 (l.length : Int)), (18, .int .i64 (i : Int)), (5, .pointer (some ⟨g5, 0, none⟩)), (41, .bool ((hit Kind.name (l.take i) l[i].name || !nameOk l[i].name) || decide ((12 : Int) < (l[i].slots.length : Nat))))]) (H' := [.blk g5 111 (l[i].cells (.slice B20 l[i].slots.length d20)), .mp r14 (emap Value.string (kvsOf Kind.name (fun k => Value.bool (!k.vehicle)) (l.take i))), .blk g1 24 [.slice A l.length c0]]) ?_ ?_
  ·refine go 3 ?_
   refine sxb 30 rfl (fun h30 p30 => ?_) (fun h30 p30 => ?_)
   ·refine go 13 ?_
    exact q_cut ⟨rfl, rfl, rfl, rfl, rfl, rfl, (congrArg (fun b => some (Value.bool b)) (by simp only [h19, h30, bS])), trivial⟩ rfl rfl
   ·refine go 3 ?_
    refine o_yes rfl rfl h30 (o_callV (lexName _ _ (hs _ (List.getElem_mem hlt)).1) rfl rfl ?_)
    refine go 3 ?_
    refine sxb 36 rfl (fun h36 p36 => ?_) (fun h36 p36 => ?_)
    ·refine go 7 ?_
     exact q_cut ⟨rfl, rfl, rfl, rfl, rfl, rfl, (congrArg (fun b => some (Value.bool b)) (by simp only [h19, h30, h36, bS])), trivial⟩ rfl rfl
    ·refine go 7 ?_
     exact q_cut ⟨rfl, rfl, rfl, rfl, rfl, rfl, (congrArg (fun b => some (Value.bool b)) (by simp only [h19, h30, h36, bS])), trivial⟩ rfl rfl
  ·refine cb rfl (fun h41 p41 => ?_) (fun h41 p41 => ?_)
   ·refine go 12 ?_
    refine fin1 rfl rfl ?_
    exact q_v (congrArg Value.bool (by simp only [validC, allP_not hlt (show kindFine (l.take i) l[i] = false by simp only [kindFine, h41]; rfl), bS]))
   ·refine go 5 ?_
    refine o_map0 (Value.string) he rfl (fun r42 => ?_)
    refine go 13 ?_
    refine c_loop (α := Nat) 0 (fun j => I)
     (fun j => [(1, .pointer (some ⟨g1, 0, none⟩)), (3, .map (some r14)), (16, .slice A l.length c0), (17, .int .i64 (l.length : Int)), (18, .int .i64 (i : Int)), (5, .pointer (some ⟨g5, 0, none⟩)), (8, .map (some r42)), (44, .slice B20 l[i].slots.length d20), (45, .int .i64 (l[i].slots.length : Int)), (46, .int .i64 (j : Int))])
     (fun j => [.mp r42 (emap Value.string (kvsOf Slot.name (fun _ => Value.bool true) (l[i].slots.take j))), .blk g5 111 (l[i].cells (.slice B20 l[i].slots.length d20)), .mp r14 (emap Value.string (kvsOf Kind.name (fun k => Value.bool (!k.vehicle)) (l.take i))), .blk g1 24 [.slice A l.length c0]])
     (fun j => j ≤ l[i].slots.length ∧ allP (slotFine (l.take i)) l[i].slots j = true)
     (fun j => l[i].slots.length - j) ⟨Nat.zero_le _, rfl⟩ rfl sb rfl ?_
    intro j ⟨hj, hq⟩
    refine go 6 ?_
    refine cb rfl (fun h47 p47 => ?_) (fun h47 p47 => ?_)
    ·have hltj : j < l[i].slots.length := by omega
     refine go 6 ?_
     obtain ⟨b48, o48, w48, e48, c48, r48⟩ := RdA.at_ hB20 (i := j) hltj
     obtain ⟨q48, rfl, B48, d48, rfl, hB48, hd48, hm48⟩ := r48
     refine o_v rfl (v_idx he rfl rfl e48 (j) (by omega) hltj) ?_
     refine o_v rfl (v_ldIa he rfl c48 rfl) ?_
     refine go 1 ?_
     refine o_alloc he rfl (fun g10 => ?_)
     refine go 1 ?_
     refine o_stw _ he rfl rfl rfl rfl rfl rfl ?_
     refine go 4 ?_
     refine c_cut (I' := I) (L' := [(1, .pointer (some ⟨g1, 0, none⟩)), (3, .map (some r14)), (16, .slice A l.length c0), (17, .int .i64 (l.length : Int)), (18, .int .i64 (i : Int)), (5, .pointer (some ⟨g5, 0, none⟩)), (8, .map (some r42)), (44, .slice B20 l[i].slots.length d20), (45, .int .i64 (l[i].slots.length : Int)), (46, .int .i64 (j : Int)), (10, .pointer (some ⟨g10, 0, none⟩)), (72, .bool (((hit Slot.name (l[i].slots.take j) l[i].slots[j].name || !nameOk l[i].slots[j].name) || decide (l[i].slots[j].normal < 1)) || decide ((l[i].slots[j].kinds.length : Int) < l[i].slots[j].normal)))]) (H' := [.blk g10 113 (l[i].slots[j].cells (.slice B48 l[i].slots[j].kinds.length d48)), .mp r42 (emap Value.string (kvsOf Slot.name (fun _ => Value.bool true) (l[i].slots.take j))), .blk g5 111 (l[i].cells (.slice B20 l[i].slots.length d20)), .mp r14 (emap Value.string (kvsOf Kind.name (fun k => Value.bool (!k.vehicle)) (l.take i))), .blk g1 24 [.slice A l.length c0]]) ?_ ?_
     ·refine go 4 ?_
      refine o_v rfl (v_get m1 (key_string he) he he (l[i].slots[j].name) rfl rfl (kvs_hit1 _ _ _)) ?_
      refine go 1 ?_
      refine sxb 54 rfl (fun h54 p54 => ?_) (fun h54 p54 => ?_)
      ·refine go 20 ?_
       exact q_cut ⟨rfl, rfl, rfl, rfl, rfl, rfl, rfl, rfl, rfl, rfl, rfl, (congrArg (fun b => some (Value.bool b)) (by simp only [h47, h54, bS])), trivial⟩ rfl rfl
      ·refine go 3 ?_
       refine o_yes rfl rfl h54 (o_callV (lexName _ _ ((hs _ (List.getElem_mem hlt)).2 _ (List.getElem_mem hltj)).1) rfl rfl ?_)
       refine go 3 ?_
       refine sxb 60 rfl (fun h60 p60 => ?_) (fun h60 p60 => ?_)
       ·refine go 14 ?_
        exact q_cut ⟨rfl, rfl, rfl, rfl, rfl, rfl, rfl, rfl, rfl, rfl, rfl, (congrArg (fun b => some (Value.bool b)) (by simp only [h47, h54, h60, bS])), trivial⟩ rfl rfl
       ·refine go 5 ?_
        refine sxb 65 rfl (fun h65 p65 => ?_) (fun h65 p65 => ?_)
        ·refine go 9 ?_
         exact q_cut ⟨rfl, rfl, rfl, rfl, rfl, rfl, rfl, rfl, rfl, rfl, rfl, (congrArg (fun b => some (Value.bool b)) (by simp only [h47, h54, h60, h65, bS])), trivial⟩ rfl rfl
        ·refine go 9 ?_
         exact q_cut ⟨rfl, rfl, rfl, rfl, rfl, rfl, rfl, rfl, rfl, rfl, rfl, (congrArg (fun b => some (Value.bool b)) (by simp only [h47, h54, h60, h65, bS])), trivial⟩ rfl rfl
     ·refine cb rfl (fun h72 p72 => ?_) (fun h72 p72 => ?_)
      ·refine go 17 ?_
       refine fin1 rfl rfl ?_
       exact q_v (congrArg Value.bool (by simp only [validC, allP_not hlt (show kindFine (l.take i) l[i] = false by simp only [kindFine, allP_not hltj (show slotFine (l.take i) (l[i].slots.take j) l[i].slots[j] = false by simp only [slotFine, h72]; rfl), bS]), bS]))
      ·refine go 8 ?_
       have h72n : hit Slot.name (l[i].slots.take j) l[i].slots[j].name = false := by revert h72; cases hit Slot.name (l[i].slots.take j) l[i].slots[j].name <;> simp
       refine bring1 ?_
       refine o_mapPut (kvsOf Slot.name (fun _ => Value.bool true) (l[i].slots.take (j + 1))) (key_string he) he (l[i].slots[j].name) rfl rfl rfl ((kvs_put Slot.name (fun _ => Value.bool true) (l[i].slots.take j) l[i].slots[j] (hit_none h72n)).trans (by rw [take_succ_of hltj])) ?_
       refine go 5 ?_
       refine o_map0 (Value.string) he rfl (fun r76 => ?_)
       refine go 12 ?_
       refine bring2 ?_
       refine sx_drop ?_
       refine c_loop (α := Nat) 0 (fun m => I)
        (fun m => [(1, .pointer (some ⟨g1, 0, none⟩)), (3, .map (some r14)), (16, .slice A l.length c0), (17, .int .i64 (l.length : Int)), (18, .int .i64 (i : Int)), (5, .pointer (some ⟨g5, 0, none⟩)), (8, .map (some r42)), (44, .slice B20 l[i].slots.length d20), (45, .int .i64 (l[i].slots.length : Int)), (46, .int .i64 (j : Int)), (10, .pointer (some ⟨g10, 0, none⟩)), (11, .map (some r76)), (78, .slice B48 l[i].slots[j].kinds.length d48), (79, .int .i64 (l[i].slots[j].kinds.length : Int)), (80, .int .i64 (m : Int))])
        (fun m => [.mp r76 (emap Value.string (kvsOf _root_.id (fun _ => Value.bool true) (l[i].slots[j].kinds.take m))), .mp r42 (emap Value.string (kvsOf Slot.name (fun _ => Value.bool true) (l[i].slots.take (j + 1)))), .blk g5 111 (l[i].cells (.slice B20 l[i].slots.length d20)), .mp r14 (emap Value.string (kvsOf Kind.name (fun k => Value.bool (!k.vehicle)) (l.take i))), .blk g1 24 [.slice A l.length c0]])
        (fun m => m ≤ l[i].slots[j].kinds.length ∧ allP (kindIn (l.take i)) l[i].slots[j].kinds m = true)
        (fun m => l[i].slots[j].kinds.length - m) ⟨Nat.zero_le _, rfl⟩ rfl sb rfl ?_
       intro m ⟨hmm, hr⟩
       refine go 6 ?_
       refine cb rfl (fun h81 p81 => ?_) (fun h81 p81 => ?_)
       ·have hltm : m < l[i].slots[j].kinds.length := by omega
        refine go 6 ?_
        obtain ⟨b82, o82, w82, e82, c82, r82⟩ := RdA.at_ hB48 (i := m) hltm
        obtain rfl := r82
        refine o_v rfl (v_idx he rfl rfl e82 (m) (by omega) hltm) ?_
        refine o_v rfl (v_ldI he rfl (c82 0 _ rfl)) ?_
        refine go 5 ?_
        refine c_cut (I' := I) (L' := [(1, .pointer (some ⟨g1, 0, none⟩)), (3, .map (some r14)), (16, .slice A l.length c0), (17, .int .i64 (l.length : Int)), (18, .int .i64 (i : Int)), (5, .pointer (some ⟨g5, 0, none⟩)), (8, .map (some r42)), (44, .slice B20 l[i].slots.length d20), (45, .int .i64 (l[i].slots.length : Int)), (46, .int .i64 (j : Int)), (10, .pointer (some ⟨g10, 0, none⟩)), (11, .map (some r76)), (78, .slice B48 l[i].slots[j].kinds.length d48), (79, .int .i64 (l[i].slots[j].kinds.length : Int)), (80, .int .i64 (m : Int)), (13, .string l[i].slots[j].kinds[m]), (92, .bool (hit _root_.id (l[i].slots[j].kinds.take m) l[i].slots[j].kinds[m] || !hitV Kind.name (fun k => !k.vehicle) (l.take i) l[i].slots[j].kinds[m]))]) (H' := [.mp r76 (emap Value.string (kvsOf _root_.id (fun _ => Value.bool true) (l[i].slots[j].kinds.take m))), .mp r42 (emap Value.string (kvsOf Slot.name (fun _ => Value.bool true) (l[i].slots.take (j + 1)))), .blk g5 111 (l[i].cells (.slice B20 l[i].slots.length d20)), .mp r14 (emap Value.string (kvsOf Kind.name (fun k => Value.bool (!k.vehicle)) (l.take i))), .blk g1 24 [.slice A l.length c0]]) ?_ ?_
        ·refine go 3 ?_
         refine o_v rfl (v_get m0 (key_string he) he he (l[i].slots[j].kinds[m]) rfl rfl (kvs_hit1 _root_.id _ _)) ?_
         refine go 1 ?_
         refine sxb 87 rfl (fun h87 p87 => ?_) (fun h87 p87 => ?_)
         ·refine go 7 ?_
          exact q_cut ⟨rfl, rfl, rfl, rfl, rfl, rfl, rfl, rfl, rfl, rfl, rfl, rfl, rfl, rfl, rfl, rfl, (congrArg (fun b => some (Value.bool b)) (by simp only [h81, h87, bS])), trivial⟩ rfl rfl
         ·refine go 2 ?_
          refine o_cons (o_yes rfl rfl h87 (o_val rfl (v_get m3 (key_string he) he he (l[i].slots[j].kinds[m]) rfl rfl (kvs_hit Kind.name (fun k => !k.vehicle) _ _)) ?_))
          refine go 4 ?_
          exact q_cut ⟨rfl, rfl, rfl, rfl, rfl, rfl, rfl, rfl, rfl, rfl, rfl, rfl, rfl, rfl, rfl, rfl, (congrArg (fun b => some (Value.bool b)) (by simp only [h81, h87, bS])), trivial⟩ rfl rfl
        ·refine cb rfl (fun h92 p92 => ?_) (fun h92 p92 => ?_)
         ·refine go 21 ?_
          refine fin1 rfl rfl ?_
          exact q_v (congrArg Value.bool (by simp only [validC, allP_not hlt (show kindFine (l.take i) l[i] = false by simp only [kindFine, allP_not hltj (show slotFine (l.take i) (l[i].slots.take j) l[i].slots[j] = false by simp only [slotFine, allP_not hltm (show kindIn (l.take i) (l[i].slots[j].kinds.take m) l[i].slots[j].kinds[m] = false by revert h92; simp only [kindIn]; cases hit _root_.id (l[i].slots[j].kinds.take m) l[i].slots[j].kinds[m] <;> simp), bS]), bS]), bS]))
         ·refine go 6 ?_
          have h92n : hit _root_.id (l[i].slots[j].kinds.take m) l[i].slots[j].kinds[m] = false := by revert h92; cases hit _root_.id (l[i].slots[j].kinds.take m) l[i].slots[j].kinds[m] <;> simp
          refine o_mapPut (kvsOf _root_.id (fun _ => Value.bool true) (l[i].slots[j].kinds.take (m + 1))) (key_string he) he (l[i].slots[j].kinds[m]) rfl rfl rfl ((kvs_put _root_.id (fun _ => Value.bool true) (l[i].slots[j].kinds.take m) l[i].slots[j].kinds[m] (hit_none h92n)).trans (by rw [take_succ_of hltm])) ?_
          refine go 8 ?_
          exact q_next (m + 1) ⟨by omega, allP_succ hr hltm (by revert h92; simp only [kindIn]; cases hit _root_.id (l[i].slots[j].kinds.take m) l[i].slots[j].kinds[m] <;> simp)⟩ (by omega) rfl sb rfl
       ·refine go 11 ?_
        refine sx_drop ?_
        exact q_next (j + 1) ⟨by omega, allP_succ hq hltj (by simp only [slotFine, h72, (show m = l[i].slots[j].kinds.length by omega) ▸ hr]; rfl)⟩ (by omega) rfl sb rfl
    ·refine go 13 ?_
     have h41n : hit Kind.name (l.take i) l[i].name = false := by revert h41; cases hit Kind.name (l.take i) l[i].name <;> simp
     refine bring2 ?_
     refine o_mapPut (kvsOf Kind.name (fun k => Value.bool (!k.vehicle)) (l.take (i + 1))) (key_string he) he (l[i].name) rfl rfl rfl ((kvs_put Kind.name (fun k => Value.bool (!k.vehicle)) (l.take i) l[i] (hit_none h41n)).trans (by rw [take_succ_of hlt])) ?_
     refine go 8 ?_
     refine bring1 ?_
     refine sx_drop ?_
     refine bring1 ?_
     refine sx_drop ?_
     exact q_next (i + 1) ⟨by omega, allP_succ hn hlt (by simp only [kindFine, h41, (show j = l[i].slots.length by omega) ▸ hq]; rfl)⟩ (by omega) rfl sb rfl
 ·refine go 15 ?_
  refine fin1 rfl rfl ?_
  have e : i = l.length := (by omega)
  subst e
  exact q_v (congrArg Value.bool (by simp only [validC, hn, bS]))

theorem refFind (I : IMap) (v : Value) (l : List Kind) (hv : RdS I v l) (s : ByteArray) :
    FnE Tryz.prog 127 #[.agg #[v], .string s] I (KindIs I (findK l s)) := by
 obtain ⟨A, c0, rfl, hA, hc, hm⟩ := hv
 refine enter Tryz.func127 Tryz.call127 rfl Tryz.ntmps127 rfl (fun w0 => ?_)
 refine go 3 ?_
 refine o_box _ rfl rfl rfl (fun g2 => ?_)
 refine go 1 ?_
 refine o_alloc he rfl (fun g4 => ?_)
 refine go 10 ?_
 refine bring1 ?_
 refine c_loop (α := Nat) 0 (fun i => I)
  (fun i => [(1, .string s), (2, .pointer (some ⟨g2, 0, none⟩)), (4, .pointer (some ⟨g4, 0, none⟩)), (6, .int .i64 (i : Int))])
  (fun i => [.blk g2 24 [.slice A l.length c0], .blk g4 111 [.string ⟨#[]⟩, .bool false, .slice none 0 0]])
  (fun i => i ≤ l.length ∧ ∀ j x, j < i → l[j]? = some x → (fun k => decide (Kind.name k = s)) x = false)
  (fun i => l.length - i) ⟨Nat.zero_le _, fun j x hj => absurd hj (Nat.not_lt_zero j)⟩ rfl sb rfl ?_
 intro i ⟨hi, hn⟩
 refine go 10 ?_
 refine cb rfl (fun h11 p11 => ?_) (fun h11 p11 => ?_)
 ·have hlt : i < l.length := by omega
  refine go 9 ?_
  obtain ⟨b17, o17, w17, e17, c17, r17⟩ := RdA.at_ hA (i := i) hlt
  obtain ⟨q17, rfl, B17, d17, rfl, hB17, hd17, hm17⟩ := r17
  refine o_v rfl (v_idx he rfl rfl e17 (i) (by omega) hlt) ?_
  refine go 1 ?_
  refine o_v rfl (v_ldI he rfl (c17 0 _ rfl)) ?_
  refine go 4 ?_
  refine cb rfl (fun h21 p21 => ?_) (fun h21 p21 => ?_)
  ·refine go 5 ?_
   obtain ⟨b25, o25, w25, e25, c25, r25⟩ := RdA.at_ hA (i := i) hlt
   obtain ⟨q25, rfl, B25, d25, rfl, hB25, hd25, hm25⟩ := r25
   refine o_v rfl (v_idx he rfl rfl e25 (i) (by omega) hlt) ?_
   refine o_v rfl (v_ldIa he rfl c25 rfl) ?_
   refine go 1 ?_
   refine bring1 ?_
   refine o_stw _ he rfl rfl rfl rfl rfl rfl ?_
   refine go 9 ?_
   refine fin2 rfl ⟨_, _, _, rfl, m0, .inr ⟨_, he, rfl, rfl⟩⟩ rfl ?_
   exact q_e (KindIs.of (find_at (p := fun k => decide (Kind.name k = s)) hlt h21 hn) ⟨_, rfl, B25, d25, rfl, hB25, hd25, hm25⟩)
  ·refine go 9 ?_
   exact q_next (i + 1) ⟨by omega, idx_next (p := fun k => decide (Kind.name k = s)) hn hlt h21⟩ (by omega) rfl sb rfl
 ·refine go 8 ?_
  refine o_val rfl (v_build (pl := [(0, 1), (1, 1), (2, 1)]) he he rfl rfl) ?_
  refine go 1 ?_
  refine bring1 ?_
  refine o_stw _ he rfl rfl rfl rfl rfl rfl ?_
  refine go 4 ?_
  refine fin2 rfl ⟨_, _, _, rfl, m0, .inr ⟨_, he, rfl, rfl⟩⟩ rfl ?_
  exact q_e (KindIs.none (find_no (p := fun k => decide (Kind.name k = s)) (fun j x hj => hn j x (by omega))))

theorem refSlot (I : IMap) (v : Value) (l : List Kind) (hv : RdS I v l) (x : Slot) (D : Option Addr) (d : Nat) (hD : RdS I (.slice D x.kinds.length d) x.kinds) (hs : SmS x) :
    FnV Tryz.prog 129 #[.agg #[v], .agg #[.string x.name, .slice D x.kinds.length d, .int .i64 x.normal]] I (.bool (slotR l x)) := by
 have hDA : RdA I D x.kinds := (by obtain ⟨_, _, e, h, _⟩ := hD; cases e; exact h)
 have hDl : x.kinds.length ≤ d ∧ d ≤ 9223372036854775807 := (by obtain ⟨_, _, e, h, h1, h2⟩ := hD; cases e; exact ⟨h1, h2⟩)
 have hv0 := hv
 obtain ⟨A, c0, rfl, hA, hc, hm⟩ := hv
 refine enter Tryz.func129 Tryz.call129 rfl Tryz.ntmps129 rfl (fun w0 => ?_)
 refine go 3 ?_
 refine o_box _ rfl rfl rfl (fun g2 => ?_)
 refine go 1 ?_
 refine o_box _ rfl rfl rfl (fun g3 => ?_)
 refine go 5 ?_
 refine c_cut (I' := I) (L' := [(2, .pointer (some ⟨g2, 0, none⟩)), (3, .pointer (some ⟨g3, 0, none⟩)), (24, .bool (((!nameRef x.name || decide (x.normal < 1)) || decide ((x.kinds.length : Int) < x.normal))))]) (H' := [.blk g2 24 [.slice A l.length c0], .blk g3 113 (x.cells (.slice D x.kinds.length d))]) ?_ ?_
 ·refine go 4 ?_
  refine o_callV (name05 _ _ hs.1) rfl rfl ?_
  refine go 2 ?_
  refine sxb 12 rfl (fun h12 p12 => ?_) (fun h12 p12 => ?_)
  ·refine go 14 ?_
   refine bring1 ?_
   exact q_cut ⟨rfl, rfl, (congrArg (fun b => some (Value.bool b)) (by simp only [h12, bS])), trivial⟩ rfl rfl
  ·refine go 5 ?_
   refine sxb 17 rfl (fun h17 p17 => ?_) (fun h17 p17 => ?_)
   ·refine go 9 ?_
    refine bring1 ?_
    exact q_cut ⟨rfl, rfl, (congrArg (fun b => some (Value.bool b)) (by simp only [h12, h17, bS])), trivial⟩ rfl rfl
   ·refine go 9 ?_
    refine bring1 ?_
    exact q_cut ⟨rfl, rfl, (congrArg (fun b => some (Value.bool b)) (by simp only [h12, h17, bS])), trivial⟩ rfl rfl
 ·refine cb rfl (fun h24 p24 => ?_) (fun h24 p24 => ?_)
  ·refine go 7 ?_
   refine fin1 rfl rfl ?_
   exact q_v (congrArg Value.bool (by simp only [slotR, h24]; rfl))
  ·refine go 9 ?_
   refine c_loop (α := Nat) 0 (fun j => I)
    (fun j => [(2, .pointer (some ⟨g2, 0, none⟩)), (3, .pointer (some ⟨g3, 0, none⟩)), (5, .int .i64 (j : Int))])
    (fun j => [.blk g2 24 [.slice A l.length c0], .blk g3 113 (x.cells (.slice D x.kinds.length d))])
    (fun j => j ≤ x.kinds.length ∧ allP (kindInR l) x.kinds j = true)
    (fun j => x.kinds.length - j) ⟨Nat.zero_le _, rfl⟩ rfl sb rfl ?_
   intro j ⟨hj, hq⟩
   refine go 10 ?_
   refine cb rfl (fun h29 p29 => ?_) (fun h29 p29 => ?_)
   ·have hlt : j < x.kinds.length := by omega
    refine go 5 ?_
    refine c_cutx (α := Nat × Value) (Ix := (fun q => I)) (Lx := (fun q => [(2, .pointer (some ⟨g2, 0, none⟩)), (3, .pointer (some ⟨g3, 0, none⟩)), (5, .int .i64 (j : Int)), (6, .pointer (some ⟨q.1, 0, none⟩)), (7, .bool (findK l x.kinds[j]).isSome)])) (Hx := (fun q => [.blk q.1 111 (((findK l x.kinds[j]).getD zKind).cells q.2), .blk g2 24 [.slice A l.length c0], .blk g3 113 (x.cells (.slice D x.kinds.length d))])) (p := (fun q => RdS I q.2 ((findK l x.kinds[j]).getD zKind).slots)) ?_ ?_
    ·refine d_startH T.mixed ?_
     refine d_tv 0 rfl rfl (by kernel_rfl) rfl (.refl _) rfl (v_ldw m0 he rfl rfl) ?_
     refine d_tv 1 rfl rfl (by kernel_rfl) rfl (.refl _) rfl (v_fieldAddr he rfl) ?_
     refine d_tv 2 rfl rfl (by kernel_rfl) rfl (.refl _) rfl (v_ld m1 he rfl rfl) ?_
     refine d_tv 3 rfl rfl (by kernel_rfl) rfl (.refl _) rfl (v_move rfl) ?_
     obtain ⟨b37, o37, w37, e37, c37, r37⟩ := RdA.at_ hDA (i := j) hlt
     obtain rfl := r37
     refine d_tv 4 rfl rfl (by kernel_rfl) rfl (.refl _) rfl (v_idx he rfl rfl e37 (j) (by omega) hlt) ?_
     refine d_tv 5 rfl rfl (by kernel_rfl) rfl (.refl _) rfl (v_ldI he rfl (c37 0 _ rfl)) ?_
     refine d_two 6 10 (by kernel_rfl) rfl rfl ?_ ?_
     ·refine o_callE (refFind I _ l hv0 x.kinds[j]) rfl rfl (fun v39 q39 => ?_)
      obtain ⟨vs, rfl, ss, rfl, hsl⟩ := q39
      refine d_on (fun _ m => m.keeps (.refl _)) ?_
      refine d_tv 7 rfl rfl (by kernel_rfl) rfl (.refl _) rfl (v_move rfl) ?_
      refine d_tv 8 rfl rfl (by kernel_rfl) rfl (.refl _) rfl (v_extract rfl rfl) ?_
      refine d_tv 9 rfl rfl (by kernel_rfl) rfl (.refl _) rfl (v_extract rfl rfl) ?_
      refine d_one 10 (by kernel_rfl) rfl ?_
      refine o_alloc he rfl (fun g6 => ?_)
      refine d_on (fun _ m => m.keeps (.cons _ (.refl _))) ?_
      refine d_one 11 (by kernel_rfl) rfl ?_
      refine o_stw _ he rfl rfl rfl rfl rfl (by simp [Kind.cells, hsl.one]; exact ⟨rfl, rfl⟩) ?_
      refine d_on (fun _ m => m.keeps (.cons _ (.refl _))) ?_
      refine d_tv 12 rfl rfl (by kernel_rfl) rfl (.cons _ (.refl _)) rfl (v_assign rfl) ?_
      refine d_done (by kernel_rfl) ?_
      refine go 1 ?_
      exact q_cutx (_, ss) hsl sb rfl rfl
     ·refine o_alloc he rfl (fun g6 => ?_)
      refine d_on (fun _ m => m.keeps (.cons _ (.refl _))) ?_
      refine d_one 6 (by kernel_rfl) rfl ?_
      refine o_callE (refFind I _ l hv0 x.kinds[j]) rfl rfl (fun v39 q39 => ?_)
      obtain ⟨vs, rfl, ss, rfl, hsl⟩ := q39
      refine d_on (fun _ m => m.keeps (.cons _ (.refl _))) ?_
      refine d_tv 7 rfl rfl (by kernel_rfl) rfl (.cons _ (.refl _)) rfl (v_move rfl) ?_
      refine d_tv 8 rfl rfl (by kernel_rfl) rfl (.cons _ (.refl _)) rfl (v_extract rfl rfl) ?_
      refine d_tv 9 rfl rfl (by kernel_rfl) rfl (.cons _ (.refl _)) rfl (v_extract rfl rfl) ?_
      refine d_one 11 (by kernel_rfl) rfl ?_
      refine o_stw _ he rfl rfl rfl rfl rfl (by simp [Kind.cells, hsl.one]; exact ⟨rfl, rfl⟩) ?_
      refine d_on (fun _ m => m.keeps (.cons _ (.refl _))) ?_
      refine d_tv 12 rfl rfl (by kernel_rfl) rfl (.cons _ (.refl _)) rfl (v_assign rfl) ?_
      refine d_done (by kernel_rfl) ?_
      refine go 1 ?_
      exact q_cutx (_, ss) hsl sb rfl rfl
    ·rintro ⟨g6, ss⟩ hsl
     refine go 1 ?_
     refine c_cut (I' := I) (L' := [(2, .pointer (some ⟨g2, 0, none⟩)), (3, .pointer (some ⟨g3, 0, none⟩)), (5, .int .i64 (j : Int)), (59, .bool (((!(findK l x.kinds[j]).isSome || ((findK l x.kinds[j]).getD zKind).vehicle) || decide (x.kinds[j] ∈ x.kinds.take j))))]) (H' := [.blk g2 24 [.slice A l.length c0], .blk g3 113 (x.cells (.slice D x.kinds.length d))]) ?_ ?_
     ·refine d_startH T.mixed ?_
      refine d_tv 0 rfl rfl (by kernel_rfl) rfl (.refl _) rfl (v_move rfl) ?_
      refine d_tv 1 rfl rfl (by kernel_rfl) rfl (.refl _) rfl (v_not rfl) ?_
      refine d_tv 2 rfl rfl (by kernel_rfl) rfl (.refl _) rfl (v_move rfl) ?_
      refine sxb 44 rfl (fun h44 p44 => ?_) (fun h44 p44 => ?_)
      ·refine d_t 3 rfl rfl (by kernel_rfl) rfl (fun _ m => m.keeps (.refl _)) (y_no rfl rfl h44) ?_
       refine d_t 4 rfl rfl (by kernel_rfl) rfl (fun _ m => m.keeps (.refl _)) (y_no rfl rfl h44) ?_
       refine d_tv 5 rfl rfl (by kernel_rfl) rfl (.refl _) rfl (v_or_t h44 rfl) ?_
       refine d_tv 6 rfl rfl (by kernel_rfl) rfl (.refl _) rfl (v_move rfl) ?_
       refine d_t 7 rfl rfl (by kernel_rfl) rfl (fun _ m => m.keeps (.refl _)) (y_no rfl rfl rfl) ?_
       refine d_t 8 rfl rfl (by kernel_rfl) rfl (fun _ m => m.keeps (.refl _)) (y_no rfl rfl rfl) ?_
       refine d_t 9 rfl rfl (by kernel_rfl) rfl (fun _ m => m.keeps (.refl _)) (y_no rfl rfl rfl) ?_
       refine d_t 10 rfl rfl (by kernel_rfl) rfl (fun _ m => m.keeps (.refl _)) (y_no rfl rfl rfl) ?_
       refine d_t 11 rfl rfl (by kernel_rfl) rfl (fun _ m => m.keeps (.refl _)) (y_no rfl rfl rfl) ?_
       refine d_t 12 rfl rfl (by kernel_rfl) rfl (fun _ m => m.keeps (.refl _)) (y_no rfl rfl rfl) ?_
       refine d_t 13 rfl rfl (by kernel_rfl) rfl (fun _ m => m.keeps (.refl _)) (y_no rfl rfl rfl) ?_
       refine d_t 14 rfl rfl (by kernel_rfl) rfl (fun _ m => m.keeps (.refl _)) (y_no rfl rfl rfl) ?_
       refine d_t 15 rfl rfl (by kernel_rfl) rfl (fun _ m => m.keeps (.refl _)) (y_no rfl rfl rfl) ?_
       refine d_t 16 rfl rfl (by kernel_rfl) rfl (fun _ m => m.keeps (.refl _)) (y_no rfl rfl rfl) ?_
       refine d_tv 17 rfl rfl (by kernel_rfl) rfl (.refl _) rfl (v_or_t rfl rfl) ?_
       refine d_done (by kernel_rfl) ?_
       refine go 1 ?_
       refine sx_drop ?_
       exact q_cut ⟨rfl, rfl, rfl, (congrArg (fun b => some (Value.bool b)) (by simp only [h44, bS])), trivial⟩ rfl rfl
      ·refine d_t 3 rfl rfl (by kernel_rfl) rfl (fun _ m => m.keeps (.refl _)) (y_yes rfl rfl h44 (v_fieldAddr he rfl)) ?_
       refine d_t 4 rfl rfl (by kernel_rfl) rfl (fun _ m => m.keeps (.refl _)) (y_yes rfl rfl h44 (v_ld m0 he rfl rfl)) ?_
       refine d_tv 5 rfl rfl (by kernel_rfl) rfl (.refl _) rfl (v_or_f h44 rfl rfl) ?_
       refine d_tv 6 rfl rfl (by kernel_rfl) rfl (.refl _) rfl (v_move rfl) ?_
       refine sxb 48 rfl (fun h48 p48 => ?_) (fun h48 p48 => ?_)
       ·refine d_t 7 rfl rfl (by kernel_rfl) rfl (fun _ m => m.keeps (.refl _)) (y_no rfl rfl h48) ?_
        refine d_t 8 rfl rfl (by kernel_rfl) rfl (fun _ m => m.keeps (.refl _)) (y_no rfl rfl h48) ?_
        refine d_t 9 rfl rfl (by kernel_rfl) rfl (fun _ m => m.keeps (.refl _)) (y_no rfl rfl h48) ?_
        refine d_t 10 rfl rfl (by kernel_rfl) rfl (fun _ m => m.keeps (.refl _)) (y_no rfl rfl h48) ?_
        refine d_t 11 rfl rfl (by kernel_rfl) rfl (fun _ m => m.keeps (.refl _)) (y_no rfl rfl h48) ?_
        refine d_t 12 rfl rfl (by kernel_rfl) rfl (fun _ m => m.keeps (.refl _)) (y_no rfl rfl h48) ?_
        refine d_t 13 rfl rfl (by kernel_rfl) rfl (fun _ m => m.keeps (.refl _)) (y_no rfl rfl h48) ?_
        refine d_t 14 rfl rfl (by kernel_rfl) rfl (fun _ m => m.keeps (.refl _)) (y_no rfl rfl h48) ?_
        refine d_t 15 rfl rfl (by kernel_rfl) rfl (fun _ m => m.keeps (.refl _)) (y_no rfl rfl h48) ?_
        refine d_t 16 rfl rfl (by kernel_rfl) rfl (fun _ m => m.keeps (.refl _)) (y_no rfl rfl h48) ?_
        refine d_tv 17 rfl rfl (by kernel_rfl) rfl (.refl _) rfl (v_or_t h48 rfl) ?_
        refine d_done (by kernel_rfl) ?_
        refine go 1 ?_
        refine sx_drop ?_
        exact q_cut ⟨rfl, rfl, rfl, (congrArg (fun b => some (Value.bool b)) (by simp only [h44, h48, bS])), trivial⟩ rfl rfl
       ·refine d_t 7 rfl rfl (by kernel_rfl) rfl (fun _ m => m.keeps (.refl _)) (y_yes rfl rfl h48 (v_fieldAddr he rfl)) ?_
        refine d_t 8 rfl rfl (by kernel_rfl) rfl (fun _ m => m.keeps (.refl _)) (y_yes rfl rfl h48 (v_ld m2 he rfl rfl)) ?_
        refine d_t 9 rfl rfl (by kernel_rfl) rfl (fun _ m => m.keeps (.refl _)) (y_yes rfl rfl h48 (v_move rfl)) ?_
        refine d_t 10 rfl rfl (by kernel_rfl) rfl (fun _ m => m.keeps (.refl _)) (y_yes rfl rfl h48 (v_slice_hi he rfl rfl j (by omega) (by omega))) ?_
        refine d_t 11 rfl rfl (by kernel_rfl) rfl (fun _ m => m.keeps (.refl _)) (y_yes rfl rfl h48 (v_fieldAddr he rfl)) ?_
        refine d_t 12 rfl rfl (by kernel_rfl) rfl (fun _ m => m.keeps (.refl _)) (y_yes rfl rfl h48 (v_ld m2 he rfl rfl)) ?_
        refine d_t 13 rfl rfl (by kernel_rfl) rfl (fun _ m => m.keeps (.refl _)) (y_yes rfl rfl h48 (v_move rfl)) ?_
        obtain ⟨b56, o56, w56, e56, c56, r56⟩ := RdA.at_ hDA (i := j) hlt
        obtain rfl := r56
        refine d_t 14 rfl rfl (by kernel_rfl) rfl (fun _ m => m.keeps (.refl _)) (y_yes rfl rfl h48 (v_idx he rfl rfl e56 (j) (by omega) hlt)) ?_
        refine d_t 15 rfl rfl (by kernel_rfl) rfl (fun _ m => m.keeps (.refl _)) (y_yes rfl rfl h48 (v_ldI he rfl (c56 0 _ rfl))) ?_
        refine d_one 16 (by kernel_rfl) rfl ?_
        refine o_yes rfl rfl h48 (o_callV (in08 I _ (x.kinds.take j) x.kinds[j] (hD.take j (by omega))) rfl rfl ?_)
        refine d_on (fun _ m => m.keeps (.refl _)) ?_
        refine d_tv 17 rfl rfl (by kernel_rfl) rfl (.refl _) rfl (v_or_f h48 rfl rfl) ?_
        refine d_done (by kernel_rfl) ?_
        refine go 1 ?_
        refine sx_drop ?_
        exact q_cut ⟨rfl, rfl, rfl, (congrArg (fun b => some (Value.bool b)) (by simp only [h44, h48, bS])), trivial⟩ rfl rfl
     ·refine cb rfl (fun h59 p59 => ?_) (fun h59 p59 => ?_)
      ·refine go 11 ?_
       refine fin1 rfl rfl ?_
       exact q_v (congrArg Value.bool (by simp only [slotR, allP_not hlt (show kindInR l (x.kinds.take j) x.kinds[j] = false by simp only [kindInR, h59]; rfl), bS]))
      ·refine go 9 ?_
       exact q_next (j + 1) ⟨by omega, allP_succ hq hlt (by simp only [kindInR, h59]; rfl)⟩ (by omega) rfl sb rfl
   ·refine go 11 ?_
    refine fin1 rfl rfl ?_
    have e : j = x.kinds.length := (by omega)
    subst e
    exact q_v (congrArg Value.bool (by simp only [slotR, hq, h24]; rfl))

theorem refValid (I : IMap) (v : Value) (l : List Kind) (hv : RdS I v l) (hs : SmC l) :
    FnV Tryz.prog 85 #[.agg #[v]] I (.bool (validR l)) := by
 have hv0 := hv
 obtain ⟨A, c0, rfl, hA, hc, hm⟩ := hv
 refine enter Tryz.func85 Tryz.call85 rfl Tryz.ntmps85 rfl (fun w0 => ?_)
 refine go 3 ?_
 refine o_box _ rfl rfl rfl (fun g1 => ?_)
 refine go 12 ?_
 refine cb rfl (fun h13 p13 => ?_) (fun h13 p13 => ?_)
 ·refine go 7 ?_
  refine fin1 rfl rfl ?_
  exact q_v (congrArg Value.bool (by simp only [validR, h13]; rfl))
 ·refine go 9 ?_
  refine c_loop (α := Nat) 0 (fun i => I)
   (fun i => [(1, .pointer (some ⟨g1, 0, none⟩)), (3, .int .i64 (i : Int))])
   (fun i => [.blk g1 24 [.slice A l.length c0]])
   (fun i => i ≤ l.length ∧ allP kindFineR l i = true)
   (fun i => l.length - i) ⟨Nat.zero_le _, rfl⟩ rfl sb rfl ?_
  intro i ⟨hi, hn⟩
  refine go 10 ?_
  refine cb rfl (fun h18 p18 => ?_) (fun h18 p18 => ?_)
  ·have hlt : i < l.length := by omega
   refine go 9 ?_
   obtain ⟨b24, o24, w24, e24, c24, r24⟩ := RdA.at_ hA (i := i) hlt
   obtain ⟨q24, rfl, B24, d24, rfl, hB24, hd24, hm24⟩ := r24
   refine o_v rfl (v_idx he rfl rfl e24 (i) (by omega) hlt) ?_
   refine o_v rfl (v_ldIa he rfl c24 rfl) ?_
   refine go 1 ?_
   refine o_alloc he rfl (fun g4 => ?_)
   refine go 1 ?_
   refine o_stw _ he rfl rfl rfl rfl rfl rfl ?_
   refine go 7 ?_
   refine o_v rfl (v_slice_hi he rfl rfl i (by omega) (by omega)) ?_
   refine go 1 ?_
   refine o_val rfl (v_build (pl := [(0, 1)]) he he rfl rfl) ?_
   refine go 1 ?_
   refine o_alloc he rfl (fun g5 => ?_)
   refine go 1 ?_
   refine o_stw _ he rfl rfl rfl rfl rfl rfl ?_
   refine go 8 ?_
   refine o_callE (refFind _ _ (l.take i) (hv0.take i (by omega)) l[i].name) rfl rfl (fun v35 q35 => ?_)
   obtain ⟨vs, rfl, s35, rfl, hsl⟩ := q35
   refine go 4 ?_
   refine o_alloc he rfl (fun g6 => ?_)
   refine go 1 ?_
   refine o_stw _ he rfl rfl rfl rfl rfl (by simp [Kind.cells, hsl.one]; exact ⟨rfl, rfl⟩) ?_
   refine go 5 ?_
   refine c_cut (I' := I) (L' := [(1, .pointer (some ⟨g1, 0, none⟩)), (3, .int .i64 (i : Int)), (4, .pointer (some ⟨g4, 0, none⟩)), (5, .pointer (some ⟨g5, 0, none⟩)), (50, .bool (((findK (l.take i) l[i].name).isSome || !nameRef l[i].name) || decide ((12 : Int) < (l[i].slots.length : Nat))))]) (H' := [.blk g5 24 [.slice A i c0], .blk g4 111 (l[i].cells (.slice B24 l[i].slots.length d24)), .blk g1 24 [.slice A l.length c0]]) ?_ ?_
   ·refine go 3 ?_
    refine sxb 39 rfl (fun h39 p39 => ?_) (fun h39 p39 => ?_)
    ·refine go 13 ?_
     refine sx_drop ?_
     exact q_cut ⟨rfl, rfl, rfl, rfl, (congrArg (fun b => some (Value.bool b)) (by simp only [h18, h39, bS])), trivial⟩ rfl rfl
    ·refine go 3 ?_
     refine o_yes rfl rfl h39 (o_callV (name05 _ _ (hs _ (List.getElem_mem hlt)).1) rfl rfl ?_)
     refine go 3 ?_
     refine sxb 45 rfl (fun h45 p45 => ?_) (fun h45 p45 => ?_)
     ·refine go 7 ?_
      refine sx_drop ?_
      exact q_cut ⟨rfl, rfl, rfl, rfl, (congrArg (fun b => some (Value.bool b)) (by simp only [h18, h39, h45, bS])), trivial⟩ rfl rfl
     ·refine go 7 ?_
      refine sx_drop ?_
      exact q_cut ⟨rfl, rfl, rfl, rfl, (congrArg (fun b => some (Value.bool b)) (by simp only [h18, h39, h45, bS])), trivial⟩ rfl rfl
   ·refine cb rfl (fun h50 p50 => ?_) (fun h50 p50 => ?_)
    ·refine go 12 ?_
     refine fin1 rfl rfl ?_
     exact q_v (congrArg Value.bool (by simp only [validR, allP_not hlt (show kindFineR (l.take i) l[i] = false by simp only [kindFineR, h50]; rfl), bS]))
    ·refine go 4 ?_
     refine sx_nilrow 9 1 ?_
     refine go 9 ?_
     refine c_loop3 ((0 : Nat)) (_) ([]) (fun j v8 xs => I)
      (fun j v8 xs => [(1, .pointer (some ⟨g1, 0, none⟩)), (3, .int .i64 (i : Int)), (4, .pointer (some ⟨g4, 0, none⟩)), (5, .pointer (some ⟨g5, 0, none⟩)), (8, v8), (9, .int .i64 (j : Int))])
      (fun j v8 xs => [.row v8 9 1 j xs, .blk g5 24 [.slice A i c0], .blk g4 111 (l[i].cells (.slice B24 l[i].slots.length d24)), .blk g1 24 [.slice A l.length c0]])
      (fun j v8 xs => j ≤ l[i].slots.length ∧ allP (slotFineR (l.take i)) l[i].slots j = true ∧ Flat I xs ((l[i].slots.take j).map Slot.name))
      (fun j v8 xs => l[i].slots.length - j) ⟨Nat.zero_le _, rfl, .nil⟩ rfl sb rfl ?_
     intro j v8 xs ⟨hj, hq, hF⟩
     refine go 10 ?_
     refine cb rfl (fun h55 p55 => ?_) (fun h55 p55 => ?_)
     ·have hltj : j < l[i].slots.length := by omega
      have h12 : l[i].slots.length ≤ 12 := by revert h50; simp only [Bool.or_eq_false_iff, decide_eq_false_iff_not]; omega
      refine go 6 ?_
      refine c_cut (I' := I) (L' := [(1, .pointer (some ⟨g1, 0, none⟩)), (3, .int .i64 (i : Int)), (4, .pointer (some ⟨g4, 0, none⟩)), (5, .pointer (some ⟨g5, 0, none⟩)), (8, v8), (9, .int .i64 (j : Int)), (75, .bool ((!slotR (l.take i) l[i].slots[j]) || decide (l[i].slots[j].name ∈ (l[i].slots.take j).map Slot.name)))]) (H' := [.row v8 9 1 j xs, .blk g5 24 [.slice A i c0], .blk g4 111 (l[i].cells (.slice B24 l[i].slots.length d24)), .blk g1 24 [.slice A l.length c0]]) ?_ ?_
      ·refine d_startH T.mixed ?_
       refine d_tv 0 rfl rfl (by kernel_rfl) rfl (.refl _) rfl (v_ldw m1 he rfl rfl) ?_
       refine d_tv 1 rfl rfl (by kernel_rfl) rfl (.refl _) rfl (v_fieldAddr he rfl) ?_
       refine d_tv 2 rfl rfl (by kernel_rfl) rfl (.refl _) rfl (v_ld m2 he rfl rfl) ?_
       refine d_tv 3 rfl rfl (by kernel_rfl) rfl (.refl _) rfl (v_move rfl) ?_
       obtain ⟨b62, o62, w62, e62, c62, r62⟩ := RdA.at_ hB24 (i := j) hltj
       obtain ⟨q62, rfl, B62, d62, rfl, hB62, hd62, hm62⟩ := r62
       refine d_tv 4 rfl rfl (by kernel_rfl) rfl (.refl _) rfl (v_idx he rfl rfl e62 (j) (by omega) hltj) ?_
       refine d_tv 5 rfl rfl (by kernel_rfl) rfl (.refl _) rfl (v_ldIa he rfl c62 rfl) ?_
       refine d_one 6 (by kernel_rfl) rfl ?_
       refine o_callV (refSlot _ _ (l.take i) (hv0.take i (by omega)) l[i].slots[j] B62 d62 ⟨_, _, rfl, hB62, hd62, hm62⟩ ((hs _ (List.getElem_mem hlt)).2 _ (List.getElem_mem hltj))) rfl rfl ?_
       refine d_on (fun _ m => m.keeps (.refl _)) ?_
       refine d_tv 7 rfl rfl (by kernel_rfl) rfl (.refl _) rfl (v_not rfl) ?_
       refine d_tv 8 rfl rfl (by kernel_rfl) rfl (.refl _) rfl (v_move rfl) ?_
       refine sxb 66 rfl (fun h66 p66 => ?_) (fun h66 p66 => ?_)
       ·refine d_t 9 rfl rfl (by kernel_rfl) rfl (fun _ m => m.keeps (.refl _)) (y_no rfl rfl h66) ?_
        refine d_t 10 rfl rfl (by kernel_rfl) rfl (fun _ m => m.keeps (.refl _)) (y_no rfl rfl h66) ?_
        refine d_t 11 rfl rfl (by kernel_rfl) rfl (fun _ m => m.keeps (.refl _)) (y_no rfl rfl h66) ?_
        refine d_t 12 rfl rfl (by kernel_rfl) rfl (fun _ m => m.keeps (.refl _)) (y_no rfl rfl h66) ?_
        refine d_t 13 rfl rfl (by kernel_rfl) rfl (fun _ m => m.keeps (.refl _)) (y_no rfl rfl h66) ?_
        refine d_t 14 rfl rfl (by kernel_rfl) rfl (fun _ m => m.keeps (.refl _)) (y_no rfl rfl h66) ?_
        refine d_t 15 rfl rfl (by kernel_rfl) rfl (fun _ m => m.keeps (.refl _)) (y_no rfl rfl h66) ?_
        refine d_t 16 rfl rfl (by kernel_rfl) rfl (fun _ m => m.keeps (.refl _)) (y_no rfl rfl h66) ?_
        refine d_tv 17 rfl rfl (by kernel_rfl) rfl (.refl _) rfl (v_or_t h66 rfl) ?_
        refine d_done (by kernel_rfl) ?_
        refine go 1 ?_
        exact q_cut ⟨rfl, rfl, rfl, rfl, rfl, rfl, (congrArg (fun b => some (Value.bool b)) (by simp only [h55, h66, bS])), trivial⟩ rfl rfl
       ·refine d_t 9 rfl rfl (by kernel_rfl) rfl (fun _ m => m.keeps (.refl _)) (y_yes rfl rfl h66 (v_move rfl)) ?_
        refine d_t 10 rfl rfl (by kernel_rfl) rfl (fun _ m => m.keeps (.refl _)) (y_yes rfl rfl h66 (v_fieldAddr he rfl)) ?_
        refine d_t 11 rfl rfl (by kernel_rfl) rfl (fun _ m => m.keeps (.refl _)) (y_yes rfl rfl h66 (v_ld m2 he rfl rfl)) ?_
        refine d_t 12 rfl rfl (by kernel_rfl) rfl (fun _ m => m.keeps (.refl _)) (y_yes rfl rfl h66 (v_move rfl)) ?_
        obtain ⟨b71, o71, w71, e71, c71, r71⟩ := RdA.at_ hB24 (i := j) hltj
        obtain ⟨q71, rfl, B71, d71, rfl, hB71, hd71, hm71⟩ := r71
        refine d_t 13 rfl rfl (by kernel_rfl) rfl (fun _ m => m.keeps (.refl _)) (y_yes rfl rfl h66 (v_idx he rfl rfl e71 (j) (by omega) hltj)) ?_
        refine d_t 14 rfl rfl (by kernel_rfl) rfl (fun _ m => m.keeps (.refl _)) (y_yes rfl rfl h66 (v_fieldAddr he rfl)) ?_
        refine d_t 15 rfl rfl (by kernel_rfl) rfl (fun _ m => m.keeps (.refl _)) (y_yes rfl rfl h66 (v_ldI he rfl (c71 0 _ rfl))) ?_
        refine d_one 16 (by kernel_rfl) rfl ?_
        refine o_yes rfl rfl h66 (o_lendV m0 rfl (by simp; omega) (hF) (fun I2 hI2 hR => in08 I2 _ _ l[i].slots[j].name hR) rfl rfl ?_)
        refine d_on (fun _ m => m.keeps (.refl _)) ?_
        refine d_tv 17 rfl rfl (by kernel_rfl) rfl (.refl _) rfl (v_or_f h66 rfl rfl) ?_
        refine d_done (by kernel_rfl) ?_
        refine go 1 ?_
        exact q_cut ⟨rfl, rfl, rfl, rfl, rfl, rfl, (congrArg (fun b => some (Value.bool b)) (by simp only [h55, h66, bS])), trivial⟩ rfl rfl
      ·refine cb rfl (fun h75 p75 => ?_) (fun h75 p75 => ?_)
       ·refine go 16 ?_
        refine fin1 rfl rfl ?_
        exact q_v (congrArg Value.bool (by simp only [validR, allP_not hlt (show kindFineR (l.take i) l[i] = false by simp only [kindFineR, allP_not hltj (show slotFineR (l.take i) (l[i].slots.take j) l[i].slots[j] = false by simp only [slotFineR, h75]; rfl), bS]), bS]))
       ·refine go 7 ?_
        obtain ⟨b80, o80, w80, e80, c80, r80⟩ := RdA.at_ hB24 (i := j) hltj
        obtain ⟨q80, rfl, B80, d80, rfl, hB80, hd80, hm80⟩ := r80
        refine o_v rfl (v_idx he rfl rfl e80 (j) (by omega) hltj) ?_
        refine go 1 ?_
        refine o_v rfl (v_ldI he rfl (c80 0 _ rfl)) ?_
        refine go 1 ?_
        refine o_buildSlice he he rfl rfl rfl rfl rfl rfl rfl (fun v83 => ?_)
        refine go 1 ?_
        refine bring1 ?_
        refine o_appendO he he rfl rfl rfl rfl rfl (by omega) (by omega) rfl (fun v84 => ?_)
        refine go 10 ?_
        refine bring1 ?_
        refine sx_drop ?_
        exact q_next3 (j + 1) (_) (_) ⟨by omega, allP_succ hq hltj (by simp only [slotFineR, h75]; rfl), by rw [← take_succ_of hltj, List.map_append]; exact hF.append (.one rfl)⟩ (by omega) rfl sb rfl
     ·refine go 12 ?_
      refine sx_drop ?_
      refine sx_drop ?_
      refine sx_drop ?_
      exact q_next (i + 1) ⟨by omega, allP_succ hn hlt (by simp only [kindFineR, h50, (show j = l[i].slots.length by omega) ▸ hq]; rfl)⟩ (by omega) rfl sb rfl
  ·refine go 11 ?_
   refine fin1 rfl rfl ?_
   have e : i = l.length := (by omega)
   subst e
   exact q_v (congrArg Value.bool (by simp only [validR, hn, h13]; rfl))

theorem refFew (I : IMap) (v : Value) (l : List Kind) (hv : RdS I v l) :
    FnV Tryz.prog 57 #[.agg #[v]] I (.bool (fewC l)) := by
 obtain ⟨A, c0, rfl, hA, hc, hm⟩ := hv
 refine enter Tryz.func57 Tryz.call57 rfl Tryz.ntmps57 rfl (fun w0 => ?_)
 refine go 3 ?_
 refine o_box _ rfl rfl rfl (fun g1 => ?_)
 refine go 12 ?_
 refine cb rfl (fun h10 p10 => ?_) (fun h10 p10 => ?_)
 ·refine go 7 ?_
  refine fin1 rfl rfl ?_
  exact q_v (congrArg Value.bool (by simp only [fewC, h10]; rfl))
 ·refine go 9 ?_
  refine c_loop (α := Nat) 0 (fun i => I)
   (fun i => [(1, .pointer (some ⟨g1, 0, none⟩)), (3, .int .i64 (i : Int))])
   (fun i => [.blk g1 24 [.slice A l.length c0]])
   (fun i => i ≤ l.length ∧ allP (fun _ k => fewKind k) l i = true)
   (fun i => l.length - i) ⟨Nat.zero_le _, rfl⟩ rfl sb rfl ?_
  intro i ⟨hi, hn⟩
  refine go 10 ?_
  refine cb rfl (fun h15 p15 => ?_) (fun h15 p15 => ?_)
  ·have hlt : i < l.length := by omega
   refine go 9 ?_
   obtain ⟨b21, o21, w21, e21, c21, r21⟩ := RdA.at_ hA (i := i) hlt
   obtain ⟨q21, rfl, B21, d21, rfl, hB21, hd21, hm21⟩ := r21
   refine o_v rfl (v_idx he rfl rfl e21 (i) (by omega) hlt) ?_
   refine o_v rfl (v_ldIa he rfl c21 rfl) ?_
   refine go 1 ?_
   refine o_alloc he rfl (fun g4 => ?_)
   refine go 1 ?_
   refine o_stw _ he rfl rfl rfl rfl rfl rfl ?_
   refine go 4 ?_
   refine c_cut (I' := I) (L' := [(1, .pointer (some ⟨g1, 0, none⟩)), (3, .int .i64 (i : Int)), (4, .pointer (some ⟨g4, 0, none⟩)), (32, .bool (decide ((100 : Int) < (l[i].name.size : Nat)) || decide ((15 : Int) < (l[i].slots.length : Nat))))]) (H' := [.blk g4 111 (l[i].cells (.slice B21 l[i].slots.length d21)), .blk g1 24 [.slice A l.length c0]]) ?_ ?_
   ·refine go 6 ?_
    refine sxb 27 rfl (fun h27 p27 => ?_) (fun h27 p27 => ?_)
    ·refine go 7 ?_
     exact q_cut ⟨rfl, rfl, rfl, (congrArg (fun b => some (Value.bool b)) (by simp only [h15, h27, bS])), trivial⟩ rfl rfl
    ·refine go 7 ?_
     exact q_cut ⟨rfl, rfl, rfl, (congrArg (fun b => some (Value.bool b)) (by simp only [h15, h27, bS])), trivial⟩ rfl rfl
   ·refine cb rfl (fun h32 p32 => ?_) (fun h32 p32 => ?_)
    ·refine go 12 ?_
     refine fin1 rfl rfl ?_
     exact q_v (congrArg Value.bool (by simp only [fewC, allP_not (f := fun _ k => fewKind k) hlt (show fewKind l[i] = false by simp only [fewKind, h32, bS]), bS]))
    ·refine go 8 ?_
     refine c_loop (α := Nat) 0 (fun j => I)
      (fun j => [(1, .pointer (some ⟨g1, 0, none⟩)), (3, .int .i64 (i : Int)), (4, .pointer (some ⟨g4, 0, none⟩)), (5, .int .i64 (j : Int))])
      (fun j => [.blk g4 111 (l[i].cells (.slice B21 l[i].slots.length d21)), .blk g1 24 [.slice A l.length c0]])
      (fun j => j ≤ l[i].slots.length ∧ allP (fun _ s => fewSlot s) l[i].slots j = true)
      (fun j => l[i].slots.length - j) ⟨Nat.zero_le _, rfl⟩ rfl sb rfl ?_
     intro j ⟨hj, hq⟩
     refine go 10 ?_
     refine cb rfl (fun h37 p37 => ?_) (fun h37 p37 => ?_)
     ·have hltj : j < l[i].slots.length := by omega
      refine go 6 ?_
      refine c_cut (I' := I) (L' := [(1, .pointer (some ⟨g1, 0, none⟩)), (3, .int .i64 (i : Int)), (4, .pointer (some ⟨g4, 0, none⟩)), (5, .int .i64 (j : Int)), (57, .bool (decide ((100 : Int) < (l[i].slots[j].name.size : Nat)) || decide ((15 : Int) < (l[i].slots[j].kinds.length : Nat))))]) (H' := [.blk g4 111 (l[i].cells (.slice B21 l[i].slots.length d21)), .blk g1 24 [.slice A l.length c0]]) ?_ ?_
      ·refine go 4 ?_
       obtain ⟨b43, o43, w43, e43, c43, r43⟩ := RdA.at_ hB21 (i := j) hltj
       obtain ⟨q43, rfl, B43, d43, rfl, hB43, hd43, hm43⟩ := r43
       refine o_v rfl (v_idx he rfl rfl e43 (j) (by omega) hltj) ?_
       refine go 1 ?_
       refine o_v rfl (v_ldI he rfl (c43 0 _ rfl)) ?_
       refine go 3 ?_
       refine sxb 48 rfl (fun h48 p48 => ?_) (fun h48 p48 => ?_)
       ·refine go 11 ?_
        exact q_cut ⟨rfl, rfl, rfl, rfl, (congrArg (fun b => some (Value.bool b)) (by simp only [h37, h48, bS])), trivial⟩ rfl rfl
       ·refine go 3 ?_
        obtain ⟨b52, o52, w52, e52, c52, r52⟩ := RdA.at_ hB21 (i := j) hltj
        obtain ⟨q52, rfl, B52, d52, rfl, hB52, hd52, hm52⟩ := r52
        refine o_cons (o_yes rfl rfl h48 (o_val rfl (v_idx he rfl rfl e52 (j) (by omega) hltj) ?_))
        refine go 1 ?_
        refine o_cons (o_yes rfl rfl h48 (o_val rfl (v_ldI he rfl (c52 1 _ rfl)) ?_))
        refine go 5 ?_
        exact q_cut ⟨rfl, rfl, rfl, rfl, (congrArg (fun b => some (Value.bool b)) (by simp only [h37, h48, bS])), trivial⟩ rfl rfl
      ·refine cb rfl (fun h57 p57 => ?_) (fun h57 p57 => ?_)
       ·refine go 16 ?_
        refine fin1 rfl rfl ?_
        exact q_v (congrArg Value.bool (by simp only [fewC, allP_not (f := fun _ k => fewKind k) hlt (show fewKind l[i] = false by simp only [fewKind, allP_not (f := fun _ s => fewSlot s) hltj (show fewSlot l[i].slots[j] = false by simp only [fewSlot, h57]; rfl), bS]), bS]))
       ·refine go 8 ?_
        refine c_loop (α := Nat) 0 (fun m => I)
         (fun m => [(1, .pointer (some ⟨g1, 0, none⟩)), (3, .int .i64 (i : Int)), (4, .pointer (some ⟨g4, 0, none⟩)), (5, .int .i64 (j : Int)), (6, .int .i64 (m : Int))])
         (fun m => [.blk g4 111 (l[i].cells (.slice B21 l[i].slots.length d21)), .blk g1 24 [.slice A l.length c0]])
         (fun m => m ≤ l[i].slots[j].kinds.length ∧ allP (fun _ k => !decide ((100 : Int) < ((k : ByteArray).size : Nat))) l[i].slots[j].kinds m = true)
         (fun m => l[i].slots[j].kinds.length - m) ⟨Nat.zero_le _, rfl⟩ rfl sb rfl ?_
        intro m ⟨hmm, hr⟩
        refine go 7 ?_
        obtain ⟨b62, o62, w62, e62, c62, r62⟩ := RdA.at_ hB21 (i := j) hltj
        obtain ⟨q62, rfl, B62, d62, rfl, hB62, hd62, hm62⟩ := r62
        refine o_v rfl (v_idx he rfl rfl e62 (j) (by omega) hltj) ?_
        refine go 1 ?_
        refine o_v rfl (v_ldI he rfl (c62 1 _ rfl)) ?_
        refine go 4 ?_
        refine cb rfl (fun h66 p66 => ?_) (fun h66 p66 => ?_)
        ·have hltm : m < l[i].slots[j].kinds.length := by omega
         refine go 9 ?_
         obtain ⟨b72, o72, w72, e72, c72, r72⟩ := RdA.at_ hB21 (i := j) hltj
         obtain ⟨q72, rfl, B72, d72, rfl, hB72, hd72, hm72⟩ := r72
         refine o_v rfl (v_idx he rfl rfl e72 (j) (by omega) hltj) ?_
         refine go 1 ?_
         refine o_v rfl (v_ldI he rfl (c72 1 _ rfl)) ?_
         refine go 1 ?_
         obtain ⟨b76, o76, w76, e76, c76, r76⟩ := RdA.at_ hB72 (i := m) hltm
         obtain rfl := r76
         refine o_v rfl (v_idx he rfl rfl e76 (m) (by omega) hltm) ?_
         refine o_v rfl (v_ldI he rfl (c76 0 _ rfl)) ?_
         refine go 4 ?_
         refine cb rfl (fun h79 p79 => ?_) (fun h79 p79 => ?_)
         ·refine go 19 ?_
          refine fin1 rfl rfl ?_
          exact q_v (congrArg Value.bool (by simp only [fewC, allP_not (f := fun _ k => fewKind k) hlt (show fewKind l[i] = false by simp only [fewKind, allP_not (f := fun _ s => fewSlot s) hltj (show fewSlot l[i].slots[j] = false by simp only [fewSlot, allP_not (f := fun _ k => !decide ((100 : Int) < ((k : ByteArray).size : Nat))) hltm (show (!decide ((100 : Int) < ((l[i].slots[j].kinds[m]).size : Nat))) = false by simp only [h79]; rfl), bS]), bS]), bS]))
         ·refine go 9 ?_
          exact q_next (m + 1) ⟨by omega, allP_succ hr hltm (by simp only [h79]; rfl)⟩ (by omega) rfl sb rfl
        ·refine go 12 ?_
         exact q_next (j + 1) ⟨by omega, allP_succ hq hltj (by simp only [fewSlot, h57, (show m = l[i].slots[j].kinds.length by omega) ▸ hr]; rfl)⟩ (by omega) rfl sb rfl
     ·refine go 12 ?_
      refine sx_drop ?_
      exact q_next (i + 1) ⟨by omega, allP_succ hn hlt (by simp only [fewKind, h32, (show j = l[i].slots.length by omega) ▸ hq]; rfl)⟩ (by omega) rfl sb rfl
  ·refine go 11 ?_
   refine fin1 rfl rfl ?_
   have e : i = l.length := (by omega)
   subst e
   exact q_v (congrArg Value.bool (by simp only [fewC, hn, h10]; rfl))

end Go.Proofs.YthcefohbbfjjfaaGreat

/- Walks, printed by a program out of the code of the functions: each theorem is a contract of one function. -/
namespace Go.Proofs.YthcefohbbfjjfaaGreat
open Go Go.Sx
set_option linter.all false
set_option maxRecDepth 20000
set_option maxHeartbeats 4000000
instance T.arr_171 : Has (arrK Tryz.prog 171) (3, 170, 1) := ⟨by kernel_rfl⟩
instance T.arr_213 : Has (arrK Tryz.prog 213) (8, 9, 1) := ⟨by kernel_rfl⟩
theorem T.eqg_43 : Tryz.prog.eqGuardType Tryz.prog.depth 43 = false := by kernel_rfl
instance T.fld_32_0 : Has (fldK Tryz.prog 32 0) (0, false, 1) := ⟨by kernel_rfl⟩
instance T.fld_32_1 : Has (fldK Tryz.prog 32 1) (1, false, 1) := ⟨by kernel_rfl⟩
instance T.fld_34_0 : Has (fldK Tryz.prog 34 0) (0, true, 2) := ⟨by kernel_rfl⟩
instance T.fld_34_1 : Has (fldK Tryz.prog 34 1) (2, true, 2) := ⟨by kernel_rfl⟩
instance T.fld_34_2 : Has (fldK Tryz.prog 34 2) (4, true, 2) := ⟨by kernel_rfl⟩
instance T.fld_43_0 : Has (fldK Tryz.prog 43 0) (0, false, 1) := ⟨by kernel_rfl⟩
instance T.fld_43_1 : Has (fldK Tryz.prog 43 1) (1, false, 1) := ⟨by kernel_rfl⟩
instance T.fld_43_2 : Has (fldK Tryz.prog 43 2) (2, false, 1) := ⟨by kernel_rfl⟩
instance T.fld_43_3 : Has (fldK Tryz.prog 43 3) (3, false, 1) := ⟨by kernel_rfl⟩
instance T.fld_43_4 : Has (fldK Tryz.prog 43 4) (4, false, 1) := ⟨by kernel_rfl⟩
instance T.fld_43_5 : Has (fldK Tryz.prog 43 5) (5, false, 1) := ⟨by kernel_rfl⟩
instance T.fld_43_6 : Has (fldK Tryz.prog 43 6) (6, false, 1) := ⟨by kernel_rfl⟩
instance T.fld_43_7 : Has (fldK Tryz.prog 43 7) (7, false, 1) := ⟨by kernel_rfl⟩
instance T.fld_43_8 : Has (fldK Tryz.prog 43 8) (8, true, 6) := ⟨by kernel_rfl⟩
instance T.pl_34 : Has (plK Tryz.prog 34) [(0, 2), (2, 2), (4, 2)] := ⟨by kernel_rfl⟩
instance T.pl_43 : Has (plK Tryz.prog 43) [(0, 1), (1, 1), (2, 1), (3, 1), (4, 1), (5, 1), (6, 1), (7, 1), (8, 6)] := ⟨by kernel_rfl⟩
instance T.ty_170 : Has (tyK Tryz.prog 170) (false, 1) := ⟨by kernel_rfl⟩
instance T.ty_171 : Has (tyK Tryz.prog 171) (true, 3) := ⟨by kernel_rfl⟩
instance T.ty_213 : Has (tyK Tryz.prog 213) (true, 8) := ⟨by kernel_rfl⟩
instance T.ty_34 : Has (tyK Tryz.prog 34) (true, 6) := ⟨by kernel_rfl⟩
instance T.zero_171 : Has (zeroK Tryz.prog 171) [.pointer none, .pointer none, .pointer none] := ⟨by kernel_rfl⟩
instance T.zero_213 : Has (zeroK Tryz.prog 213) [.string ⟨#[]⟩, .string ⟨#[]⟩, .string ⟨#[]⟩, .string ⟨#[]⟩, .string ⟨#[]⟩, .string ⟨#[]⟩, .string ⟨#[]⟩, .string ⟨#[]⟩] := ⟨by kernel_rfl⟩
instance T.zero_34 : Has (zeroK Tryz.prog 34) [.int .i64 0, .int .i64 0, .int .i64 0, .int .i64 0, .int .i64 0, .int .i64 0] := ⟨by kernel_rfl⟩
instance T.zero_43 : Has (zeroK Tryz.prog 43) [.int .i64 0, .int .i64 0, .string ⟨#[]⟩, .string ⟨#[]⟩, .string ⟨#[]⟩, .string ⟨#[]⟩, .string ⟨#[]⟩, .string ⟨#[]⟩, .int .i64 0, .int .i64 0, .int .i64 0, .int .i64 0, .int .i64 0, .int .i64 0] := ⟨by kernel_rfl⟩
theorem eqS_Ivl (a b : Ivl) : eqV Tryz.prog 9 32 (.agg a.cells.toArray) (.agg b.cells.toArray) = some (decide (a = b)) := by
  rw [← Ivl.eqB_eq]
  kernel_rfl

theorem eqS_Life (a b : Life) : eqV Tryz.prog 9 47 (.agg a.cells.toArray) (.agg b.cells.toArray) = some (decide (a = b)) := by
  rw [← Life.eqB_eq]
  kernel_rfl

theorem eqS_Evt (a b : Evt) : eqV Tryz.prog 9 43 (.agg a.cells.toArray) (.agg b.cells.toArray) = some (decide (a = b)) := by
  rw [← Evt.eqB_eq]
  kernel_rfl

theorem eqS_Prp (a b : Prp) : eqV Tryz.prog 9 87 (.agg a.cells.toArray) (.agg b.cells.toArray) = some (decide (a = b)) := by
  rw [← Prp.eqB_eq]
  kernel_rfl

theorem evWord (I : IMap) (op : Int) :
    FnV Tryz.prog 111 #[.int .i64 op] I (.string (wordOf op)) := by
 refine enter Tryz.func111 Tryz.call111 rfl Tryz.ntmps111 rfl (fun w0 => ?_)
 refine go 8 ?_
 refine o_val rfl (v_buildA he he rfl rfl) ?_
 refine go 1 ?_
 refine o_alloc he rfl (fun g3 => ?_)
 refine go 1 ?_
 refine o_stw _ he rfl rfl rfl rfl rfl rfl ?_
 refine go 8 ?_
 refine sxb 7 rfl (fun h7 p7 => ?_) (fun h7 p7 => ?_)
 ·refine go 5 ?_
  refine c_true rfl ?_
  refine go 7 ?_
  refine fin1 rfl rfl ?_
  exact q_v (congrArg Value.string (wordOf_out (by omega)).symm)
 ·refine go 5 ?_
  refine cb rfl (fun h10 p10 => ?_) (fun h10 p10 => ?_)
  ·refine go 7 ?_
   refine fin1 rfl rfl ?_
   exact q_v (congrArg Value.string (wordOf_out (by omega)).symm)
  ·refine go 5 ?_
   refine o_v rfl (v_aidx he rfl rfl op.toNat (by omega) (by omega)) ?_
   refine o_v rfl (v_ld m0 he rfl (by rw [show 0 + op.toNat * 1 = op.toNat from by omega]; exact wordOf_at (by omega) (by omega))) ?_
   refine go 4 ?_
   refine fin1 rfl rfl ?_
   exact q_v rfl

theorem evIvls (I : IMap) (g o : Nat) :
    FnV Tryz.prog 112 #[.pointer (some ⟨g, o, none⟩)] I (.agg #[.pointer (some ⟨g, o + 0, none⟩), .pointer (some ⟨g, o + 2, none⟩), .pointer (some ⟨g, o + 4, none⟩)]) := by
 refine enter Tryz.func112 Tryz.call112 rfl Tryz.ntmps112 rfl (fun w0 => ?_)
 refine go 3 ?_
 refine o_alloc he rfl (fun g2 => ?_)
 refine go 3 ?_
 refine d_start1 T.mixed ?_
 refine d_tv 0 rfl rfl (by kernel_rfl) rfl (.cons _ .slnil) rfl (v_move rfl) ?_
 refine d_tv 1 rfl rfl (by kernel_rfl) rfl (.cons _ .slnil) rfl (v_nilCheck rfl) ?_
 refine d_tv 2 rfl rfl (by kernel_rfl) rfl (.cons _ .slnil) rfl (v_fieldAddr he rfl) ?_
 refine d_tv 3 rfl rfl (by kernel_rfl) rfl (.cons _ .slnil) rfl (v_move rfl) ?_
 refine d_tv 4 rfl rfl (by kernel_rfl) rfl (.cons _ .slnil) rfl (v_nilCheck rfl) ?_
 refine d_tv 5 rfl rfl (by kernel_rfl) rfl (.cons _ .slnil) rfl (v_fieldAddr he rfl) ?_
 refine d_tv 6 rfl rfl (by kernel_rfl) rfl (.cons _ .slnil) rfl (v_move rfl) ?_
 refine d_tv 7 rfl rfl (by kernel_rfl) rfl (.cons _ .slnil) rfl (v_nilCheck rfl) ?_
 refine d_tv 8 rfl rfl (by kernel_rfl) rfl (.cons _ .slnil) rfl (v_fieldAddr he rfl) ?_
 refine d_one 9 (by kernel_rfl) rfl ?_
 refine o_val rfl (v_buildA he he rfl rfl) ?_
 refine d_on (fun _ m => m.keeps (.cons _ .slnil)) ?_
 refine d_one 10 (by kernel_rfl) rfl ?_
 refine o_stw _ he rfl rfl rfl rfl rfl rfl ?_
 refine d_on (fun _ m => m.keeps (.cons _ .slnil)) ?_
 refine d_done (by kernel_rfl) ?_
 refine go 2 ?_
 refine fin1 rfl ⟨_, _, _, rfl, m0, .inr ⟨_, he, rfl, rfl⟩⟩ ?_
 exact q_v rfl

theorem evValid1 (I : IMap) (s : ByteArray) (hs : Sm s) :
    FnV Tryz.prog 114 #[.string s] I (.bool (!nameOk s)) := by
 refine enter Tryz.func114 Tryz.call114 rfl Tryz.ntmps114 rfl (fun w0 => ?_)
 refine go 9 ?_
 refine o_callV (lexName _ s hs) rfl rfl ?_
 refine go 5 ?_
 refine fin1 rfl rfl ?_
 exact q_v rfl

theorem evValid (I : IMap) (e : Evt) (hs : SmE e) :
    FnV Tryz.prog 70 #[.agg e.cells.toArray] I (.bool (validE e)) := by
 refine enter Tryz.func70 Tryz.call70 rfl Tryz.ntmps70 rfl (fun w0 => ?_)
 refine go 3 ?_
 refine o_box _ rfl rfl rfl (fun g1 => ?_)
 refine go 5 ?_
 refine c_cut (I' := I) (L' := [(1, .pointer (some ⟨g1, 0, none⟩)), (26, .bool (evBad e))]) (H' := [.blk g1 43 e.cells]) ?_ ?_
 ·refine go 4 ?_
  refine o_callV (evWord _ e.op) rfl rfl ?_
  refine go 2 ?_
  refine sxb 11 rfl (fun h11 p11 => ?_) (fun h11 p11 => ?_)
  ·refine go 17 ?_
   exact q_cut ⟨rfl, (congrArg (fun b => some (Value.bool b)) (by simp only [evBad, h11, bS])), trivial⟩ rfl rfl
  ·refine go 5 ?_
   refine sxb 16 rfl (fun h16 p16 => ?_) (fun h16 p16 => ?_)
   ·refine go 12 ?_
    exact q_cut ⟨rfl, (congrArg (fun b => some (Value.bool b)) (by simp only [evBad, h11, h16, bS])), trivial⟩ rfl rfl
   ·refine go 5 ?_
    refine sxb 21 rfl (fun h21 p21 => ?_) (fun h21 p21 => ?_)
    ·refine go 7 ?_
     exact q_cut ⟨rfl, (congrArg (fun b => some (Value.bool b)) (by simp only [evBad, h11, h16, h21, bS])), trivial⟩ rfl rfl
    ·refine go 3 ?_
     refine o_yes rfl rfl h21 (o_callV (lexName _ _ hs.1) rfl rfl ?_)
     refine go 4 ?_
     exact q_cut ⟨rfl, (congrArg (fun b => some (Value.bool b)) (by simp only [evBad, h11, h16, h21, bS])), trivial⟩ rfl rfl
 ·refine cb rfl (fun h26 p26 => ?_) (fun h26 p26 => ?_)
  ·refine go 7 ?_
   refine fin1 rfl rfl ?_
   exact q_v (congrArg Value.bool (by simp only [validE, h26]; rfl))
  ·refine go 5 ?_
   refine o_buildSlice he he rfl rfl rfl rfl rfl rfl rfl (fun v27 => ?_)
   refine go 7 ?_
   refine o_alloc he rfl (fun g4 => ?_)
   refine go 1 ?_
   refine o_stw _ he rfl rfl rfl rfl rfl rfl ?_
   refine go 6 ?_
   refine o_st1 he rfl rfl rfl rfl ?_
   refine go 2 ?_
   refine o_st1 he rfl rfl rfl rfl ?_
   refine go 2 ?_
   refine o_st1 he rfl rfl rfl rfl ?_
   refine go 3 ?_
   refine c_cutx2 (Ix := (fun v3 xs => I)) (Lx := (fun v3 xs => [(3, v3), (4, .pointer (some ⟨g4, 0, none⟩))])) (Hx := (fun v3 xs => [.row v3 9 1 (namesOf e).length xs, .blk g4 43 (restOf e).cells])) (p := (fun v3 xs => Flat I xs (namesOf e) ∧ opBad e = false)) ?_ ?_
   ·refine go 13 ?_
    refine cb rfl (fun h34 p34 => ?_) (fun h34 p34 => ?_)
    ·refine go 4 ?_
     refine o_buildSlice he he rfl rfl rfl rfl rfl rfl rfl (fun v38 => ?_)
     refine go 3 ?_
     refine bring1 ?_
     refine o_st1 he rfl rfl rfl rfl ?_
     refine go 3 ?_
     refine bring2 ?_
     refine sx_drop ?_
     refine bring2 ?_
     refine sx_drop ?_
     refine bring1 ?_
     exact q_cutx2 (_) (_) ⟨(by simp only [namesOf, p26, p34, if_true, if_false]; first | exact .nil | exact .one rfl | exact .cons rfl (.one rfl)), (by simp [opBad, p26, p34, h26, h34] <;> assumption)⟩ sb (by simp only [namesOf, restOf, p26, p34, if_true, if_false]; rfl) rfl
    ·refine go 6 ?_
     refine cb rfl (fun h40 p40 => ?_) (fun h40 p40 => ?_)
     ·refine go 10 ?_
      refine cb rfl (fun h46 p46 => ?_) (fun h46 p46 => ?_)
      ·refine go 9 ?_
       refine fin1 rfl rfl ?_
       exact q_v (congrArg Value.bool (by simp [validE, opBad, p26, p34, p40, p46, h26, h34, h40, h46]))
      ·refine go 8 ?_
       refine o_buildSlice he he rfl rfl rfl rfl rfl rfl rfl (fun v51 => ?_)
       refine go 3 ?_
       refine bring1 ?_
       refine o_st1 he rfl rfl rfl rfl ?_
       refine go 2 ?_
       refine o_st1 he rfl rfl rfl rfl ?_
       refine go 3 ?_
       refine bring2 ?_
       refine sx_drop ?_
       refine bring2 ?_
       refine sx_drop ?_
       refine bring1 ?_
       exact q_cutx2 (_) (_) ⟨(by simp only [namesOf, p26, p34, p40, p46, if_true, if_false]; first | exact .nil | exact .one rfl | exact .cons rfl (.one rfl)), (by simp [opBad, p26, p34, p40, p46, h26, h34, h40, h46] <;> assumption)⟩ sb (by simp only [namesOf, restOf, p26, p34, p40, p46, if_true, if_false]; rfl) rfl
     ·refine go 6 ?_
      refine cb rfl (fun h54 p54 => ?_) (fun h54 p54 => ?_)
      ·refine go 2 ?_
       refine c_cut (I' := I) (L' := [(1, .pointer (some ⟨g1, 0, none⟩)), (3, v27), (4, .pointer (some ⟨g4, 0, none⟩)), (64, .bool (decide (e.value = nil8) || decide ((200 : Int) < (e.value.size : Nat))))]) (H' := [.row v27 9 1 0 [], .blk g1 43 e.cells, .blk g4 43 ({ e with op := 0, day := 0, part := nil8 } : Evt).cells]) ?_ ?_
       ·refine go 5 ?_
        refine sxb 59 rfl (fun h59 p59 => ?_) (fun h59 p59 => ?_)
        ·refine go 7 ?_
         refine bring2 ?_
         refine bring2 ?_
         exact q_cut ⟨rfl, rfl, rfl, (congrArg (fun b => some (Value.bool b)) (by simp only [h26, h34, h40, h54, h59, bS])), trivial⟩ rfl rfl
        ·refine go 7 ?_
         refine bring2 ?_
         refine bring2 ?_
         exact q_cut ⟨rfl, rfl, rfl, (congrArg (fun b => some (Value.bool b)) (by simp only [h26, h34, h40, h54, h59, bS])), trivial⟩ rfl rfl
       ·refine cb rfl (fun h64 p64 => ?_) (fun h64 p64 => ?_)
        ·refine go 9 ?_
         refine fin1 rfl rfl ?_
         exact q_v (congrArg Value.bool (by simp [validE, opBad, p54, h64]))
        ·refine go 6 ?_
         refine o_buildSlice he he rfl rfl rfl rfl rfl rfl rfl (fun v67 => ?_)
         refine go 3 ?_
         refine bring3 ?_
         refine o_st1 he rfl rfl rfl rfl ?_
         refine go 2 ?_
         refine o_st1 he rfl rfl rfl rfl ?_
         refine go 3 ?_
         refine bring2 ?_
         refine sx_drop ?_
         refine bring2 ?_
         refine sx_drop ?_
         refine bring1 ?_
         exact q_cutx2 (_) (_) ⟨(by simp only [namesOf, p26, p34, p40, p54, p64, if_true, if_false]; first | exact .nil | exact .one rfl | exact .cons rfl (.one rfl)), (by simp [opBad, p26, p34, p40, p54, p64, h64] <;> assumption)⟩ sb (by simp only [namesOf, restOf, p26, p34, p40, p54, p64, if_true, if_false]; rfl) rfl
      ·refine go 6 ?_
       refine cb rfl (fun h70 p70 => ?_) (fun h70 p70 => ?_)
       ·refine go 5 ?_
        refine o_callV (evIvls _ g1 8) rfl rfl ?_
        refine go 4 ?_
        refine bring1 ?_
        refine bring1 ?_
        refine bring2 ?_
        refine c_loop (α := Nat) 0 (fun i => I)
         (fun i => [(1, .pointer (some ⟨g1, 0, none⟩)), (3, v27), (4, .pointer (some ⟨g4, 0, none⟩)), (73, .agg (usePtrs g1 8).toArray), (74, .int .i64 (i : Int))])
         (fun i => [.blk g1 43 e.cells, .blk g4 43 ({ e with op := 0, day := 0, part := nil8 } : Evt).cells, .row v27 9 1 0 []])
         (fun i => i ≤ 3 ∧ useTo e.use i = true)
         (fun i => 3 - i) ⟨by omega, rfl⟩ rfl sb rfl ?_
        intro i ⟨hi, hn⟩
        refine go 6 ?_
        refine cb rfl (fun h75 p75 => ?_) (fun h75 p75 => ?_)
        ·have hlt : i < 3 := by omega
         refine go 6 ?_
         refine o_v rfl (v_vidx he he rfl rfl i rfl hlt (usePtrs_at g1 8 hlt)) ?_
         refine go 4 ?_
         refine c_cut (I' := I) (L' := [(1, .pointer (some ⟨g1, 0, none⟩)), (3, v27), (4, .pointer (some ⟨g4, 0, none⟩)), (73, .agg (usePtrs g1 8).toArray), (74, .int .i64 (i : Int)), (99, .bool (!ivlOk (useAt e.use i)))]) (H' := [.blk g1 43 e.cells, .blk g4 43 ({ e with op := 0, day := 0, part := nil8 } : Evt).cells, .row v27 9 1 0 []]) ?_ ?_
         ·refine d_startH T.mixed ?_
          refine d_tv 0 rfl rfl (by kernel_rfl) rfl (.refl _) rfl (v_move rfl) ?_
          refine d_tv 1 rfl rfl (by kernel_rfl) rfl (.refl _) rfl (v_nilCheck rfl) ?_
          refine d_tv 2 rfl rfl (by kernel_rfl) rfl (.refl _) rfl (v_fieldAddr he rfl) ?_
          refine d_tv 3 rfl rfl (by kernel_rfl) rfl (.refl _) rfl (v_ld m0 he rfl (use_low e hlt)) ?_
          refine d_tv 4 rfl rfl (by kernel_rfl) rfl (.refl _) rfl (v_lss rfl rfl) ?_
          refine d_tv 5 rfl rfl (by kernel_rfl) rfl (.refl _) rfl (v_move rfl) ?_
          refine sxb 82 rfl (fun h82 p82 => ?_) (fun h82 p82 => ?_)
          ·refine d_t 6 rfl rfl (by kernel_rfl) rfl (fun _ m => m.keeps (.refl _)) (y_no rfl rfl h82) ?_
           refine d_t 7 rfl rfl (by kernel_rfl) rfl (fun _ m => m.keeps (.refl _)) (y_no rfl rfl h82) ?_
           refine d_t 8 rfl rfl (by kernel_rfl) rfl (fun _ m => m.keeps (.refl _)) (y_no rfl rfl h82) ?_
           refine d_t 9 rfl rfl (by kernel_rfl) rfl (fun _ m => m.keeps (.refl _)) (y_no rfl rfl h82) ?_
           refine d_t 10 rfl rfl (by kernel_rfl) rfl (fun _ m => m.keeps (.refl _)) (y_no rfl rfl h82) ?_
           refine d_t 11 rfl rfl (by kernel_rfl) rfl (fun _ m => m.keeps (.refl _)) (y_no rfl rfl h82) ?_
           refine d_t 12 rfl rfl (by kernel_rfl) rfl (fun _ m => m.keeps (.refl _)) (y_no rfl rfl h82) ?_
           refine d_t 13 rfl rfl (by kernel_rfl) rfl (fun _ m => m.keeps (.refl _)) (y_no rfl rfl h82) ?_
           refine d_t 14 rfl rfl (by kernel_rfl) rfl (fun _ m => m.keeps (.refl _)) (y_no rfl rfl h82) ?_
           refine d_tv 15 rfl rfl (by kernel_rfl) rfl (.refl _) rfl (v_or_t h82 rfl) ?_
           refine d_tv 16 rfl rfl (by kernel_rfl) rfl (.refl _) rfl (v_move rfl) ?_
           refine d_t 17 rfl rfl (by kernel_rfl) rfl (fun _ m => m.keeps (.refl _)) (y_no rfl rfl rfl) ?_
           refine d_t 18 rfl rfl (by kernel_rfl) rfl (fun _ m => m.keeps (.refl _)) (y_no rfl rfl rfl) ?_
           refine d_t 19 rfl rfl (by kernel_rfl) rfl (fun _ m => m.keeps (.refl _)) (y_no rfl rfl rfl) ?_
           refine d_t 20 rfl rfl (by kernel_rfl) rfl (fun _ m => m.keeps (.refl _)) (y_no rfl rfl rfl) ?_
           refine d_t 21 rfl rfl (by kernel_rfl) rfl (fun _ m => m.keeps (.refl _)) (y_no rfl rfl rfl) ?_
           refine d_tv 22 rfl rfl (by kernel_rfl) rfl (.refl _) rfl (v_or_t rfl rfl) ?_
           refine d_done (by kernel_rfl) ?_
           refine go 1 ?_
           exact q_cut ⟨rfl, rfl, rfl, rfl, rfl, (congrArg (fun b => some (Value.bool b)) (by simp only [ivlOk, h75, h82, bS, Bool.not_not])), trivial⟩ rfl rfl
          ·refine d_t 6 rfl rfl (by kernel_rfl) rfl (fun _ m => m.keeps (.refl _)) (y_yes rfl rfl h82 (v_move rfl)) ?_
           refine d_t 7 rfl rfl (by kernel_rfl) rfl (fun _ m => m.keeps (.refl _)) (y_yes rfl rfl h82 (v_nilCheck rfl)) ?_
           refine d_t 8 rfl rfl (by kernel_rfl) rfl (fun _ m => m.keeps (.refl _)) (y_yes rfl rfl h82 (v_fieldAddr he rfl)) ?_
           refine d_t 9 rfl rfl (by kernel_rfl) rfl (fun _ m => m.keeps (.refl _)) (y_yes rfl rfl h82 (v_ld m0 he rfl (use_low e hlt))) ?_
           refine d_t 10 rfl rfl (by kernel_rfl) rfl (fun _ m => m.keeps (.refl _)) (y_yes rfl rfl h82 (v_move rfl)) ?_
           refine d_t 11 rfl rfl (by kernel_rfl) rfl (fun _ m => m.keeps (.refl _)) (y_yes rfl rfl h82 (v_nilCheck rfl)) ?_
           refine d_t 12 rfl rfl (by kernel_rfl) rfl (fun _ m => m.keeps (.refl _)) (y_yes rfl rfl h82 (v_fieldAddr he rfl)) ?_
           refine d_t 13 rfl rfl (by kernel_rfl) rfl (fun _ m => m.keeps (.refl _)) (y_yes rfl rfl h82 (v_ld m0 he rfl (use_high e hlt))) ?_
           refine d_t 14 rfl rfl (by kernel_rfl) rfl (fun _ m => m.keeps (.refl _)) (y_yes rfl rfl h82 (v_gtr rfl rfl)) ?_
           refine d_tv 15 rfl rfl (by kernel_rfl) rfl (.refl _) rfl (v_or_f h82 rfl rfl) ?_
           refine d_tv 16 rfl rfl (by kernel_rfl) rfl (.refl _) rfl (v_move rfl) ?_
           refine sxb 93 rfl (fun h93 p93 => ?_) (fun h93 p93 => ?_)
           ·refine d_t 17 rfl rfl (by kernel_rfl) rfl (fun _ m => m.keeps (.refl _)) (y_no rfl rfl h93) ?_
            refine d_t 18 rfl rfl (by kernel_rfl) rfl (fun _ m => m.keeps (.refl _)) (y_no rfl rfl h93) ?_
            refine d_t 19 rfl rfl (by kernel_rfl) rfl (fun _ m => m.keeps (.refl _)) (y_no rfl rfl h93) ?_
            refine d_t 20 rfl rfl (by kernel_rfl) rfl (fun _ m => m.keeps (.refl _)) (y_no rfl rfl h93) ?_
            refine d_t 21 rfl rfl (by kernel_rfl) rfl (fun _ m => m.keeps (.refl _)) (y_no rfl rfl h93) ?_
            refine d_tv 22 rfl rfl (by kernel_rfl) rfl (.refl _) rfl (v_or_t h93 rfl) ?_
            refine d_done (by kernel_rfl) ?_
            refine go 1 ?_
            exact q_cut ⟨rfl, rfl, rfl, rfl, rfl, (congrArg (fun b => some (Value.bool b)) (by simp only [ivlOk, h75, h82, h93, bS, Bool.not_not])), trivial⟩ rfl rfl
           ·refine d_t 17 rfl rfl (by kernel_rfl) rfl (fun _ m => m.keeps (.refl _)) (y_yes rfl rfl h93 (v_move rfl)) ?_
            refine d_t 18 rfl rfl (by kernel_rfl) rfl (fun _ m => m.keeps (.refl _)) (y_yes rfl rfl h93 (v_nilCheck rfl)) ?_
            refine d_t 19 rfl rfl (by kernel_rfl) rfl (fun _ m => m.keeps (.refl _)) (y_yes rfl rfl h93 (v_fieldAddr he rfl)) ?_
            refine d_t 20 rfl rfl (by kernel_rfl) rfl (fun _ m => m.keeps (.refl _)) (y_yes rfl rfl h93 (v_ld m0 he rfl (use_high e hlt))) ?_
            refine d_t 21 rfl rfl (by kernel_rfl) rfl (fun _ m => m.keeps (.refl _)) (y_yes rfl rfl h93 (v_gtr rfl rfl)) ?_
            refine d_tv 22 rfl rfl (by kernel_rfl) rfl (.refl _) rfl (v_or_f h93 rfl rfl) ?_
            refine d_done (by kernel_rfl) ?_
            refine go 1 ?_
            exact q_cut ⟨rfl, rfl, rfl, rfl, rfl, (congrArg (fun b => some (Value.bool b)) (by simp only [ivlOk, h75, h82, h93, bS, Bool.not_not])), trivial⟩ rfl rfl
         ·refine cb rfl (fun h99 p99 => ?_) (fun h99 p99 => ?_)
          ·refine go 13 ?_
           refine fin1 rfl rfl ?_
           exact q_v (congrArg Value.bool (by simp [validE, opBad, p70, use_not hlt (by simpa using h99)]))
          ·refine go 8 ?_
           exact q_next (i + 1) ⟨by omega, use_succ hn (by simpa using h99)⟩ (by omega) rfl sb rfl
        ·have hU : useTo e.use 3 = true := (show i = 3 by omega) ▸ hn
         refine go 7 ?_
         refine o_val rfl (v_build (pl := [(0, 2), (2, 2), (4, 2)]) he he rfl rfl) ?_
         refine go 2 ?_
         refine bring1 ?_
         refine o_st _ _ he rfl rfl rfl rfl rfl rfl rfl ?_
         refine go 3 ?_
         refine bring1 ?_
         refine sx_drop ?_
         refine bring1 ?_
         exact q_cutx2 (_) (_) ⟨(by simp only [namesOf, p26, p34, p40, p54, p70, p75, if_true, if_false]; first | exact .nil | exact .one rfl | exact .cons rfl (.one rfl)), (by simp [opBad, p26, p34, p40, p54, p70, p75, h75] <;> assumption)⟩ sb (by simp only [namesOf, restOf, p26, p34, p40, p54, p70, p75, if_true, if_false]; rfl) rfl
       ·refine go 3 ?_
        refine bring2 ?_
        refine sx_drop ?_
        refine bring1 ?_
        exact q_cutx2 (_) (_) ⟨(by simp only [namesOf, p26, p34, p40, p54, p70, if_true, if_false]; first | exact .nil | exact .one rfl | exact .cons rfl (.one rfl)), (by simp [opBad, p26, p34, p40, p54, p70, h26, h34, h40, h54, h70] <;> assumption)⟩ sb (by simp only [namesOf, restOf, p26, p34, p40, p54, p70, if_true, if_false]; rfl) rfl
   ·intro v3 xs ⟨hF, hO⟩
    refine go 4 ?_
    refine o_val rfl (v_build (pl := [(0, 1), (1, 1), (2, 1), (3, 1), (4, 1), (5, 1), (6, 1), (7, 1), (8, 6)]) he he rfl rfl) ?_
    refine o_v rfl (v_steql T.eqg_43 (eqS_Evt (restOf e) zEvt) rfl rfl) ?_
    refine go 1 ?_
    refine sxb 106 rfl (fun h106 p106 => ?_) (fun h106 p106 => ?_)
    ·refine go 2 ?_
     refine o_yes rfl rfl h106 (o_lendV m0 rfl rfl (hF) (fun I2 hI2 hR => containsFunc_string I2 _ _ hR _ [] (fun s => !nameOk s) (fun x hx vs hr => by cases hr; exact evValid1 I2 x (names_sm hs hx))) rfl rfl ?_)
     refine go 6 ?_
     refine fin1 rfl rfl ?_
     exact q_v (congrArg Value.bool (by simp only [validE, h26, hO, h106, bS]))
    ·refine go 8 ?_
     refine fin1 rfl rfl ?_
     exact q_v (congrArg Value.bool (by simp only [validE, h26, hO, h106, bS]))





end Go.Proofs.YthcefohbbfjjfaaGreat

