/- More rules: maps asked with a known answer; lists walked with what stands before. -/
import Derived.Test.YtkmdojpfccjnoaaGreatDom
set_option linter.all false
namespace Go.Sx
open Go
section
variable {P : Program} {ρ : Option Nat} {n : Sz} {E : Ent} {I : IMap} {L : LL} {H : List Res} {Q : Exit → Act → World → Prop} {ops : Array Oper} {K : Act → World → Prop}
variable {d ty : Nat} {pos : String} {af : Array Edge} {x y z : Operand} {κ : Type} [DecidableEq κ] {enc : κ → Value}
theorem v_get {mt kt et r : Nat} {zv u : Value} {kvs : List (κ × Value)} (hm : Res.mp r (emap enc kvs) ∈ H) (hK : KeyOK P kt enc) (ht : P.underlying mt = some (.map kt et)) (hz : zvK P et = some zv) (key : κ) (hx : ev L x = some (.map (some r))) (hy : ev L y = some (enc key))
    (hu : (mget kvs key).getD zv = u) : OV P n E I L H ⟨some d, .lookup mt x y false, ty, pos, af, none⟩ u := hu ▸ v_lookup hm hK ht hz key hx hy
theorem v_get2 {mt kt et r : Nat} {zv u : Value} {b : Bool} {kvs : List (κ × Value)} (hm : Res.mp r (emap enc kvs) ∈ H) (hK : KeyOK P kt enc) (ht : P.underlying mt = some (.map kt et)) (hz : zvK P et = some zv) (key : κ) (hx : ev L x = some (.map (some r))) (hy : ev L y = some (enc key))
    (hu : (mget kvs key).getD zv = u) (hb : (mget kvs key).isSome = b) : OV P n E I L H ⟨some d, .lookup mt x y true, ty, pos, af, none⟩ (.tuple #[u, .bool b]) := hu ▸ hb ▸ v_lookup2 hm hK ht hz key hx hy
theorem o_mapPut {mt kt et r : Nat} {v : Value} {kvs : List (κ × Value)} (kvs' : List (κ × Value)) (hK : KeyOK P kt enc) (ht : P.underlying mt = some (.map kt et)) (key : κ) (hx : ev L x = some (.map (some r))) (hy : ev L y = some (enc key)) (hv : ev L z = some v)
    (he : mput kvs key v = kvs') (k : SX n E I L (.mp r (emap enc kvs') :: H) K) : SX n E I L (.mp r (emap enc kvs) :: H) (one P ops Q ⟨none, .mapUpdate mt x y z, ty, pos, af, none⟩ K) :=
  o_mapUpdate hK ht key hx hy hv (he ▸ k)
theorem o_map0 {mt kt et : Nat} (enc : κ → Value) (ht : P.underlying mt = some (.map kt et)) (hd : Nat.blt d n.sz = true)
    (k : ∀ r, SX n E I ((d, .map (some r)) :: L) (.mp r (emap enc []) :: H) K) : SX n E I L H (one P ops Q ⟨some d, .makeMap mt none, ty, pos, af, none⟩ K) := o_makeMap ht hd k
end
/-! maps out of lists -/
def kvsOf {α κ : Type} (nm : α → κ) (val : α → Value) (l : List α) : List (κ × Value) := l.map fun x => (nm x, val x)
theorem kvs_get {α κ : Type} [DecidableEq κ] (nm : α → κ) (val : α → Value) (l : List α) (s : κ) : mget (kvsOf nm val l) s = (l.find? fun x => decide (nm x = s)).map val := by
  induction l with
  | nil => rfl
  | cons x l ih =>
    simp only [kvsOf, List.map_cons, mget, List.find?_cons]
    by_cases h : nm x = s
    · simp [h]
    · simp only [h, if_false, decide_false]; exact ih
theorem kvs_put {α κ : Type} [DecidableEq κ] (nm : α → κ) (val : α → Value) (l : List α) (x : α) (h : (l.find? fun y => decide (nm y = nm x)) = none) : mput (kvsOf nm val l) (nm x) (val x) = kvsOf nm val (l ++ [x]) := by
  have h1 : mfind (kvsOf nm val l) (nm x) 0 = none := by
    have := mfind_get (kvsOf nm val l) (nm x) 0
    rw [kvs_get, h] at this
    cases hm : mfind (kvsOf nm val l) (nm x) 0 with
    | none => rfl
    | some q => rw [hm] at this; simp at this
  rw [mfind_none h1]
  simp [kvsOf]
/-- is there one of this name, for which 'val' -/
def hitV {α κ : Type} [DecidableEq κ] (nm : α → κ) (val : α → Bool) (l : List α) (s : κ) : Bool := match l.find? fun x => decide (nm x = s) with | some x => val x | none => false
theorem kvs_hit {α κ : Type} [DecidableEq κ] (nm : α → κ) (val : α → Bool) (l : List α) (s : κ) : (mget (kvsOf nm (fun x => .bool (val x)) l) s).getD (.bool false) = .bool (hitV nm val l s) := by
  rw [kvs_get, hitV]
  cases l.find? _ <;> rfl
def hit {α κ : Type} [DecidableEq κ] (nm : α → κ) (l : List α) (s : κ) : Bool := (l.find? fun x => decide (nm x = s)).isSome
theorem kvs_some {α κ : Type} [DecidableEq κ] (nm : α → κ) (val : α → Value) (l : List α) (s : κ) : (mget (kvsOf nm val l) s).isSome = hit nm l s := by
  rw [kvs_get, hit]; cases l.find? _ <;> rfl
theorem kvs_hit1 {α κ : Type} [DecidableEq κ] (nm : α → κ) (l : List α) (s : κ) : (mget (kvsOf nm (fun _ => .bool true) l) s).getD (.bool false) = .bool (hit nm l s) := by
  rw [kvs_get, hit]; cases l.find? _ <;> rfl
theorem hit_none {α κ : Type} [DecidableEq κ] {nm : α → κ} {l : List α} {s : κ} (h : hit nm l s = false) : (l.find? fun x => decide (nm x = s)) = none := by
  simpa [hit] using h
theorem hit_eq {α κ : Type} [DecidableEq κ] (nm : α → κ) (l : List α) (s : κ) : hit nm l s = l.any fun x => decide (nm x = s) := by
  rw [hit, Bool.eq_iff_iff, List.find?_isSome, List.any_eq_true]
/-! lists walked with what stands before -/
def allP {α : Type} (f : List α → α → Bool) (l : List α) (n : Nat) : Bool := (List.range n).all fun i => match l[i]? with | some x => f (l.take i) x | none => true
theorem allP_zero {α : Type} (f : List α → α → Bool) (l : List α) : allP f l 0 = true := rfl
theorem allP_succ {α : Type} {f : List α → α → Bool} {l : List α} {i : Nat} (h : allP f l i = true) (hi : i < l.length) (hf : f (l.take i) l[i] = true) : allP f l (i + 1) = true :=
  all_succ h (by simp [hi, hf])
theorem allP_not {α : Type} {f : List α → α → Bool} {l : List α} {i : Nat} (hi : i < l.length) (hf : f (l.take i) l[i] = false) : allP f l l.length = false :=
  all_not (p := fun i => match l[i]? with | some x => f (l.take i) x | none => true) hi (by simp [hi, hf])
theorem take_succ_of {α : Type} {l : List α} {i : Nat} (hi : i < l.length) : l.take i ++ [l[i]] = l.take (i + 1) := by
  rw [List.take_succ_eq_append_getElem hi]
theorem find_getD {α : Type} {l : List α} {p : α → Bool} {z : α} : l.find? p = none → (l.find? p).getD z = z := fun h => by rw [h]; rfl
end Go.Sx
