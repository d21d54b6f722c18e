/- What slices.Insert does to pieces. -/
import Derived.Test.YtkmdojpfccjnoaaGreatMOrd
set_option linter.all false
namespace Go.Sx
open Go
section
variable {α : Type}
theorem ins_grow {xs : List α} {c z : α} {i n q r : Nat} (hn : xs.length = n) (hi : i ≤ n) (hq : i + q = n + 1) :
    (((xs.take i ++ List.replicate (q + r) z).take i ++ ([c] ++ (xs.take i ++ List.replicate (q + r) z).drop (i + [c].length))).take (i + 1) ++
      (xs.drop i ++ ((xs.take i ++ List.replicate (q + r) z).take i ++ ([c] ++ (xs.take i ++ List.replicate (q + r) z).drop (i + [c].length))).drop (i + 1 + (xs.drop i).length))) = (xs.take i ++ c :: xs.drop i) ++ List.replicate r z := by
  have h1 : (xs.take i).length = i := by rw [List.length_take]; omega
  have h2 : (xs.take i ++ List.replicate (q + r) z).take i = xs.take i := by rw [List.take_append_of_le_length (by omega), List.take_of_length_le (by omega)]
  have h3 : (xs.take i ++ List.replicate (q + r) z).drop (i + [c].length) = List.replicate (q + r - 1) z := by
    rw [List.drop_append, List.drop_eq_nil_of_le (by simp; omega), List.nil_append, h1, List.drop_replicate]
    congr 1
    simp
  rw [h2, h3]
  have h4 : (xs.take i ++ ([c] ++ List.replicate (q + r - 1) z)).take (i + 1) = xs.take i ++ [c] := by
    rw [List.take_append, List.take_of_length_le (by omega), h1]
    congr 1
    rw [show i + 1 - i = 1 from by omega]
    rfl
  have h5 : (xs.take i ++ ([c] ++ List.replicate (q + r - 1) z)).drop (i + 1 + (xs.drop i).length) = List.replicate r z := by
    rw [List.drop_append, List.drop_eq_nil_of_le (by omega), List.nil_append, h1, List.length_drop, List.drop_append, List.drop_eq_nil_of_le (by simp; omega), List.nil_append, List.drop_replicate]
    congr 1
    simp
    omega
  rw [h4, h5]
  simp
theorem ins_place {xs rest : List α} {c : α} {i n : Nat} (hn : xs.length = n) (hi : i ≤ n) (hr : 0 < rest.length) :
    ((((xs ++ rest).take (i + 1) ++ ((((xs ++ rest).drop i).take (n - i)) ++ (xs ++ rest).drop (i + 1 + (((xs ++ rest).drop i).take (n - i)).length))).take i) ++
      ([c] ++ ((xs ++ rest).take (i + 1) ++ ((((xs ++ rest).drop i).take (n - i)) ++ (xs ++ rest).drop (i + 1 + (((xs ++ rest).drop i).take (n - i)).length))).drop (i + [c].length))) = (xs.take i ++ c :: xs.drop i) ++ rest.drop 1 := by
  have h1 : ((xs ++ rest).drop i).take (n - i) = xs.drop i := by
    rw [List.drop_append_of_le_length (by omega), List.take_append_of_le_length (by rw [List.length_drop]; omega), List.take_of_length_le (by rw [List.length_drop]; omega)]
  rw [h1]
  have h2 : ((xs ++ rest).take (i + 1)).length = i + 1 := by rw [List.length_take, List.length_append]; omega
  have h3 : (xs ++ rest).drop (i + 1 + (xs.drop i).length) = rest.drop 1 := by
    rw [List.length_drop, List.drop_append, List.drop_eq_nil_of_le (by omega), List.nil_append]
    congr 1
    omega
  rw [h3]
  rw [List.take_append_of_le_length (by omega), List.take_take, Nat.min_eq_left (by omega), List.take_append_of_le_length (by omega)]
  rw [List.drop_append, List.drop_eq_nil_of_le (by simp; omega), List.nil_append, h2]
  rw [show i + [c].length - (i + 1) = 0 from by simp]
  simp
end
section
variable {P : Program} {ρ : Option Nat} {n : Sz} {E : Ent} {I : IMap} {L : LL} {H : List Res} {Q : Exit → Act → World → Prop} {ops : Array Oper} {K : Act → World → Prop}
variable {d ty : Nat} {pos : String} {af : Array Edge}
theorem sx_blk_eq {g t : Nat} {xss yss : List (List Value)} (h : xss = yss) (k : SX n E I L (.blk g t yss.flatten :: H) K) : SX n E I L (.blk g t xss.flatten :: H) K := h ▸ k
theorem OV.cast {op : Op} {dst : Option Nat} {v u : Value} (h : OV P n E I L H ⟨dst, op, ty, pos, af, none⟩ v) (e : v = u) : OV P n E I L H ⟨dst, op, ty, pos, af, none⟩ u := e ▸ h
theorem cutA_some {g c o k : Nat} (h : o < c) : cutA (some ⟨g, 0, none⟩) c o k = some ⟨g, o * k, none⟩ := by
  unfold cutA
  rw [if_neg (by omega)]
  simp [add_lit]
/-- where the cells of a private block are read from -/
theorem src_blk {g t k o m : Nat} {xss : List (List Value)} (hm : Res.blk g t xss.flatten ∈ H) (hU : Uk k xss) (w : World) (mm : Mem E I H w) (j : Nat) (u : Value) (hu : ((xss.drop o).take m).flatten[j]? = some u) : w.cell? ⟨g, o * k + j, none⟩ = some u := by
  have hg : w.heap[g]? = some (.cells xss.flatten.toArray t (0, 0)) := mm.holds _ hm
  rw [cell_of_row w g _ _ t _ hg]
  rw [← flat_take (hU.drop o), ← flat_drop hU, List.getElem?_take] at hu
  split at hu
  · simpa [List.getElem?_drop] using hu
  · cases hu
end
end Go.Sx
