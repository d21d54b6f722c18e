/- Runs of steps of a walk that need no word of their own. -/
import Derived.Test.YtkmdojpfccjnoaaGreatSxFn
set_option linter.all false
namespace Go.Sx
open Go
/-- so many steps lie ahead -/
structure HN (n : Nat) (g : Prop) : Prop where
  out : g
theorem HN.z {s : Prop} (h : HN 0 s) : s := h.out
theorem HN.p {s : Prop} {n : Nat} (h : HN (n + 1) s) : HN n s := ⟨h.out⟩
/-- a fact of the program, found by its left side -/
class Has {α : Type} (a : Option α) (b : outParam α) : Prop where
  eq : a = some b
theorem he {α : Type} {a : Option α} {b : α} [h : Has a b] : a = some b := h.eq
theorem sb {L L' : LL} (h : Sub L' L := by repeat (first | exact trivial | refine ⟨rfl, ?_⟩)) : Sub L' L := h
theorem bp {p q : Prop} (h : p) (e : p → q := by first | (intro h; simp only [bO] at h; exact h) | exact fun h => h) : q := e h
section
variable {P : Program} {ρ : Option Nat} {n : Sz} {E : Ent} {I I' : IMap} {L L' : LL} {H H' : List Res} {K K' : Act → World → Prop} {Q : Exit → Act → World → Prop} {ops : Array Oper}
theorem cb {c : Operand} {x y : Code} {b : Bool} {p q : Prop} (hc : ev L c = some (.bool b)) (ht : b = true → p → SX n E I L H (x.wq ρ P Q)) (hf : b = false → q → SX n E I L H (y.wq ρ P Q))
    (e1 : b = true → p := by first | (intro h; simp only [bO] at h; exact h) | exact fun h => h) (e2 : b = false → q := by first | (intro h; simp only [bO] at h; exact h) | exact fun h => h) :
    SX n E I L H ((Code.cond c x y).wq ρ P Q) := c_cond hc (fun h => ht h (e1 h)) (fun h => hf h (e2 h))
theorem sxb {v : Bool} {p q : Prop} (t : Nat) (h : look L t = some (.bool v)) (h1 : v = true → p → SX n E I L H K) (h2 : v = false → q → SX n E I L H K)
    (e1 : v = true → p := by first | (intro h; simp only [bO] at h; exact h) | exact fun h => h) (e2 : v = false → q := by first | (intro h; simp only [bO] at h; exact h) | exact fun h => h) : SX n E I L H K := sx_split t h (fun h => h1 h (e1 h)) (fun h => h2 h (e2 h))
variable {d ty : Nat} {pos : String} {af : Array Edge} {x y z : Operand} {tt tx tyy q : Nat} {v : Value}
theorem pr_move (h : OV P n E I L H ⟨some d, .move x, ty, pos, af, none⟩ v) : OV P n E I L H ⟨some d, .move x, ty, pos, af, none⟩ v := h
theorem pr_assign (h : OV P n E I L H ⟨some d, .assign x, ty, pos, af, none⟩ v) : OV P n E I L H ⟨some d, .assign x, ty, pos, af, none⟩ v := h
theorem pr_fieldAddr (h : OV P n E I L H ⟨some d, .fieldAddr tt x q, ty, pos, af, none⟩ v) : OV P n E I L H ⟨some d, .fieldAddr tt x q, ty, pos, af, none⟩ v := h
theorem pr_load (h : OV P n E I L H ⟨some d, .load tt x, ty, pos, af, none⟩ v) : OV P n E I L H ⟨some d, .load tt x, ty, pos, af, none⟩ v := h
theorem pr_field (h : OV P n E I L H ⟨some d, .field tt x q, ty, pos, af, none⟩ v) : OV P n E I L H ⟨some d, .field tt x q, ty, pos, af, none⟩ v := h
theorem pr_extract (h : OV P n E I L H ⟨some d, .extract x q, ty, pos, af, none⟩ v) : OV P n E I L H ⟨some d, .extract x q, ty, pos, af, none⟩ v := h
theorem pr_not (h : OV P n E I L H ⟨some d, .unOp .not tt x, ty, pos, af, none⟩ v) : OV P n E I L H ⟨some d, .unOp .not tt x, ty, pos, af, none⟩ v := h
theorem pr_nil (h : OV P n E I L H ⟨some d, .nilCheck x, ty, pos, af, none⟩ v) : OV P n E I L H ⟨some d, .nilCheck x, ty, pos, af, none⟩ v := h
theorem pr_pick (h : OV P n E I L H ⟨some d, .pick x y z, ty, pos, af, none⟩ v) : OV P n E I L H ⟨some d, .pick x y z, ty, pos, af, none⟩ v := h
theorem pr_lss (h : OV P n E I L H ⟨some d, .binOp .lss tx x y tyy, ty, pos, af, none⟩ v) : OV P n E I L H ⟨some d, .binOp .lss tx x y tyy, ty, pos, af, none⟩ v := h
theorem pr_leq (h : OV P n E I L H ⟨some d, .binOp .leq tx x y tyy, ty, pos, af, none⟩ v) : OV P n E I L H ⟨some d, .binOp .leq tx x y tyy, ty, pos, af, none⟩ v := h
theorem pr_gtr (h : OV P n E I L H ⟨some d, .binOp .gtr tx x y tyy, ty, pos, af, none⟩ v) : OV P n E I L H ⟨some d, .binOp .gtr tx x y tyy, ty, pos, af, none⟩ v := h
theorem pr_geq (h : OV P n E I L H ⟨some d, .binOp .geq tx x y tyy, ty, pos, af, none⟩ v) : OV P n E I L H ⟨some d, .binOp .geq tx x y tyy, ty, pos, af, none⟩ v := h
theorem pr_eql (h : OV P n E I L H ⟨some d, .binOp .eql tx x y tyy, ty, pos, af, none⟩ v) : OV P n E I L H ⟨some d, .binOp .eql tx x y tyy, ty, pos, af, none⟩ v := h
theorem pr_neq (h : OV P n E I L H ⟨some d, .binOp .neq tx x y tyy, ty, pos, af, none⟩ v) : OV P n E I L H ⟨some d, .binOp .neq tx x y tyy, ty, pos, af, none⟩ v := h
theorem pr_add (h : OV P n E I L H ⟨some d, .binOp .add tx x y tyy, ty, pos, af, none⟩ v) : OV P n E I L H ⟨some d, .binOp .add tx x y tyy, ty, pos, af, none⟩ v := h
theorem pr_sub (h : OV P n E I L H ⟨some d, .binOp .sub tx x y tyy, ty, pos, af, none⟩ v) : OV P n E I L H ⟨some d, .binOp .sub tx x y tyy, ty, pos, af, none⟩ v := h
theorem pr_len (h : OV P n E I L H ⟨some d, .call { callee := .builtin .len, args := #[x], argTypes := #[tx] }, ty, pos, af, none⟩ v) : OV P n E I L H ⟨some d, .call { callee := .builtin .len, args := #[x], argTypes := #[tx] }, ty, pos, af, none⟩ v := h
/-- the rule of an operation that only computes -/
theorem va {o : Oper} (h : OV P n E I L H o v := by
    first
      | ((with_unfolding_none refine' pr_move ?_); rotate_left; exact v_move rfl)
      | ((with_unfolding_none refine' pr_assign ?_); rotate_left; exact v_assign rfl)
      | ((with_unfolding_none refine' pr_fieldAddr ?_); rotate_left; exact v_fieldAddr he rfl)
      | ((with_unfolding_none refine' pr_load ?_); rotate_left; (first | exact v_ld m0 he rfl rfl | exact v_ld m1 he rfl rfl | exact v_ld m2 he rfl rfl | exact v_ld m3 he rfl rfl | exact v_ld m4 he rfl rfl | exact v_ld m5 he rfl rfl | exact v_ld m6 he rfl rfl | exact v_ldw m0 he rfl rfl | exact v_ldw m1 he rfl rfl | exact v_ldw m2 he rfl rfl | exact v_ldw m3 he rfl rfl | exact v_ldw m4 he rfl rfl | exact v_ldw m5 he rfl rfl | exact v_ldw m6 he rfl rfl))
      | ((with_unfolding_none refine' pr_pick ?_); rotate_left; (first | exact v_and_f rfl rfl | exact v_or_t rfl rfl | exact v_and_t rfl rfl rfl | exact v_or_f rfl rfl rfl | exact v_and_f (by assumption) rfl | exact v_or_t (by assumption) rfl | exact v_and_t (by assumption) rfl rfl | exact v_or_f (by assumption) rfl rfl))
      | ((with_unfolding_none refine' pr_lss ?_); rotate_left; (first | exact v_lss rfl rfl | exact v_slss rfl rfl))
      | ((with_unfolding_none refine' pr_len ?_); rotate_left; (first | exact v_len_slice he rfl | exact v_len_str he rfl))
      | ((with_unfolding_none refine' pr_extract ?_); rotate_left; exact v_extract rfl rfl)
      | ((with_unfolding_none refine' pr_not ?_); rotate_left; exact v_not rfl)
      | ((with_unfolding_none refine' pr_eql ?_); rotate_left; (first | exact v_eql rfl rfl | exact v_seql rfl rfl))
      | ((with_unfolding_none refine' pr_neq ?_); rotate_left; (first | exact v_neq rfl rfl | exact v_sneq rfl rfl))
      | ((with_unfolding_none refine' pr_leq ?_); rotate_left; (first | exact v_leq rfl rfl | exact v_sleq rfl rfl))
      | ((with_unfolding_none refine' pr_gtr ?_); rotate_left; (first | exact v_gtr rfl rfl | exact v_sgtr rfl rfl))
      | ((with_unfolding_none refine' pr_geq ?_); rotate_left; (first | exact v_geq rfl rfl | exact v_sgeq rfl rfl))
      | ((with_unfolding_none refine' pr_add ?_); rotate_left; exact v_add rfl rfl ⟨by omega, by omega⟩)
      | ((with_unfolding_none refine' pr_sub ?_); rotate_left; exact v_sub rfl rfl ⟨by omega, by omega⟩)
      | ((with_unfolding_none refine' pr_nil ?_); rotate_left; exact v_nilCheck rfl)
      | ((with_unfolding_none refine' pr_field ?_); rotate_left; (first | exact v_field he rfl rfl | exact v_fielda _ he rfl rfl))) : OV P n E I L H o v := h
theorem o_va {rest : List Oper} {op : Op} {v : Value} (hd : Nat.blt d n.sz = true) (h : OV P n E I L H ⟨some d, op, ty, pos, af, none⟩ v) (k : SX n E I ((d, v) :: L) H (wpL P ops Q rest)) : SX n E I L H (wpL P ops Q (⟨some d, op, ty, pos, af, none⟩ :: rest)) := o_v hd h k
theorem o_ya {rest : List Oper} {op : Op} {j : Nat} {b : Bool} {v : Value} {t : Nat} {c : Bool} (ht : (ops[j]?).bind (·.dst) = some t) (hb : look L t = some (.bool c)) (hv : c = b) (hd : Nat.blt d n.sz = true) (h : OV P n E I L H ⟨some d, op, ty, pos, af, none⟩ v) (k : SX n E I ((d, v) :: L) H (wpL P ops Q rest)) : SX n E I L H (wpL P ops Q (⟨some d, op, ty, pos, af, some (j, b)⟩ :: rest)) := o_cons (o_yes ht hb hv (o_val hd h k))
theorem o_na {rest : List Oper} {op : Op} {j : Nat} {b : Bool} {t : Nat} {c : Bool} (ht : (ops[j]?).bind (·.dst) = some t) (hb : look L t = some (.bool c)) (hv : c = !b) (hd : Nat.blt d n.sz = true) (k : SX n E I ((d, undef) :: L) H (wpL P ops Q rest)) : SX n E I L H (wpL P ops Q (⟨some d, op, ty, pos, af, some (j, b)⟩ :: rest)) := o_cons (o_no ht hb hv hd k)
theorem o_na' {rest : List Oper} {op : Op} {j : Nat} {b : Bool} {t : Nat} {c : Bool} (ht : (ops[j]?).bind (·.dst) = some t) (hb : look L t = some (.bool c)) (hv : c = !b) (k : SX n E I L H (wpL P ops Q rest)) : SX n E I L H (wpL P ops Q (⟨none, op, ty, pos, af, some (j, b)⟩ :: rest)) := o_cons (o_no' ht hb hv k)
theorem o_ua {rest : List Oper} {op : Op} {j : Nat} {b : Bool} {t : Nat} (ht : (ops[j]?).bind (·.dst) = some t) (hb : look L t = some undef) (hd : Nat.blt d n.sz = true) (k : SX n E I ((d, undef) :: L) H (wpL P ops Q rest)) : SX n E I L H (wpL P ops Q (⟨some d, op, ty, pos, af, some (j, b)⟩ :: rest)) := o_cons (o_nou ht hb hd k)
/-- so many steps -/
theorem go {g s : Prop} (n : Nat) (hs : s) (h : HN n s → g := by
    intro h
    repeat (first
      | exact HN.z h
      | replace h := HN.p h; first
        | ((with_unfolding_none refine' o_va ?_ ?_ ?_); rotate_left; exact rfl; exact va)
        | with_unfolding_none refine q_then ?_
        | with_unfolding_none refine o_nil ?_
        | with_unfolding_none refine c_seq ?_
        | with_unfolding_none refine c_region ?_
        | with_unfolding_none refine c_skip ?_
        | with_unfolding_none refine q_then_ret ?_
        | with_unfolding_none refine c_ret ?_
        | with_unfolding_none refine c_block ?_
        | with_unfolding_none refine q_block ?_
        | with_unfolding_none refine q_then_exit ?_
        | with_unfolding_none refine q_block_ret ?_
        | with_unfolding_none refine c_exit ?_
        | with_unfolding_none refine q_block_eq ?_
        | ((with_unfolding_none refine' o_na ?_ ?_ ?_ ?_ ?_); rotate_left 2; exact rfl; exact rfl; (first | exact rfl | assumption); exact rfl)
        | ((with_unfolding_none refine' o_ua ?_ ?_ ?_ ?_); rotate_left; exact rfl; exact rfl; exact rfl)
        | ((with_unfolding_none refine' o_na' ?_ ?_ ?_ ?_); rotate_left 2; exact rfl; exact rfl; (first | exact rfl | assumption))
        | ((with_unfolding_none refine' o_ya ?_ ?_ ?_ ?_ ?_ ?_); rotate_left 3; exact rfl; exact rfl; (first | exact rfl | assumption); exact rfl; exact va)
        | ((with_unfolding_none refine q_block_ne ?_ ?_); exact rfl)
        | with_unfolding_none refine o_cons ?_)) : g := h ⟨hs⟩
end
end Go.Sx
