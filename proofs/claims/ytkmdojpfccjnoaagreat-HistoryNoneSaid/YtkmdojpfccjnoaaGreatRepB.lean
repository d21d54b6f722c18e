/- Bits of numbers; numbers of a list opened. -/
import Derived.Test.YtkmdojpfccjnoaaGreatRepS
import Derived.Test.YtkmdojpfccjnoaaGreatM13
import Derived.Laws.Shifts
set_option linter.all false
namespace Go.Sx
open Go
section
variable {P : Program} {n : Sz} {E : Ent} {I : IMap} {L : LL} {H : List Res}
variable {d ty : Nat} {pos : String} {af : Array Edge} {tx tyy : Nat} {x y : Operand}
theorem v_shrU {a i : Nat} {k kk : IntKind} (hx : ev L x = some (.int k ((a : Nat) : Int))) (hy : ev L y = some (.int kk ((i : Nat) : Int))) :
    OV P n E I L H ⟨some d, .binOp .shr tx x y tyy, ty, pos, af, none⟩ (.int k ((a / 2 ^ min i k.bits : Nat) : Int)) := fun w s st _ => by
  have h := shift_shr_any k kk (a : Int) (i : Int) (by omega)
  have hb : binOp .shr tx (.int k (a : Int)) (.int kk (i : Int)) = pure (.int k ((a / 2 ^ min i k.bits : Nat) : Int)) := by
    show Op.shift .shr k (a : Int) kk (i : Int) = _
    rw [h]
    simp
  simp [execOp, st.ev hx, st.ev hy, eqGuard_shr, hb]
theorem and16 (a : Nat) : Op.intBits .and .u16 (a : Int) 1 = pure (.int .u16 ((a % 2 : Nat) : Int)) := by
  have h : (BitVec.ofInt 16 (a : Int) &&& BitVec.ofInt 16 1).toNat = a % 2 := by
    rw [BitVec.toNat_and, show BitVec.ofInt 16 (a : Int) = BitVec.ofNat 16 a from by simp, BitVec.toNat_ofNat]
    show a % 2 ^ 16 &&& 1 = a % 2
    rw [Nat.and_one_is_mod]
    omega
  show pure (Value.int .u16 (IntKind.u16.wrap ((BitVec.ofInt 16 (a : Int) &&& BitVec.ofInt 16 1).toNat : Int))) = _
  rw [h]
  congr 2
  simp [IntKind.wrap, IntKind.signed, IntKind.bits]
  omega
theorem or16 {a b : Nat} (ha : a < 65536) (hb : b < 65536) : Op.intBits .or .u16 (a : Int) (b : Int) = pure (.int .u16 ((a ||| b : Nat) : Int)) := by
  have h : (BitVec.ofInt 16 (a : Int) ||| BitVec.ofInt 16 (b : Int)).toNat = a ||| b := by
    rw [BitVec.toNat_or, show BitVec.ofInt 16 (a : Int) = BitVec.ofNat 16 a from by simp, show BitVec.ofInt 16 (b : Int) = BitVec.ofNat 16 b from by simp, BitVec.toNat_ofNat, BitVec.toNat_ofNat, Nat.mod_eq_of_lt ha, Nat.mod_eq_of_lt hb]
  have h2 : a ||| b < 2 ^ 16 := Nat.or_lt_two_pow ha hb
  show pure (Value.int .u16 (IntKind.u16.wrap ((BitVec.ofInt 16 (a : Int) ||| BitVec.ofInt 16 (b : Int)).toNat : Int))) = _
  rw [h]
  congr 2
  simp [IntKind.wrap, IntKind.signed, IntKind.bits]
  omega
theorem v_and1 {a : Nat} (hx : ev L x = some (.int .u16 ((a : Nat) : Int))) : OV P n E I L H ⟨some d, .binOp .and tx x (.const (.int .u16 1)) tyy, ty, pos, af, none⟩ (.int .u16 ((a % 2 : Nat) : Int)) := fun w s st _ => by
  have hb : binOp .and tx (.int .u16 (a : Int)) (.int .u16 1) = pure (.int .u16 ((a % 2 : Nat) : Int)) := (and16 a)
  have hy : w.eval (.const (.int .u16 1)) = .int .u16 1 := rfl
  simp [execOp, st.ev hx, hy, eqGuard_at_int, hb]
theorem v_or16 {a b : Nat} (ha : a < 65536) (hbb : b < 65536) (hx : ev L x = some (.int .u16 ((a : Nat) : Int))) (hy : ev L y = some (.int .u16 ((b : Nat) : Int))) : OV P n E I L H ⟨some d, .binOp .or tx x y tyy, ty, pos, af, none⟩ (.int .u16 ((a ||| b : Nat) : Int)) := fun w s st _ => by
  have hb : binOp .or tx (.int .u16 (a : Int)) (.int .u16 (b : Int)) = pure (.int .u16 ((a ||| b : Nat) : Int)) := or16 ha hbb
  simp [execOp, st.ev hx, st.ev hy, eqGuard_at_int, hb]
theorem v_remI {i j : Int} (hx : ev L x = some (.int .i64 i)) (hy : ev L y = some (.int .i64 j)) (h0 : 0 ≤ i) (h1 : i ≤ 9223372036854775807) (hj : 0 < j) : OV P n E I L H ⟨some d, .binOp .rem tx x y tyy, ty, pos, af, none⟩ (.int .i64 (i % j)) := by
  obtain ⟨a, rfl⟩ := Int.eq_ofNat_of_zero_le h0
  obtain ⟨b, rfl⟩ := Int.eq_ofNat_of_zero_le (Int.le_of_lt hj)
  exact OV.cast (v_rem hx hy (by omega) (by omega)) (by simp)
end
theorem bit_at {a i : Nat} (ha : a < 65536) : decide ((((a / 2 ^ min i 16) % 2 : Nat) : Int) = 1) = a.testBit i := by
  rw [Nat.testBit_eq_decide_div_mod_eq, decide_eq_decide]
  rcases Nat.lt_or_ge i 16 with h | h
  · rw [Nat.min_eq_left (by omega)]; omega
  · rw [Nat.min_eq_right h]
    have h1 : a / 2 ^ 16 = 0 := Nat.div_eq_of_lt (by omega)
    have h2 : a / 2 ^ i = 0 := Nat.div_eq_of_lt (Nat.lt_of_lt_of_le (by omega : a < 2 ^ 16) (Nat.pow_le_pow_right (by omega) h))
    rw [h1, h2]; simp
/-- numbers of which those whose bits are set are open -/
def openF (ch : List Int) (a : Nat) : List Int := ch.mapIdx fun i k => if a.testBit i = true then -1 else k
theorem openF_len (ch : List Int) (a : Nat) : (openF ch a).length = ch.length := by simp [openF]
theorem idx_succ {α β : Type} {f : Nat → α → β} {l : List α} {i : Nat} {out : List β} (hi : i < l.length) (hw : (l.take i).mapIdx f = out) : (l.take (i + 1)).mapIdx f = out ++ [f i l[i]] := by
  rw [← take_succ_of hi, List.mapIdx_concat, hw, List.length_take, Nat.min_eq_left (by omega)]
theorem hit_take_no {l : List Evt} {e : Evt} {m i : Nat} (hq : ∀ j x, j < m → l[j]? = some x → decide (x = e) = false) (hi : i ≤ m) : hit id (l.take i) e = false := by
  rw [hit_eq, List.any_eq_false]
  intro x hx
  obtain ⟨j, hj, rfl⟩ := List.getElem_of_mem hx
  rw [List.length_take] at hj
  rw [List.getElem_take]
  simpa using hq j _ (by omega) (List.getElem?_eq_getElem (by omega))
theorem hit_take_yes {l : List Evt} {e : Evt} {m i : Nat} (hm : m < i) (hl : m < l.length) (h : decide (l[m] = e) = true) : hit id (l.take i) e = true := by
  rw [hit_eq, List.any_eq_true]
  exact ⟨l[m], List.mem_iff_getElem.2 ⟨m, by rw [List.length_take]; omega, List.getElem_take⟩, h⟩
def fewR (l : List Rep) (n : Int) : Bool := allP (fun _ r => fewE r.options 6) l l.length && decide (((l.length : Nat) : Int) ≤ n)
def givF (c : List Kind) (l : List Rep) : Bool := validC c && allP (fun _ r => validRep r) l l.length
/-- a number that fits a report -/
def fitAt (n : Int) (o : Option UInt8) : Int := match o with | some b => if 0 < n then (b.toNat : Int) % n else 0 | none => 0
def fitF (l : List Rep) (raw : List UInt8) : List Int := l.mapIdx fun i r => fitAt (chs r) raw[i]?
theorem fit_some {n : Int} {raw : List UInt8} {i : Nat} (hi : i < raw.length) (hn : 0 < n) : fitAt n raw[i]? = (raw[i].toNat : Int) % n := by simp [fitAt, hi, hn]
theorem fit_zero {n : Int} {raw : List UInt8} {i : Nat} (hn : ¬ 0 < n) : fitAt n raw[i]? = 0 := by
  unfold fitAt; split
  · rw [if_neg hn]
  · rfl
theorem fit_none {n : Int} {raw : List UInt8} {i : Nat} (hi : ¬ i < raw.length) : fitAt n raw[i]? = 0 := by
  rw [List.getElem?_eq_none (by omega)]; rfl
theorem fewR_sm {l : List Rep} {n : Int} (h : fewR l n = true) : (∀ r ∈ l, ∀ e ∈ r.options, SmE e) ∧ ((l.length : Nat) : Int) ≤ n := by
  simp only [fewR, Bool.and_eq_true, decide_eq_true_eq] at h
  refine ⟨fun r hr => ?_, h.2⟩
  obtain ⟨_, h1⟩ := allP_mem h.1 hr
  exact (fewE_sm h1).1
end Go.Sx
