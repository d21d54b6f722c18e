/- The law SearchHistories holds of the given program, for every input. No condition. -/
import Derived.Test.YtoadjlmbdliceaaGreatYc
import Derived.Carry
import Derived.ChangeArms
import Derived.Deep.Slices
import Derived.OpenShut
import Derived.ProofKit
import Derived.Test.YtoadjlmbdliceaaGreatRows
/- How what comes in is read: out of the row's reading into the data of the walks; how a law's row is closed. -/
set_option linter.all false
namespace Go.Sx
open Go

def Iw (w : World) : IMap := fun b => w.heap[b]?
theorem Iw_mem (w : World) : Mem ⟨foots [], Iw w, w⟩ (Iw w) [] w :=
  ⟨Upd.refl _ _, fun _ _ h => h, ILe.refl _, fun _ h => .inl h, fun _ h => (by cases h), fun _ h => (by cases h), List.nodup_nil⟩
theorem cell_I {w : World} {b off : Nat} {v : Value} (h : w.cell? ⟨b, off, none⟩ = some v) : ICell (Iw w) b off v := by
  unfold World.cell? at h
  split at h
  · rename_i c t fz hb
    exact ⟨c, t, fz, hb, by simpa using h⟩
  · cases h
/-- whatever reads as this type reads as this -/
def Opens (P : Program) (t : TypeId) (α : Type) [Enc α] (G : α → Prop) : Prop :=
  ∀ {H : Type} (enc : TypeId × Value → H) (w : World) (base : Nat) (spare : Nat → Bool) (held : Bool) (fuel : Nat) (cs : List Value) (x : DataW H × List MemPlace),
    DataW.trod enc P w base spare held fuel t cs = some x → ∃ y : α, Enc.rd (Iw w) cs y ∧ G y
abbrev SmB (s : ByteArray) : Prop := s.size ≤ maxLen
theorem wf_i64 {n : Int} (h : (Lit.int .i64 n).wf = true) : I64 n := by
  simp only [Lit.wf, Bool.and_eq_true, decide_eq_true_eq] at h
  unfold I64; simpa [IntKind.min, IntKind.max, IntKind.signed, IntKind.bits] using h
section
variable {P : Program} {t e : TypeId}
theorem opens_string (ht : P.underlying t = some .string) : Opens P t ByteArray SmB := by
  intro H enc w base spare held fuel cs x h
  obtain ⟨s, rfl, _, h2⟩ := DataW.trod_string ht h
  exact ⟨s, rfl, h2⟩
theorem opens_int (ht : P.underlying t = some (.int .i64)) : Opens P t Int I64 := by
  intro H enc w base spare held fuel cs x h
  obtain ⟨s, rfl, _, h2⟩ := DataW.trod_int ht h
  exact ⟨s, rfl, wf_i64 h2⟩
theorem opens_bool (ht : P.underlying t = some .bool) : Opens P t Bool (fun _ => True) := by
  intro H enc w base spare held fuel cs x h
  obtain ⟨b, rfl, _⟩ := DataW.trod_bool ht h
  exact ⟨b, rfl, trivial⟩
theorem choose_list {α : Type} {p : Nat → α → Prop} : ∀ n : Nat, (∀ i, i < n → ∃ x, p i x) → ∃ l : List α, l.length = n ∧ ∀ i x, l[i]? = some x → p i x
  | 0, _ => ⟨[], rfl, fun i x h => by simp at h⟩
  | n + 1, h => by
    obtain ⟨l, h1, h2⟩ := choose_list n (fun i hi => h i (by omega))
    obtain ⟨x, hx⟩ := h n (by omega)
    refine ⟨l ++ [x], by simp [h1], fun i y hy => ?_⟩
    rcases Nat.lt_or_ge i l.length with hi | hi
    · rw [List.getElem?_append_left hi] at hy; exact h2 i y hy
    · rw [List.getElem?_append_right hi] at hy
      have h3 : i - l.length = 0 := by
        rcases Nat.eq_zero_or_pos (i - l.length) with h | h
        · exact h
        · rw [List.getElem?_eq_none (by simp; omega)] at hy; cases hy
      rw [h3] at hy
      simp at hy
      subst hy
      obtain rfl : i = n := by omega
      exact hx
theorem opens_slice {α : Type} [Enc α] {G : α → Prop} (ht : P.underlying t = some (.slice e)) (hc : P.cellsOf e = Enc.k α) (hk : Nat.blt 0 (Enc.k α) = true) (he : Opens P e α G) : Opens P t (List α) (fun l => ∀ x ∈ l, G x) := by
  intro H enc w base spare held fuel cs x h
  rcases Deep.open_slice ht h with ⟨rfl, _⟩ | ⟨a, len, cap, m, n, D, Pl, rfl, hb, hl, hm, hmm, _, hx⟩
  · exact ⟨[], ⟨_, rfl, RdS.nil'⟩, fun _ h => by cases h⟩
  have hlm : len ≤ m := by rw [hmm]; split <;> omega
  obtain ⟨l, h1, h2⟩ := choose_list (p := fun i y => ∃ vs, (∀ j u, vs[j]? = some u → w.cell? ((a.add (i * P.cellsOf e)).add j) = some u) ∧ vs.length = Enc.k α ∧ Enc.rd (Iw w) vs y ∧ G y) len (fun i hi => by
    obtain ⟨cs', h3, h4⟩ := hx i (by omega)
    obtain ⟨y, h5, h6⟩ := he enc w base spare held n cs' _ h4
    obtain ⟨_, h7, h8⟩ := World.cells?_some h3
    refine ⟨y, cs', fun j u hu => ?_, Enc.len h5, h5, h6⟩
    have hj : j < cs'.length := (List.getElem?_eq_some_iff.1 hu).1
    rw [h8 j (by omega), hu])
  subst h1
  refine ⟨l, ⟨_, rfl, some a, cap, rfl, fun hp => ?_, hl, by unfold maxLen at hm; exact hm⟩, fun x hx => ?_⟩
  · have hk' : 0 < Enc.k α := by simpa [Nat.blt_eq] using hk
    have hsp : a.spot = none := by
      obtain ⟨vs, h3, h4, _⟩ := h2 0 l[0] (List.getElem?_eq_getElem hp)
      have h5 := h3 0 vs[0] (List.getElem?_eq_getElem (by omega))
      unfold World.cell? at h5
      split at h5
      · split at h5
        · cases h5
        · rename_i hn; simpa [Addr.add] using hn
      · cases h5
    obtain ⟨b, o, sp⟩ := a
    simp only at hsp
    subst hsp
    refine ⟨b, o, rfl, fun i x hi => ?_⟩
    obtain ⟨vs, h3, h4, h5, _⟩ := h2 i x hi
    refine ⟨vs, fun j u hu => cell_I ?_, h5⟩
    have h6 := h3 j u hu
    rw [add_lit, add_lit, hc] at h6
    exact h6
  · obtain ⟨i, hi, rfl⟩ := List.getElem_of_mem hx
    obtain ⟨_, _, _, _, h3⟩ := h2 i _ (List.getElem?_eq_getElem hi)
    exact h3
def fieldsK (P : Program) (t : TypeId) : Option (List (TypeId × Nat × Nat)) :=
  match P.underlying t with
  | some (.struct fs) => some (fs.toList.map fun f => (f.type, f.offset, P.cellsOf f.type))
  | _ => none
theorem trod_fields {H : Type} {enc : TypeId × Value → H} {w : World} {base : Nat} {spare : Nat → Bool} {held : Bool} {fuel : Nat} {cs : List Value} {x : DataW H × List MemPlace} {l : List (TypeId × Nat × Nat)}
    (hf : fieldsK P t = some l) (h : DataW.trod enc P w base spare held fuel t cs = some x) :
    cs.length = P.cellsOf t ∧ ∀ q ∈ l, ∃ n y, DataW.trod enc P w base spare held n q.1 ((cs.drop q.2.1).take q.2.2) = some y := by
  unfold fieldsK at hf
  split at hf
  · rename_i fs ht
    simp only [Option.some.injEq] at hf
    subst hf
    obtain ⟨xs, n, _, _, h1, h2, h3⟩ := DataW.trod_struct ht h
    refine ⟨h1, fun q hq => ?_⟩
    obtain ⟨f, hf, rfl⟩ := List.mem_map.1 hq
    obtain ⟨i, hi, rfl⟩ := List.getElem_of_mem hf
    have hi' : i < fs.size := by simpa using hi
    have h4 := h3 i fs[i] (by simp [hi'])
    rw [List.getElem?_eq_getElem (by omega)] at h4
    exact ⟨n, _, by simpa using h4⟩
  · cases hf
theorem okWide_agg {l : List (TypeId × Nat × Nat)} {w : World} {r : Reach} {base : Nat} {v : Value} (hf : fieldsK P t = some l) (h : Value.okWide P w r base t v) : ∃ cs, v = .agg cs ∧ cs.size = P.cellsOf t := by
  unfold fieldsK at hf
  split at hf
  · rename_i fs ht; exact WideShapes.okWide_struct ht h
  · cases hf
theorem len_cons {cs : List Value} {n : Nat} (h : cs.length = n + 1) : ∃ a r, cs = a :: r ∧ r.length = n := by
  cases cs with
  | nil => simp at h
  | cons a r => exact ⟨a, r, rfl, by simpa using h⟩
theorem len_nil {cs : List Value} (h : cs.length = 0) : cs = [] := List.eq_nil_of_length_eq_zero h
/-- a struct of one field -/
theorem opens_wrap {α : Type} [Enc α] {G : α → Prop} {t0 : TypeId} {k : Nat} (hf : fieldsK P t = some [(t0, 0, k)]) (hc : P.cellsOf t = k) (h0 : Opens P t0 α G) : Opens P t α G := by
  intro H enc w base spare held fuel cs x h
  obtain ⟨hl, hall⟩ := trod_fields hf h
  obtain ⟨n, y, h1⟩ := hall (t0, 0, k) (by simp)
  have e : (cs.drop 0).take k = cs := by rw [List.drop_zero]; exact List.take_of_length_le (by omega)
  rw [show ((t0, 0, k) : TypeId × Nat × Nat).2.1 = 0 from rfl, show ((t0, 0, k) : TypeId × Nat × Nat).2.2 = k from rfl, e] at h1
  exact h0 enc w base spare held n cs y h1
/-! the types of this program -/
def OkIvl (x : Ivl) : Prop := I64 x.low ∧ I64 x.high
def OkUse (x : Use) : Prop := OkIvl x.km ∧ OkIvl x.cycles ∧ OkIvl x.load
structure OkE (e : Evt) : Prop where
  op : I64 e.op
  day : I64 e.day
  part : SmB e.part
  kind : SmB e.kind
  into : SmB e.into
  slot : SmB e.slot
  key : SmB e.key
  value : SmB e.value
  use : OkUse e.use
def OkSl (s : Slot) : Prop := SmB s.name ∧ (∀ k ∈ s.kinds, SmB k) ∧ I64 s.normal
def OkKd (k : Kind) : Prop := SmB k.name ∧ ∀ s ∈ k.slots, OkSl s
theorem opens_ivl {t0 : TypeId} (hf : fieldsK P t = some [(t0, 0, 1), (t0, 1, 1)]) (hc : P.cellsOf t = 2) (h0 : Opens P t0 Int I64) : Opens P t Ivl OkIvl := by
  intro H enc w base spare held fuel cs x h
  obtain ⟨hl, hall⟩ := trod_fields hf h
  rw [hc] at hl
  obtain ⟨a, r0_, rfl, l0_⟩ := len_cons hl
  obtain ⟨b, r1_, rfl, l1_⟩ := len_cons l0_
  obtain rfl := len_nil l1_
  obtain ⟨n0, y0, h1⟩ := hall (t0, 0, 1) (by simp)
  obtain ⟨n1, y1, h2⟩ := hall (t0, 1, 1) (by simp)
  obtain ⟨x0, e0, g0⟩ := h0 enc w base spare held n0 _ y0 h1
  obtain ⟨x1, e1, g1⟩ := h0 enc w base spare held n1 _ y1 h2
  have e0 : [a] = [.int .i64 x0] := e0
  have e1 : [b] = [.int .i64 x1] := e1
  cases e0
  cases e1
  exact ⟨⟨x0, x1⟩, rfl, g0, g1⟩
theorem opens_three {t0 : TypeId} {w : World} {H : Type} {enc : TypeId × Value → H} {base : Nat} {spare : Nat → Bool} {held : Bool} {fuel : Nat} {cs : List Value} {x : DataW H × List MemPlace} (hf : fieldsK P t = some [(t0, 0, 2), (t0, 2, 2), (t0, 4, 2)]) (hc : P.cellsOf t = 6) (h0 : Opens P t0 Ivl OkIvl)
    (h : DataW.trod enc P w base spare held fuel t cs = some x) : ∃ a b c : Ivl, cs = a.cells ++ (b.cells ++ c.cells) ∧ OkIvl a ∧ OkIvl b ∧ OkIvl c := by
  obtain ⟨hl, hall⟩ := trod_fields hf h
  rw [hc] at hl
  obtain ⟨a, r0_, rfl, l0_⟩ := len_cons hl
  obtain ⟨b, r1_, rfl, l1_⟩ := len_cons l0_
  obtain ⟨c, r2_, rfl, l2_⟩ := len_cons l1_
  obtain ⟨d, r3_, rfl, l3_⟩ := len_cons l2_
  obtain ⟨e, r4_, rfl, l4_⟩ := len_cons l3_
  obtain ⟨f, r5_, rfl, l5_⟩ := len_cons l4_
  obtain rfl := len_nil l5_
  obtain ⟨n0, y0, h1⟩ := hall (t0, 0, 2) (by simp)
  obtain ⟨n1, y1, h2⟩ := hall (t0, 2, 2) (by simp)
  obtain ⟨n2, y2, h3⟩ := hall (t0, 4, 2) (by simp)
  obtain ⟨x0, e0, g0⟩ := h0 enc w base spare held n0 _ y0 h1
  obtain ⟨x1, e1, g1⟩ := h0 enc w base spare held n1 _ y1 h2
  obtain ⟨x2, e2, g2⟩ := h0 enc w base spare held n2 _ y2 h3
  have e0 : [a, b] = x0.cells := e0
  have e1 : [c, d] = x1.cells := e1
  have e2 : [e, f] = x2.cells := e2
  exact ⟨x0, x1, x2, by rw [← e0, ← e1, ← e2]; rfl, g0, g1, g2⟩
theorem opens_use {t0 : TypeId} (hf : fieldsK P t = some [(t0, 0, 2), (t0, 2, 2), (t0, 4, 2)]) (hc : P.cellsOf t = 6) (h0 : Opens P t0 Ivl OkIvl) : Opens P t Use OkUse := by
  intro H enc w base spare held fuel cs x h
  obtain ⟨a, b, c, rfl, h1, h2, h3⟩ := opens_three hf hc h0 h
  exact ⟨⟨a, b, c⟩, rfl, h1, h2, h3⟩
theorem opens_evt {ti ts tu : TypeId} (hf : fieldsK P t = some [(ti, 0, 1), (ti, 1, 1), (ts, 2, 1), (ts, 3, 1), (ts, 4, 1), (ts, 5, 1), (ts, 6, 1), (ts, 7, 1), (tu, 8, 6)]) (hc : P.cellsOf t = 14) (hi : Opens P ti Int I64) (hs : Opens P ts ByteArray SmB) (hu : Opens P tu Use OkUse) : Opens P t Evt OkE := by
  intro H enc w base spare held fuel cs x h
  obtain ⟨hl, hall⟩ := trod_fields hf h
  rw [hc] at hl
  obtain ⟨a0, r0_, rfl, l0_⟩ := len_cons hl
  obtain ⟨a1, r1_, rfl, l1_⟩ := len_cons l0_
  obtain ⟨a2, r2_, rfl, l2_⟩ := len_cons l1_
  obtain ⟨a3, r3_, rfl, l3_⟩ := len_cons l2_
  obtain ⟨a4, r4_, rfl, l4_⟩ := len_cons l3_
  obtain ⟨a5, r5_, rfl, l5_⟩ := len_cons l4_
  obtain ⟨a6, r6_, rfl, l6_⟩ := len_cons l5_
  obtain ⟨a7, r7_, rfl, l7_⟩ := len_cons l6_
  obtain ⟨a8, r8_, rfl, l8_⟩ := len_cons l7_
  obtain ⟨a9, r9_, rfl, l9_⟩ := len_cons l8_
  obtain ⟨a10, r10_, rfl, l10_⟩ := len_cons l9_
  obtain ⟨a11, r11_, rfl, l11_⟩ := len_cons l10_
  obtain ⟨a12, r12_, rfl, l12_⟩ := len_cons l11_
  obtain ⟨a13, r13_, rfl, l13_⟩ := len_cons l12_
  obtain rfl := len_nil l13_
  obtain ⟨n0, y0, h0⟩ := hall (ti, 0, 1) (by simp)
  obtain ⟨x0, e0, g0⟩ := hi enc w base spare held n0 _ y0 h0
  have e0 : [a0] = [.int .i64 x0] := e0
  cases e0
  obtain ⟨n1, y1, h1⟩ := hall (ti, 1, 1) (by simp)
  obtain ⟨x1, e1, g1⟩ := hi enc w base spare held n1 _ y1 h1
  have e1 : [a1] = [.int .i64 x1] := e1
  cases e1
  obtain ⟨n2, y2, h2⟩ := hall (ts, 2, 1) (by simp)
  obtain ⟨x2, e2, g2⟩ := hs enc w base spare held n2 _ y2 h2
  have e2 : [a2] = [.string x2] := e2
  cases e2
  obtain ⟨n3, y3, h3⟩ := hall (ts, 3, 1) (by simp)
  obtain ⟨x3, e3, g3⟩ := hs enc w base spare held n3 _ y3 h3
  have e3 : [a3] = [.string x3] := e3
  cases e3
  obtain ⟨n4, y4, h4⟩ := hall (ts, 4, 1) (by simp)
  obtain ⟨x4, e4, g4⟩ := hs enc w base spare held n4 _ y4 h4
  have e4 : [a4] = [.string x4] := e4
  cases e4
  obtain ⟨n5, y5, h5⟩ := hall (ts, 5, 1) (by simp)
  obtain ⟨x5, e5, g5⟩ := hs enc w base spare held n5 _ y5 h5
  have e5 : [a5] = [.string x5] := e5
  cases e5
  obtain ⟨n6, y6, h6⟩ := hall (ts, 6, 1) (by simp)
  obtain ⟨x6, e6, g6⟩ := hs enc w base spare held n6 _ y6 h6
  have e6 : [a6] = [.string x6] := e6
  cases e6
  obtain ⟨n7, y7, h7⟩ := hall (ts, 7, 1) (by simp)
  obtain ⟨x7, e7, g7⟩ := hs enc w base spare held n7 _ y7 h7
  have e7 : [a7] = [.string x7] := e7
  cases e7
  obtain ⟨n8, y8, h8⟩ := hall (tu, 8, 6) (by simp)
  obtain ⟨x8, e8, g8⟩ := hu enc w base spare held n8 _ y8 h8
  have e8 : [a8, a9, a10, a11, a12, a13] = x8.cells := e8
  cases e8
  exact ⟨⟨x0, x1, x2, x3, x4, x5, x6, x7, x8⟩, rfl, ⟨g0, g1, g2, g3, g4, g5, g6, g7, g8⟩⟩
theorem opens_slot {ti tk ts : TypeId} (hf : fieldsK P t = some [(ts, 0, 1), (tk, 1, 1), (ti, 2, 1)]) (hc : P.cellsOf t = 3) (hs : Opens P ts ByteArray SmB) (hk : Opens P tk (List ByteArray) (fun l => ∀ x ∈ l, SmB x)) (hi : Opens P ti Int I64) : Opens P t Slot OkSl := by
  intro H enc w base spare held fuel cs x h
  obtain ⟨hl, hall⟩ := trod_fields hf h
  rw [hc] at hl
  obtain ⟨a0, r0_, rfl, l0_⟩ := len_cons hl
  obtain ⟨a1, r1_, rfl, l1_⟩ := len_cons l0_
  obtain ⟨a2, r2_, rfl, l2_⟩ := len_cons l1_
  obtain rfl := len_nil l2_
  obtain ⟨n0, y0, h0⟩ := hall (ts, 0, 1) (by simp)
  obtain ⟨x0, e0, g0⟩ := hs enc w base spare held n0 _ y0 h0
  have e0 : [a0] = [.string x0] := e0
  cases e0
  obtain ⟨n1, y1, h1⟩ := hall (tk, 1, 1) (by simp)
  obtain ⟨x1, e1, g1⟩ := hk enc w base spare held n1 _ y1 h1
  obtain ⟨v1, e1, r1⟩ := e1
  have e1 : [a1] = [v1] := e1
  cases e1
  obtain ⟨n2, y2, h2⟩ := hall (ti, 2, 1) (by simp)
  obtain ⟨x2, e2, g2⟩ := hi enc w base spare held n2 _ y2 h2
  have e2 : [a2] = [.int .i64 x2] := e2
  cases e2
  exact ⟨⟨x0, x1, x2⟩, ⟨_, rfl, r1⟩, g0, g1, g2⟩
theorem opens_kind {tb tk ts : TypeId} (hf : fieldsK P t = some [(ts, 0, 1), (tb, 1, 1), (tk, 2, 1)]) (hc : P.cellsOf t = 3) (hs : Opens P ts ByteArray SmB) (hb : Opens P tb Bool (fun _ => True)) (hk : Opens P tk (List Slot) (fun l => ∀ x ∈ l, OkSl x)) : Opens P t Kind OkKd := by
  intro H enc w base spare held fuel cs x h
  obtain ⟨hl, hall⟩ := trod_fields hf h
  rw [hc] at hl
  obtain ⟨a0, r0_, rfl, l0_⟩ := len_cons hl
  obtain ⟨a1, r1_, rfl, l1_⟩ := len_cons l0_
  obtain ⟨a2, r2_, rfl, l2_⟩ := len_cons l1_
  obtain rfl := len_nil l2_
  obtain ⟨n0, y0, h0⟩ := hall (ts, 0, 1) (by simp)
  obtain ⟨x0, e0, g0⟩ := hs enc w base spare held n0 _ y0 h0
  have e0 : [a0] = [.string x0] := e0
  cases e0
  obtain ⟨n1, y1, h1⟩ := hall (tb, 1, 1) (by simp)
  obtain ⟨x1, e1, g1⟩ := hb enc w base spare held n1 _ y1 h1
  have e1 : [a1] = [.bool x1] := e1
  cases e1
  obtain ⟨n2, y2, h2⟩ := hall (tk, 2, 1) (by simp)
  obtain ⟨x2, e2, g2⟩ := hk enc w base spare held n2 _ y2 h2
  obtain ⟨v2, e2, r2⟩ := e2
  have e2 : [a2] = [v2] := e2
  cases e2
  exact ⟨⟨x0, x1, x2⟩, ⟨_, rfl, r2⟩, g0, g2⟩
/-! a law's row -/
open Go.ChangeShapes Go.WideShapes Go.RowKit
variable {H : Type} {enc : TypeId × Value → H}
theorem trodAll_later {W W' : World} (hl : laidOutB P = true) (hb : Below W.heap.size W W') : ∀ (ts : List TypeId) (vs : List Value) (ds : List (DataW H)) (ps : List MemPlace), ts.all (fun t => P.readableRec t && decide (t < P.types.size)) = true → (∀ x ∈ ps, x.block < W.heap.size) →
    DataW.TrodAll enc P W 0 (fun _ => true) true ts vs ds ps → DataW.TrodAll enc P W' 0 (fun b => decide (b < W.heap.size)) true ts vs ds ps
  | [], vs, ds, ps, _, _, h => by
    obtain ⟨rfl, rfl, rfl⟩ := trodAll_nil h
    exact trodAll_mk0
  | t :: ts, vs, ds, ps, ht, hp, h => by
    obtain ⟨v, vs', d, ds', p, q, rfl, rfl, rfl, h1, h2⟩ := trodAll_cons h
    simp only [List.all_cons, Bool.and_eq_true, decide_eq_true_eq] at ht
    exact trodAll_cons_mk (Below.trod hl ht.1.1 ht.1.2 h1 hb fun x hx => hp x (by simp [hx])) (trodAll_later hl hb ts vs' ds' q (by simpa using ht.2) (fun x hx => hp x (by simp [hx])) h2)
theorem law_calls {f : FuncId} {fn : Func} {args : Array Value} {W : World} {s : ChangeSpec} {ds gs : List (DataW H)} {before : List MemPlace} {tb : TypeId}
    (hcall : ∀ (args : Array Value) (w : World), (callFunc f args).run P w = .ok (.enter f args) w) (hc : FnV P f args (Iw W) (.bool true)) (hW : DataW.Whole enc P fn.params.toList s.vars false W args.toList ds gs before)
    (hlaid : laidOutB P = true) (hts : fn.params.toList.all (fun t => P.readableRec t && decide (t < P.types.size)) = true) (hres : fn.resultTypes = #[tb]) (htb : P.underlying tb = some .bool)
    (hfn : s.fn H (ds ++ gs) = { results := [.lit (.bool true)], args := ds }) (hvars : s.vars = []) :
    Calls P f args W fun e W' => ∃ v, e = .returned v ∧ s.post enc P fn false true false false W args v W' := by
  have h := hc.go W (Iw_mem W)
  unfold After at h
  rw [hcall] at h
  refine Calls.mono h ?_
  rintro e W' ⟨v, I', H', rfl, hm, rfl, rfl, rfl⟩
  refine ⟨_, rfl, ?_⟩
  have hlt := hW.lt
  have hb : Below W.heap.size W W' := ⟨hm.upd.os, hm.upd.tape, hm.upd.output, hm.upd.size, fun k hk => hm.upd.block k hk (by simp [foots])⟩
  obtain ⟨p, q, hA, hV, hpq, hfz, hnd⟩ := id hW
  rw [hvars] at hV
  obtain ⟨rfl, rfl⟩ := trodVars_none hV
  refine ⟨ds, [], before, [], p, [], hW, ?_, ?_, ?_, ?_, fun h => by cases h⟩
  · rw [hfn, hres]
    exact trodAll_cons_mk (shut_bool htb _) trodAll_mk0
  · rw [hfn]
    exact trodAll_later hlaid hb _ _ _ _ hts (fun x hx => by simpa using hlt x (by rw [hpq]; simp [hx])) hA
  · rw [hfn, hvars]
    rfl
  · refine ⟨hm.upd.os, hm.upd.output, fun i hi => ?_⟩
    rw [hb.block i hi]
    cases W.heap[i]? with
    | none => rfl
    | some o => cases o <;> simp
end
end Go.Sx

/- How reports and bytes that come in are read. -/
set_option linter.all false
namespace Go.Sx
open Go
def OkRp (r : Rep) : Prop := ∀ e ∈ r.options, OkE e
section
variable {P : Program} {t : TypeId}
theorem opens_rep {tb tk : TypeId} (hf : fieldsK P t = some [(tk, 0, 1), (tb, 1, 1)]) (hc : P.cellsOf t = 2) (hk : Opens P tk (List Evt) (fun l => ∀ x ∈ l, OkE x)) (hb : Opens P tb Bool (fun _ => True)) : Opens P t Rep OkRp := by
  intro H enc w base spare held fuel cs x h
  obtain ⟨hl, hall⟩ := trod_fields hf h
  rw [hc] at hl
  obtain ⟨a0, r0_, rfl, l0_⟩ := len_cons hl
  obtain ⟨a1, r1_, rfl, l1_⟩ := len_cons l0_
  obtain rfl := len_nil l1_
  obtain ⟨n0, y0, h0⟩ := hall (tk, 0, 1) (by simp)
  obtain ⟨x0, e0, g0⟩ := hk enc w base spare held n0 _ y0 h0
  obtain ⟨v0, e0, r0⟩ := e0
  have e0 : [a0] = [v0] := e0
  cases e0
  obtain ⟨n1, y1, h1⟩ := hall (tb, 1, 1) (by simp)
  obtain ⟨x1, e1, g1⟩ := hb enc w base spare held n1 _ y1 h1
  have e1 : [a1] = [.bool x1] := e1
  cases e1
  exact ⟨⟨x0, x1⟩, ⟨_, rfl, r0⟩, g0⟩
theorem opens_u8 (ht : P.underlying t = some (.int .u8)) : Opens P t UInt8 (fun _ => True) := by
  intro H enc w base spare held fuel cs x h
  obtain ⟨s, rfl, _, h2⟩ := DataW.trod_int ht h
  have hs : 0 ≤ s ∧ s ≤ 255 := by
    simp only [Lit.wf, Bool.and_eq_true, decide_eq_true_eq] at h2
    simpa [IntKind.min, IntKind.max, IntKind.signed, IntKind.bits] using h2
  refine ⟨UInt8.ofNat s.toNat, ?_, trivial⟩
  show [Value.int .u8 s] = [.int .u8 ((UInt8.ofNat s.toNat).toNat : Int)]
  rw [UInt8.toNat_ofNat']
  congr 2
  omega
theorem u8_nat {n : Int} (h : (Lit.int .u8 n).wf = true) : ∃ a : Nat, n = (a : Int) ∧ a < 256 := by
  have h2 : 0 ≤ n ∧ n ≤ 255 := by
    simp only [Lit.wf, Bool.and_eq_true, decide_eq_true_eq] at h
    simpa [IntKind.min, IntKind.max, IntKind.signed, IntKind.bits] using h
  exact ⟨n.toNat, by omega, by omega⟩
theorem u16_nat {n : Int} (h : (Lit.int .u16 n).wf = true) : ∃ a : Nat, n = (a : Int) ∧ a < 65536 := by
  have h2 : 0 ≤ n ∧ n ≤ 65535 := by
    simp only [Lit.wf, Bool.and_eq_true, decide_eq_true_eq] at h
    simpa [IntKind.min, IntKind.max, IntKind.signed, IntKind.bits] using h
  exact ⟨n.toNat, by omega, by omega⟩
end
end Go.Sx

/- Walks, printed by a program out of the code of the functions: each theorem is a contract of one function. -/
namespace Go.Proofs.YtoadjlmbdliceaaGreat
open Go Go.Sx
set_option linter.all false
set_option maxRecDepth 20000
set_option maxHeartbeats 4000000
instance T.und_42 : Has (Tryz.prog.underlying 42) (.int .u16) := ⟨by kernel_rfl⟩
theorem law16before (I : IMap) (v : Value) (a : List Int) (hv : RdS I v a) (w : Value) (b : List Int) (hw : RdS I w b) :
    FnV Tryz.prog 26 #[v, w] I (.bool (befF a b)) := by
 obtain ⟨A, c0, rfl, hA, hc, hm⟩ := hv
 obtain ⟨B, c1, rfl, hB, hc1, hm1⟩ := hw
 refine enter Tryz.func26 Tryz.call26 rfl Tryz.ntmps26 rfl (fun w0 => ?_)
 refine go 12 ?_
 refine c_loop (α := Nat) 0 (fun i => I)
  (fun i => [(0, .slice A a.length c0), (1, .slice B b.length c1), (5, .int .i64 ((i : Nat) : Int))])
  (fun i => [])
  (fun i => i ≤ a.length ∧ i ≤ b.length ∧ befF a b = befF (a.drop i) (b.drop i))
  (fun i => a.length - i) ⟨Nat.zero_le _, Nat.zero_le _, rfl⟩ rfl sb rfl ?_
 intro i ⟨hi, hi2, hn⟩
 refine go 8 ?_
 refine sxb 10 rfl (fun h10 p10 => ?_) (fun h10 p10 => ?_)
 ·refine go 7 ?_
  refine cb rfl (fun h15 p15 => ?_) (fun h15 p15 => ?_)
  ·have hlt : i < a.length := by omega
   have hlt2 : i < b.length := by omega
   refine go 5 ?_
   refine d_startH T.mixed ?_
   refine d_tv 0 rfl rfl (by kernel_rfl) rfl .slnil rfl (v_move rfl) ?_
   refine d_tv 1 rfl rfl (by kernel_rfl) rfl .slnil rfl (v_move rfl) ?_
   obtain ⟨b20, o20, w20, e20, c20, r20⟩ := RdA.at_ hA (i := i) (by omega)
   obtain rfl := r20
   refine d_tv 2 rfl rfl (by kernel_rfl) rfl .slnil rfl (v_idx he rfl rfl e20 (i) (by omega) (by omega)) ?_
   refine d_tv 3 rfl rfl (by kernel_rfl) rfl .slnil rfl (v_ldI he rfl (c20 0 _ rfl)) ?_
   refine d_tv 4 rfl rfl (by kernel_rfl) rfl .slnil rfl (v_move rfl) ?_
   refine d_tv 5 rfl rfl (by kernel_rfl) rfl .slnil rfl (v_move rfl) ?_
   obtain ⟨b24, o24, w24, e24, c24, r24⟩ := RdA.at_ hB (i := i) (by omega)
   obtain rfl := r24
   refine d_tv 6 rfl rfl (by kernel_rfl) rfl .slnil rfl (v_idx he rfl rfl e24 (i) (by omega) (by omega)) ?_
   refine d_tv 7 rfl rfl (by kernel_rfl) rfl .slnil rfl (v_ldI he rfl (c24 0 _ rfl)) ?_
   refine d_tv 8 rfl rfl (by kernel_rfl) rfl .slnil rfl (v_neq rfl rfl) ?_
   refine d_done (by kernel_rfl) ?_
   refine go 1 ?_
   refine cb rfl (fun h26 p26 => ?_) (fun h26 p26 => ?_)
   ·refine go 1 ?_
    refine d_startH T.mixed ?_
    refine d_tv 0 rfl rfl (by kernel_rfl) rfl .slnil rfl (v_move rfl) ?_
    refine d_tv 1 rfl rfl (by kernel_rfl) rfl .slnil rfl (v_move rfl) ?_
    obtain ⟨b29, o29, w29, e29, c29, r29⟩ := RdA.at_ hA (i := i) (by omega)
    obtain rfl := r29
    refine d_tv 2 rfl rfl (by kernel_rfl) rfl .slnil rfl (v_idx he rfl rfl e29 (i) (by omega) (by omega)) ?_
    refine d_tv 3 rfl rfl (by kernel_rfl) rfl .slnil rfl (v_ldI he rfl (c29 0 _ rfl)) ?_
    refine d_tv 4 rfl rfl (by kernel_rfl) rfl .slnil rfl (v_move rfl) ?_
    refine d_tv 5 rfl rfl (by kernel_rfl) rfl .slnil rfl (v_move rfl) ?_
    obtain ⟨b33, o33, w33, e33, c33, r33⟩ := RdA.at_ hB (i := i) (by omega)
    obtain rfl := r33
    refine d_tv 6 rfl rfl (by kernel_rfl) rfl .slnil rfl (v_idx he rfl rfl e33 (i) (by omega) (by omega)) ?_
    refine d_tv 7 rfl rfl (by kernel_rfl) rfl .slnil rfl (v_ldI he rfl (c33 0 _ rfl)) ?_
    refine d_tv 8 rfl rfl (by kernel_rfl) rfl .slnil rfl (v_lss rfl rfl) ?_
    refine d_tv 9 rfl rfl (by kernel_rfl) rfl .slnil rfl (v_assign rfl) ?_
    refine d_done (by kernel_rfl) ?_
    refine go 7 ?_
    refine fin1 rfl rfl ?_
    exact q_v (congrArg Value.bool (by rw [hn, bef_diff hlt hlt2 (by simpa using h26)]))
   ·refine go 9 ?_
    exact q_next (i + 1) ⟨by omega, by omega, by rw [hn, bef_same hlt hlt2 (by simpa using h26)]⟩ (by omega) rfl sb rfl
  ·refine go 11 ?_
   refine fin1 rfl rfl ?_
   exact q_v (congrArg Value.bool (by rw [hn, bef_end (by omega)]))
 ·refine go 7 ?_
  refine c_false rfl ?_
  refine go 11 ?_
  refine fin1 rfl rfl ?_
  exact q_v (congrArg Value.bool (by rw [hn, bef_end (by omega)]))

theorem law16in (I : IMap) (v : Value) (l : List (List Int)) (hv : RdS I v l) (w : Value) (x : List Int) (hw : RdS I w x) :
    FnV Tryz.prog 27 #[v, w] I (.bool (l.any fun y => decide (y = x))) := by
 obtain ⟨A, c0, rfl, hA, hc, hm⟩ := hv
 refine enter Tryz.func27 Tryz.call27 rfl Tryz.ntmps27 rfl (fun w0 => ?_)
 refine go 12 ?_
 refine c_loop (α := Nat) 0 (fun i => I)
  (fun i => [(0, .slice A l.length c0), (1, w), (5, .int .i64 ((i : Nat) : Int))])
  (fun i => [])
  (fun i => i ≤ l.length ∧ (l.take i).any (fun y => decide (y = x)) = false)
  (fun i => l.length - i) ⟨Nat.zero_le _, rfl⟩ rfl sb rfl ?_
 intro i ⟨hi, hn⟩
 refine go 9 ?_
 refine cb rfl (fun h9 p9 => ?_) (fun h9 p9 => ?_)
 ·have hlt : i < l.length := by omega
  refine go 8 ?_
  obtain ⟨b14, o14, w14, e14, c14, r14⟩ := RdA.at_ hA (i := i) (by omega)
  obtain ⟨q14, rfl, S14, d14, rfl, hS14, hd14, hm14⟩ := r14
  refine o_v rfl (v_idx he rfl rfl e14 (i) (by omega) (by omega)) ?_
  refine o_v rfl (v_ldI he rfl (c14 0 _ rfl)) ?_
  refine go 2 ?_
  refine o_callV (ref16Ints _ _ l[i] ⟨_, _, rfl, hS14, hd14, hm14⟩ w x hw) rfl rfl ?_
  refine go 2 ?_
  refine cb rfl (fun h17 p17 => ?_) (fun h17 p17 => ?_)
  ·refine go 11 ?_
   refine fin1 rfl rfl ?_
   exact q_v (congrArg Value.bool (any_yes hlt h17).symm)
  ·refine go 9 ?_
   exact q_next (i + 1) ⟨by omega, any_no hlt hn h17⟩ (by omega) rfl sb rfl
 ·refine go 11 ?_
  refine fin1 rfl rfl ?_
  obtain rfl : i = l.length := by omega
  rw [List.take_length] at hn
  exact q_v (congrArg Value.bool hn.symm)

theorem lawSHistories (I : IMap) (vc : Value) (c : List Kind) (hvc : RdS I vc c) (hoc : ∀ x ∈ c, OkKd x) (v : Value) (l : List Rep) (hv : RdS I v l) (hok : ∀ x ∈ l, OkRp x) (w : Value) (ch : List Int) (hw : RdS I w ch) (hoi : ∀ x ∈ ch, I64 x) :
    FnV Tryz.prog 4 #[.agg #[vc], v, w] I (.bool true) := by
 have hw0 := hw
 obtain ⟨B, c1, rfl, hB, hc1, hm1⟩ := hw
 refine enter Tryz.func4 Tryz.call4 rfl Tryz.ntmps4 rfl (fun w0 => ?_)
 refine go 3 ?_
 refine o_box _ rfl rfl rfl (fun g3 => ?_)
 refine go 6 ?_
 refine o_callV (head16 _) rfl rfl ?_
 refine go 9 ?_
 refine o_callV (law16few _ vc c hvc _ l hv) rfl rfl ?_
 refine go 2 ?_
 refine sxb 18 rfl (fun h18 p18 => ?_) (fun h18 p18 => ?_)
 ·refine go 6 ?_
  refine c_true rfl ?_
  refine go 8 ?_
  refine fin1 rfl rfl ?_
  exact q_vI rfl
 ·refine go 6 ?_
  refine cb rfl (fun h22 p22 => ?_) (fun h22 p22 => ?_)
  ·refine go 8 ?_
   refine fin1 rfl rfl ?_
   exact q_vI rfl
  ·have hf : fewC c = true ∧ few16 l 200 = true := by simpa using h18
   obtain ⟨hf2, hwn⟩ := few16_sm hf.2
   obtain ⟨hsl, hl⟩ := fewR_sm hf2
   have hsc := fewC_sm hf.1
   have hl6 : l.length ≤ 1000000 := by omega
   refine go 7 ?_
   refine o_call (seAll _ vc c hvc hsc v l hv hl6 hsl 4096) rfl rfl (fun v27 I27 j27 q27 => ?_)
   try have hvc := hvc.le j27
   try have hv := hv.le j27
   try have hw0 := hw0.le j27
   try have hw27 := hw27.le j27
   try have hA27 := hA27.le j27
   try have hw27s := hw27s.le j27
   try have hw33s := hw33s.le j27
   obtain ⟨w27, rfl, hw27⟩ := q27
   refine go 12 ?_
   refine o_call (seFirst _ vc c hvc hsc v l hv hl6 hsl) rfl rfl (fun v33 I33 j33 q33 => ?_)
   try have hvc := hvc.le j33
   try have hv := hv.le j33
   try have hw0 := hw0.le j33
   try have hw27 := hw27.le j33
   try have hA27 := hA27.le j33
   try have hw27s := hw27s.le j33
   try have hw33s := hw33s.le j33
   obtain ⟨w33, rfl, hw33⟩ := q33
   refine go 14 ?_
   refine cb rfl (fun h37 p37 => ?_) (fun h37 p37 => ?_)
   ·have hno := hist_none (c := c) (l := l) (ch := ch) (by omega) p37
    have hw27s := hw27
    obtain ⟨A27, c27, rfl, hA27, hc27, hm27⟩ := hw27
    obtain ⟨A33, c33, rfl, _, _, _⟩ := hw33
    refine go 6 ?_
    refine o_cons (o_yes rfl rfl rfl (o_val rfl (OV.cast (u := .bool true) (v_eql rfl rfl) (congrArg Value.bool (decide_eq_true (hno.1)))) ?_))
    refine go 4 ?_
    refine o_cons (o_yes rfl rfl rfl (o_val rfl (OV.cast (u := .bool true) (v_eql rfl rfl) (congrArg Value.bool (decide_eq_true (by rw [hno.2.1]; rfl)))) ?_))
    refine go 4 ?_
    refine o_cons (o_yes rfl rfl rfl (o_val rfl (OV.cast (u := .bool true) (v_eql rfl rfl) (congrArg Value.bool (decide_eq_true (by rw [hno.2.2.1]; rfl)))) ?_))
    refine go 6 ?_
    refine o_yes rfl rfl rfl (o_call (hiIs _ vc c hvc hsc v l hv hl6 hsl _ ch hw0) rfl rfl (fun v58 I58 j58 q58 => ?_))
    try have hvc := hvc.le j58
    try have hv := hv.le j58
    try have hw0 := hw0.le j58
    try have hw27 := hw27.le j58
    try have hA27 := hA27.le j58
    try have hw27s := hw27s.le j58
    try have hw33s := hw33s.le j58
    obtain rfl := q58
    refine o_cons (o_yes rfl rfl rfl (o_val rfl (OV.cast (u := .bool true) (v_not rfl) (congrArg Value.bool (by rw [hno.2.2.2]; rfl))) ?_))
    refine go 6 ?_
    refine fin1 rfl rfl ?_
    exact q_vI rfl
   ·have h0 : (allF c l 4096).2 = 0 := by simpa using h37
    obtain ⟨hX, hnn, hf2, hf1⟩ := hist_all (c := c) (l := l) (by omega) h0
    have hall : ∀ i (h : i < (allF c l 4096).1.length), isF c l (allF c l 4096).1[i] = true := by rw [hX]; exact fun i h => (hist_mem _).1 (List.getElem_mem h)
    have hbf0 : ∀ X, X = histF c l → ∀ i (h0 : 0 < i) (h : i < X.length), befF X[i - 1] X[i] = true := by
      rintro X rfl i h0 h
      obtain ⟨k, rfl⟩ : ∃ k, i = k + 1 := ⟨i - 1, by omega⟩
      exact hist_bef h
    have hbf := hbf0 _ hX
    have hpos : 0 < (allF c l 4096).1.length := by rw [hX]; exact List.length_pos_iff.2 hnn
    have hfst : (firstF c l).1 = (allF c l 4096).1[0] := by rw [hf1, hd_eq (List.length_pos_iff.2 hnn)]; simp only [hX]
    have hw33s := hw33
    rw [hfst] at hw33s
    have hw27s := hw27
    obtain ⟨A27, c27, rfl, hA27, hc27, hm27⟩ := hw27
    obtain ⟨A33, c33, rfl, _, _, _⟩ := hw33
    refine go 9 ?_
    refine c_loop2 (0) (I33) (fun i J => J)
     (fun i J => [(1, v), (2, .slice B ch.length c1), (3, .pointer (some ⟨g3, 0, none⟩)), (7, .bool true), (8, .slice A27 (allF c l 4096).1.length c27), (10, .slice A33 (firstF c l).1.length c33), (11, .int .i64 (firstF c l).2), (12, .int .i64 ((i : Nat) : Int))])
     (fun i J => [.blk g3 24 [vc]])
     (fun i J => i ≤ (allF c l 4096).1.length ∧ ILe I33 J)
     (fun i J => (allF c l 4096).1.length - i) ⟨Nat.zero_le _, ILe.refl _⟩ rfl sb rfl ?_
    intro i J ⟨hi, hJ⟩
    have hvc := hvc.le hJ
    have hv := hv.le hJ
    have hw0 := hw0.le hJ
    have hA27 := hA27.le hJ
    have hA0 := hA27
    have hw27s := hw27s.le hJ
    have hw33s := hw33s.le hJ
    refine go 9 ?_
    refine cb rfl (fun h64 p64 => ?_) (fun h64 p64 => ?_)
    ·have hlt : i < (allF c l 4096).1.length := by omega
     refine go 5 ?_
     refine sx_knowI (fun hE11 hf11 => ?_)
     refine d_startH T.mixed ?_
     refine d_tv 0 rfl rfl (by kernel_rfl) rfl (.refl _) rfl (v_ldw m0 he rfl rfl) ?_
     refine d_tv 1 rfl rfl (by kernel_rfl) rfl (.refl _) rfl (v_move rfl) ?_
     refine d_tv 2 rfl rfl (by kernel_rfl) rfl (.refl _) rfl (v_move rfl) ?_
     refine d_tv 3 rfl rfl (by kernel_rfl) rfl (.refl _) rfl (v_move rfl) ?_
     obtain ⟨b71, o71, w71, e71, c71, r71⟩ := RdA.at_ hA27 (i := i) (by omega)
     obtain ⟨q71, rfl, S71, d71, rfl, hS71, hd71, hm71⟩ := r71
     refine d_tv 4 rfl rfl (by kernel_rfl) rfl (.refl _) rfl (v_idx he rfl rfl e71 (i) (by omega) (by omega)) ?_
     refine d_tv 5 rfl rfl (by kernel_rfl) rfl (.refl _) rfl (v_ldI he rfl (c71 0 _ rfl)) ?_
     refine d_one 6 (by kernel_rfl) rfl ?_
     refine o_call (hiIs _ vc c hvc hsc v l hv hl6 hsl _ (allF c l 4096).1[i] ⟨_, _, rfl, hS71, hd71, hm71⟩) rfl rfl (fun v73 I73 j73 q73 => ?_)
     try have hvc := hvc.le j73
     try have hv := hv.le j73
     try have hw0 := hw0.le j73
     try have hw27 := hw27.le j73
     try have hA27 := hA27.le j73
     try have hw27s := hw27s.le j73
     try have hw33s := hw33s.le j73
     obtain rfl := q73
     refine d_on (fun _ m => m.keepsI (.refl _) (j73) hE11 hf11) ?_
     refine d_t 7 rfl rfl (by kernel_rfl) rfl (fun _ m => m.keepsI (.refl _) (j73) hE11 hf11) (y_v rfl (OV.cast (u := .bool false) (v_not rfl) (congrArg Value.bool (by rw [hall i hlt]; rfl)))) ?_
     refine d_t 8 rfl rfl (by kernel_rfl) rfl (fun _ m => m.keepsI (.refl _) (j73) hE11 hf11) (y_v rfl (v_move rfl)) ?_
     refine d_t 9 rfl rfl (by kernel_rfl) rfl (fun _ m => m.keepsI (.refl _) (j73) hE11 hf11) (y_yes rfl rfl rfl (v_move rfl)) ?_
     refine d_t 10 rfl rfl (by kernel_rfl) rfl (fun _ m => m.keepsI (.refl _) (j73) hE11 hf11) (y_yes rfl rfl rfl (v_gtr rfl rfl)) ?_
     refine d_t 11 rfl rfl (by kernel_rfl) rfl (fun _ m => m.keepsI (.refl _) (j73) hE11 hf11) (y_yes rfl rfl rfl (v_move rfl)) ?_
     refine sxb 78 rfl (fun h78 p78 => ?_) (fun h78 p78 => ?_)
     ·refine d_t 12 rfl rfl (by kernel_rfl) rfl (fun _ m => m.keepsI (.refl _) (j73) hE11 hf11) (y_yes rfl rfl h78 (v_move rfl)) ?_
      refine d_t 13 rfl rfl (by kernel_rfl) rfl (fun _ m => m.keepsI (.refl _) (j73) hE11 hf11) (y_yes rfl rfl h78 (v_move rfl)) ?_
      refine d_t 14 rfl rfl (by kernel_rfl) rfl (fun _ m => m.keepsI (.refl _) (j73) hE11 hf11) (y_yes rfl rfl h78 (OV.cast (u := .int .i64 ((i - 1 : Nat) : Int)) (v_sub rfl rfl ⟨by omega, by omega⟩) (congrArg (Value.int .i64) (by omega)))) ?_
      obtain ⟨b82, o82, w82, e82, c82, r82⟩ := RdA.at_ hA0 (i := i - 1) (by omega)
      obtain ⟨q82, rfl, S82, d82, rfl, hS82, hd82, hm82⟩ := r82
      refine d_t 15 rfl rfl (by kernel_rfl) rfl (fun _ m => m.keepsI (.refl _) (j73) hE11 hf11) (y_yes rfl rfl h78 (v_idx he rfl rfl e82 (i - 1) (by omega) (by omega))) ?_
      refine d_t 16 rfl rfl (by kernel_rfl) rfl (fun _ m => m.keepsI (.refl _) (j73) hE11 hf11) (y_yes rfl rfl h78 (v_ldI he rfl (c82 0 _ rfl))) ?_
      refine d_t 17 rfl rfl (by kernel_rfl) rfl (fun _ m => m.keepsI (.refl _) (j73) hE11 hf11) (y_yes rfl rfl h78 (v_move rfl)) ?_
      refine d_t 18 rfl rfl (by kernel_rfl) rfl (fun _ m => m.keepsI (.refl _) (j73) hE11 hf11) (y_yes rfl rfl h78 (v_move rfl)) ?_
      obtain ⟨b86, o86, w86, e86, c86, r86⟩ := RdA.at_ hA0 (i := i) hlt
      obtain ⟨q86, rfl, S86, d86, rfl, hS86, hd86, hm86⟩ := r86
      refine d_t 19 rfl rfl (by kernel_rfl) rfl (fun _ m => m.keepsI (.refl _) (j73) hE11 hf11) (y_yes rfl rfl h78 (v_idx he rfl rfl e86 (i) (by omega) hlt)) ?_
      refine d_t 20 rfl rfl (by kernel_rfl) rfl (fun _ m => m.keepsI (.refl _) (j73) hE11 hf11) (y_yes rfl rfl h78 (v_ldI he rfl (c86 0 _ rfl))) ?_
      refine d_one 21 (by kernel_rfl) rfl ?_
      refine o_yes rfl rfl h78 (o_callV (law16before _ _ (allF c l 4096).1[i - 1] ⟨_, _, rfl, hS82.le j73, hd82, hm82⟩ _ (allF c l 4096).1[i] ⟨_, _, rfl, hS86.le j73, hd86, hm86⟩) rfl rfl ?_)
      refine d_on (fun _ m => m.keepsI (.refl _) (j73) hE11 hf11) ?_
      refine d_t 22 rfl rfl (by kernel_rfl) rfl (fun _ m => m.keepsI (.refl _) (j73) hE11 hf11) (y_yes rfl rfl h78 (OV.cast (u := .bool false) (v_not rfl) (congrArg Value.bool (by rw [hbf i (by omega) hlt]; rfl)))) ?_
      refine d_t 23 rfl rfl (by kernel_rfl) rfl (fun _ m => m.keepsI (.refl _) (j73) hE11 hf11) (y_yes rfl rfl rfl (v_and_t h78 rfl rfl)) ?_
      refine d_t 24 rfl rfl (by kernel_rfl) rfl (fun _ m => m.keepsI (.refl _) (j73) hE11 hf11) (y_v rfl (v_or_f rfl rfl rfl)) ?_
      refine d_done (by kernel_rfl) ?_
      refine go 1 ?_
      refine c_false rfl ?_
      refine go 9 ?_
      exact q_next2 (i + 1) (_) ⟨by omega, hJ.trans j73⟩ (by omega) rfl sb rfl
     ·refine d_t 12 rfl rfl (by kernel_rfl) rfl (fun _ m => m.keepsI (.refl _) (j73) hE11 hf11) (y_no rfl rfl h78) ?_
      refine d_t 13 rfl rfl (by kernel_rfl) rfl (fun _ m => m.keepsI (.refl _) (j73) hE11 hf11) (y_no rfl rfl h78) ?_
      refine d_t 14 rfl rfl (by kernel_rfl) rfl (fun _ m => m.keepsI (.refl _) (j73) hE11 hf11) (y_no rfl rfl h78) ?_
      refine d_t 15 rfl rfl (by kernel_rfl) rfl (fun _ m => m.keepsI (.refl _) (j73) hE11 hf11) (y_no rfl rfl h78) ?_
      refine d_t 16 rfl rfl (by kernel_rfl) rfl (fun _ m => m.keepsI (.refl _) (j73) hE11 hf11) (y_no rfl rfl h78) ?_
      refine d_t 17 rfl rfl (by kernel_rfl) rfl (fun _ m => m.keepsI (.refl _) (j73) hE11 hf11) (y_no rfl rfl h78) ?_
      refine d_t 18 rfl rfl (by kernel_rfl) rfl (fun _ m => m.keepsI (.refl _) (j73) hE11 hf11) (y_no rfl rfl h78) ?_
      refine d_t 19 rfl rfl (by kernel_rfl) rfl (fun _ m => m.keepsI (.refl _) (j73) hE11 hf11) (y_no rfl rfl h78) ?_
      refine d_t 20 rfl rfl (by kernel_rfl) rfl (fun _ m => m.keepsI (.refl _) (j73) hE11 hf11) (y_no rfl rfl h78) ?_
      refine d_t 21 rfl rfl (by kernel_rfl) rfl (fun _ m => m.keepsI (.refl _) (j73) hE11 hf11) (y_no rfl rfl h78) ?_
      refine d_t 22 rfl rfl (by kernel_rfl) rfl (fun _ m => m.keepsI (.refl _) (j73) hE11 hf11) (y_no rfl rfl h78) ?_
      refine d_t 23 rfl rfl (by kernel_rfl) rfl (fun _ m => m.keepsI (.refl _) (j73) hE11 hf11) (y_yes rfl rfl rfl (v_and_f h78 rfl)) ?_
      refine d_t 24 rfl rfl (by kernel_rfl) rfl (fun _ m => m.keepsI (.refl _) (j73) hE11 hf11) (y_v rfl (v_or_f rfl rfl rfl)) ?_
      refine d_done (by kernel_rfl) ?_
      refine go 1 ?_
      refine c_false rfl ?_
      refine go 9 ?_
      exact q_next2 (i + 1) (_) ⟨by omega, hJ.trans j73⟩ (by omega) rfl sb rfl
    ·refine go 10 ?_
     refine o_cons (o_yes rfl rfl rfl (o_val rfl (OV.cast (u := .bool true) (v_eql rfl rfl) (congrArg Value.bool (decide_eq_true (hf2)))) ?_))
     refine go 4 ?_
     refine o_cons (o_yes rfl rfl rfl (o_val rfl (OV.cast (u := .bool true) (v_gtr rfl rfl) (congrArg Value.bool (decide_eq_true (by omega)))) ?_))
     refine go 3 ?_
     obtain ⟨b104, o104, w104, e104, c104, r104⟩ := RdA.at_ hA27 (i := 0) (by omega)
     obtain ⟨q104, rfl, S104, d104, rfl, hS104, hd104, hm104⟩ := r104
     refine o_cons (o_yes rfl rfl rfl (o_val rfl (v_idx he rfl rfl e104 (0) (by omega) (by omega)) ?_))
     refine o_cons (o_yes rfl rfl rfl (o_val rfl (v_ldI he rfl (c104 0 _ rfl)) ?_))
     refine go 2 ?_
     refine o_yes rfl rfl rfl (o_callV (eqInts16 _ _ _ ⟨_, _, rfl, hS104, hd104, hm104⟩ _ hw33s) rfl rfl ?_)
     refine go 6 ?_
     refine o_yes rfl rfl rfl (o_call (hiIs _ vc c hvc hsc v l hv hl6 hsl _ ch hw0) rfl rfl (fun v113 I113 j113 q113 => ?_))
     try have hvc := hvc.le j113
     try have hv := hv.le j113
     try have hw0 := hw0.le j113
     try have hw27 := hw27.le j113
     try have hA27 := hA27.le j113
     try have hw27s := hw27s.le j113
     try have hw33s := hw33s.le j113
     obtain rfl := q113
     refine go 3 ?_
     refine o_yes rfl rfl rfl (o_callV (law16in _ _ _ hw27s _ ch hw0) rfl rfl ?_)
     refine o_cons (o_yes rfl rfl rfl (o_val rfl (OV.cast (u := .bool true) (v_beql he rfl rfl) (congrArg Value.bool (by rw [hX, ← hist_in]; simp))) ?_))
     refine go 5 ?_
     refine fin1 rfl rfl ?_
     exact q_vI rfl

end Go.Proofs.YtoadjlmbdliceaaGreat

/- The law SearchHistories holds of the given program, for every input. No condition. -/
namespace Go.Proofs.YtoadjlmbdliceaaGreat
open Go Go.Sx
set_option linter.all false
theorem T.cel_24 : Tryz.prog.cellsOf 24 = 1 := by kernel_rfl
theorem T.cel_3 : Tryz.prog.cellsOf 3 = 1 := by kernel_rfl
theorem T.cel_47 : Tryz.prog.cellsOf 47 = 2 := by kernel_rfl
theorem T.cel_52 : Tryz.prog.cellsOf 52 = 2 := by kernel_rfl
theorem T.cel_54 : Tryz.prog.cellsOf 54 = 6 := by kernel_rfl
theorem T.cel_56 : Tryz.prog.cellsOf 56 = 14 := by kernel_rfl
theorem T.cel_82 : Tryz.prog.cellsOf 82 = 3 := by kernel_rfl
theorem T.cel_84 : Tryz.prog.cellsOf 84 = 3 := by kernel_rfl
theorem T.cel_9 : Tryz.prog.cellsOf 9 = 1 := by kernel_rfl
instance T.fds_24 : Has (fieldsK Tryz.prog 24) [(22, 0, 1)] := ⟨by kernel_rfl⟩
instance T.fds_47 : Has (fieldsK Tryz.prog 47) [(45, 0, 1), (4, 1, 1)] := ⟨by kernel_rfl⟩
instance T.fds_52 : Has (fieldsK Tryz.prog 52) [(3, 0, 1), (3, 1, 1)] := ⟨by kernel_rfl⟩
instance T.fds_54 : Has (fieldsK Tryz.prog 54) [(52, 0, 2), (52, 2, 2), (52, 4, 2)] := ⟨by kernel_rfl⟩
instance T.fds_56 : Has (fieldsK Tryz.prog 56) [(3, 0, 1), (3, 1, 1), (9, 2, 1), (9, 3, 1), (9, 4, 1), (9, 5, 1), (9, 6, 1), (9, 7, 1), (54, 8, 6)] := ⟨by kernel_rfl⟩
instance T.fds_82 : Has (fieldsK Tryz.prog 82) [(9, 0, 1), (4, 1, 1), (80, 2, 1)] := ⟨by kernel_rfl⟩
instance T.fds_84 : Has (fieldsK Tryz.prog 84) [(9, 0, 1), (61, 1, 1), (3, 2, 1)] := ⟨by kernel_rfl⟩
namespace lawSearchHistories
open Go.ChangeShapes Go.WideShapes Go.ChangeAt Go.RowKit
theorem own : ownKnob Tryz.prog.godebug = none := by kernel_rfl
set_option maxRecDepth 100000 in
theorem lifted (os : Os) (started : os.Started) (H : Type) (enc : TypeId × Value → H) :
    ReturnsInHanded {} Tryz.checked os 4 .any (Rows.searchHistoriesSpec.pre6 enc Tryz.prog Tryz.f4 Rows.searchHistoriesRow.domain false) (Rows.searchHistoriesSpec.post enc Tryz.prog Tryz.f4 false true false false) := by
  refine returnsInHanded_of_change (C := Tryz.checked) own started (by kernel_rfl) Tryz.func4
    (ChangeSpec.witness6 (enc := enc) (C := Tryz.checked) false ⟨#[], #[.agg #[.slice none 0 0], .slice none 0 0, .slice none 0 0], []⟩ 8 (by kernel_rfl) (by kernel_rfl) (by kernel_rfl) (by kernel_rfl)) ?_
  intro W base args ds gs before hval0 hW hcnd _
  have hval : ∀ (j : Nat) t v, Tryz.f4.params[j]? = some t → args[j]? = some v → Value.okWide Tryz.prog W .any base t v := hval0
  have hW' := hW
  obtain ⟨p, q, hA0, hV, rfl, hfz, hnd⟩ := hW
  have hA : DataW.TrodAll enc Tryz.prog W 0 (fun _ => true) true Tryz.f4.params.toList args.toList ds p := hA0
  rw [Tryz.params4] at hA hval
  obtain ⟨v0, vs0, d0, ds0, p0, q0, hargs, rfl, rfl, h0, r0⟩ := trodAll_cons hA
  obtain ⟨v1, vs1, d1, ds1, p1, q1, rfl, rfl, rfl, h1, r1⟩ := trodAll_cons r0
  obtain ⟨v2, vs2, d2, ds2, p2, q2, rfl, rfl, rfl, h2, r2⟩ := trodAll_cons r1
  obtain ⟨rfl, rfl, rfl⟩ := trodAll_nil r2
  obtain rfl : args = #[v0, v1, v2] := by cases args; simp_all
  obtain ⟨rfl, rfl⟩ := trodVars_none hV
  clear hA0 hval0
  obtain ⟨cs0, rfl, hz0⟩ := okWide_agg T.fds_24.eq (hval 0 24 v0 rfl rfl)
  obtain ⟨fu0, hf0⟩ := h0
  obtain ⟨l0, ⟨u0, e0, R0⟩, G0⟩ := (opens_wrap T.fds_24.eq T.cel_24 (opens_slice T.und_22.eq T.cel_82 rfl (opens_kind T.fds_82.eq T.cel_82 (opens_string T.und_9.eq) (opens_bool T.und_4.eq) (opens_slice T.und_80.eq T.cel_84 rfl (opens_slot T.fds_84.eq T.cel_84 (opens_string T.und_9.eq) (opens_slice T.und_61.eq T.cel_9 rfl (opens_string T.und_9.eq)) (opens_int T.und_3.eq)))))) enc W 0 _ true fu0 _ _ hf0
  obtain rfl : cs0 = #[u0] := Array.toList_inj.1 e0
  obtain ⟨s1, n1, c1, rfl⟩ := okWide_slice T.und_25.eq (hval 1 25 v1 rfl rfl)
  obtain ⟨fu1, hf1⟩ := h1
  obtain ⟨l1, ⟨u1, e1, R1⟩, G1⟩ := (opens_slice T.und_25.eq T.cel_47 rfl (opens_rep T.fds_47.eq T.cel_47 (opens_slice T.und_45.eq T.cel_56 rfl (opens_evt T.fds_56.eq T.cel_56 (opens_int T.und_3.eq) (opens_string T.und_9.eq) (opens_use T.fds_54.eq T.cel_54 (opens_ivl T.fds_52.eq T.cel_52 (opens_int T.und_3.eq))))) (opens_bool T.und_4.eq))) enc W 0 _ true fu1 _ _ hf1
  cases e1
  obtain ⟨s2, n2, c2, rfl⟩ := okWide_slice T.und_28.eq (hval 2 28 v2 rfl rfl)
  obtain ⟨fu2, hf2⟩ := h2
  obtain ⟨l2, ⟨u2, e2, R2⟩, G2⟩ := (opens_slice T.und_28.eq T.cel_3 rfl (opens_int T.und_3.eq)) enc W 0 _ true fu2 _ _ hf2
  cases e2
  exact law_calls (s := Rows.searchHistoriesSpec) Tryz.call4 (lawSHistories (Iw W) _ l0 R0 G0 _ l1 R1 G1 _ l2 R2 G2) hW' (by kernel_rfl) (by kernel_rfl) rfl T.und_4.eq rfl rfl
theorem over : Rows.searchHistoriesRow.holds Tryz.pinned (OpenSpec.ofChange Rows.searchHistoriesSpec) :=
  OpenClaim.holds_of_wide 4 Tryz.f4 rfl rfl rfl rfl rfl rfl rfl ⟨rfl, rfl, rfl, rfl, rfl⟩ rfl rfl rfl rfl rfl (by kernel_rfl) Tryz.func4 (by kernel_rfl)
    (of_decide_eq_true (by kernel_rfl)) (by unfold Func.isWrapper; first | (rw [if_pos (by decide +kernel)]; kernel_rfl) | (rw [if_neg (by decide +kernel)]; exact ⟨rfl, rfl⟩))
    (fun os started H enc _ => lifted os started H enc)
/-- the statement -/
theorem proved : Rows.SearchHistoriesSaid := over
end lawSearchHistories
end Go.Proofs.YtoadjlmbdliceaaGreat

