/- The law HistoryApart holds of the given program, for every input. No condition. -/
import Derived.Test.YtkmdojpfccjnoaaGreatYc
import Derived.Carry
import Derived.ChangeArms
import Derived.Deep.Slices
import Derived.OpenShut
import Derived.ProofKit
import Derived.Test.YtkmdojpfccjnoaaGreatRows
/- How what comes in is read: out of the row's reading into the data of the walks; how a law's row is closed. -/
set_option linter.all false
namespace Go.Sx
open Go

def Iw (w : World) : IMap := fun b => w.heap[b]?
theorem Iw_mem (w : World) : Mem ⟨foots [], Iw w, w⟩ (Iw w) [] w :=
  ⟨Upd.refl _ _, fun _ _ h => h, ILe.refl _, fun _ h => .inl h, fun _ h => (by cases h), fun _ h => (by cases h), List.nodup_nil⟩
theorem cell_I {w : World} {b off : Nat} {v : Value} (h : w.cell? ⟨b, off, none⟩ = some v) : ICell (Iw w) b off v := by
  unfold World.cell? at h
  split at h
  · rename_i c t fz hb
    exact ⟨c, t, fz, hb, by simpa using h⟩
  · cases h
/-- whatever reads as this type reads as this -/
def Opens (P : Program) (t : TypeId) (α : Type) [Enc α] (G : α → Prop) : Prop :=
  ∀ {H : Type} (enc : TypeId × Value → H) (w : World) (base : Nat) (spare : Nat → Bool) (held : Bool) (fuel : Nat) (cs : List Value) (x : DataW H × List MemPlace),
    DataW.trod enc P w base spare held fuel t cs = some x → ∃ y : α, Enc.rd (Iw w) cs y ∧ G y
abbrev SmB (s : ByteArray) : Prop := s.size ≤ maxLen
theorem wf_i64 {n : Int} (h : (Lit.int .i64 n).wf = true) : I64 n := by
  simp only [Lit.wf, Bool.and_eq_true, decide_eq_true_eq] at h
  unfold I64; simpa [IntKind.min, IntKind.max, IntKind.signed, IntKind.bits] using h
section
variable {P : Program} {t e : TypeId}
theorem opens_string (ht : P.underlying t = some .string) : Opens P t ByteArray SmB := by
  intro H enc w base spare held fuel cs x h
  obtain ⟨s, rfl, _, h2⟩ := DataW.trod_string ht h
  exact ⟨s, rfl, h2⟩
theorem opens_int (ht : P.underlying t = some (.int .i64)) : Opens P t Int I64 := by
  intro H enc w base spare held fuel cs x h
  obtain ⟨s, rfl, _, h2⟩ := DataW.trod_int ht h
  exact ⟨s, rfl, wf_i64 h2⟩
theorem opens_bool (ht : P.underlying t = some .bool) : Opens P t Bool (fun _ => True) := by
  intro H enc w base spare held fuel cs x h
  obtain ⟨b, rfl, _⟩ := DataW.trod_bool ht h
  exact ⟨b, rfl, trivial⟩
theorem choose_list {α : Type} {p : Nat → α → Prop} : ∀ n : Nat, (∀ i, i < n → ∃ x, p i x) → ∃ l : List α, l.length = n ∧ ∀ i x, l[i]? = some x → p i x
  | 0, _ => ⟨[], rfl, fun i x h => by simp at h⟩
  | n + 1, h => by
    obtain ⟨l, h1, h2⟩ := choose_list n (fun i hi => h i (by omega))
    obtain ⟨x, hx⟩ := h n (by omega)
    refine ⟨l ++ [x], by simp [h1], fun i y hy => ?_⟩
    rcases Nat.lt_or_ge i l.length with hi | hi
    · rw [List.getElem?_append_left hi] at hy; exact h2 i y hy
    · rw [List.getElem?_append_right hi] at hy
      have h3 : i - l.length = 0 := by
        rcases Nat.eq_zero_or_pos (i - l.length) with h | h
        · exact h
        · rw [List.getElem?_eq_none (by simp; omega)] at hy; cases hy
      rw [h3] at hy
      simp at hy
      subst hy
      obtain rfl : i = n := by omega
      exact hx
theorem opens_slice {α : Type} [Enc α] {G : α → Prop} (ht : P.underlying t = some (.slice e)) (hc : P.cellsOf e = Enc.k α) (hk : Nat.blt 0 (Enc.k α) = true) (he : Opens P e α G) : Opens P t (List α) (fun l => ∀ x ∈ l, G x) := by
  intro H enc w base spare held fuel cs x h
  rcases Deep.open_slice ht h with ⟨rfl, _⟩ | ⟨a, len, cap, m, n, D, Pl, rfl, hb, hl, hm, hmm, _, hx⟩
  · exact ⟨[], ⟨_, rfl, RdS.nil'⟩, fun _ h => by cases h⟩
  have hlm : len ≤ m := by rw [hmm]; split <;> omega
  obtain ⟨l, h1, h2⟩ := choose_list (p := fun i y => ∃ vs, (∀ j u, vs[j]? = some u → w.cell? ((a.add (i * P.cellsOf e)).add j) = some u) ∧ vs.length = Enc.k α ∧ Enc.rd (Iw w) vs y ∧ G y) len (fun i hi => by
    obtain ⟨cs', h3, h4⟩ := hx i (by omega)
    obtain ⟨y, h5, h6⟩ := he enc w base spare held n cs' _ h4
    obtain ⟨_, h7, h8⟩ := World.cells?_some h3
    refine ⟨y, cs', fun j u hu => ?_, Enc.len h5, h5, h6⟩
    have hj : j < cs'.length := (List.getElem?_eq_some_iff.1 hu).1
    rw [h8 j (by omega), hu])
  subst h1
  refine ⟨l, ⟨_, rfl, some a, cap, rfl, fun hp => ?_, hl, by unfold maxLen at hm; exact hm⟩, fun x hx => ?_⟩
  · have hk' : 0 < Enc.k α := by simpa [Nat.blt_eq] using hk
    have hsp : a.spot = none := by
      obtain ⟨vs, h3, h4, _⟩ := h2 0 l[0] (List.getElem?_eq_getElem hp)
      have h5 := h3 0 vs[0] (List.getElem?_eq_getElem (by omega))
      unfold World.cell? at h5
      split at h5
      · split at h5
        · cases h5
        · rename_i hn; simpa [Addr.add] using hn
      · cases h5
    obtain ⟨b, o, sp⟩ := a
    simp only at hsp
    subst hsp
    refine ⟨b, o, rfl, fun i x hi => ?_⟩
    obtain ⟨vs, h3, h4, h5, _⟩ := h2 i x hi
    refine ⟨vs, fun j u hu => cell_I ?_, h5⟩
    have h6 := h3 j u hu
    rw [add_lit, add_lit, hc] at h6
    exact h6
  · obtain ⟨i, hi, rfl⟩ := List.getElem_of_mem hx
    obtain ⟨_, _, _, _, h3⟩ := h2 i _ (List.getElem?_eq_getElem hi)
    exact h3
def fieldsK (P : Program) (t : TypeId) : Option (List (TypeId × Nat × Nat)) :=
  match P.underlying t with
  | some (.struct fs) => some (fs.toList.map fun f => (f.type, f.offset, P.cellsOf f.type))
  | _ => none
theorem trod_fields {H : Type} {enc : TypeId × Value → H} {w : World} {base : Nat} {spare : Nat → Bool} {held : Bool} {fuel : Nat} {cs : List Value} {x : DataW H × List MemPlace} {l : List (TypeId × Nat × Nat)}
    (hf : fieldsK P t = some l) (h : DataW.trod enc P w base spare held fuel t cs = some x) :
    cs.length = P.cellsOf t ∧ ∀ q ∈ l, ∃ n y, DataW.trod enc P w base spare held n q.1 ((cs.drop q.2.1).take q.2.2) = some y := by
  unfold fieldsK at hf
  split at hf
  · rename_i fs ht
    simp only [Option.some.injEq] at hf
    subst hf
    obtain ⟨xs, n, _, _, h1, h2, h3⟩ := DataW.trod_struct ht h
    refine ⟨h1, fun q hq => ?_⟩
    obtain ⟨f, hf, rfl⟩ := List.mem_map.1 hq
    obtain ⟨i, hi, rfl⟩ := List.getElem_of_mem hf
    have hi' : i < fs.size := by simpa using hi
    have h4 := h3 i fs[i] (by simp [hi'])
    rw [List.getElem?_eq_getElem (by omega)] at h4
    exact ⟨n, _, by simpa using h4⟩
  · cases hf
theorem okWide_agg {l : List (TypeId × Nat × Nat)} {w : World} {r : Reach} {base : Nat} {v : Value} (hf : fieldsK P t = some l) (h : Value.okWide P w r base t v) : ∃ cs, v = .agg cs ∧ cs.size = P.cellsOf t := by
  unfold fieldsK at hf
  split at hf
  · rename_i fs ht; exact WideShapes.okWide_struct ht h
  · cases hf
theorem len_cons {cs : List Value} {n : Nat} (h : cs.length = n + 1) : ∃ a r, cs = a :: r ∧ r.length = n := by
  cases cs with
  | nil => simp at h
  | cons a r => exact ⟨a, r, rfl, by simpa using h⟩
theorem len_nil {cs : List Value} (h : cs.length = 0) : cs = [] := List.eq_nil_of_length_eq_zero h
/-- a struct of one field -/
theorem opens_wrap {α : Type} [Enc α] {G : α → Prop} {t0 : TypeId} {k : Nat} (hf : fieldsK P t = some [(t0, 0, k)]) (hc : P.cellsOf t = k) (h0 : Opens P t0 α G) : Opens P t α G := by
  intro H enc w base spare held fuel cs x h
  obtain ⟨hl, hall⟩ := trod_fields hf h
  obtain ⟨n, y, h1⟩ := hall (t0, 0, k) (by simp)
  have e : (cs.drop 0).take k = cs := by rw [List.drop_zero]; exact List.take_of_length_le (by omega)
  rw [show ((t0, 0, k) : TypeId × Nat × Nat).2.1 = 0 from rfl, show ((t0, 0, k) : TypeId × Nat × Nat).2.2 = k from rfl, e] at h1
  exact h0 enc w base spare held n cs y h1
/-! the types of this program -/
def OkIvl (x : Ivl) : Prop := I64 x.low ∧ I64 x.high
def OkUse (x : Use) : Prop := OkIvl x.km ∧ OkIvl x.cycles ∧ OkIvl x.load
structure OkE (e : Evt) : Prop where
  op : I64 e.op
  day : I64 e.day
  part : SmB e.part
  kind : SmB e.kind
  into : SmB e.into
  slot : SmB e.slot
  key : SmB e.key
  value : SmB e.value
  use : OkUse e.use
def OkSl (s : Slot) : Prop := SmB s.name ∧ (∀ k ∈ s.kinds, SmB k) ∧ I64 s.normal
def OkKd (k : Kind) : Prop := SmB k.name ∧ ∀ s ∈ k.slots, OkSl s
theorem opens_ivl {t0 : TypeId} (hf : fieldsK P t = some [(t0, 0, 1), (t0, 1, 1)]) (hc : P.cellsOf t = 2) (h0 : Opens P t0 Int I64) : Opens P t Ivl OkIvl := by
  intro H enc w base spare held fuel cs x h
  obtain ⟨hl, hall⟩ := trod_fields hf h
  rw [hc] at hl
  obtain ⟨a, r0_, rfl, l0_⟩ := len_cons hl
  obtain ⟨b, r1_, rfl, l1_⟩ := len_cons l0_
  obtain rfl := len_nil l1_
  obtain ⟨n0, y0, h1⟩ := hall (t0, 0, 1) (by simp)
  obtain ⟨n1, y1, h2⟩ := hall (t0, 1, 1) (by simp)
  obtain ⟨x0, e0, g0⟩ := h0 enc w base spare held n0 _ y0 h1
  obtain ⟨x1, e1, g1⟩ := h0 enc w base spare held n1 _ y1 h2
  have e0 : [a] = [.int .i64 x0] := e0
  have e1 : [b] = [.int .i64 x1] := e1
  cases e0
  cases e1
  exact ⟨⟨x0, x1⟩, rfl, g0, g1⟩
theorem opens_three {t0 : TypeId} {w : World} {H : Type} {enc : TypeId × Value → H} {base : Nat} {spare : Nat → Bool} {held : Bool} {fuel : Nat} {cs : List Value} {x : DataW H × List MemPlace} (hf : fieldsK P t = some [(t0, 0, 2), (t0, 2, 2), (t0, 4, 2)]) (hc : P.cellsOf t = 6) (h0 : Opens P t0 Ivl OkIvl)
    (h : DataW.trod enc P w base spare held fuel t cs = some x) : ∃ a b c : Ivl, cs = a.cells ++ (b.cells ++ c.cells) ∧ OkIvl a ∧ OkIvl b ∧ OkIvl c := by
  obtain ⟨hl, hall⟩ := trod_fields hf h
  rw [hc] at hl
  obtain ⟨a, r0_, rfl, l0_⟩ := len_cons hl
  obtain ⟨b, r1_, rfl, l1_⟩ := len_cons l0_
  obtain ⟨c, r2_, rfl, l2_⟩ := len_cons l1_
  obtain ⟨d, r3_, rfl, l3_⟩ := len_cons l2_
  obtain ⟨e, r4_, rfl, l4_⟩ := len_cons l3_
  obtain ⟨f, r5_, rfl, l5_⟩ := len_cons l4_
  obtain rfl := len_nil l5_
  obtain ⟨n0, y0, h1⟩ := hall (t0, 0, 2) (by simp)
  obtain ⟨n1, y1, h2⟩ := hall (t0, 2, 2) (by simp)
  obtain ⟨n2, y2, h3⟩ := hall (t0, 4, 2) (by simp)
  obtain ⟨x0, e0, g0⟩ := h0 enc w base spare held n0 _ y0 h1
  obtain ⟨x1, e1, g1⟩ := h0 enc w base spare held n1 _ y1 h2
  obtain ⟨x2, e2, g2⟩ := h0 enc w base spare held n2 _ y2 h3
  have e0 : [a, b] = x0.cells := e0
  have e1 : [c, d] = x1.cells := e1
  have e2 : [e, f] = x2.cells := e2
  exact ⟨x0, x1, x2, by rw [← e0, ← e1, ← e2]; rfl, g0, g1, g2⟩
theorem opens_use {t0 : TypeId} (hf : fieldsK P t = some [(t0, 0, 2), (t0, 2, 2), (t0, 4, 2)]) (hc : P.cellsOf t = 6) (h0 : Opens P t0 Ivl OkIvl) : Opens P t Use OkUse := by
  intro H enc w base spare held fuel cs x h
  obtain ⟨a, b, c, rfl, h1, h2, h3⟩ := opens_three hf hc h0 h
  exact ⟨⟨a, b, c⟩, rfl, h1, h2, h3⟩
theorem opens_evt {ti ts tu : TypeId} (hf : fieldsK P t = some [(ti, 0, 1), (ti, 1, 1), (ts, 2, 1), (ts, 3, 1), (ts, 4, 1), (ts, 5, 1), (ts, 6, 1), (ts, 7, 1), (tu, 8, 6)]) (hc : P.cellsOf t = 14) (hi : Opens P ti Int I64) (hs : Opens P ts ByteArray SmB) (hu : Opens P tu Use OkUse) : Opens P t Evt OkE := by
  intro H enc w base spare held fuel cs x h
  obtain ⟨hl, hall⟩ := trod_fields hf h
  rw [hc] at hl
  obtain ⟨a0, r0_, rfl, l0_⟩ := len_cons hl
  obtain ⟨a1, r1_, rfl, l1_⟩ := len_cons l0_
  obtain ⟨a2, r2_, rfl, l2_⟩ := len_cons l1_
  obtain ⟨a3, r3_, rfl, l3_⟩ := len_cons l2_
  obtain ⟨a4, r4_, rfl, l4_⟩ := len_cons l3_
  obtain ⟨a5, r5_, rfl, l5_⟩ := len_cons l4_
  obtain ⟨a6, r6_, rfl, l6_⟩ := len_cons l5_
  obtain ⟨a7, r7_, rfl, l7_⟩ := len_cons l6_
  obtain ⟨a8, r8_, rfl, l8_⟩ := len_cons l7_
  obtain ⟨a9, r9_, rfl, l9_⟩ := len_cons l8_
  obtain ⟨a10, r10_, rfl, l10_⟩ := len_cons l9_
  obtain ⟨a11, r11_, rfl, l11_⟩ := len_cons l10_
  obtain ⟨a12, r12_, rfl, l12_⟩ := len_cons l11_
  obtain ⟨a13, r13_, rfl, l13_⟩ := len_cons l12_
  obtain rfl := len_nil l13_
  obtain ⟨n0, y0, h0⟩ := hall (ti, 0, 1) (by simp)
  obtain ⟨x0, e0, g0⟩ := hi enc w base spare held n0 _ y0 h0
  have e0 : [a0] = [.int .i64 x0] := e0
  cases e0
  obtain ⟨n1, y1, h1⟩ := hall (ti, 1, 1) (by simp)
  obtain ⟨x1, e1, g1⟩ := hi enc w base spare held n1 _ y1 h1
  have e1 : [a1] = [.int .i64 x1] := e1
  cases e1
  obtain ⟨n2, y2, h2⟩ := hall (ts, 2, 1) (by simp)
  obtain ⟨x2, e2, g2⟩ := hs enc w base spare held n2 _ y2 h2
  have e2 : [a2] = [.string x2] := e2
  cases e2
  obtain ⟨n3, y3, h3⟩ := hall (ts, 3, 1) (by simp)
  obtain ⟨x3, e3, g3⟩ := hs enc w base spare held n3 _ y3 h3
  have e3 : [a3] = [.string x3] := e3
  cases e3
  obtain ⟨n4, y4, h4⟩ := hall (ts, 4, 1) (by simp)
  obtain ⟨x4, e4, g4⟩ := hs enc w base spare held n4 _ y4 h4
  have e4 : [a4] = [.string x4] := e4
  cases e4
  obtain ⟨n5, y5, h5⟩ := hall (ts, 5, 1) (by simp)
  obtain ⟨x5, e5, g5⟩ := hs enc w base spare held n5 _ y5 h5
  have e5 : [a5] = [.string x5] := e5
  cases e5
  obtain ⟨n6, y6, h6⟩ := hall (ts, 6, 1) (by simp)
  obtain ⟨x6, e6, g6⟩ := hs enc w base spare held n6 _ y6 h6
  have e6 : [a6] = [.string x6] := e6
  cases e6
  obtain ⟨n7, y7, h7⟩ := hall (ts, 7, 1) (by simp)
  obtain ⟨x7, e7, g7⟩ := hs enc w base spare held n7 _ y7 h7
  have e7 : [a7] = [.string x7] := e7
  cases e7
  obtain ⟨n8, y8, h8⟩ := hall (tu, 8, 6) (by simp)
  obtain ⟨x8, e8, g8⟩ := hu enc w base spare held n8 _ y8 h8
  have e8 : [a8, a9, a10, a11, a12, a13] = x8.cells := e8
  cases e8
  exact ⟨⟨x0, x1, x2, x3, x4, x5, x6, x7, x8⟩, rfl, ⟨g0, g1, g2, g3, g4, g5, g6, g7, g8⟩⟩
theorem opens_slot {ti tk ts : TypeId} (hf : fieldsK P t = some [(ts, 0, 1), (tk, 1, 1), (ti, 2, 1)]) (hc : P.cellsOf t = 3) (hs : Opens P ts ByteArray SmB) (hk : Opens P tk (List ByteArray) (fun l => ∀ x ∈ l, SmB x)) (hi : Opens P ti Int I64) : Opens P t Slot OkSl := by
  intro H enc w base spare held fuel cs x h
  obtain ⟨hl, hall⟩ := trod_fields hf h
  rw [hc] at hl
  obtain ⟨a0, r0_, rfl, l0_⟩ := len_cons hl
  obtain ⟨a1, r1_, rfl, l1_⟩ := len_cons l0_
  obtain ⟨a2, r2_, rfl, l2_⟩ := len_cons l1_
  obtain rfl := len_nil l2_
  obtain ⟨n0, y0, h0⟩ := hall (ts, 0, 1) (by simp)
  obtain ⟨x0, e0, g0⟩ := hs enc w base spare held n0 _ y0 h0
  have e0 : [a0] = [.string x0] := e0
  cases e0
  obtain ⟨n1, y1, h1⟩ := hall (tk, 1, 1) (by simp)
  obtain ⟨x1, e1, g1⟩ := hk enc w base spare held n1 _ y1 h1
  obtain ⟨v1, e1, r1⟩ := e1
  have e1 : [a1] = [v1] := e1
  cases e1
  obtain ⟨n2, y2, h2⟩ := hall (ti, 2, 1) (by simp)
  obtain ⟨x2, e2, g2⟩ := hi enc w base spare held n2 _ y2 h2
  have e2 : [a2] = [.int .i64 x2] := e2
  cases e2
  exact ⟨⟨x0, x1, x2⟩, ⟨_, rfl, r1⟩, g0, g1, g2⟩
theorem opens_kind {tb tk ts : TypeId} (hf : fieldsK P t = some [(ts, 0, 1), (tb, 1, 1), (tk, 2, 1)]) (hc : P.cellsOf t = 3) (hs : Opens P ts ByteArray SmB) (hb : Opens P tb Bool (fun _ => True)) (hk : Opens P tk (List Slot) (fun l => ∀ x ∈ l, OkSl x)) : Opens P t Kind OkKd := by
  intro H enc w base spare held fuel cs x h
  obtain ⟨hl, hall⟩ := trod_fields hf h
  rw [hc] at hl
  obtain ⟨a0, r0_, rfl, l0_⟩ := len_cons hl
  obtain ⟨a1, r1_, rfl, l1_⟩ := len_cons l0_
  obtain ⟨a2, r2_, rfl, l2_⟩ := len_cons l1_
  obtain rfl := len_nil l2_
  obtain ⟨n0, y0, h0⟩ := hall (ts, 0, 1) (by simp)
  obtain ⟨x0, e0, g0⟩ := hs enc w base spare held n0 _ y0 h0
  have e0 : [a0] = [.string x0] := e0
  cases e0
  obtain ⟨n1, y1, h1⟩ := hall (tb, 1, 1) (by simp)
  obtain ⟨x1, e1, g1⟩ := hb enc w base spare held n1 _ y1 h1
  have e1 : [a1] = [.bool x1] := e1
  cases e1
  obtain ⟨n2, y2, h2⟩ := hall (tk, 2, 1) (by simp)
  obtain ⟨x2, e2, g2⟩ := hk enc w base spare held n2 _ y2 h2
  obtain ⟨v2, e2, r2⟩ := e2
  have e2 : [a2] = [v2] := e2
  cases e2
  exact ⟨⟨x0, x1, x2⟩, ⟨_, rfl, r2⟩, g0, g2⟩
/-! a law's row -/
open Go.ChangeShapes Go.WideShapes Go.RowKit
variable {H : Type} {enc : TypeId × Value → H}
theorem trodAll_later {W W' : World} (hl : laidOutB P = true) (hb : Below W.heap.size W W') : ∀ (ts : List TypeId) (vs : List Value) (ds : List (DataW H)) (ps : List MemPlace), ts.all (fun t => P.readableRec t && decide (t < P.types.size)) = true → (∀ x ∈ ps, x.block < W.heap.size) →
    DataW.TrodAll enc P W 0 (fun _ => true) true ts vs ds ps → DataW.TrodAll enc P W' 0 (fun b => decide (b < W.heap.size)) true ts vs ds ps
  | [], vs, ds, ps, _, _, h => by
    obtain ⟨rfl, rfl, rfl⟩ := trodAll_nil h
    exact trodAll_mk0
  | t :: ts, vs, ds, ps, ht, hp, h => by
    obtain ⟨v, vs', d, ds', p, q, rfl, rfl, rfl, h1, h2⟩ := trodAll_cons h
    simp only [List.all_cons, Bool.and_eq_true, decide_eq_true_eq] at ht
    exact trodAll_cons_mk (Below.trod hl ht.1.1 ht.1.2 h1 hb fun x hx => hp x (by simp [hx])) (trodAll_later hl hb ts vs' ds' q (by simpa using ht.2) (fun x hx => hp x (by simp [hx])) h2)
theorem law_calls {f : FuncId} {fn : Func} {args : Array Value} {W : World} {s : ChangeSpec} {ds gs : List (DataW H)} {before : List MemPlace} {tb : TypeId}
    (hcall : ∀ (args : Array Value) (w : World), (callFunc f args).run P w = .ok (.enter f args) w) (hc : FnV P f args (Iw W) (.bool true)) (hW : DataW.Whole enc P fn.params.toList s.vars false W args.toList ds gs before)
    (hlaid : laidOutB P = true) (hts : fn.params.toList.all (fun t => P.readableRec t && decide (t < P.types.size)) = true) (hres : fn.resultTypes = #[tb]) (htb : P.underlying tb = some .bool)
    (hfn : s.fn H (ds ++ gs) = { results := [.lit (.bool true)], args := ds }) (hvars : s.vars = []) :
    Calls P f args W fun e W' => ∃ v, e = .returned v ∧ s.post enc P fn false true false false W args v W' := by
  have h := hc.go W (Iw_mem W)
  unfold After at h
  rw [hcall] at h
  refine Calls.mono h ?_
  rintro e W' ⟨v, I', H', rfl, hm, rfl, rfl, rfl⟩
  refine ⟨_, rfl, ?_⟩
  have hlt := hW.lt
  have hb : Below W.heap.size W W' := ⟨hm.upd.os, hm.upd.tape, hm.upd.output, hm.upd.size, fun k hk => hm.upd.block k hk (by simp [foots])⟩
  obtain ⟨p, q, hA, hV, hpq, hfz, hnd⟩ := id hW
  rw [hvars] at hV
  obtain ⟨rfl, rfl⟩ := trodVars_none hV
  refine ⟨ds, [], before, [], p, [], hW, ?_, ?_, ?_, ?_, fun h => by cases h⟩
  · rw [hfn, hres]
    exact trodAll_cons_mk (shut_bool htb _) trodAll_mk0
  · rw [hfn]
    exact trodAll_later hlaid hb _ _ _ _ hts (fun x hx => by simpa using hlt x (by rw [hpq]; simp [hx])) hA
  · rw [hfn, hvars]
    rfl
  · refine ⟨hm.upd.os, hm.upd.output, fun i hi => ?_⟩
    rw [hb.block i hi]
    cases W.heap[i]? with
    | none => rfl
    | some o => cases o <;> simp
end
end Go.Sx

/- How reports and bytes that come in are read. -/
set_option linter.all false
namespace Go.Sx
open Go
def OkRp (r : Rep) : Prop := ∀ e ∈ r.options, OkE e
section
variable {P : Program} {t : TypeId}
theorem opens_rep {tb tk : TypeId} (hf : fieldsK P t = some [(tk, 0, 1), (tb, 1, 1)]) (hc : P.cellsOf t = 2) (hk : Opens P tk (List Evt) (fun l => ∀ x ∈ l, OkE x)) (hb : Opens P tb Bool (fun _ => True)) : Opens P t Rep OkRp := by
  intro H enc w base spare held fuel cs x h
  obtain ⟨hl, hall⟩ := trod_fields hf h
  rw [hc] at hl
  obtain ⟨a0, r0_, rfl, l0_⟩ := len_cons hl
  obtain ⟨a1, r1_, rfl, l1_⟩ := len_cons l0_
  obtain rfl := len_nil l1_
  obtain ⟨n0, y0, h0⟩ := hall (tk, 0, 1) (by simp)
  obtain ⟨x0, e0, g0⟩ := hk enc w base spare held n0 _ y0 h0
  obtain ⟨v0, e0, r0⟩ := e0
  have e0 : [a0] = [v0] := e0
  cases e0
  obtain ⟨n1, y1, h1⟩ := hall (tb, 1, 1) (by simp)
  obtain ⟨x1, e1, g1⟩ := hb enc w base spare held n1 _ y1 h1
  have e1 : [a1] = [.bool x1] := e1
  cases e1
  exact ⟨⟨x0, x1⟩, ⟨_, rfl, r0⟩, g0⟩
theorem opens_u8 (ht : P.underlying t = some (.int .u8)) : Opens P t UInt8 (fun _ => True) := by
  intro H enc w base spare held fuel cs x h
  obtain ⟨s, rfl, _, h2⟩ := DataW.trod_int ht h
  have hs : 0 ≤ s ∧ s ≤ 255 := by
    simp only [Lit.wf, Bool.and_eq_true, decide_eq_true_eq] at h2
    simpa [IntKind.min, IntKind.max, IntKind.signed, IntKind.bits] using h2
  refine ⟨UInt8.ofNat s.toNat, ?_, trivial⟩
  show [Value.int .u8 s] = [.int .u8 ((UInt8.ofNat s.toNat).toNat : Int)]
  rw [UInt8.toNat_ofNat']
  congr 2
  omega
theorem u8_nat {n : Int} (h : (Lit.int .u8 n).wf = true) : ∃ a : Nat, n = (a : Int) ∧ a < 256 := by
  have h2 : 0 ≤ n ∧ n ≤ 255 := by
    simp only [Lit.wf, Bool.and_eq_true, decide_eq_true_eq] at h
    simpa [IntKind.min, IntKind.max, IntKind.signed, IntKind.bits] using h
  exact ⟨n.toNat, by omega, by omega⟩
theorem u16_nat {n : Int} (h : (Lit.int .u16 n).wf = true) : ∃ a : Nat, n = (a : Int) ∧ a < 65536 := by
  have h2 : 0 ≤ n ∧ n ≤ 65535 := by
    simp only [Lit.wf, Bool.and_eq_true, decide_eq_true_eq] at h
    simpa [IntKind.min, IntKind.max, IntKind.signed, IntKind.bits] using h
  exact ⟨n.toNat, by omega, by omega⟩
end
end Go.Sx

/- Lists of texts in a block: their order does not matter, their elements do. -/
set_option linter.all false
namespace Go.Sx
open Go
def strCh (l : List ByteArray) : List (List Value) := l.map fun s => [.string s]
theorem str_uk (l : List ByteArray) : Uk 1 (strCh l) := fun c hc => by obtain ⟨e, _, rfl⟩ := List.mem_map.1 hc; rfl
theorem str_len (l : List ByteArray) : (strCh l).length = l.length := by simp [strCh]
theorem str_flat (I : IMap) : ∀ l : List ByteArray, FlatC I (strCh l) l
  | [] => .nil
  | s :: r => .cons rfl (str_flat I r)
theorem str_of {I : IMap} {xss : List (List Value)} {l : List ByteArray} (h : FlatC I xss l) : xss = strCh l := by
  induction h with
  | nil => rfl
  | cons h1 _ ih => rw [ih]; simp only [strCh, List.map_cons]; rw [show _ = _ from h1]
theorem str_at {l : List ByteArray} {rest : List (List Value)} {i : Nat} (h : i < l.length) : (strCh l ++ rest)[i]? = some [.string l[i]] := by
  rw [List.getElem?_append_left (by rw [str_len]; exact h)]; simp [strCh, h]
theorem str_set {l : List ByteArray} {rest : List (List Value)} {i : Nat} (h : i < l.length) (s : ByteArray) : (strCh l ++ rest).set i [.string s] = strCh (l.set i s) ++ rest := by
  rw [List.set_append_left _ _ (by rw [str_len]; exact h)]
  congr 1
  simp [strCh, List.map_set]
/-- of the same elements -/
def Pm (l m : List ByteArray) : Prop := m.length = l.length ∧ ∀ x, x ∈ m ↔ x ∈ l
theorem Pm.refl (l : List ByteArray) : Pm l l := ⟨rfl, fun _ => Iff.rfl⟩
theorem Pm.swap {l m : List ByteArray} {i j : Nat} (h : Pm l m) (hi : i < m.length) (hj : j < m.length) : Pm l ((m.set i m[j]).set j m[i]) := by
  have hp : ((m.set i m[j]).set j m[i]).Perm m := List.set_set_perm hi hj
  exact ⟨by rw [List.length_set, List.length_set]; exact h.1, fun x => by rw [hp.mem_iff]; exact h.2 x⟩
theorem str_swp {l : List ByteArray} {rest : List (List Value)} {i j : Nat} (hi : i < l.length) (hj : j < l.length) : ((strCh l ++ rest).set i [.string l[j]]).set j [.string l[i]] = strCh ((l.set i l[j]).set j l[i]) ++ rest := by
  rw [str_set hi, str_set (by rw [List.length_set]; exact hj)]
theorem str_swp' {l : List ByteArray} {rest : List (List Value)} {i j : Nat} (hi : i < l.length) (hj : j < l.length) (hij : i ≠ j) : ((strCh l ++ rest).set j [.string l[i]]).set i [.string l[j]] = strCh ((l.set i l[j]).set j l[i]) ++ rest := by
  rw [str_set hj, str_set (by rw [List.length_set]; exact hi), List.set_comm _ _ hij.symm]
theorem flat_take1 {α : Type} {ls : List (List α)} {i : Nat} (h : i < ls.length) : (ls.take (i + 1)).flatten = (ls.take i).flatten ++ ls[i] := by
  rw [← take_succ_of h, List.flatten_append]; simp
theorem flat_lenLe {α : Type} (ls : List (List α)) (i : Nat) : ((ls.take i).flatten).length ≤ ls.flatten.length := by
  conv => rhs; rw [← List.take_append_drop i ls, List.flatten_append, List.length_append]
  omega
theorem conv_u8 (b : UInt8) : IntKind.i64.wrap ((b.toNat : Nat) : Int) = ((b.toNat : Nat) : Int) := by
  have := b.toNat_lt; rw [IntKind.wrap_i64]; omega
theorem conv_add (b : UInt8) : I64 (0 + ((b.toNat : Nat) : Int)) := by
  have := b.toNat_lt; exact ⟨by omega, by omega⟩
/-- the names that a report mentions, in whatever order -/
def NamesOf (r : Rep) (ns : List ByteArray) : Prop := (∀ x, x ∈ ns ↔ validRep r = true ∧ ∃ e ∈ r.options, x ∈ namesE e) ∧ ns.length ≤ 8
theorem namesE_len {e : Evt} (h : validE e = true) : 1 ≤ (namesE e).length ∧ (namesE e).length ≤ 2 := by
  unfold namesE
  rw [if_neg (by rw [h]; decide)]
  split <;> simp
theorem names_flat : ∀ (l : List Evt), (∀ e ∈ l, validE e = true) → l.length ≤ (l.map namesE).flatten.length ∧ (l.map namesE).flatten.length ≤ 2 * l.length
  | [], _ => by simp
  | e :: r, h => by
    have h1 := namesE_len (h e (by simp))
    have h2 := names_flat r fun x hx => h x (by simp [hx])
    simp only [List.map_cons, List.flatten_cons, List.length_append, List.length_cons]
    omega
theorem names_of_rep {r : Rep} (hv : validRep r = true) {m : List ByteArray} (hm : ∀ x, x ∈ m ↔ x ∈ (r.options.map namesE).flatten) (hl : m.length ≤ (r.options.map namesE).flatten.length) : NamesOf r m := by
  have h1 := names_flat r.options (validRep_e hv)
  have h2 := validRep_len hv
  refine ⟨fun x => ?_, by omega⟩
  rw [hm x, List.mem_flatten]
  constructor
  · rintro ⟨ns, hns, hx⟩
    obtain ⟨e, he, rfl⟩ := List.mem_map.1 hns
    exact ⟨hv, e, he, hx⟩
  · rintro ⟨_, e, he, hx⟩
    exact ⟨_, List.mem_map.2 ⟨e, he, rfl⟩, hx⟩
theorem names_none {r : Rep} (hv : validRep r = false) : NamesOf r [] := ⟨fun x => by simp [hv], by simp⟩
/-! what is left of a list of texts without repetitions -/
structure Cpt (l B : List ByteArray) (k p : Nat) : Prop where
  len : B.length = l.length
  kp : k + 1 ≤ p
  pl : p ≤ l.length
  tail : ∀ j, p - 1 ≤ j → B[j]? = l[j]?
  mem : ∀ x, x ∈ B.take k ↔ x ∈ l.take p
theorem Cpt.start {l : List ByteArray} {k : Nat} (hk : 1 ≤ k) (hl : k < l.length) (h : l[k] = l[k - 1]) : Cpt l l k (k + 1) := by
  refine ⟨rfl, Nat.le_refl _, hl, fun _ _ => rfl, fun x => ?_⟩
  rw [← take_succ_of hl]
  constructor
  · intro hx; exact List.mem_append_left _ hx
  · intro hx
    rcases List.mem_append.1 hx with hx | hx
    · exact hx
    · obtain rfl := List.mem_singleton.1 hx
      rw [h]
      exact List.mem_take_iff_getElem.2 ⟨k - 1, by omega, rfl⟩
theorem Cpt.skip {l B : List ByteArray} {k p : Nat} (h : Cpt l B k p) (hp : p < l.length) (he : l[p] = l[p - 1]) (h1 : 1 ≤ p) : Cpt l B k (p + 1) := by
  refine ⟨h.len, by have := h.kp; omega, hp, fun j hj => h.tail j (by omega), fun x => ?_⟩
  rw [h.mem x, ← take_succ_of hp]
  constructor
  · intro hx; exact List.mem_append_left _ hx
  · intro hx
    rcases List.mem_append.1 hx with hx | hx
    · exact hx
    · obtain rfl := List.mem_singleton.1 hx
      rw [he]
      exact List.mem_take_iff_getElem.2 ⟨p - 1, by omega, rfl⟩
theorem Cpt.keep {l B : List ByteArray} {k p : Nat} (h : Cpt l B k p) (hp : p < l.length) : Cpt l (B.set k l[p]) (k + 1) (p + 1) := by
  have hkp := h.kp
  have hkB : k < B.length := by rw [h.len]; omega
  refine ⟨by rw [List.length_set]; exact h.len, by omega, hp, fun j hj => ?_, fun x => ?_⟩
  · rw [List.getElem?_set_ne (by omega)]; exact h.tail j (by omega)
  · rw [← take_succ_of (l := B.set k l[p]) (i := k) (by rw [List.length_set]; exact hkB), ← take_succ_of hp, List.mem_append, List.mem_append, List.getElem_set_self, List.take_set_of_le (Nat.le_refl _), h.mem x]
theorem Cpt.get {l B : List ByteArray} {k p j : Nat} (h : Cpt l B k p) (hj : p - 1 ≤ j) (hl : j < l.length) (hb : j < B.length) : B[j] = l[j] := by
  have := h.tail j hj
  rw [List.getElem?_eq_getElem hl, List.getElem?_eq_getElem hb] at this
  exact Option.some.inj this
theorem Cpt.done {l B : List ByteArray} {k : Nat} (h : Cpt l B k l.length) (x : ByteArray) : x ∈ B.take k ↔ x ∈ l := by
  rw [h.mem x, List.take_length]
theorem str_clear {B : List ByteArray} {rest : List (List Value)} {zs : List Value} {k m : Nat} (hk : k + m = B.length) : (strCh B ++ rest).take k ++ (List.replicate m zs ++ (strCh B ++ rest).drop (k + m)) = strCh (B.take k) ++ (List.replicate m zs ++ rest) := by
  rw [List.take_append_of_le_length (by rw [str_len]; omega), hk, ← str_len B, List.drop_left, strCh, strCh, List.map_take]
section
variable {P : Program} {ρ : Option Nat} {n : Sz} {E : Ent} {I : IMap} {L : LL} {H : List Res} {Q : Exit → Act → World → Prop} {ops : Array Oper} {K : Act → World → Prop}
variable {d ty : Nat} {pos : String} {af : Array Edge} {x y z : Operand}
/-- a cell of a block of chunks of one -/
theorem v_lds {g off tt t' : Nat} {xss : List (List Value)} {v : Value} (hm : Res.blk g t' xss.flatten ∈ H) (hU : Uk 1 xss) (ht : tyK P tt = some (false, 1)) (hx : ev L x = some (.pointer (some ⟨g, off, none⟩))) (i : Nat) (ho : off = i) (hi : xss[i]? = some [v]) :
    OV P n E I L H ⟨some d, .load tt x, ty, pos, af, none⟩ v := v_ld hm ht hx (by
  subst ho
  have h := flat_at hU hi
  rw [Nat.mul_one] at h
  have := congrArg (fun l : List Value => l[0]?) h
  simpa using this)
theorem v_sidxK {ts : Nat} {s : ByteArray} {i : Int} {kd : IntKind} (ht : P.underlying ts = some .string) (hx : ev L x = some (.string s)) (hy : ev L y = some (.int kd i)) (q : Nat) (hq : i = (q : Int)) (hlt : q < s.size) : OV P n E I L H ⟨some d, .index ts x y, ty, pos, af, none⟩ (.int .u8 ((s[q]!.toNat : Nat) : Int)) :=
  (fun a w st _ => by
    subst hq
    have hs : s[q]? = some (s[q]!) := by rw [getElem?_pos s q hlt, getElem!_pos s q hlt]
    simp [execOp, st.ev hx, st.ev hy, Instr.index, asIntOf, run_underlying ht, hs])
/-- append(nil, make([]T, q)...) -/
theorem o_appendMake0 {tt tn e k bytes q : Nat} {kn kq : IntKind} {zs : List Value} (he : P.underlying tt = some (.slice e)) (hn : P.underlying tn = some (.int kn)) (hb : bytesK P e = some (zs, k, bytes)) (hzs : zs.length = k) (hk0 : Nat.blt 0 k = true)
    (hx : ev L x = some (.slice none 0 0)) (hy : ev L y = some (.int kq (q : Nat))) (hq : 0 < q) (hroom : q * bytes ≤ 140737488355328) (hlen : q ≤ maxLen) (hd : Nat.blt d n.sz = true)
    (kk : ∀ g' r, q + r ≤ maxLen → SX n E I ((d, .slice (some ⟨g', 0, none⟩) q (q + r)) :: L) (.blk g' e (List.replicate (q + r) zs).flatten :: H) K) :
    SX n E I L H (one P ops Q ⟨some d, .call { callee := .builtin .append, args := #[x, y], argTypes := #[tt, tn] }, ty, pos, af, none⟩ K) :=
  o_gen (fun q' : Nat × Nat => .slice (some ⟨q'.1, 0, none⟩) q (q + q'.2)) (fun _ => I) (fun q' => .blk q'.1 e (List.replicate (q + q'.2) zs).flatten :: H) (fun q' => q + q'.2 ≤ maxLen) hd
    (fun a w st mm => by
      unfold bytesK at hb
      split at hb
      · rename_i inf hi
        cases hz : inf.zero with
        | none => simp [hz] at hb
        | some z0 =>
          simp only [hz, Option.map_some, Option.some.injEq, Prod.mk.injEq] at hb
          obtain ⟨hz1, hz2, hz3⟩ := hb
          have hk' : 0 < k := by simpa [Nat.blt_eq] using hk0
          have hz0 : z0.cells = zs.toArray := by rw [← hz1]
          have hold : (Builtin.firstCells inf.size 0 (.slice none 0 0)).run P w.drew = .ok ([] : List Value).toArray w.drew := by
            have hl0 : ∀ (b : Addr), (loadCells b 0).run P w.drew = .ok #[] w.drew := fun b => run_loadCells_list (P := P) w.drew b [] (fun j v hv => by simp at hv)
            simp [Builtin.firstCells, hl0]
          have hg : 0 < 0 + q := by omega
          have hcapq : grownCap w (0 + q) 0 e = q + (grownCap w (0 + q) 0 e - q) := by have := grownCap_ge w (0 + q) 0 e; omega
          have h48 : Builtin.nextslicecap (0 + q) 0 * inf.bytes ≤ 281474976710656 := by
            have h1 : Builtin.nextslicecap (0 + q) 0 * inf.bytes ≤ 2 * (0 + q) * inf.bytes := Nat.mul_le_mul_right _ (Room.nextslicecap_le' hg)
            rw [Nat.mul_assoc, hz3] at h1
            rw [hz3]
            simp only [Nat.zero_add] at h1 ⊢
            omega
          have h48q : q * inf.bytes ≤ 281474976710656 := by rw [hz3]; omega
          have hr := Lib.run_append_grow_zeros (P := P) w tt tn ty e inf z0 kq kn he hn hi hz none 0 0 [] hold q hq (by omega) hg (by unfold maxLen at hlen; omega) h48q h48
          have hzc : ∀ q, Builtin.zeroCells z0.cells q = (List.replicate q zs).flatten.toArray := fun q => by
            have h2 : Builtin.zeroCells zs.toArray q = madeCells zs.toArray (q * zs.length) := by simp [Builtin.zeroCells, madeCells]
            rw [hz0, h2, zrep_made zs (by omega), zrep_flat]
          rw [hzc, hzc] at hr
          simp only [Nat.zero_add] at hr hcapq
          refine ⟨(w.heap.size, grownCap w q 0 e - q), w.drew.alloc (.cells (List.replicate (q + (grownCap w q 0 e - q)) zs).flatten.toArray e), ?_, ?_, mm.drew.alloc e _⟩
          · show q + (grownCap w q 0 e - q) ≤ maxLen
            rw [← hcapq]
            exact grownCap_le_maxLen w q 0 e hlen
          · have e1 : ([] : List Value).toArray ++ (List.replicate q zs).flatten.toArray ++ (List.replicate (grownCap w q 0 e - q) zs).flatten.toArray = (List.replicate (q + (grownCap w q 0 e - q)) zs).flatten.toArray := by
              rw [List.append_toArray []  , List.nil_append, List.append_toArray, ← List.flatten_append, List.replicate_append_replicate]
            rw [e1] at hr
            simp only [execOp, resolve, invoke, builtin, Sem.run_bind, Sem.run_pure, Result.andThen_ok, List.map_toArray, List.map_cons, List.map_nil, st.ev hx, st.ev hy, hr]
            rw [← hcapq]
      · cases hb) fun q' hq' => kk q'.1 q'.2 hq'
theorem FnX.backE {f : FuncId} {args : Array Value} {g e k : Nat} {xs : List Value} {p : Value → Res → Prop}
    (h : FnX P f args I [.blk g e xs] (fun u r => ∃ yss rest m cap, Uk k yss ∧ Uk k rest ∧ yss.length = m ∧ m + rest.length = cap ∧ cap ≤ maxLen ∧ r = .blk g e (yss ++ rest).flatten ∧ p u (.row (.slice (some ⟨g, 0, none⟩) m cap) e k m yss.flatten))) : FnX P f args I [.blk g e xs] p :=
  ⟨fun w m' => (h.go w m').mono fun _ w' ⟨u, I', H', he, hm', hq⟩ => by
    obtain ⟨rfl, r', rfl, yss, rest, m, cap, hU, hR, hm, hc, hl, rfl, hp⟩ := hq
    refine ⟨_, _, _, he, ?_, rfl, _, rfl, hp⟩
    have hb : w'.heap[g]? = some (.cells (yss ++ rest).flatten.toArray e (0, 0)) := hm'.blk
    exact hm'.step rfl rfl rfl (Nat.le_refl _) (fun _ _ _ => rfl) (IsRow.shut hb hU hR hm hc hl) (fun g' hg' => .inl hg')⟩
theorem FnX.weak {f : FuncId} {args : Array Value} {H : List Res} {p q : Value → Res → Prop} (h : FnX P f args I H p) (hpq : ∀ u r, p u r → q u r) : FnX P f args I H q :=
  ⟨fun w m' => (h.go w m').mono fun _ w' ⟨u, I', H', he, hm', hq⟩ => by
    obtain ⟨rfl, r', rfl, hp⟩ := hq
    exact ⟨_, _, _, he, hm', rfl, _, rfl, hpq _ _ hp⟩⟩
theorem FnX.of_rowF {α : Type} [Enc α] {f : FuncId} {args : Value → List Value} {p : Value → Res → Prop} {v : Value} {e k m : Nat} {xs : List Value} {l : List α} (hF : Flat I xs l) (hk : k = Enc.k α) (hm : m = l.length) (h0 : 0 < l.length)
    (h1 : ∀ g cap rest xss, v = .slice (some ⟨g, 0, none⟩) m cap → FlatC I xss l → Uk k rest → m + rest.length = cap → cap ≤ maxLen → FnX P f (args (.slice (some ⟨g, 0, none⟩) m cap)).toArray I [.blk g e (xss ++ rest).flatten] p) : FnX P f (args v).toArray I [.row v e k m xs] p := by
  obtain ⟨xss, rfl, hC⟩ := FlatC.of hF
  exact FnX.of_rowV (by rw [hk]; exact hC.uk) (by rw [hC.len, hm]) (fun h _ => absurd h (by omega)) fun g cap rest hv hR hc hl => h1 g cap rest xss hv hC hR hc hl
end
end Go.Sx

/- Walks, printed by a program out of the code of the functions: each theorem is a contract of one function. -/
namespace Go.Proofs.YtkmdojpfccjnoaaGreat
open Go Go.Sx
set_option linter.all false
set_option maxRecDepth 20000
set_option maxHeartbeats 4000000
instance T.by_57 : Has (bytesK Tryz.prog 57) ([.slice none 0 0], 1, 24) := ⟨by kernel_rfl⟩
instance T.elt_82 : Has (eltK Tryz.prog 82) (57, 1) := ⟨by kernel_rfl⟩
instance T.und_187 : Has (Tryz.prog.underlying 187) (.int .u64) := ⟨by kernel_rfl⟩
instance T.und_82 : Has (Tryz.prog.underlying 82) (.slice 57) := ⟨by kernel_rfl⟩
instance T.zero_57 : Has (zeroK Tryz.prog 57) [.slice none 0 0] := ⟨by kernel_rfl⟩
theorem growS (I : IMap) (n : Nat) (hn : n ≤ 1000000) :
    FnX Tryz.prog 91 #[.slice none 0 0, .int .i64 ((n : Nat) : Int)] I [] (fun u r => r = .row u 9 1 0 []) := by
 refine enter Tryz.func91 Tryz.call91 rfl Tryz.ntmps91 rfl (fun w0 => ?_)
 refine go 9 ?_
 refine o_v rfl (OV.cast (u := .bool false) (v_lss rfl rfl) (congrArg Value.bool (decide_eq_false (by omega)))) ?_
 refine go 2 ?_
 refine c_false rfl ?_
 refine go 7 ?_
 refine o_v rfl (v_cap he rfl) ?_
 refine go 3 ?_
 refine o_v rfl (OV.cast (u := .int .i64 ((n : Nat) : Int)) (v_sub rfl rfl ⟨by omega, by omega⟩) (congrArg (Value.int .i64) (by omega))) ?_
 refine go 9 ?_
 refine cb rfl (fun h16 p16 => ?_) (fun h16 p16 => ?_)
 ·refine go 3 ?_
  refine o_v rfl (v_cap he rfl) ?_
  refine o_v rfl (v_slice_hi he rfl rfl 0 rfl (by omega)) ?_
  refine go 2 ?_
  refine o_appendMake0 he he he rfl rfl rfl rfl (by omega) (by omega) (by unfold maxLen; omega) rfl (fun g22 r22 hr22 => ?_)
  refine go 2 ?_
  refine o_v rfl (v_slice_hi he rfl rfl 0 rfl (by omega)) ?_
  refine go 10 ?_
  refine fin1 rfl rfl ?_
  refine sx_unrow (xss := []) (m := 0) (cap := n + r22) (k := 1) (by intro c hc; cases hc) (Uk.rep rfl _) rfl (by simp) hr22 ?_
  exact q_x rfl
 ·refine go 9 ?_
  refine fin1 rfl rfl ?_
  refine sx_nilrow 9 1 ?_
  exact q_x rfl

theorem concatS (I : IMap) (v : Value) (ls : List (List ByteArray)) (hv : RdS I v ls) (hb : ls.flatten.length ≤ 1000000) (hl : ls.length ≤ 1000000) :
    FnX Tryz.prog 65 #[v] I [] (fun u r => ∃ xs, r = .row u 9 1 ls.flatten.length xs ∧ Flat I xs ls.flatten) := by
 obtain ⟨A, c0, rfl, hA, hc, hm⟩ := hv
 refine enter Tryz.func65 Tryz.call65 rfl Tryz.ntmps65 rfl (fun w0 => ?_)
 refine go 19 ?_
 refine c_loop (α := Nat) 0 (fun i => I)
  (fun i => [(0, .slice A ls.length c0), (3, .int .i64 (((ls.take (i)).flatten.length : Nat) : Int)), (9, .slice A ls.length c0), (10, .int .i64 ((ls.length : Nat) : Int)), (11, .int .i64 ((i : Nat) : Int))])
  (fun i => [])
  (fun i => i ≤ ls.length)
  (fun i => ls.length - i) (Nat.zero_le _) rfl sb rfl ?_
 intro i hi
 have hfi := flat_lenLe ls i
 refine go 6 ?_
 refine cb rfl (fun h12 p12 => ?_) (fun h12 p12 => ?_)
 ·have hlt : i < ls.length := by omega
  have hf1 := congrArg List.length (flat_take1 hlt)
  rw [List.length_append] at hf1
  have hf2 := flat_lenLe ls (i + 1)
  refine go 6 ?_
  obtain ⟨b13, o13, w13, e13, c13, r13⟩ := RdA.at_ hA (i := i) (by omega)
  obtain ⟨q13, rfl, S13, d13, rfl, hS13, hd13, hm13⟩ := r13
  refine o_v rfl (v_idx he rfl rfl e13 (i) (by omega) (by omega)) ?_
  refine o_v rfl (v_ldI he rfl (c13 0 _ rfl)) ?_
  refine go 8 ?_
  refine o_v rfl (OV.cast (u := .int .i64 (((ls.take (i + 1)).flatten.length : Nat) : Int)) (v_add rfl rfl ⟨by omega, by omega⟩) (congrArg (Value.int .i64) (by omega))) ?_
  refine go 6 ?_
  refine o_v rfl (OV.cast (u := .bool false) (v_lss rfl rfl) (congrArg Value.bool (decide_eq_false (by omega)))) ?_
  refine go 2 ?_
  refine c_false rfl ?_
  refine go 8 ?_
  exact q_next (i + 1) (by omega) (by omega) rfl sb rfl
 ·have e : i = ls.length := by omega
  subst e
  rw [List.take_length]
  refine go 9 ?_
  refine o_callX0 (growS _ ls.flatten.length hb) rfl rfl (fun v24 s24 q24 => ?_)
  obtain rfl := q24
  refine go 12 ?_
  refine c_loop3 ((0 : Nat)) (_) ([]) (fun i v6 xs => I)
   (fun i v6 xs => [(0, .slice A ls.length c0), (6, v6), (25, .slice A ls.length c0), (26, .int .i64 ((ls.length : Nat) : Int)), (27, .int .i64 ((i : Nat) : Int))])
   (fun i v6 xs => [.row v6 9 1 (ls.take (i)).flatten.length xs])
   (fun i v6 xs => i ≤ ls.length ∧ Flat I xs (ls.take i).flatten)
   (fun i v6 xs => ls.length - i) ⟨Nat.zero_le _, .nil⟩ rfl sb rfl ?_
  intro i v6 xs ⟨hi, hF⟩
  have hfi := flat_lenLe ls i
  refine go 6 ?_
  refine cb rfl (fun h28 p28 => ?_) (fun h28 p28 => ?_)
  ·have hlt : i < ls.length := by omega
   have hf1 := congrArg List.length (flat_take1 hlt)
   rw [List.length_append] at hf1
   have hf2 := flat_lenLe ls (i + 1)
   refine go 6 ?_
   obtain ⟨b29, o29, w29, e29, c29, r29⟩ := RdA.at_ hA (i := i) (by omega)
   obtain ⟨q29, rfl, S29, d29, rfl, hS29, hd29, hm29⟩ := r29
   refine o_v rfl (v_idx he rfl rfl e29 (i) (by omega) (by omega)) ?_
   refine o_v rfl (v_ldI he rfl (c29 0 _ rfl)) ?_
   refine go 7 ?_
   refine o_appendR (⟨_, _, rfl, hS29, hd29, hm29⟩) rfl he he rfl rfl rfl rfl (by omega) (by omega) rfl (fun v33 x33 f33 => ?_)
   refine go 9 ?_
   exact q_next3 (i + 1) (_) (_) ⟨by omega, by rw [flat_take1 hlt]; exact hF.append f33⟩ (by omega) rfl sb (by rw [flat_take1 hlt, List.length_append])
  ·refine go 12 ?_
   refine fin1 rfl rfl ?_
   have e : i = ls.length := by omega
   subst e
   rw [List.take_length] at hF ⊢
   exact q_x ⟨xs, rfl, hF⟩

theorem isNaNS (I : IMap) (s : ByteArray) :
    FnV Tryz.prog 138 #[.string s] I (.bool false) := by
 refine enter Tryz.func138 Tryz.call138 rfl Tryz.ntmps138 rfl (fun w0 => ?_)
 refine go 14 ?_
 refine fin1 rfl rfl ?_
 exact q_v (congrArg Value.bool (by simp))

theorem lessS (I : IMap) (s t : ByteArray) :
    FnV Tryz.prog 128 #[.string s, .string t] I (.bool (sLt s t)) := by
 refine enter Tryz.func128 Tryz.call128 rfl Tryz.ntmps128 rfl (fun w0 => ?_)
 refine go 9 ?_
 refine o_callV (isNaNS _ s) rfl rfl ?_
 refine go 14 ?_
 refine fin1 rfl rfl ?_
 exact q_v rfl

theorem insStr (I : IMap) {rest : Rst 1} {cap : Nat} (g : Nat) (l : List ByteArray) (hl : 0 < l.length) (hl2 : l.length ≤ 12) (hc : l.length + rest.l.length = cap) (hcm : cap ≤ maxLen) :
    FnX Tryz.prog 122 #[.slice (some ⟨g, 0, none⟩) l.length cap, .int .i64 0, .int .i64 ((l.length : Nat) : Int)] I [.blk g 9 (strCh l ++ rest.l).flatten] (fun u r => u = .tuple #[] ∧ ∃ m, Pm l m ∧ r = .blk g 9 (strCh m ++ rest.l).flatten) := by
 refine enter Tryz.func122 Tryz.call122 rfl Tryz.ntmps122 rfl (fun w0 => ?_)
 refine go 3 ?_
 refine o_v rfl (OV.cast (u := .int .i64 ((1 : Nat) : Int)) (v_add rfl rfl ⟨by omega, by omega⟩) (congrArg (Value.int .i64) (by omega))) ?_
 refine go 4 ?_
 refine c_loop2 (1) (l) (fun i m => I)
  (fun i m => [(0, .slice (some ⟨g, 0, none⟩) l.length cap), (1, .int .i64 0), (2, .int .i64 ((l.length : Nat) : Int)), (6, .int .i64 ((i : Nat) : Int))])
  (fun i m => [.blk g 9 (strCh m ++ rest.l).flatten])
  (fun i m => i ≤ l.length ∧ Pm l m)
  (fun i m => l.length - i) ⟨by omega, Pm.refl l⟩ rfl sb rfl ?_
 intro i m ⟨hi, hpm⟩
 refine go 8 ?_
 refine cb rfl (fun h12 p12 => ?_) (fun h12 p12 => ?_)
 ·have hlt : i < l.length := by omega
  refine go 11 ?_
  refine c_loop2 (i) (m) (fun j k => I)
   (fun j k => [(0, .slice (some ⟨g, 0, none⟩) l.length cap), (1, .int .i64 0), (2, .int .i64 ((l.length : Nat) : Int)), (6, .int .i64 ((i : Nat) : Int)), (7, .int .i64 ((j : Nat) : Int))])
   (fun j k => [.blk g 9 (strCh k ++ rest.l).flatten])
   (fun j k => j ≤ i ∧ Pm l k)
   (fun j k => j) ⟨Nat.le_refl _, hpm⟩ rfl sb rfl ?_
  intro j k ⟨hj, hpk⟩
  have hkl := hpk.1
  refine go 2 ?_
  refine d_startH T.mixed ?_
  refine d_tv 0 rfl rfl (by kernel_rfl) rfl (.refl _) rfl (v_move rfl) ?_
  refine d_tv 1 rfl rfl (by kernel_rfl) rfl (.refl _) rfl (v_move rfl) ?_
  refine d_tv 2 rfl rfl (by kernel_rfl) rfl (.refl _) rfl (v_gtr rfl rfl) ?_
  refine d_tv 3 rfl rfl (by kernel_rfl) rfl (.refl _) rfl (v_move rfl) ?_
  refine sxb 19 rfl (fun h19 p19 => ?_) (fun h19 p19 => ?_)
  ·have hjk : j < k.length := by omega
   have hjk1 : j - 1 < k.length := by omega
   refine d_t 4 rfl rfl (by kernel_rfl) rfl (fun _ m => m.keeps (.refl _)) (y_yes rfl rfl h19 (v_move rfl)) ?_
   refine d_t 5 rfl rfl (by kernel_rfl) rfl (fun _ m => m.keeps (.refl _)) (y_yes rfl rfl h19 (v_move rfl)) ?_
   refine d_t 6 rfl rfl (by kernel_rfl) rfl (fun _ m => m.keeps (.refl _)) (y_yes rfl rfl h19 (v_idx he rfl rfl rfl (j) (by omega) (by omega))) ?_
   refine d_t 7 rfl rfl (by kernel_rfl) rfl (fun _ m => m.keeps (.refl _)) (y_yes rfl rfl h19 (v_lds m0 (Uk.append (str_uk _) rest.uk) he rfl (j) (by omega) (str_at hjk))) ?_
   refine d_t 8 rfl rfl (by kernel_rfl) rfl (fun _ m => m.keeps (.refl _)) (y_yes rfl rfl h19 (v_move rfl)) ?_
   refine d_t 9 rfl rfl (by kernel_rfl) rfl (fun _ m => m.keeps (.refl _)) (y_yes rfl rfl h19 (v_move rfl)) ?_
   refine d_t 10 rfl rfl (by kernel_rfl) rfl (fun _ m => m.keeps (.refl _)) (y_yes rfl rfl h19 (OV.cast (u := .int .i64 ((j - 1 : Nat) : Int)) (v_sub rfl rfl ⟨by omega, by omega⟩) (congrArg (Value.int .i64) (by omega)))) ?_
   refine d_t 11 rfl rfl (by kernel_rfl) rfl (fun _ m => m.keeps (.refl _)) (y_yes rfl rfl h19 (v_idx he rfl rfl rfl (j - 1) (by omega) (by omega))) ?_
   refine d_t 12 rfl rfl (by kernel_rfl) rfl (fun _ m => m.keeps (.refl _)) (y_yes rfl rfl h19 (v_lds m0 (Uk.append (str_uk _) rest.uk) he rfl (j - 1) (by omega) (str_at hjk1))) ?_
   refine d_one 13 (by kernel_rfl) rfl ?_
   refine o_yes rfl rfl h19 (o_callV (lessS _ _ _) rfl rfl ?_)
   refine d_on (fun _ m => m.keeps (.refl _)) ?_
   refine d_tv 14 rfl rfl (by kernel_rfl) rfl (.refl _) rfl (v_and_t h19 rfl rfl) ?_
   refine d_done (by kernel_rfl) ?_
   refine go 1 ?_
   refine cb rfl (fun h30 p30 => ?_) (fun h30 p30 => ?_)
   ·refine go 4 ?_
    refine d_start1 T.mixed ?_
    refine d_tv 0 rfl rfl (by kernel_rfl) rfl (.cons _ .slnil) rfl (v_move rfl) ?_
    refine d_tv 1 rfl rfl (by kernel_rfl) rfl (.cons _ .slnil) rfl (v_move rfl) ?_
    refine d_tv 2 rfl rfl (by kernel_rfl) rfl (.cons _ .slnil) rfl (v_move rfl) ?_
    refine d_tv 3 rfl rfl (by kernel_rfl) rfl (.cons _ .slnil) rfl (v_move rfl) ?_
    refine d_tv 4 rfl rfl (by kernel_rfl) rfl (.cons _ .slnil) rfl (OV.cast (u := .int .i64 ((j - 1 : Nat) : Int)) (v_sub rfl rfl ⟨by omega, by omega⟩) (congrArg (Value.int .i64) (by omega))) ?_
    refine d_tv 5 rfl rfl (by kernel_rfl) rfl (.cons _ .slnil) rfl (v_move rfl) ?_
    refine d_tv 6 rfl rfl (by kernel_rfl) rfl (.cons _ .slnil) rfl (v_move rfl) ?_
    refine d_tv 7 rfl rfl (by kernel_rfl) rfl (.cons _ .slnil) rfl (OV.cast (u := .int .i64 ((j - 1 : Nat) : Int)) (v_sub rfl rfl ⟨by omega, by omega⟩) (congrArg (Value.int .i64) (by omega))) ?_
    refine d_tv 8 rfl rfl (by kernel_rfl) rfl (.cons _ .slnil) rfl (v_idx he rfl rfl rfl (j - 1) (by omega) (by omega)) ?_
    refine d_tv 10 rfl rfl (by kernel_rfl) rfl (.cons _ .slnil) rfl (v_move rfl) ?_
    refine d_tv 11 rfl rfl (by kernel_rfl) rfl (.cons _ .slnil) rfl (v_move rfl) ?_
    refine d_tv 12 rfl rfl (by kernel_rfl) rfl (.cons _ .slnil) rfl (v_idx he rfl rfl rfl (j) (by omega) (by omega)) ?_
    refine d_two 9 13 (by kernel_rfl) rfl rfl ?_ ?_
    ·refine o_val rfl (v_lds m0 (Uk.append (str_uk _) rest.uk) he rfl (j - 1) (by omega) (str_at hjk1)) ?_
     refine d_on (fun _ m => m.keeps (.cons _ .slnil)) ?_
     refine d_one 13 (by kernel_rfl) rfl ?_
     refine o_val rfl (v_lds m0 (Uk.append (str_uk _) rest.uk) he rfl (j) (by omega) (str_at hjk)) ?_
     refine d_on (fun _ m => m.keeps (.cons _ .slnil)) ?_
     refine d_tv 14 rfl rfl (by kernel_rfl) rfl (.cons _ .slnil) rfl (v_idx he rfl rfl rfl (j) (by omega) (by omega)) ?_
     refine d_one 15 (by kernel_rfl) rfl ?_
     refine o_stc _ (j) (by first | exact Uk.append (str_uk _) rest.uk | exact (Uk.append (str_uk _) rest.uk).set rfl _) he rfl rfl rfl rfl rfl (by omega) (by simp [str_len]; omega) ?_
     refine d_on (fun _ m => m.keeps (.cons _ .slnil)) ?_
     refine d_tv 16 rfl rfl (by kernel_rfl) rfl (.cons _ .slnil) rfl (v_idx he rfl rfl rfl (j - 1) (by omega) (by omega)) ?_
     refine d_one 17 (by kernel_rfl) rfl ?_
     refine o_stc _ (j - 1) (by first | exact Uk.append (str_uk _) rest.uk | exact (Uk.append (str_uk _) rest.uk).set rfl _) he rfl rfl rfl rfl rfl (by omega) (by simp [str_len]; omega) ?_
     refine d_on (fun _ m => m.keeps (.cons _ .slnil)) ?_
     refine d_done (by kernel_rfl) ?_
     refine go 4 ?_
     refine o_v rfl (OV.cast (u := .int .i64 ((j - 1 : Nat) : Int)) (v_sub rfl rfl ⟨by omega, by omega⟩) (congrArg (Value.int .i64) (by omega))) ?_
     refine go 3 ?_
     exact q_next2 (j - 1) ((k.set j k[j - 1]).set (j - 1) k[j]) ⟨by omega, hpk.swap hjk hjk1⟩ (by omega) rfl sb (by first | rw [← str_swp hjk hjk1] | rw [← str_swp' hjk hjk1 (by omega)])
    ·refine o_val rfl (v_lds m0 (Uk.append (str_uk _) rest.uk) he rfl (j) (by omega) (str_at hjk)) ?_
     refine d_on (fun _ m => m.keeps (.cons _ .slnil)) ?_
     refine d_one 9 (by kernel_rfl) rfl ?_
     refine o_val rfl (v_lds m0 (Uk.append (str_uk _) rest.uk) he rfl (j - 1) (by omega) (str_at hjk1)) ?_
     refine d_on (fun _ m => m.keeps (.cons _ .slnil)) ?_
     refine d_tv 14 rfl rfl (by kernel_rfl) rfl (.cons _ .slnil) rfl (v_idx he rfl rfl rfl (j) (by omega) (by omega)) ?_
     refine d_one 15 (by kernel_rfl) rfl ?_
     refine o_stc _ (j) (by first | exact Uk.append (str_uk _) rest.uk | exact (Uk.append (str_uk _) rest.uk).set rfl _) he rfl rfl rfl rfl rfl (by omega) (by simp [str_len]; omega) ?_
     refine d_on (fun _ m => m.keeps (.cons _ .slnil)) ?_
     refine d_tv 16 rfl rfl (by kernel_rfl) rfl (.cons _ .slnil) rfl (v_idx he rfl rfl rfl (j - 1) (by omega) (by omega)) ?_
     refine d_one 17 (by kernel_rfl) rfl ?_
     refine o_stc _ (j - 1) (by first | exact Uk.append (str_uk _) rest.uk | exact (Uk.append (str_uk _) rest.uk).set rfl _) he rfl rfl rfl rfl rfl (by omega) (by simp [str_len]; omega) ?_
     refine d_on (fun _ m => m.keeps (.cons _ .slnil)) ?_
     refine d_done (by kernel_rfl) ?_
     refine go 4 ?_
     refine o_v rfl (OV.cast (u := .int .i64 ((j - 1 : Nat) : Int)) (v_sub rfl rfl ⟨by omega, by omega⟩) (congrArg (Value.int .i64) (by omega))) ?_
     refine go 3 ?_
     exact q_next2 (j - 1) ((k.set j k[j - 1]).set (j - 1) k[j]) ⟨by omega, hpk.swap hjk hjk1⟩ (by omega) rfl sb (by first | rw [← str_swp hjk hjk1] | rw [← str_swp' hjk hjk1 (by omega)])
   ·refine go 12 ?_
    exact q_next2 (i + 1) (k) ⟨by omega, hpk⟩ (by omega) rfl sb rfl
  ·refine d_t 4 rfl rfl (by kernel_rfl) rfl (fun _ m => m.keeps (.refl _)) (y_no rfl rfl h19) ?_
   refine d_t 5 rfl rfl (by kernel_rfl) rfl (fun _ m => m.keeps (.refl _)) (y_no rfl rfl h19) ?_
   refine d_t 6 rfl rfl (by kernel_rfl) rfl (fun _ m => m.keeps (.refl _)) (y_no rfl rfl h19) ?_
   refine d_t 7 rfl rfl (by kernel_rfl) rfl (fun _ m => m.keeps (.refl _)) (y_no rfl rfl h19) ?_
   refine d_t 8 rfl rfl (by kernel_rfl) rfl (fun _ m => m.keeps (.refl _)) (y_no rfl rfl h19) ?_
   refine d_t 9 rfl rfl (by kernel_rfl) rfl (fun _ m => m.keeps (.refl _)) (y_no rfl rfl h19) ?_
   refine d_t 10 rfl rfl (by kernel_rfl) rfl (fun _ m => m.keeps (.refl _)) (y_no rfl rfl h19) ?_
   refine d_t 11 rfl rfl (by kernel_rfl) rfl (fun _ m => m.keeps (.refl _)) (y_no rfl rfl h19) ?_
   refine d_t 12 rfl rfl (by kernel_rfl) rfl (fun _ m => m.keeps (.refl _)) (y_no rfl rfl h19) ?_
   refine d_t 13 rfl rfl (by kernel_rfl) rfl (fun _ m => m.keeps (.refl _)) (y_no rfl rfl h19) ?_
   refine d_tv 14 rfl rfl (by kernel_rfl) rfl (.refl _) rfl (v_and_f h19 rfl) ?_
   refine d_done (by kernel_rfl) ?_
   refine go 1 ?_
   refine c_false rfl ?_
   refine go 12 ?_
   exact q_next2 (i + 1) (k) ⟨by omega, hpk⟩ (by omega) rfl sb rfl
 ·refine go 4 ?_
  refine end0 rfl ?_
  exact q_x ⟨rfl, m, hpm, rfl⟩

theorem pdqStr (I : IMap) {rest : Rst 1} {cap : Nat} (g : Nat) (l : List ByteArray) (hl : 0 < l.length) (hl2 : l.length ≤ 12) (hc : l.length + rest.l.length = cap) (hcm : cap ≤ maxLen) (z : Int) :
    FnX Tryz.prog 92 #[.slice (some ⟨g, 0, none⟩) l.length cap, .int .i64 0, .int .i64 ((l.length : Nat) : Int), .int .i64 z] I [.blk g 9 (strCh l ++ rest.l).flatten] (fun u r => u = .tuple #[] ∧ ∃ m, Pm l m ∧ r = .blk g 9 (strCh m ++ rest.l).flatten) := by
 refine enter Tryz.func92 Tryz.call92 rfl Tryz.ntmps92 rfl (fun w0 => ?_)
 refine go 11 ?_
 refine c_loop (α := Nat) 0 (fun i => I)
  (fun i => [(0, .slice (some ⟨g, 0, none⟩) l.length cap), (1, .int .i64 0), (2, .int .i64 ((l.length : Nat) : Int))])
  (fun i => [.blk g 9 (strCh l ++ rest.l).flatten])
  (fun i => True)
  (fun i => 0) trivial rfl sb rfl ?_
 intro i _
 refine go 5 ?_
 refine o_v rfl (OV.cast (u := .int .i64 ((l.length : Nat) : Int)) (v_sub rfl rfl ⟨by omega, by omega⟩) (congrArg (Value.int .i64) (by omega))) ?_
 refine go 7 ?_
 refine o_v rfl (OV.cast (u := .bool true) (v_leq rfl rfl) (congrArg Value.bool (decide_eq_true (by omega)))) ?_
 refine go 2 ?_
 refine c_true rfl ?_
 refine go 6 ?_
 refine o_callX1 (insStr _ g l hl hl2 hc hcm) rfl rfl (fun v27 s27 q27 => ?_)
 obtain ⟨rfl, m, hpm, rfl⟩ := q27
 refine go 7 ?_
 refine fin0 rfl ?_
 exact q_x ⟨rfl, m, hpm, rfl⟩

theorem len64 (I : IMap) (n : Nat) (hn : n < 200) :
    FnE Tryz.prog 132 #[.int .u64 ((n : Nat) : Int)] I (fun u => ∃ k : Nat, u = .int .i64 (k : Int)) := by
 refine enter Tryz.func132 Tryz.call132 rfl Tryz.ntmps132 rfl (fun w0 => ?_)
 refine go 9 ?_
 refine o_v rfl (OV.cast (u := .bool false) (v_geq rfl rfl) (congrArg Value.bool (decide_eq_false (by omega)))) ?_
 refine go 2 ?_
 refine c_false rfl ?_
 refine go 6 ?_
 refine o_v rfl (OV.cast (u := .bool false) (v_geq rfl rfl) (congrArg Value.bool (decide_eq_false (by omega)))) ?_
 refine go 2 ?_
 refine c_false rfl ?_
 refine go 6 ?_
 refine o_v rfl (OV.cast (u := .bool false) (v_geq rfl rfl) (congrArg Value.bool (decide_eq_false (by omega)))) ?_
 refine go 2 ?_
 refine c_false rfl ?_
 refine go 6 ?_
 refine o_v rfl (v_conv he he rfl (m := ((n : Nat) : Int)) (wrap_u8 n (by omega))) ?_
 refine o_v rfl (v_sidxK he rfl rfl n rfl (Nat.lt_of_lt_of_le hn (by decide +kernel))) ?_
 refine o_v rfl (v_conv he he rfl (conv_u8 _)) ?_
 refine o_v rfl (v_add rfl rfl (conv_add _)) ?_
 refine go 4 ?_
 refine fin1 rfl rfl ?_
 exact q_e ⟨_, by rw [Int.zero_add]⟩

theorem bitsLen (I : IMap) (n : Nat) (hn : n < 200) :
    FnE Tryz.prog 93 #[.int .u64 ((n : Nat) : Int)] I (fun u => ∃ k : Nat, u = .int .i64 (k : Int)) := by
 refine enter Tryz.func93 Tryz.call93 rfl Tryz.ntmps93 rfl (fun w0 => ?_)
 refine go 6 ?_
 refine c_false rfl ?_
 refine go 6 ?_
 refine o_callE (len64 _ n hn) rfl rfl (fun v7 q7 => ?_)
 obtain ⟨k, rfl⟩ := q7
 refine go 4 ?_
 refine fin1 rfl rfl ?_
 exact q_e ⟨_, rfl⟩

theorem sortStr (I : IMap) {rest : Rst 1} {cap : Nat} (g : Nat) (l : List ByteArray) (hl : 0 < l.length) (hl2 : l.length ≤ 12) (hc : l.length + rest.l.length = cap) (hcm : cap ≤ maxLen) :
    FnX Tryz.prog 66 #[.slice (some ⟨g, 0, none⟩) l.length cap] I [.blk g 9 (strCh l ++ rest.l).flatten] (fun u r => u = .tuple #[] ∧ ∃ m, Pm l m ∧ r = .blk g 9 (strCh m ++ rest.l).flatten) := by
 refine enter Tryz.func66 Tryz.call66 rfl Tryz.ntmps66 rfl (fun w0 => ?_)
 refine go 11 ?_
 refine o_v rfl (v_conv he he rfl (m := ((l.length : Nat) : Int)) (wrap_u64 _ (by omega) (by omega))) ?_
 refine go 1 ?_
 refine o_callE (bitsLen _ l.length (by omega)) rfl rfl (fun v9 q9 => ?_)
 obtain ⟨z, rfl⟩ := q9
 refine go 1 ?_
 refine o_callX1 (pdqStr _ g l hl hl2 hc hcm z) rfl rfl (fun v10 s10 q10 => ?_)
 obtain ⟨rfl, m, hpm, rfl⟩ := q10
 refine go 1 ?_
 refine end0 rfl ?_
 exact q_x ⟨rfl, m, hpm, rfl⟩

theorem compactStr (I : IMap) {rest : Rst 1} {cap : Nat} (g : Nat) (l : List ByteArray) (hl : 0 < l.length) (hl2 : l.length ≤ 12) (hc : l.length + rest.l.length = cap) (hcm : cap ≤ maxLen) :
    FnX Tryz.prog 67 #[.slice (some ⟨g, 0, none⟩) l.length cap] I [.blk g 9 (strCh l ++ rest.l).flatten] (fun u r => ∃ m rest2, (∀ x, x ∈ m ↔ x ∈ l) ∧ m.length ≤ l.length ∧ u = .slice (some ⟨g, 0, none⟩) m.length cap ∧ r = .blk g 9 (strCh m ++ rest2).flatten ∧ Uk 1 rest2 ∧ m.length + rest2.length = cap) := by
 refine enter Tryz.func67 Tryz.call67 rfl Tryz.ntmps67 rfl (fun w0 => ?_)
 refine go 13 ?_
 refine cb rfl (fun h8 p8 => ?_) (fun h8 p8 => ?_)
 ·refine go 8 ?_
  refine fin1 rfl rfl ?_
  exact q_x ⟨l, rest.l, fun _ => Iff.rfl, Nat.le_refl _, rfl, rfl, rest.uk, hc⟩
 ·refine go 9 ?_
  refine c_loop (α := Nat) 1 (fun k0 => I)
   (fun k0 => [(0, .slice (some ⟨g, 0, none⟩) l.length cap), (3, .int .i64 ((k0 : Nat) : Int))])
   (fun k0 => [.blk g 9 (strCh l ++ rest.l).flatten])
   (fun k0 => 1 ≤ k0 ∧ k0 ≤ l.length)
   (fun k0 => l.length - k0) ⟨Nat.le_refl _, hl⟩ rfl sb rfl ?_
  intro k0 ⟨hk1, hk2⟩
  refine go 9 ?_
  refine cb rfl (fun h13 p13 => ?_) (fun h13 p13 => ?_)
  ·have hkl : k0 < l.length := by omega
   have hkm : k0 - 1 < l.length := by omega
   refine go 5 ?_
   refine d_startH T.mixed ?_
   refine d_tv 0 rfl rfl (by kernel_rfl) rfl (.refl _) rfl (v_move rfl) ?_
   refine d_tv 1 rfl rfl (by kernel_rfl) rfl (.refl _) rfl (v_move rfl) ?_
   refine d_tv 2 rfl rfl (by kernel_rfl) rfl (.refl _) rfl (v_idx he rfl rfl rfl (k0) (by omega) (by omega)) ?_
   refine d_tv 3 rfl rfl (by kernel_rfl) rfl (.refl _) rfl (v_lds m0 (Uk.append (str_uk _) rest.uk) he rfl (k0) (by omega) (str_at hkl)) ?_
   refine d_tv 4 rfl rfl (by kernel_rfl) rfl (.refl _) rfl (v_move rfl) ?_
   refine d_tv 5 rfl rfl (by kernel_rfl) rfl (.refl _) rfl (v_move rfl) ?_
   refine d_tv 6 rfl rfl (by kernel_rfl) rfl (.refl _) rfl (OV.cast (u := .int .i64 ((k0 - 1 : Nat) : Int)) (v_sub rfl rfl ⟨by omega, by omega⟩) (congrArg (Value.int .i64) (by omega))) ?_
   refine d_tv 7 rfl rfl (by kernel_rfl) rfl (.refl _) rfl (v_idx he rfl rfl rfl (k0 - 1) (by omega) (by omega)) ?_
   refine d_tv 8 rfl rfl (by kernel_rfl) rfl (.refl _) rfl (v_lds m0 (Uk.append (str_uk _) rest.uk) he rfl (k0 - 1) (by omega) (str_at hkm)) ?_
   refine d_tv 9 rfl rfl (by kernel_rfl) rfl (.refl _) rfl (v_seql rfl rfl) ?_
   refine d_done (by kernel_rfl) ?_
   refine go 1 ?_
   refine cb rfl (fun h25 p25 => ?_) (fun h25 p25 => ?_)
   ·have hst : Cpt l l k0 (k0 + 1) := Cpt.start hk1 hkl p25
    refine go 4 ?_
    refine o_v rfl (OV.cast (u := .slice (some ⟨g, k0, none⟩) (l.length - k0) (cap - k0)) (v_slice_lo he rfl rfl k0 (by omega) (by omega)) (by rw [cutA, if_neg (by omega)]; simp [add_lit])) ?_
    refine go 10 ?_
    refine c_loop3 (1) (k0) (l) (fun q k B => I)
     (fun q k B => [(0, .slice (some ⟨g, 0, none⟩) l.length cap), (3, .int .i64 ((k : Nat) : Int)), (4, .slice (some ⟨g, k0, none⟩) (l.length - k0) (cap - k0)), (5, .int .i64 ((q : Nat) : Int))])
     (fun q k B => [.blk g 9 (strCh B ++ rest.l).flatten])
     (fun q k B => 1 ≤ q ∧ 1 ≤ k ∧ Cpt l B k (k0 + q))
     (fun q k B => l.length - (k0 + q)) ⟨Nat.le_refl _, hk1, hst⟩ rfl sb rfl ?_
    intro q k B ⟨hq, hk, hB⟩
    have hBl := hB.len
    have hkp := hB.kp
    have hpl := hB.pl
    refine go 5 ?_
    refine o_v rfl (OV.cast (u := .int .i64 ((l.length - k0 : Nat) : Int)) (v_len_slice he rfl) rfl) ?_
    refine go 3 ?_
    refine cb rfl (fun h32 p32 => ?_) (fun h32 p32 => ?_)
    ·have hpq : k0 + q < l.length := by omega
     have hpB : k0 + q < B.length := by omega
     have hpm : k0 + q - 1 < B.length := by omega
     have hg1 := hB.get (j := k0 + q) (by omega) hpq hpB
     have hg2 := hB.get (j := k0 + q - 1) (by omega) (by omega) hpm
     refine go 5 ?_
     refine d_startH T.mixed ?_
     refine d_tv 0 rfl rfl (by kernel_rfl) rfl (.refl _) rfl (v_move rfl) ?_
     refine d_tv 1 rfl rfl (by kernel_rfl) rfl (.refl _) rfl (v_move rfl) ?_
     refine d_tv 2 rfl rfl (by kernel_rfl) rfl (.refl _) rfl (v_idx he rfl rfl rfl (q) (by omega) (by omega)) ?_
     refine d_tv 3 rfl rfl (by kernel_rfl) rfl (.refl _) rfl (v_lds m0 (Uk.append (str_uk _) rest.uk) he rfl (k0 + q) (by omega) (str_at hpB)) ?_
     refine d_tv 4 rfl rfl (by kernel_rfl) rfl (.refl _) rfl (v_move rfl) ?_
     refine d_tv 5 rfl rfl (by kernel_rfl) rfl (.refl _) rfl (v_move rfl) ?_
     refine d_tv 6 rfl rfl (by kernel_rfl) rfl (.refl _) rfl (OV.cast (u := .int .i64 ((q - 1 : Nat) : Int)) (v_sub rfl rfl ⟨by omega, by omega⟩) (congrArg (Value.int .i64) (by omega))) ?_
     refine d_tv 7 rfl rfl (by kernel_rfl) rfl (.refl _) rfl (v_idx he rfl rfl rfl (q - 1) (by omega) (by omega)) ?_
     refine d_tv 8 rfl rfl (by kernel_rfl) rfl (.refl _) rfl (v_lds m0 (Uk.append (str_uk _) rest.uk) he rfl (k0 + q - 1) (by omega) (str_at hpm)) ?_
     refine d_tv 9 rfl rfl (by kernel_rfl) rfl (.refl _) rfl (v_sneq rfl rfl) ?_
     refine d_done (by kernel_rfl) ?_
     refine go 1 ?_
     refine cb rfl (fun h44 p44 => ?_) (fun h44 p44 => ?_)
     ·refine go 6 ?_
      refine o_v rfl (v_idx he rfl rfl rfl (q) (by omega) (by omega)) ?_
      refine o_v rfl (v_lds m0 (Uk.append (str_uk _) rest.uk) he rfl (k0 + q) (by omega) (str_at hpB)) ?_
      refine o_v rfl (v_idx he rfl rfl rfl (k) (by omega) (by omega)) ?_
      refine go 1 ?_
      refine o_stc _ (k) (Uk.append (str_uk _) rest.uk) he rfl rfl rfl rfl rfl (by omega) (by simp [str_len]; omega) ?_
      refine go 15 ?_
      exact q_next3 (q + 1) (k + 1) (B.set k l[k0 + q]) ⟨by omega, by omega, hB.keep hpq⟩ (by omega) rfl sb (by rw [← hg1, ← str_set (by omega)])
     ·refine go 9 ?_
      exact q_next3 (q + 1) (k) (B) ⟨by omega, hk, hB.skip hpq (by rw [← hg1, ← hg2]; simpa using h44) (by omega)⟩ (by omega) rfl sb rfl
    ·have hend : k0 + q = l.length := by omega
     have hdone := fun x => (hend ▸ hB).done x
     refine go 9 ?_
     refine o_v rfl (OV.cast (u := .slice (some ⟨g, k, none⟩) (l.length - k) (cap - k)) (v_slice_lo he rfl rfl k (by omega) (by omega)) (by rw [cutA, if_neg (by omega)]; simp [add_lit])) ?_
     refine go 1 ?_
     refine o_clear k he he rfl rfl rfl rfl (Uk.append (str_uk _) rest.uk) (fun _ => by rw [Nat.mul_one]) (by simp [str_len]; omega) ?_
     rw [str_clear (by omega)]
     refine go 6 ?_
     refine o_v rfl (v_slice_hi he rfl rfl k (by omega) (by omega)) ?_
     refine go 9 ?_
     refine fin1 rfl rfl ?_
     refine q_x ⟨B.take k, List.replicate (l.length - k) [.string ⟨#[]⟩] ++ rest.l, hdone, by rw [List.length_take]; omega, ?_, rfl, (Uk.rep rfl _).append rest.uk, by rw [List.length_take, List.length_append, List.length_replicate]; omega⟩
     rw [List.length_take, Nat.min_eq_left (by omega)]
   ·refine go 9 ?_
    exact q_next (k0 + 1) ⟨by omega, by omega⟩ (by omega) rfl sb rfl
  ·refine go 12 ?_
   refine fin1 rfl rfl ?_
   exact q_x ⟨l, rest.l, fun _ => Iff.rfl, Nat.le_refl _, rfl, rfl, rest.uk, hc⟩

theorem sortRow (I : IMap) (v : Value) (l : List ByteArray) (xs : List Value) (hF : Flat I xs l) (hl : 0 < l.length) (hl2 : l.length ≤ 12) :
    FnX Tryz.prog 66 #[v] I [.row v 9 1 l.length xs] (fun u r => u = .tuple #[] ∧ ∃ m ys, Pm l m ∧ Flat I ys m ∧ r = .row v 9 1 l.length ys) :=
  FnX.of_rowF (args := fun v => [v]) hF rfl rfl hl fun g cap rest xss hv hC hR hc hcm => by
    subst hv
    obtain rfl := str_of hC
    refine FnX.backE (k := 1) ((sortStr I (rest := ⟨rest, hR⟩) g l hl hl2 hc hcm).weak ?_)
    rintro u r ⟨rfl, m, hpm, rfl⟩
    exact ⟨strCh m, rest, l.length, cap, str_uk m, hR, by rw [str_len, hpm.1], hc, hcm, rfl, rfl, m, _, hpm, (str_flat I m).flat, rfl⟩
theorem compactRow (I : IMap) (v : Value) (l : List ByteArray) (xs : List Value) (hF : Flat I xs l) (hl : 0 < l.length) (hl2 : l.length ≤ 12) :
    FnX Tryz.prog 67 #[v] I [.row v 9 1 l.length xs] (fun u r => ∃ m ys, (∀ x, x ∈ m ↔ x ∈ l) ∧ m.length ≤ l.length ∧ Flat I ys m ∧ r = .row u 9 1 m.length ys) :=
  FnX.of_rowF (args := fun v => [v]) hF rfl rfl hl fun g cap rest xss hv hC hR hc hcm => by
    subst hv
    obtain rfl := str_of hC
    refine FnX.backE (k := 1) ((compactStr I (rest := ⟨rest, hR⟩) g l hl hl2 hc hcm).weak ?_)
    rintro u r ⟨m, rest2, hm, hml, rfl, rfl, hR2, hc2⟩
    exact ⟨strCh m, rest2, m.length, cap, str_uk m, hR2, str_len m, hc2, hcm, rfl, m, _, hm, hml, (str_flat I m).flat, rfl⟩

theorem joinedS (I : IMap) (v : Value) (ls : List (List ByteArray)) (hv : RdS I v ls) (hl : ls.length ≤ 1000000) (h1 : 0 < ls.flatten.length) (h2 : ls.flatten.length ≤ 12) :
    FnX Tryz.prog 46 #[v] I [] (fun u r => ∃ m ys, (∀ x, x ∈ m ↔ x ∈ ls.flatten) ∧ m.length ≤ ls.flatten.length ∧ Flat I ys m ∧ r = .row u 9 1 m.length ys) := by
 refine enter Tryz.func46 Tryz.call46 rfl Tryz.ntmps46 rfl (fun w0 => ?_)
 refine go 9 ?_
 refine o_callX0 (concatS _ v ls hv (by omega) hl) rfl rfl (fun v5 s5 q5 => ?_)
 obtain ⟨xs5, rfl, hF5⟩ := q5
 refine go 7 ?_
 refine o_callX1 (sortRow _ _ ls.flatten xs5 hF5 h1 h2) rfl rfl (fun v7 s7 q7 => ?_)
 obtain ⟨rfl, m, ys, hpm, hFm, rfl⟩ := q7
 rw [← hpm.1]
 refine go 6 ?_
 refine o_callX1 (compactRow _ _ m ys hFm (by rw [hpm.1]; exact h1) (by rw [hpm.1]; exact h2)) rfl rfl (fun v9 s9 q9 => ?_)
 obtain ⟨m2, zs, hm2, hl2, hFz, rfl⟩ := q9
 refine go 4 ?_
 refine fin1 rfl rfl ?_
 exact q_x ⟨m2, zs, fun x => (hm2 x).trans (hpm.2 x), by have := hpm.1; omega, hFz, rfl⟩

theorem repNames (I : IMap) (r : Rep) (S : Option Addr) (d : Nat) (hr : RdS I (.slice S r.options.length d) r.options) (hs : ∀ e ∈ r.options, SmE e) :
    FnI Tryz.prog 25 #[.agg (r.cells (.slice S r.options.length d)).toArray] I (fun u J => ∃ ns, RdS J u ns ∧ NamesOf r ns) := by
 have hSA : RdA I S r.options := hr.toA
 have hl5 := hr.lenLe
 refine enter Tryz.func25 Tryz.call25 rfl Tryz.ntmps25 rfl (fun w0 => ?_)
 refine go 3 ?_
 refine o_box _ rfl rfl rfl (fun g1 => ?_)
 refine go 8 ?_
 refine o_callV (repValid _ r S d hr hs) rfl rfl ?_
 refine go 3 ?_
 refine cb rfl (fun h8 p8 => ?_) (fun h8 p8 => ?_)
 ·refine go 7 ?_
  refine fin1 rfl rfl ?_
  exact q_i ⟨[], RdS.nil', names_none (by simpa using h8)⟩
 ·have hvr : validRep r = true := by simpa using h8
  have hvl := validRep_len hvr
  refine go 4 ?_
  refine sx_nilrow 57 1 ?_
  refine go 13 ?_
  refine bring1 ?_
  refine sx_drop ?_
  refine c_loop4 ((0 : Nat)) (_) ([]) (I) (fun i v3 xs J => J)
   (fun i v3 xs J => [(3, v3), (10, .slice S r.options.length d), (11, .int .i64 ((r.options.length : Nat) : Int)), (12, .int .i64 ((i : Nat) : Int))])
   (fun i v3 xs J => [.row v3 57 1 i xs])
   (fun i v3 xs J => i ≤ r.options.length ∧ ILe I J ∧ Flat J xs ((r.options.take i).map namesE))
   (fun i v3 xs J => r.options.length - i) ⟨Nat.zero_le _, ILe.refl _, .nil⟩ rfl sb rfl ?_
  intro i v3 xs J ⟨hi, hJ, hF⟩
  have hSA := hSA.le hJ
  refine go 6 ?_
  refine cb rfl (fun h13 p13 => ?_) (fun h13 p13 => ?_)
  ·have hlt : i < r.options.length := by omega
   refine go 6 ?_
   obtain ⟨b14, o14, w14, e14, c14, r14⟩ := RdA.at_ hSA (i := i) (by omega)
   obtain rfl := r14
   refine o_v rfl (v_idx he rfl rfl e14 (i) (by omega) (by omega)) ?_
   refine o_v rfl (v_ldIa he rfl c14 rfl) ?_
   refine go 1 ?_
   refine o_alloc he rfl (fun g5 => ?_)
   refine go 1 ?_
   refine o_stw _ he rfl rfl rfl rfl rfl rfl ?_
   refine go 6 ?_
   refine o_call (evNames _ r.options[i] (hs _ (List.getElem_mem hlt))) rfl rfl (fun v18 I18 j18 q18 => ?_)
   have q18s := q18
   obtain ⟨A18, c18, rfl, _, _, _⟩ := q18
   refine go 1 ?_
   refine o_buildSlice he he rfl rfl rfl rfl rfl rfl rfl (fun v19 => ?_)
   refine go 1 ?_
   refine bring2 ?_
   refine o_appendO he he rfl rfl rfl rfl rfl (by omega) (by omega) rfl (fun v20 => ?_)
   refine go 9 ?_
   refine bring1 ?_
   refine sx_drop ?_
   refine bring1 ?_
   refine sx_drop ?_
   exact q_next4 (i + 1) (_) (_) (_) ⟨by omega, hJ.trans j18, by rw [← take_succ_of hlt, List.map_append]; exact (hF.le j18).append (.one ⟨_, rfl, q18s⟩)⟩ (by omega) rfl sb rfl
  ·have e : i = r.options.length := by omega
   subst e
   rw [List.take_length] at hF
   have hnf := names_flat r.options (validRep_e hvr)
   refine go 7 ?_
   refine sx_pubrow (l := (r.options.map namesE)) rfl (by rw [List.length_map]) (hF) (fun Ip jp Rp => ?_)
   refine go 2 ?_
   refine o_callX0 (joinedS _ _ (r.options.map namesE) Rp (by rw [List.length_map]; omega) (by omega) (by omega)) rfl rfl (fun v23 s23 q23 => ?_)
   obtain ⟨m, ys, hm, hml, hFm, rfl⟩ := q23
   refine sx_pubrow (l := m) rfl rfl (hFm) (fun Iq jq Rq => ?_)
   refine go 4 ?_
   refine fin1 rfl rfl ?_
   exact q_i ⟨m, Rq, names_of_rep hvr hm hml⟩

end Go.Proofs.YtkmdojpfccjnoaaGreat

/- The plain law of HistoryFalse: fewer open choices are false, too. -/
set_option linter.all false
namespace Go.Sx
open Go
theorem giv_not {c : List Kind} {l : List Rep} {ch : List Int} {n : Int} (h : givF c l = false) : givenF c l ch n = false := by
  cases hg : givenF c l ch n with
  | false => rfl
  | true =>
    obtain ⟨_, h2⟩ := given_all hg
    have h1 : validC c = true := by
      simp only [givenF, Bool.and_eq_true, Bool.not_eq_true', Bool.or_eq_false_iff, Bool.not_eq_false'] at hg
      exact hg.1.1
    have h3 : allP (fun _ r => validRep r) l l.length = true := by
      rw [allP, List.all_eq_true]
      intro i hi
      have hi := List.mem_range.1 hi
      simp only [List.getElem?_eq_getElem hi]
      exact h2 _ (List.getElem_mem hi)
    simp [givF, h1, h3] at h
theorem chs_pos {r : Rep} (h : validRep r = true) : 1 ≤ chs r := by
  have := validRep_len h
  simp only [chs, h, Bool.true_eq_false, if_false]
  split <;> omega
theorem allTo_of {f : Rep → Int → Bool} {l : List Rep} {ch : List Int} (h : ∀ i (h1 : i < l.length) (h2 : i < ch.length), f l[i] ch[i] = true) (hl : ch.length = l.length) : allTo f l ch l.length = true := by
  rw [allTo, List.all_eq_true]
  intro i hi
  have hi := List.mem_range.1 hi
  rw [at2_eq hi (by omega)]
  exact h i hi (by omega)
theorem given_mk {c : List Kind} {l : List Rep} {ch : List Int} {n : Int} (hc : validC c = true) (hl : ch.length = l.length) (h : ∀ i (h1 : i < l.length) (h2 : i < ch.length), chs l[i] ≠ 0 ∧ n ≤ ch[i] ∧ ch[i] < chs l[i]) : givenF c l ch n = true := by
  simp only [givenF, hc, Bool.and_eq_true]
  refine ⟨by simp [hl], allTo_of (fun i h1 h2 => ?_) hl⟩
  obtain ⟨a, b, d⟩ := h i h1 h2
  simp only [chFine, Bool.not_eq_true', Bool.or_eq_false_iff, decide_eq_false_iff_not]
  omega
theorem given_at {c : List Kind} {l : List Rep} {ch : List Int} {n : Int} (h : givenF c l ch n = true) {i : Nat} (h1 : i < l.length) (h2 : i < ch.length) : chs l[i] ≠ 0 ∧ n ≤ ch[i] ∧ ch[i] < chs l[i] := by
  simp only [givenF, Bool.and_eq_true] at h
  have := allTo_at h.2 h1 h1 h2
  simp only [chFine, Bool.not_eq_true', Bool.or_eq_false_iff, decide_eq_false_iff_not] at this
  omega
theorem given_cat {c : List Kind} {l : List Rep} {ch : List Int} {n : Int} (h : givenF c l ch n = true) : validC c = true := by
  simp only [givenF, Bool.and_eq_true, Bool.not_eq_true', Bool.or_eq_false_iff, Bool.not_eq_false'] at h
  exact h.1.1
theorem fit_len (l : List Rep) (raw : List UInt8) : (fitF l raw).length = l.length := by simp [fitF]
theorem giv_fit {c : List Kind} {l : List Rep} {raw : List UInt8} (h : givF c l = true) : givenF c l (fitF l raw) 0 = true := by
  simp only [givF, Bool.and_eq_true] at h
  refine given_mk h.1 (fit_len l raw) fun i h1 h2 => ?_
  obtain ⟨_, hv⟩ := allP_mem h.2 (List.getElem_mem h1)
  have hp := chs_pos hv
  have e : (fitF l raw)[i] = fitAt (chs l[i]) raw[i]? := by simp [fitF]
  rw [e]
  unfold fitAt
  split
  · rw [if_pos (by omega)]
    rename_i b _
    have := Int.emod_nonneg (b.toNat : Int) (show chs l[i] ≠ 0 by omega)
    have := Int.emod_lt_of_pos (b.toNat : Int) (show 0 < chs l[i] by omega)
    omega
  · omega
theorem open_at {ch : List Int} {a i : Nat} (h : i < (openF ch a).length) : (openF ch a)[i] = if a.testBit i = true then -1 else ch[i]'(by simpa [openF] using h) := by simp [openF]
theorem given_open {c : List Kind} {l : List Rep} {ch : List Int} (h : givenF c l ch 0 = true) (a : Nat) : givenF c l (openF ch a) (-1) = true := by
  have hl := (given_all h).1
  refine given_mk (given_cat h) (by rw [openF_len, hl]) fun i h1 h2 => ?_
  have := given_at h h1 (by rw [openF_len] at h2; exact h2)
  rw [open_at]
  split <;> omega
theorem given_less {c : List Kind} {l : List Rep} {ch : List Int} (h : givenF c l ch 0 = true) : givenF c l ch (-1) = true := by
  refine given_mk (given_cat h) (given_all h).1 fun i h1 h2 => ?_
  have := given_at h h1 h2
  omega
/-! the least day -/
theorem least_le : ∀ (l : List Int) (a : Int), l.foldl (fun a d => if d < a then d else a) a ≤ a ∧ ∀ d ∈ l, l.foldl (fun a d => if d < a then d else a) a ≤ d
  | [], a => ⟨Int.le_refl _, fun d h => by cases h⟩
  | x :: r, a => by
    obtain ⟨h1, h2⟩ := least_le r (if x < a then x else a)
    rw [List.foldl_cons]
    refine ⟨Int.le_trans h1 (by split <;> omega), fun d hd => ?_⟩
    rcases List.mem_cons.1 hd with rfl | hd
    · exact Int.le_trans h1 (by split <;> omega)
    · exact h2 d hd
theorem least_ge : ∀ (l : List Int) (a m : Int), m ≤ a → (∀ d ∈ l, m ≤ d) → m ≤ l.foldl (fun a d => if d < a then d else a) a
  | [], a, m, h, _ => h
  | x :: r, a, m, h, hl => by
    rw [List.foldl_cons]
    exact least_ge r _ m (by have := hl x (by simp); split <;> omega) fun d hd => hl d (by simp [hd])
theorem mem_open {l : List Rep} {ch : List Int} (hl : ch.length = l.length) {d : Int} : d ∈ openDays l ch l.length ↔ ∃ i, ∃ (h1 : i < l.length), ∃ (h2 : i < ch.length), ch[i] < 0 ∧ ∃ e ∈ l[i].options, e.day = d := by
  rw [openDays, List.mem_flatMap]
  constructor
  · rintro ⟨i, hi, hd⟩
    have hi := List.mem_range.1 hi
    rw [at2_eq hi (by omega)] at hd
    simp only [Option.getD_some] at hd
    split at hd
    · rename_i hc
      obtain ⟨e, he, rfl⟩ := List.mem_map.1 hd
      exact ⟨i, hi, by omega, hc, e, he, rfl⟩
    · cases hd
  · rintro ⟨i, h1, h2, hc, e, he, rfl⟩
    refine ⟨i, List.mem_range.2 h1, ?_⟩
    rw [at2_eq h1 h2]
    simp only [Option.getD_some, if_pos hc]
    exact List.mem_map.2 ⟨e, he, rfl⟩
    
/-! picks before a day -/
theorem pkd_filt {L1 L2 : Int} {l : List Rep} {ch1 ch2 : List Int} {i : Nat} (h1 : i < l.length) (h2 : i < ch1.length) (h3 : i < ch2.length) (h : optAt L1 l[i] ch1[i] = (optAt L2 l[i] ch2[i]).filter fun e => decide (e.day < L1)) :
    pkd L1 l ch1 i = (pkd L2 l ch2 i).filter fun p => decide (p.e.day < L1) := by
  unfold pkd
  rw [at2_eq h1 h2, at2_eq h1 h3, h]
  cases hq : optAt L2 l[i] ch2[i] with
  | none => rfl
  | some e =>
    simp only [Option.join_some, Option.filter_some]
    by_cases hd : e.day < L1
    · simp only [hd, decide_true, if_true]
      split
      · simp [Option.filter, hd]
      · rfl
    · simp only [hd, decide_false, Bool.false_eq_true, if_false]
      split
      · simp [Option.filter, hd]
      · rfl
theorem pick_filt {L1 L2 : Int} {l : List Rep} {ch1 ch2 : List Int} (hl1 : ch1.length = l.length) (hl2 : ch2.length = l.length) (h : ∀ i (h1 : i < l.length) (h2 : i < ch1.length) (h3 : i < ch2.length), optAt L1 l[i] ch1[i] = (optAt L2 l[i] ch2[i]).filter fun e => decide (e.day < L1)) :
    ∀ n, n ≤ l.length → pickF L1 l ch1 n = (pickF L2 l ch2 n).filter fun p => decide (p.e.day < L1) := by
  intro n
  induction n with
  | zero => intro _; rfl
  | succ n ih =>
    intro hn
    rw [pick_succ, pick_succ, List.filter_append, ← ih (by omega), pkd_filt (by omega) (by omega) (by omega) (h n (by omega) (by omega) (by omega))]
    congr 1
    cases pkd L2 l ch2 n with
    | none => rfl
    | some p => by_cases hp : p.e.day < L1 <;> simp [Option.filter, hp]
theorem srt_split {α : Type} [Day α] (L : Int) : ∀ {l : List α}, Srtd l → l = l.filter (fun x => decide (Day.day x < L)) ++ l.filter (fun x => !decide (Day.day x < L))
  | [], _ => rfl
  | x :: r, h => by
    have h' := List.pairwise_cons.1 h
    by_cases hx : Day.day x < L
    · simp only [List.filter_cons, hx, decide_true, if_true, Bool.not_true, Bool.false_eq_true, if_false, List.cons_append]
      rw [← srt_split L h'.2]
    · have h0 : r.filter (fun x => decide (Day.day x < L)) = [] := by
        rw [List.filter_eq_nil_iff]
        intro y hy
        have := h'.1 y hy
        simp; omega
      have h1 : r.filter (fun x => !decide (Day.day x < L)) = r := by
        rw [List.filter_eq_self]
        intro y hy
        have := h'.1 y hy
        simp; omega
      simp [List.filter_cons, hx, h0, h1]
theorem follow_less {c : List Kind} {l : List Rep} {ch1 ch2 : List Int} {L1 L2 : Int} (h : pickF L1 l ch1 l.length = (pickF L2 l ch2 l.length).filter fun p => decide (p.e.day < L1)) (hf : (followF c l ch1 L1).2 ≠ 0) : (followF c l ch2 L2).2 ≠ 0 := by
  unfold followF at hf ⊢
  have e1 : sortF (pickF L1 l ch1 l.length) = (sortF (pickF L2 l ch2 l.length)).filter (fun p => decide (Day.day p < L1)) := by
    rw [h, sortF_filt]; rfl
  have e2 := srt_split L1 (sortF_srt (pickF L2 l ch2 l.length))
  rw [e2, ← e1, follow_app]
  have e3 : runsTo c [] ((sortF (pickF L1 l ch1 l.length)).map Pkd.e) = none := by
    have := follow_ok c (sortF (pickF L1 l ch1 l.length)) []
    rw [decide_eq_false hf] at this
    cases hr : runsTo c [] ((sortF (pickF L1 l ch1 l.length)).map Pkd.e) with
    | none => rfl
    | some s => rw [hr] at this; cases this
  rw [e3]
  exact hf
theorem opt_some {L : Int} {r : Rep} {k : Int} {e : Evt} (h : optAt L r k = some e) : e ∈ r.options := by
  unfold optAt at h
  split at h
  · split at h
    · rename_i x hx
      split at h
      · cases h; exact List.mem_of_getElem? hx
      · cases h
    · cases h
  · cases h
theorem opt_less {L1 L2 : Int} (hL : L1 ≤ L2) (r : Rep) (k : Int) : optAt L1 r k = (optAt L2 r k).filter fun e => decide (e.day < L1) := by
  unfold optAt
  split
  · cases r.options[k.toNat]? with
    | none => rfl
    | some e =>
      simp only
      by_cases h : e.day < L1
      · rw [if_pos h, if_pos (by omega)]; simp [Option.filter, h]
      · rw [if_neg h]
        split
        · simp [Option.filter, h]
        · rfl
  · rfl
theorem false_mono {c : List Kind} {l : List Rep} {ch : List Int} {a b : Nat} (hg : givenF c l ch 0 = true) (hs : ∀ i, b.testBit i = true → a.testBit i = true) (h : falseF c l (openF ch a) = true) : falseF c l (openF ch b) = true := by
  have hl := (given_all hg).1
  have ga := given_open hg a
  have gb := given_open hg b
  have la : (openF ch a).length = l.length := by rw [openF_len, hl]
  have lb : (openF ch b).length = l.length := by rw [openF_len, hl]
  unfold falseF at h ⊢
  rw [if_neg (by rw [ga]; decide)] at h
  rw [if_neg (by rw [gb]; decide)]
  simp only [Bool.not_eq_true', decide_eq_false_iff_not] at h ⊢
  have hL : leastF (openDays l (openF ch a) l.length) ≤ leastF (openDays l (openF ch b) l.length) := by
    refine least_ge _ _ _ (least_le _ _).1 fun d hd => ?_
    refine (least_le _ _).2 d ?_
    rw [mem_open lb] at hd
    obtain ⟨i, h1, h2, hc, e, he, rfl⟩ := hd
    refine (mem_open la).2 ⟨i, h1, by omega, ?_, e, he, rfl⟩
    rw [open_at] at hc ⊢
    have h0 := given_at hg h1 (by omega)
    split at hc
    · rename_i hb
      rw [if_pos (hs i hb)]; omega
    · omega
  refine follow_less (ch1 := openF ch a) (pick_filt la lb (fun i h1 h2 h3 => ?_) _ (Nat.le_refl _)) h
  rw [open_at, open_at]
  by_cases ha : a.testBit i = true
  · rw [if_pos ha]
    by_cases hb : b.testBit i = true
    · rw [if_pos hb]; rfl
    · rw [if_neg hb]
      cases hq : optAt (leastF (openDays l (openF ch b) l.length)) l[i] (ch[i]'(by omega)) with
      | none => rfl
      | some e =>
        have h4 : leastF (openDays l (openF ch a) l.length) ≤ e.day := by
          refine (least_le _ _).2 _ ((mem_open la).2 ⟨i, h1, h2, ?_, e, opt_some hq, rfl⟩)
          rw [open_at, if_pos ha]; omega
        have h5 : ¬ e.day < leastF (openDays l (openF ch a) l.length) := by omega
        simp [optAt, Option.filter, h5]
  · have hb : ¬ b.testBit i = true := fun hb => ha (hs i hb)
    rw [if_neg ha, if_neg hb]
    exact opt_less hL _ _
theorem open_none (ch : List Int) : openF ch 0 = ch := by
  refine List.ext_getElem (openF_len ch 0) fun i h1 h2 => ?_
  rw [open_at]; simp
theorem false_is {c : List Kind} {l : List Rep} {ch : List Int} (hg : givenF c l ch 0 = true) : falseF c l ch = !isF c l ch := by
  have hl := (given_all hg).1
  have h0 : openDays l ch l.length = [] := by
    rw [List.eq_nil_iff_forall_not_mem]
    intro d hd
    obtain ⟨i, h1, h2, hc, _⟩ := (mem_open hl).1 hd
    have := given_at hg h1 h2
    omega
  rw [falseF, if_neg (by rw [given_less hg]; decide), isF, failsF, if_neg (by rw [hg]; decide), h0]
  rfl
theorem false_not {c : List Kind} {l : List Rep} {ch : List Int} (hg : givF c l = false) : falseF c l ch = false := by
  rw [falseF, if_pos (giv_not hg)]
/-- the law -/
theorem law_f1 (c : List Kind) (l : List Rep) (raw : List UInt8) (a b : Nat) : (!falseF c l (openF (fitF l raw) (a ||| b)) || falseF c l (openF (fitF l raw) a)) = true := by
  cases hg : givF c l with
  | false => rw [false_not hg]; rfl
  | true =>
    cases h : falseF c l (openF (fitF l raw) (a ||| b)) with
    | false => rfl
    | true => rw [false_mono (giv_fit hg) (fun i hi => by rw [Nat.testBit_or, hi]; rfl) h]; rfl
theorem law_f2 (c : List Kind) (l : List Rep) (raw : List UInt8) (a : Nat) : (!falseF c l (openF (fitF l raw) a) || falseF c l (fitF l raw)) = true := by
  cases hg : givF c l with
  | false => rw [false_not hg]; rfl
  | true =>
    cases h : falseF c l (openF (fitF l raw) a) with
    | false => rfl
    | true =>
      have := false_mono (b := 0) (giv_fit hg) (fun i hi => by simp at hi) h
      rw [open_none] at this
      rw [this]; rfl
theorem law_f3 (c : List Kind) (l : List Rep) (raw : List UInt8) : falseF c l (fitF l raw) = (givF c l && !isF c l (fitF l raw)) := by
  cases hg : givF c l with
  | false => rw [false_not hg]; rfl
  | true => rw [false_is (giv_fit hg)]; rfl
end Go.Sx

/- The events that are picked, without the reports' places. -/
set_option linter.all false
namespace Go.Sx
open Go
/-- the events that are picked before a day -/
def pickE (day : Int) (l : List Rep) (ch : List Int) : List Evt := (l.zip ch).filterMap fun p => optAt day p.1 p.2
theorem pickE_take (day : Int) (l : List Rep) (ch : List Int) (hl : ch.length = l.length) (hv : ∀ r ∈ l, validRep r = true) : ∀ n, n ≤ l.length → (pickF day l ch n).map Pkd.e = ((l.zip ch).take n).filterMap fun p => optAt day p.1 p.2 := by
  intro n
  induction n with
  | zero => intro _; rfl
  | succ n ih =>
    intro hn
    have h1 : n < l.length := by omega
    have h2 : n < ch.length := by omega
    have h3 : n < (l.zip ch).length := by simp; omega
    rw [pick_succ, List.map_append, ih (by omega), ← take_succ_of h3, List.filterMap_append]
    congr 1
    have e : (l.zip ch)[n] = (l[n], ch[n]) := by simp
    rw [e, pkd, at2_eq h1 h2]
    cases hq : optAt day l[n] ch[n] with
    | none => simp [hq]
    | some x =>
      have hd := validE_day (validRep_e (hv _ (List.getElem_mem h1)) x (opt_some hq))
      simp [hq, hd]
theorem pickE_eq {day : Int} {l : List Rep} {ch : List Int} (hl : ch.length = l.length) (hv : ∀ r ∈ l, validRep r = true) : (pickF day l ch l.length).map Pkd.e = pickE day l ch := by
  rw [pickE_take day l ch hl hv l.length (Nat.le_refl _), pickE, List.take_of_length_le (by simp; omega)]
/-- whether it is possible depends on the events alone -/
theorem follow_ev {c : List Kind} {l : List Rep} {ch : List Int} {day : Int} (hl : ch.length = l.length) (hv : ∀ r ∈ l, validRep r = true) : decide ((followF c l ch day).2 = 0) = (runsTo c [] (sortF (pickE day l ch))).isSome := by
  rw [followF, follow_ok, sortF_map Pkd.e (fun _ => rfl), pickE_eq hl hv]
/-- without the element at an index -/
def cutAt {α : Type} (l : List α) (k : Nat) : List α := l.take k ++ l.drop (k + 1)
theorem cutAt_len {α : Type} {l : List α} {k : Nat} (h : k < l.length) : (cutAt l k).length + 1 = l.length := by
  simp only [cutAt, List.length_append, List.length_take, List.length_drop]; omega
theorem cutAt_mem {α : Type} {l : List α} {k : Nat} {x : α} (h : x ∈ cutAt l k) : x ∈ l := by
  rcases List.mem_append.1 h with h | h
  · exact List.mem_of_mem_take h
  · exact List.mem_of_mem_drop h
theorem cut_whole {α : Type} {l : List α} {k : Nat} (h : k < l.length) : l = l.take k ++ l[k] :: l.drop (k + 1) := by
  rw [← List.drop_eq_getElem_cons h, List.take_append_drop]
theorem zip_cut {day : Int} {l : List Rep} {ch : List Int} {k : Nat} (hl : ch.length = l.length) (h1 : k < l.length) (h2 : k < ch.length) (h : optAt day l[k] ch[k] = none) : pickE day (cutAt l k) (cutAt ch k) = pickE day l ch := by
  have e1 : (l.take k).length = (ch.take k).length := by simp; omega
  conv => rhs; rw [cut_whole h1, cut_whole h2]
  unfold pickE cutAt
  rw [List.zip_append e1, List.zip_append e1, List.filterMap_append, List.filterMap_append, List.zip_cons_cons, List.filterMap_cons, h]
theorem allTo_zip {f : Rep → Int → Bool} {l : List Rep} {ch : List Int} (hl : ch.length = l.length) : allTo f l ch l.length = (l.zip ch).all fun p => f p.1 p.2 := by
  rw [Bool.eq_iff_iff, List.all_eq_true]
  constructor
  · intro h p hp
    obtain ⟨i, hi, rfl⟩ := List.getElem_of_mem hp
    have hi' : i < l.length := by simp at hi; omega
    have := allTo_at h hi' hi' (by omega)
    simpa using this
  · intro h
    refine allTo_of (fun i h1 h2 => ?_) hl
    have h3 : i < (l.zip ch).length := by simp; omega
    have := h _ (List.getElem_mem h3)
    simpa using this
theorem all_cut {f : Rep → Int → Bool} {l : List Rep} {ch : List Int} {k : Nat} (hl : ch.length = l.length) (h1 : k < l.length) (h2 : k < ch.length) (h : f l[k] ch[k] = true) : ((cutAt l k).zip (cutAt ch k)).all (fun p => f p.1 p.2) = (l.zip ch).all fun p => f p.1 p.2 := by
  have e1 : (l.take k).length = (ch.take k).length := by simp; omega
  conv => rhs; rw [cut_whole h1, cut_whole h2]
  unfold cutAt
  rw [List.zip_append e1, List.zip_append e1, List.all_append, List.all_append, List.zip_cons_cons, List.all_cons, h, Bool.true_and]
theorem given_cut {c : List Kind} {l : List Rep} {ch : List Int} {k : Nat} {n : Int} (hl : ch.length = l.length) (h1 : k < l.length) (h2 : k < ch.length) (h : chFine n l[k] ch[k] = true) : givenF c (cutAt l k) (cutAt ch k) n = givenF c l ch n := by
  have e1 := cutAt_len h1
  have e2 := cutAt_len h2
  have e3 : (cutAt ch k).length = (cutAt l k).length := by omega
  simp only [givenF]
  rw [allTo_zip e3, allTo_zip hl, all_cut hl h1 h2 h]
  simp [hl, e3]
theorem open_take (l : List Rep) (ch : List Int) (hl : ch.length = l.length) : ∀ n, n ≤ l.length → openDays l ch n = ((l.zip ch).take n).flatMap fun p => if p.2 < 0 then p.1.options.map Evt.day else [] := by
  intro n
  induction n with
  | zero => intro _; rfl
  | succ n ih =>
    intro hn
    have h1 : n < l.length := by omega
    have h2 : n < ch.length := by omega
    have h3 : n < (l.zip ch).length := by simp; omega
    rw [open_succ, ih (by omega), ← take_succ_of h3, List.flatMap_append]
    congr 1
    have e : (l.zip ch)[n] = (l[n], ch[n]) := by simp
    rw [e, at2_eq h1 h2]
    simp
theorem open_zip {l : List Rep} {ch : List Int} (hl : ch.length = l.length) : openDays l ch l.length = (l.zip ch).flatMap fun p => if p.2 < 0 then p.1.options.map Evt.day else [] := by
  rw [open_take l ch hl l.length (Nat.le_refl _), List.take_of_length_le (by simp; omega)]
theorem open_cut {l : List Rep} {ch : List Int} {k : Nat} (hl : ch.length = l.length) (h1 : k < l.length) (h2 : k < ch.length) (h : ¬ ch[k] < 0) : openDays (cutAt l k) (cutAt ch k) (cutAt l k).length = openDays l ch l.length := by
  have e1 := cutAt_len h1
  have e2 := cutAt_len h2
  have e3 : (l.take k).length = (ch.take k).length := by simp; omega
  rw [open_zip (by omega), open_zip hl]
  conv => rhs; rw [cut_whole h1, cut_whole h2]
  unfold cutAt
  rw [List.zip_append e3, List.zip_append e3, List.flatMap_append, List.flatMap_append, List.zip_cons_cons, List.flatMap_cons, if_neg h, List.nil_append]
theorem is_ev {c : List Kind} {l : List Rep} {ch : List Int} (hg : givenF c l ch 0 = true) : isF c l ch = (runsTo c [] (sortF (pickE 40001 l ch))).isSome := by
  obtain ⟨hl, hv⟩ := given_all hg
  rw [isF, failsF, if_neg (by rw [hg]; decide), follow_ev hl hv]
theorem is_no {c : List Kind} {l : List Rep} {ch : List Int} (hg : givenF c l ch 0 = false) : isF c l ch = false := by
  rw [isF, failsF, if_pos hg]; rfl
theorem is_cut {c : List Kind} {l : List Rep} {ch : List Int} {k : Nat} (hl : ch.length = l.length) (h1 : k < l.length) (h2 : k < ch.length) (hf : chFine 0 l[k] ch[k] = true) (hn : ∀ day, optAt day l[k] ch[k] = none) : isF c (cutAt l k) (cutAt ch k) = isF c l ch := by
  have e := given_cut (c := c) hl h1 h2 hf
  cases hg : givenF c l ch 0 with
  | false => rw [is_no hg, is_no (by rw [e, hg])]
  | true => rw [is_ev hg, is_ev (by rw [e, hg]), zip_cut hl h1 h2 (hn _)]
theorem false_cut {c : List Kind} {l : List Rep} {ch : List Int} {k : Nat} (hl : ch.length = l.length) (h1 : k < l.length) (h2 : k < ch.length) (hf : chFine (-1) l[k] ch[k] = true) (h0 : ¬ ch[k] < 0) (hn : ∀ day, optAt day l[k] ch[k] = none) : falseF c (cutAt l k) (cutAt ch k) = falseF c l ch := by
  have e := given_cut (c := c) hl h1 h2 hf
  cases hg : givenF c l ch (-1) with
  | false =>
    have hg2f : givenF c (cutAt l k) (cutAt ch k) (-1) = false := by rw [e, hg]
    rw [falseF, falseF, if_pos hg2f, if_pos hg]
  | true =>
    obtain ⟨_, hv⟩ := given_all hg
    have hg2 : givenF c (cutAt l k) (cutAt ch k) (-1) = true := by rw [e, hg]
    obtain ⟨hl2, hv2⟩ := given_all hg2
    rw [falseF, falseF, if_neg (by rw [hg2]; decide), if_neg (by rw [hg]; decide), open_cut hl h1 h2 h0, follow_ev hl hv, follow_ev hl2 hv2, zip_cut hl h1 h2 (hn _)]
theorem sort_swap {α : Type} [Day α] (A B : List α) (x y : α) (h : Day.day x ≠ Day.day y) : sortF (A ++ y :: x :: B) = sortF (A ++ x :: y :: B) := by
  refine sortF_is ⟨?_, fun d => ?_⟩ (sortF_srt _)
  · rw [sortF_len]; simp
  · rw [sortF_filter, List.filter_append, List.filter_append]
    congr 1
    simp only [List.filter_cons]
    by_cases hx : Day.day x = d
    · have hy : ¬ Day.day y = d := fun e => h (hx.trans e.symm)
      simp [hx, hy]
    · simp [hx]
/-! the law -/
theorem none_opt (r : Rep) (day : Int) : optAt day r ((r.options.length : Nat) : Int) = none := by
  unfold optAt
  rw [if_pos (by omega), Int.toNat_natCast, List.getElem?_eq_none (Nat.le_refl _)]
theorem none_fine {r : Rep} (hv : validRep r = true) (hd : r.doubtful = true) {n : Int} (hn : n ≤ 0) : chFine n r ((r.options.length : Nat) : Int) = true := by
  simp only [chFine, chs, hv, hd, Bool.true_eq_false, if_true, if_false, Bool.not_eq_true', Bool.or_eq_false_iff, decide_eq_false_iff_not]
  omega
theorem law_none_is {c : List Kind} {l : List Rep} {ch : List Int} {k : Nat} (hl : ch.length = l.length) (h1 : k < l.length) (h2 : k < ch.length) (hv : validRep l[k] = true) (hd : l[k].doubtful = true) (he : ch[k] = ((l[k].options.length : Nat) : Int)) :
    (isF c l ch == isF c (cutAt l k) (cutAt ch k)) = true := by
  rw [is_cut hl h1 h2 (by rw [he]; exact none_fine hv hd (by omega)) (fun day => by rw [he]; exact none_opt _ _)]; simp
theorem law_none_false {c : List Kind} {l : List Rep} {ch : List Int} {k : Nat} (hl : ch.length = l.length) (h1 : k < l.length) (h2 : k < ch.length) (hv : validRep l[k] = true) (hd : l[k].doubtful = true) (he : ch[k] = ((l[k].options.length : Nat) : Int)) :
    (falseF c l ch == falseF c (cutAt l k) (cutAt ch k)) = true := by
  rw [false_cut hl h1 h2 (by rw [he]; exact none_fine hv hd (by omega)) (by rw [he]; omega) (fun day => by rw [he]; exact none_opt _ _)]; simp
end Go.Sx

/- What a valid state is, part by part; an event that happens keeps it. -/
set_option linter.all false
namespace Go.Sx
open Go
theorem allP_iff {α : Type} {f : List α → α → Bool} {l : List α} : allP f l l.length = true ↔ ∀ (i : Nat) (h : i < l.length), f (l.take i) l[i] = true := by
  rw [allP, List.all_eq_true]
  constructor
  · intro h i hi
    have := h i (List.mem_range.2 hi)
    simpa only [List.getElem?_eq_getElem hi] using this
  · intro h i hi
    have hi := List.mem_range.1 hi
    simp only [List.getElem?_eq_getElem hi]
    exact h i hi
theorem allP_all {α : Type} {f : α → Bool} {l : List α} : allP (fun _ x => f x) l l.length = true ↔ ∀ x ∈ l, f x = true := by
  rw [allP_iff]
  constructor
  · intro h x hx; obtain ⟨i, hi, rfl⟩ := List.getElem_of_mem hx; exact h i hi
  · intro h i hi; exact h _ (List.getElem_mem hi)
theorem ord_iff {α : Type} {nm : α → ByteArray} {l : List α} : ordF nm l = true ↔ Inc nm l := by
  constructor
  · exact fun h => inc_of (Srt.of_ord h)
  · intro h
    unfold ordF
    rw [allP_iff]
    intro i hi
    unfold ordAt
    cases i with
    | zero => simp
    | succ i =>
      have : (l.take (i + 1)).getLast? = some l[i] := by
        rw [List.getLast?_eq_getElem?, List.length_take, Nat.min_eq_left (by omega), List.getElem?_take, if_pos (by omega)]
        simp
      rw [this]
      exact (List.pairwise_iff_getElem.1 h) i (i + 1) (by omega) hi (by omega)
/-- a part in its place -/
structure Sits (c : List Kind) (st : List Part) (p : Part) : Prop where
  alive : p.scrapped = false
  host : ∃ q, q ∈ st ∧ q.name = p.into ∧ q.scrapped = false ∧ takesF c q.kind p.slot p.kind = true
structure VS (c : List Kind) (st : List Part) : Prop where
  cat : validC c = true
  len : st.length ≤ 20000
  inc : Inc Part.name st
  right : ∀ p ∈ st, rightP c p = true
  both : ∀ p ∈ st, (p.into = nil8 ↔ p.slot = nil8)
  sits : ∀ p ∈ st, p.into ≠ nil8 → Sits c st p
  apart : ∀ p ∈ st, ∀ q ∈ st, p.into ≠ nil8 → p.into = q.into → p.slot = q.slot → p = q
theorem seated_hit {pre : List Part} {x : ByteArray × ByteArray} : hit seatOf (seated pre) x = true ↔ ∃ q ∈ pre, q.into ≠ nil8 ∧ seatOf q = x := by
  rw [hit_eq, List.any_eq_true]
  constructor
  · rintro ⟨q, hq, he⟩
    rw [seated, List.mem_filter] at hq
    exact ⟨q, hq.1, by simpa using hq.2, by simpa using he⟩
  · rintro ⟨q, h1, h2, h3⟩
    exact ⟨q, by rw [seated, List.mem_filter]; exact ⟨h1, by simpa using h2⟩, by simpa using h3⟩
theorem inc_idx {l : List Part} (h : Inc Part.name l) {i j : Nat} {hi : i < l.length} {hj : j < l.length} (he : l[i] = l[j]) : i = j := by
  rw [Inc, List.pairwise_iff_getElem] at h
  rcases Nat.lt_trichotomy i j with hij | hij | hij
  · have := h i j hi hj hij; rw [he, sLt_irrefl] at this; cases this
  · exact hij
  · have := h j i hj hi hij; rw [he, sLt_irrefl] at this; cases this
theorem validS_iff {c : List Kind} {st : List Part} : validS c st = true ↔ VS c st := by
  unfold validS bad0S
  simp only [Bool.and_eq_true, Bool.not_eq_true', Bool.or_eq_false_iff, Bool.not_eq_false', decide_eq_false_iff_not]
  rw [ord_iff, allP_iff]
  constructor
  · rintro ⟨⟨⟨h1, h2⟩, h3⟩, h4⟩
    have key : ∀ (i : Nat) (hi : i < st.length), rightP c st[i] = true ∧ (st[i].into = nil8 ↔ st[i].slot = nil8) ∧ (st[i].into ≠ nil8 → Sits c st st[i] ∧ ∀ q ∈ st.take i, q.into ≠ nil8 → seatOf q ≠ seatOf st[i]) := by
      intro i hi
      have h5 := h4 i hi
      simp only [partFine, bad1P, Bool.and_eq_true, Bool.not_eq_true', Bool.or_eq_false_iff, Bool.not_eq_false', Bool.or_eq_true, decide_eq_true_eq] at h5
      obtain ⟨⟨h6, h7⟩, h8⟩ := h5
      refine ⟨h6, ?_, fun hne => ?_⟩
      · have h7 : decide (st[i].into = nil8) = decide (st[i].slot = nil8) := by simpa using h7
        by_cases ha : st[i].into = nil8 <;> by_cases hb : st[i].slot = nil8 <;> simp [ha, hb] at h7 ⊢
      · rcases h8 with h8 | h8
        · exact absurd h8 hne
        · simp only [bad2P, Bool.or_eq_false_iff, Bool.not_eq_false'] at h8
          obtain ⟨⟨⟨⟨h9, h10⟩, h11⟩, h12⟩, h13⟩ := h8
          obtain ⟨q, hq⟩ := Option.isSome_iff_exists.1 h9
          rw [hq] at h11 h13
          have hq' := (find_iff h3).1 hq
          refine ⟨⟨h10, q, hq'.1, hq'.2, h11, h13⟩, fun q' hq' hn he => ?_⟩
          have : hit seatOf (seated (st.take i)) (seatOf st[i]) = true := seated_hit.2 ⟨q', hq', hn, he⟩
          rw [h12] at this; cases this
    refine ⟨h1, by omega, h3, fun p hp => ?_, fun p hp => ?_, fun p hp => ?_, fun p hp q hq hn he hs => ?_⟩
    · obtain ⟨i, hi, rfl⟩ := List.getElem_of_mem hp; exact (key i hi).1
    · obtain ⟨i, hi, rfl⟩ := List.getElem_of_mem hp; exact (key i hi).2.1
    · obtain ⟨i, hi, rfl⟩ := List.getElem_of_mem hp; exact fun h => ((key i hi).2.2 h).1
    · obtain ⟨i, hi, rfl⟩ := List.getElem_of_mem hp
      obtain ⟨j, hj, rfl⟩ := List.getElem_of_mem hq
      have hse : seatOf st[i] = seatOf st[j] := by simp [seatOf, he, hs]
      rcases Nat.lt_trichotomy i j with hij | rfl | hij
      · exact absurd hse (((key j hj).2.2 (by rw [← he]; exact hn)).2 st[i] (by rw [List.mem_iff_getElem?]; exact ⟨i, by rw [List.getElem?_take, if_pos hij]; simp⟩) hn)
      · rfl
      · exact absurd hse.symm (((key i hi).2.2 hn).2 st[j] (by rw [List.mem_iff_getElem?]; exact ⟨j, by rw [List.getElem?_take, if_pos hij]; simp⟩) (by rw [← he]; exact hn))
  · intro h
    refine ⟨⟨⟨h.cat, by have := h.len; omega⟩, h.inc⟩, fun i hi => ?_⟩
    have hm := List.getElem_mem hi
    have hb := h.both _ hm
    simp only [partFine, bad1P, Bool.and_eq_true, Bool.not_eq_true', Bool.or_eq_false_iff, Bool.not_eq_false', Bool.or_eq_true, decide_eq_true_eq]
    refine ⟨⟨h.right _ hm, ?_⟩, ?_⟩
    · by_cases ha : st[i].into = nil8
      · simp [ha, hb.1 ha]
      · have : ¬ st[i].slot = nil8 := fun hs => ha (hb.2 hs)
        simp [ha, this]
    · by_cases ha : st[i].into = nil8
      · exact .inl ha
      · right
        obtain ⟨h1, q, h2, h3, h4, h5⟩ := h.sits _ hm ha
        have hf : findP st st[i].into = some q := (find_iff h.inc).2 ⟨h2, h3⟩
        simp only [bad2P, Bool.or_eq_false_iff, Bool.not_eq_false']
        rw [hf]
        refine ⟨⟨⟨⟨rfl, h1⟩, h4⟩, ?_⟩, h5⟩
        rw [Bool.eq_false_iff]
        intro hh
        obtain ⟨q', h6, h7, h8⟩ := seated_hit.1 hh
        have h9 : q' ∈ st := List.mem_of_mem_take h6
        have h10 : q' = st[i] := h.apart _ h9 _ hm h7 (congrArg (·.1) h8) (congrArg (·.2) h8)
        obtain ⟨j, hj, hje⟩ := List.getElem_of_mem h6
        rw [List.length_take] at hj
        rw [List.getElem_take, h10] at hje
        have := inc_idx h.inc hje
        omega
/-! what an event does -/
/-- the part that an event leaves behind, if it is possible -/
structure Step (c : List Kind) (st : List Part) (e : Evt) (p' : Part) : Prop where
  vs : VS c st
  ve : validE e = true
  how : (e.op = 1 ∧ findP st e.part = none ∧ (findK c e.kind).isSome = true ∧ st.length ≠ 20000 ∧ p' = newP e) ∨
    ∃ p, findP st e.part = some p ∧ p.scrapped = false ∧
      ((e.op = 2 ∧ ∃ q, findP st e.into = some q ∧ q.scrapped = false ∧ ((findK c p.kind).getD zKind).vehicle = false ∧ takesF c q.kind e.slot p.kind = true ∧ p.into = nil8 ∧ seatTaken st e = false ∧ p' = { p with into := e.into, slot := e.slot }) ∨
       (e.op = 3 ∧ p.into ≠ nil8 ∧ p' = { p with into := nil8, slot := nil8 }) ∨
       (e.op = 4 ∧ ((findK c p.kind).getD zKind).vehicle = true ∧ p' = p) ∨
       (e.op = 5 ∧ p' = overhauled e p) ∨
       (e.op = 6 ∧ (noted e p).props.length ≤ 60 ∧ p' = noted e p) ∨
       (e.op = 7 ∧ p.into = nil8 ∧ holdsAny st p.name = false ∧ p' = { p with scrapped := true }))
theorem validE_op {e : Evt} (h : validE e = true) : 1 ≤ e.op ∧ e.op < 8 := by
  simp only [validE, evBad, Bool.and_eq_true, Bool.not_eq_true', Bool.or_eq_false_iff, decide_eq_false_iff_not] at h
  have := h.1.1.1.1.1.1
  rw [wordOf_empty] at this
  omega
theorem apply_of {c : List Kind} {st : List Part} {e : Evt} {p' : Part} (h : Step c st e p') : applyF c st e = putR st p' := by
  have hv := validS_iff.2 h.vs
  unfold applyF
  rw [if_neg (by simp [hv, h.ve])]
  rcases h.how with ⟨h1, h2, h3, h4, rfl⟩ | ⟨p, h1, h2, h3⟩
  · rw [if_pos h1]
    unfold applyMake
    rw [if_neg (by simp [h2]), if_neg (by simp [h3]), if_neg (by omega)]
  · have hpp : partP st e = p := by simp [partP, h1]
    have h5 := validE_op h.ve
    rcases h3 with ⟨h3, q, h4, h6, h7, h8, h9, h10, rfl⟩ | ⟨h3, h4, rfl⟩ | ⟨h3, h4, rfl⟩ | ⟨h3, rfl⟩ | ⟨h3, h4, rfl⟩ | ⟨h3, h4, h6, rfl⟩
    · have ho : otherO st e = some q := by simp [otherO, h3, h4]
      simp only [applyRest, h3, ho, h1, hpp, otherP, kindP, h2, h6, applyOp, applyFit, h7, h8, h9, h10, Option.isSome_some, Option.getD_some]
      simp
    · have ho : otherO st e = some p := by simp [otherO, h3, h1]
      simp only [applyRest, h3, ho, h1, hpp, otherP, kindP, h2, applyOp, applyRemove, Option.isSome_some, Option.getD_some]
      simp [h4]
    · have ho : otherO st e = some p' := by simp [otherO, h3, h1]
      simp only [applyRest, h3, ho, h1, hpp, otherP, kindP, h2, applyOp, applyRun, h4, Option.isSome_some, Option.getD_some]
      simp
    · have ho : otherO st e = some p := by simp [otherO, h3, h1]
      simp only [applyRest, h3, ho, h1, hpp, otherP, kindP, h2, applyOp, Option.isSome_some, Option.getD_some]
      simp
    · have ho : otherO st e = some p := by simp [otherO, h3, h1]
      simp only [applyRest, h3, ho, h1, hpp, otherP, kindP, h2, applyOp, applyNote, Option.isSome_some, Option.getD_some]
      simp; omega
    · have ho : otherO st e = some p := by simp [otherO, h3, h1]
      simp only [applyRest, h3, ho, h1, hpp, otherP, kindP, h2, applyOp, applyScrap, h4, h6, Option.isSome_some, Option.getD_some]
      simp
theorem of_apply {c : List Kind} {st : List Part} {e : Evt} (h : (applyF c st e).2 = 0) : ∃ p', Step c st e p' := by
  unfold applyF at h
  split at h
  · cases h
  · rename_i hv
    have hv : validS c st = true ∧ validE e = true := by simpa using hv
    have hop := validE_op hv.2
    split at h
    · rename_i h1
      unfold applyMake at h
      split at h
      · cases h
      · rename_i h2
        split at h
        · cases h
        · rename_i h3
          split at h
          · cases h
          · rename_i h4
            exact ⟨_, validS_iff.1 hv.1, hv.2, .inl ⟨h1, by simpa using h2, by rw [Option.isSome_iff_ne_none]; simpa using h3, by omega, rfl⟩⟩
    · rename_i h1
      unfold applyRest at h
      split at h
      · cases h
      · rename_i h2
        split at h
        · cases h
        · rename_i h3
          have h2 : (findP st e.part).isSome = true ∧ (otherO st e).isSome = true := by rw [Option.isSome_iff_ne_none, Option.isSome_iff_ne_none]; simpa using h2
          obtain ⟨p, hp⟩ := Option.isSome_iff_exists.1 h2.1
          obtain ⟨q, hq⟩ := Option.isSome_iff_exists.1 h2.2
          have hpp : partP st e = p := by simp [partP, hp]
          have hqq : otherP st e = q := by simp [otherP, hq]
          have hkk : kindP c st e = (findK c p.kind).getD zKind := by simp [kindP, hpp]
          rw [hpp, hqq] at h3
          have h3 : p.scrapped = false ∧ q.scrapped = false := by simpa using h3
          rw [hpp, hqq, hkk] at h
          unfold applyOp at h
          split at h
          · rename_i h4
            unfold applyFit at h
            split at h
            · cases h
            · rename_i h5
              split at h
              · cases h
              · rename_i h6
                split at h
                · cases h
                · rename_i h7
                  have h5 : ((findK c p.kind).getD zKind).vehicle = false ∧ takesF c q.kind e.slot p.kind = true := by simpa using h5
                  exact ⟨_, validS_iff.1 hv.1, hv.2, .inr ⟨p, hp, h3.1, .inl ⟨h4, q, by simpa [otherO, h4] using hq, h3.2, h5.1, h5.2, by simpa using h6, by simpa using h7, rfl⟩⟩⟩
          · rename_i h4
            split at h
            · rename_i h5
              unfold applyRemove at h
              split at h
              · cases h
              · rename_i h6; exact ⟨_, validS_iff.1 hv.1, hv.2, .inr ⟨p, hp, h3.1, .inr (.inl ⟨h5, h6, rfl⟩)⟩⟩
            · rename_i h5
              split at h
              · rename_i h6
                unfold applyRun at h
                split at h
                · cases h
                · rename_i h7; exact ⟨_, validS_iff.1 hv.1, hv.2, .inr ⟨p, hp, h3.1, .inr (.inr (.inl ⟨h6, by simpa using h7, rfl⟩))⟩⟩
              · rename_i h6
                split at h
                · rename_i h7; exact ⟨_, validS_iff.1 hv.1, hv.2, .inr ⟨p, hp, h3.1, .inr (.inr (.inr (.inl ⟨h7, rfl⟩)))⟩⟩
                · rename_i h7
                  split at h
                  · rename_i h8
                    unfold applyNote at h
                    split at h
                    · cases h
                    · rename_i h9; exact ⟨_, validS_iff.1 hv.1, hv.2, .inr ⟨p, hp, h3.1, .inr (.inr (.inr (.inr (.inl ⟨h8, by omega, rfl⟩))))⟩⟩
                  · rename_i h8
                    split at h
                    · rename_i h9
                      unfold applyScrap at h
                      split at h
                      · cases h
                      · rename_i h10
                        have h10 : p.into = nil8 ∧ holdsAny st p.name = false := by simpa using h10
                        exact ⟨_, validS_iff.1 hv.1, hv.2, .inr ⟨p, hp, h3.1, .inr (.inr (.inr (.inr (.inr ⟨h9, h10.1, h10.2, rfl⟩))))⟩⟩
                    · exfalso; omega
theorem validE_parts {e : Evt} (h : validE e = true) : nameOk e.part = true ∧ 0 ≤ e.day ∧ e.day ≤ 40000 ∧ (e.op = 2 → nameOk e.into = true ∧ nameOk e.slot = true ∧ e.into ≠ e.part) ∧ (e.op = 6 → nameOk e.key = true ∧ e.value ≠ nil8 ∧ ((e.value.size : Nat) : Int) ≤ 200) := by
  simp only [validE, evBad, Bool.and_eq_true, Bool.not_eq_true', Bool.or_eq_false_iff, decide_eq_false_iff_not, Bool.not_eq_false'] at h
  obtain ⟨⟨⟨⟨⟨⟨h1, h2⟩, h3⟩, h4⟩, h5⟩, h6⟩, h7⟩ := h
  refine ⟨h4, by omega, by omega, fun h8 => ?_, fun h8 => ?_⟩
  · have h9 : namesOf e = [e.into, e.slot] := by simp [namesOf, h8]
    rw [h9] at h7
    simp only [List.any_cons, List.any_nil, Bool.or_eq_false_iff, Bool.not_eq_false'] at h7
    have h10 : opBad e = decide (e.into = e.part) := by simp [opBad, h8]
    rw [h10, decide_eq_false_iff_not] at h5
    exact ⟨h7.1, h7.2.1, h5⟩
  · have h9 : namesOf e = [e.key] := by simp [namesOf, h8]
    rw [h9] at h7
    simp only [List.any_cons, List.any_nil, Bool.or_eq_false_iff, Bool.not_eq_false'] at h7
    have h10 : opBad e = (decide (e.value = nil8) || decide ((200 : Int) < (e.value.size : Nat))) := by simp [opBad, h8]
    rw [h10, Bool.or_eq_false_iff, decide_eq_false_iff_not, decide_eq_false_iff_not] at h5
    exact ⟨h7.1, h5.1, by omega⟩
theorem name_ne {s : ByteArray} (h : nameOk s = true) : s ≠ nil8 := by
  rintro rfl
  simp [nameOk] at h
/-- what is right of a part alone -/
structure RP (c : List Kind) (p : Part) : Prop where
  kind : (findK c p.kind).isSome = true
  name : nameOk p.name = true
  made : 0 ≤ p.made
  since : p.made ≤ p.since
  since2 : p.since ≤ 40000
  few : p.props.length ≤ 60
  props : ∀ q ∈ p.props, propOk q = true
  inc : Inc Prp.key p.props
  km : lifeOk p.life.km = true
  cycles : lifeOk p.life.cycles = true
  damage : lifeOk p.life.damage = true
theorem right_iff {c : List Kind} {p : Part} : rightP c p = true ↔ RP c p := by
  unfold rightP partBad
  simp only [Bool.and_eq_true, Bool.not_eq_true', Bool.or_eq_false_iff, Bool.not_eq_false', decide_eq_false_iff_not]
  rw [ord_iff, allP_all]
  constructor
  · rintro ⟨⟨⟨⟨⟨⟨⟨h1, h2⟩, h3⟩, h4⟩, h5⟩, h6⟩, h7⟩, ⟨⟨h8, h9⟩, h10⟩, h11⟩
    exact ⟨h1, h2, by omega, by omega, by omega, by omega, h7, h8, h9, h10, h11⟩
  · rintro ⟨h1, h2, h3, h4, h5, h6, h7, h8, h9, h10, h11⟩
    exact ⟨⟨⟨⟨⟨⟨⟨h1, h2⟩, by omega⟩, by omega⟩, by omega⟩, by omega⟩, h7⟩, ⟨⟨h8, h9⟩, h10⟩, h11⟩
theorem Step.name {c : List Kind} {st : List Part} {e : Evt} {p' : Part} (h : Step c st e p') : p'.name = e.part := by
  rcases h.how with ⟨_, _, _, _, rfl⟩ | ⟨p, h1, _, h3⟩
  · rfl
  · have hn : p.name = e.part := ((find_iff h.vs.inc).1 h1).2
    rcases h3 with ⟨_, q, _, _, _, _, _, _, rfl⟩ | ⟨_, _, rfl⟩ | ⟨_, _, rfl⟩ | ⟨_, rfl⟩ | ⟨_, _, rfl⟩ | ⟨_, _, _, rfl⟩ <;> exact hn
theorem Step.kind {c : List Kind} {st : List Part} {e : Evt} {p' p : Part} (h : Step c st e p') (hp : findP st e.part = some p) : p'.kind = p.kind := by
  rcases h.how with ⟨_, h2, _, _, rfl⟩ | ⟨p0, h1, _, h3⟩
  · rw [hp] at h2; cases h2
  · rw [hp] at h1; cases h1
    rcases h3 with ⟨_, q, _, _, _, _, _, _, rfl⟩ | ⟨_, _, rfl⟩ | ⟨_, _, rfl⟩ | ⟨_, rfl⟩ | ⟨_, _, rfl⟩ | ⟨_, _, _, rfl⟩ <;> rfl
theorem Step.right {c : List Kind} {st : List Part} {e : Evt} {p' : Part} (h : Step c st e p') : RP c p' := by
  obtain ⟨v1, v2, v3, v4, v5⟩ := validE_parts h.ve
  rcases h.how with ⟨_, _, h3, _, rfl⟩ | ⟨p, h1, _, h3⟩
  · exact ⟨h3, v1, v2, Int.le_refl _, v3, by simp [newP], fun _ h => by simp [newP] at h, by simp [newP, Inc], rfl, rfl, rfl⟩
  · have hr := right_iff.1 (h.vs.right p ((find_iff h.vs.inc).1 h1).1)
    rcases h3 with ⟨_, q, _, _, _, _, _, _, rfl⟩ | ⟨_, _, rfl⟩ | ⟨_, _, rfl⟩ | ⟨_, rfl⟩ | ⟨h6, h7, rfl⟩ | ⟨_, _, _, rfl⟩
    · exact ⟨hr.kind, hr.name, hr.made, hr.since, hr.since2, hr.few, hr.props, hr.inc, hr.km, hr.cycles, hr.damage⟩
    · exact ⟨hr.kind, hr.name, hr.made, hr.since, hr.since2, hr.few, hr.props, hr.inc, hr.km, hr.cycles, hr.damage⟩
    · exact hr
    · have hs := hr.since
      have hs2 := hr.since2
      refine ⟨hr.kind, hr.name, hr.made, ?_, ?_, hr.few, hr.props, hr.inc, rfl, rfl, rfl⟩
      · show p.made ≤ (if e.day > p.since then e.day else p.since); split <;> omega
      · show (if e.day > p.since then e.day else p.since) ≤ 40000; split <;> omega
    · obtain ⟨k1, k2, k3⟩ := v5 h6
      refine ⟨hr.kind, hr.name, hr.made, hr.since, hr.since2, h7, fun q hq => ?_, put_inc _ hr.inc, hr.km, hr.cycles, hr.damage⟩
      rcases (put_mem hr.inc).1 hq with rfl | ⟨hq, _⟩
      · simp only [propOk, k1, Bool.true_and, Bool.and_eq_true, Bool.not_eq_true', decide_eq_false_iff_not, decide_eq_true_eq]
        exact ⟨k2, k3⟩
      · exact hr.props q hq
    · exact ⟨hr.kind, hr.name, hr.made, hr.since, hr.since2, hr.few, hr.props, hr.inc, hr.km, hr.cycles, hr.damage⟩
theorem takes_known {c : List Kind} {k s p : ByteArray} (h : takesF c k s p = true) : (findK c k).isSome = true := by
  unfold takesF slotF at h
  cases hf : findK c k with
  | none => rw [hf] at h; simp [zKind] at h
  | some x => rfl
theorem taken_iff {st : List Part} {e : Evt} : seatTaken st e = false ↔ ∀ x ∈ st, ¬ (x.into = e.into ∧ x.slot = e.slot) := by
  unfold seatTaken
  rw [List.any_eq_false]
  simp
theorem holds_iff {st : List Part} {s : ByteArray} : holdsAny st s = false ↔ ∀ x ∈ st, x.into ≠ s := by
  unfold holdsAny
  rw [List.any_eq_false]
  simp
theorem Step.valid {c : List Kind} {st : List Part} {e : Evt} {p' : Part} (h : Step c st e p') : VS c (putL Part.name st p') := by
  have hv := h.vs
  have hi := hv.inc
  have hn := h.name
  obtain ⟨v1, v2, v3, v4, v5⟩ := validE_parts h.ve
  have hm : ∀ z, z ∈ putL Part.name st p' ↔ z = p' ∨ (z ∈ st ∧ z.name ≠ e.part) := fun z => by rw [put_mem hi, hn]
  -- the new part in its place
  have hpl : (p'.into = nil8 ↔ p'.slot = nil8) ∧ (p'.into ≠ nil8 → p'.scrapped = false ∧ ∃ q, q ∈ st ∧ q.name = p'.into ∧ q.scrapped = false ∧ takesF c q.kind p'.slot p'.kind = true) ∧
      (p'.into ≠ nil8 → ∀ z ∈ st, z.name ≠ e.part → ¬ (z.into = p'.into ∧ z.slot = p'.slot)) ∧ (p'.scrapped = true → ∀ z ∈ st, z.into ≠ e.part) := by
    rcases h.how with ⟨_, h2, _, _, rfl⟩ | ⟨p, h1, h2, h3⟩
    · exact ⟨⟨fun _ => rfl, fun _ => rfl⟩, fun h => absurd rfl h, fun h => absurd rfl h, fun h => by cases h⟩
    · have hp := (find_iff hi).1 h1
      have hb := hv.both p hp.1
      have hold : p.into ≠ nil8 → p.scrapped = false ∧ ∃ q, q ∈ st ∧ q.name = p.into ∧ q.scrapped = false ∧ takesF c q.kind p.slot p.kind = true := fun hne => by
        obtain ⟨s1, q, s2, s3, s4, s5⟩ := hv.sits p hp.1 hne
        exact ⟨s1, q, s2, s3, s4, s5⟩
      have hap : p.into ≠ nil8 → ∀ z ∈ st, z.name ≠ e.part → ¬ (z.into = p.into ∧ z.slot = p.slot) := fun hne z hz hzn ⟨e1, e2⟩ => by
        have := hv.apart p hp.1 z hz hne e1.symm e2.symm
        subst this
        exact hzn hp.2
      rcases h3 with ⟨o1, q, o2, o3, o4, o5, o6, o7, rfl⟩ | ⟨_, _, rfl⟩ | ⟨_, _, rfl⟩ | ⟨_, rfl⟩ | ⟨_, _, rfl⟩ | ⟨_, o2, o3, rfl⟩
      · obtain ⟨k1, k2, k3⟩ := v4 o1
        have hq := (find_iff hi).1 o2
        exact ⟨⟨fun hh => absurd hh (name_ne k1), fun hh => absurd hh (name_ne k2)⟩, fun _ => ⟨h2, q, hq.1, hq.2, o3, o5⟩, fun _ z hz _ => taken_iff.1 o7 z hz, fun hh => by
          have : p.scrapped = true := hh
          rw [h2] at this; cases this⟩
      · exact ⟨⟨fun _ => rfl, fun _ => rfl⟩, fun h => absurd rfl h, fun h => absurd rfl h, fun hh => by
          have : p.scrapped = true := hh
          rw [h2] at this; cases this⟩
      · exact ⟨hb, hold, hap, fun hh => by rw [h2] at hh; cases hh⟩
      · exact ⟨hb, hold, hap, fun hh => by
          have : p.scrapped = true := hh
          rw [h2] at this; cases this⟩
      · exact ⟨hb, hold, hap, fun hh => by
          have : p.scrapped = true := hh
          rw [h2] at this; cases this⟩
      · exact ⟨hb, fun hne => absurd o2 hne, fun hne => absurd o2 hne, fun _ z hz => by rw [← hp.2]; exact holds_iff.1 o3 z hz⟩
  obtain ⟨c1, c2, c3, c4⟩ := hpl
  have hk : ∀ q ∈ st, q.name = e.part → p'.kind = q.kind := fun q hq hqn => h.kind ((find_iff hi).2 ⟨hq, hqn⟩)
  refine ⟨hv.cat, ?_, put_inc _ hi, fun z hz => ?_, fun z hz => ?_, fun z hz hne => ?_, fun z hz w hw hne e1 e2 => ?_⟩
  · rw [put_len hi, at_find hi, hn]
    split
    · exact hv.len
    · rename_i hnf
      rcases h.how with ⟨_, _, _, h4, _⟩ | ⟨p, h1, _, _⟩
      · have := hv.len; omega
      · exact absurd (by rw [show st.find? (fun y => decide (y.name = e.part)) = some p from h1]; rfl) hnf
  · rcases (hm z).1 hz with rfl | ⟨hz, _⟩
    · exact right_iff.2 h.right
    · exact hv.right z hz
  · rcases (hm z).1 hz with rfl | ⟨hz, _⟩
    · exact c1
    · exact hv.both z hz
  · rcases (hm z).1 hz with rfl | ⟨hz, hzn⟩
    · obtain ⟨d1, q, d2, d3, d4, d5⟩ := c2 hne
      by_cases hq : q.name = e.part
      · exact ⟨d1, z, (hm z).2 (.inl rfl), by rw [hn, ← hq, d3], d1, by rw [hk q d2 hq]; rw [hk q d2 hq] at d5; exact d5⟩
      · exact ⟨d1, q, (hm q).2 (.inr ⟨d2, hq⟩), d3, d4, d5⟩
    · obtain ⟨d1, q, d2, d3, d4, d5⟩ := hv.sits z hz hne
      by_cases hq : q.name = e.part
      · have hsc : p'.scrapped = false := by
          cases hs : p'.scrapped with
          | false => rfl
          | true => exact absurd (by rw [← d3, hq]) (c4 hs z hz)
        exact ⟨d1, p', (hm p').2 (.inl rfl), by rw [hn, ← hq, d3], hsc, by rw [hk q d2 hq]; exact d5⟩
      · exact ⟨d1, q, (hm q).2 (.inr ⟨d2, hq⟩), d3, d4, d5⟩
  · rcases (hm z).1 hz with hz1 | ⟨hz1, hzn⟩ <;> rcases (hm w).1 hw with hw1 | ⟨hw1, hwn⟩
    · rw [hz1, hw1]
    · subst hz1; exact absurd ⟨e1.symm, e2.symm⟩ (c3 hne w hw1 hwn)
    · subst hw1; exact absurd ⟨e1, e2⟩ (c3 (by rw [← e1]; exact hne) z hz1 hzn)
    · exact hv.apart z hz1 w hw1 hne e1 e2
/-! two events, the one for the other -/
def mentions (e : Evt) : List ByteArray := if e.op = 2 then [e.part, e.into] else [e.part]
theorem Step.swap {c : List Kind} {st : List Part} {x y : Evt} {p1 p2 : Part} (hx : Step c st x p1) (hy : Step c (putL Part.name st p1) y p2) (h3 : x.op ≠ 3) (h3' : y.op ≠ 3) (hd : ∀ s ∈ mentions x, s ∉ mentions y) :
    Step c st y p2 ∧ Step c (putL Part.name st p2) x p1 := by
  have hi := hx.vs.inc
  have n1 := hx.name
  have n2 := hy.name
  have xp : x.part ∈ mentions x := by unfold mentions; split <;> simp
  have yp : y.part ∈ mentions y := by unfold mentions; split <;> simp
  have hne : x.part ≠ y.part := fun e => hd _ xp (by rw [e]; exact yp)
  have vx := validE_parts hx.ve
  have vy := validE_parts hy.ve
  have f1 : ∀ s, s ≠ x.part → findP (putL Part.name st p1) s = findP st s := fun s hs => by
    unfold findP; rw [put_find hi, n1, if_neg (fun e => hs e.symm)]
  have f2 : ∀ s, s ≠ y.part → findP (putL Part.name st p2) s = findP st s := fun s hs => by
    unfold findP; rw [put_find hi, n2, if_neg (fun e => hs e.symm)]
  have m1 : ∀ z, z ∈ putL Part.name st p1 ↔ z = p1 ∨ (z ∈ st ∧ z.name ≠ x.part) := fun z => by rw [put_mem hi, n1]
  have m2 : ∀ z, z ∈ putL Part.name st p2 ↔ z = p2 ∨ (z ∈ st ∧ z.name ≠ y.part) := fun z => by rw [put_mem hi, n2]
  -- where the part of x was, and is
  have wx : ∀ z ∈ st, z.name = x.part → z.into ≠ nil8 → p1.into = z.into ∧ p1.slot = z.slot := fun z hz hzn hzi => by
    rcases hx.how with ⟨_, h2, _, _, _⟩ | ⟨p, h1, _, h3x⟩
    · exact absurd hzn (find_none.1 h2 z hz)
    · have hp := (find_iff hi).1 h1
      have : z = p := inc_uniq hi hz hp.1 (by rw [hzn, hp.2])
      subst this
      rcases h3x with ⟨_, q, _, _, _, _, o6, _, rfl⟩ | ⟨o1, _, _⟩ | ⟨_, _, rfl⟩ | ⟨_, rfl⟩ | ⟨_, _, rfl⟩ | ⟨_, _, _, rfl⟩
      · exact absurd o6 hzi
      · exact absurd o1 h3
      all_goals exact ⟨rfl, rfl⟩
  have hyst : Step c st y p2 := by
    refine ⟨hx.vs, hy.ve, ?_⟩
    rcases hy.how with ⟨o1, o2, o3, o4, o5⟩ | ⟨p, h1, h2, h3y⟩
    · rw [f1 _ (Ne.symm hne)] at o2
      refine .inl ⟨o1, o2, o3, fun hl => o4 ?_, o5⟩
      have := hx.vs.len
      rw [put_len hi, at_find hi, n1]
      split
      · exact hl
      · rename_i hnf
        rcases hx.how with ⟨_, _, _, h4, _⟩ | ⟨p, h1, _, _⟩
        · exact absurd hl h4
        · exact absurd (by rw [show st.find? (fun y => decide (y.name = x.part)) = some p from h1]; rfl) hnf
    · rw [f1 _ (Ne.symm hne)] at h1
      refine .inr ⟨p, h1, h2, ?_⟩
      rcases h3y with ⟨o1, q, o2, o3, o4, o5, o6, o7, o8⟩ | ⟨o1, _, _⟩ | h | h | h | ⟨o1, o2, o3, o4⟩
      · have hyi : y.into ∈ mentions y := by simp [mentions, o1]
        have hni : y.into ≠ x.part := fun e => hd _ xp (by rw [← e]; exact hyi)
        rw [f1 _ hni] at o2
        refine .inl ⟨o1, q, o2, o3, o4, o5, o6, taken_iff.2 fun z hz ⟨e1, e2⟩ => ?_, o8⟩
        by_cases hzn : z.name = x.part
        · obtain ⟨w1, w2⟩ := wx z hz hzn (by rw [e1]; exact name_ne (vy.2.2.2.1 o1).1)
          exact taken_iff.1 o7 p1 ((m1 _).2 (.inl rfl)) ⟨by rw [w1, e1], by rw [w2, e2]⟩
        · exact taken_iff.1 o7 z ((m1 _).2 (.inr ⟨hz, hzn⟩)) ⟨e1, e2⟩
      · exact absurd o1 h3'
      · exact .inr (.inr (.inl h))
      · exact .inr (.inr (.inr (.inl h)))
      · exact .inr (.inr (.inr (.inr (.inl h))))
      · refine .inr (.inr (.inr (.inr (.inr ⟨o1, o2, holds_iff.2 fun z hz e1 => ?_, o4⟩))))
        have hp := (find_iff hi).1 h1
        by_cases hzn : z.name = x.part
        · obtain ⟨w1, w2⟩ := wx z hz hzn (by rw [e1, hp.2]; exact name_ne vy.1)
          exact holds_iff.1 o3 p1 ((m1 _).2 (.inl rfl)) (by rw [w1, e1])
        · exact holds_iff.1 o3 z ((m1 _).2 (.inr ⟨hz, hzn⟩)) e1
  refine ⟨hyst, hyst.valid, hx.ve, ?_⟩
  -- where the part of y is
  have wy : ∀ s, s ∈ mentions x → s ≠ nil8 → p2.into = s → ∃ z ∈ st, z.into = s ∧ z.slot = p2.slot ∧ z.name = y.part := fun s hs hsn he => by
    rcases hyst.how with ⟨_, h2, _, _, rfl⟩ | ⟨p, h1, _, h3y⟩
    · exact absurd he.symm hsn
    · have hp := (find_iff hi).1 h1
      rcases h3y with ⟨o1, q, _, _, _, _, o6, _, rfl⟩ | ⟨o1, _, _⟩ | ⟨_, _, rfl⟩ | ⟨_, rfl⟩ | ⟨_, _, rfl⟩ | ⟨_, _, _, rfl⟩
      · exact absurd (by rw [← he]; simp [mentions, o1]) (hd s hs)
      · exact absurd o1 h3'
      all_goals exact ⟨_, hp.1, he, rfl, hp.2⟩
  rcases hx.how with ⟨o1, o2, o3, o4, o5⟩ | ⟨p, h1, h2, h3x⟩
  · refine .inl ⟨o1, by rw [f2 _ hne]; exact o2, o3, fun hl => ?_, o5⟩
    rw [put_len hi, at_find hi, n2] at hl
    split at hl
    · exact o4 hl
    · rename_i hnf
      rcases hy.how with ⟨_, _, _, h4, _⟩ | ⟨p, h1, _, _⟩
      · apply h4
        rw [put_len hi, at_find hi, n1, if_neg]
        · exact hl
        · rw [show st.find? (fun y => decide (y.name = x.part)) = none from o2]; simp
      · rw [f1 _ (Ne.symm hne)] at h1
        exact hnf (by rw [show st.find? (fun z => decide (z.name = y.part)) = some p from h1]; rfl)
  · refine .inr ⟨p, by rw [f2 _ hne]; exact h1, h2, ?_⟩
    have hp := (find_iff hi).1 h1
    rcases h3x with ⟨o1, q, o2, o3, o4, o5, o6, o7, o8⟩ | ⟨o1, _, _⟩ | h | h | h | ⟨o1, o2, o3, o4⟩
    · have hxi : x.into ∈ mentions x := by simp [mentions, o1]
      have hni : x.into ≠ y.part := fun e => hd _ hxi (by rw [e]; exact yp)
      refine .inl ⟨o1, q, by rw [f2 _ hni]; exact o2, o3, o4, o5, o6, taken_iff.2 fun z hz ⟨e1, e2⟩ => ?_, o8⟩
      rcases (m2 z).1 hz with rfl | ⟨hz, _⟩
      · obtain ⟨w, hw, w1, w2, _⟩ := wy _ hxi (name_ne (vx.2.2.2.1 o1).1) e1
        exact taken_iff.1 o7 w hw ⟨w1, by rw [w2, e2]⟩
      · exact taken_iff.1 o7 z hz ⟨e1, e2⟩
    · exact absurd o1 h3
    · exact .inr (.inr (.inl h))
    · exact .inr (.inr (.inr (.inl h)))
    · exact .inr (.inr (.inr (.inr (.inl h))))
    · refine .inr (.inr (.inr (.inr (.inr ⟨o1, o2, holds_iff.2 fun z hz e1 => ?_, o4⟩))))
      rcases (m2 z).1 hz with rfl | ⟨hz, _⟩
      · obtain ⟨w, hw, w1, _, _⟩ := wy _ xp (name_ne vx.1) (by rw [e1, hp.2])
        exact holds_iff.1 o3 w hw (by rw [w1, hp.2])
      · exact holds_iff.1 o3 z hz e1
theorem apply_swap {c : List Kind} {st : List Part} {x y : Evt} (hx : (applyF c st x).2 = 0) (hy : (applyF c (applyF c st x).1 y).2 = 0) (h3 : x.op ≠ 3) (h3' : y.op ≠ 3) (hd : ∀ s ∈ mentions x, s ∉ mentions y) :
    (applyF c st y).2 = 0 ∧ (applyF c (applyF c st y).1 x).2 = 0 ∧ (applyF c (applyF c st y).1 x).1 = (applyF c (applyF c st x).1 y).1 := by
  obtain ⟨p1, s1⟩ := of_apply hx
  rw [apply_of s1] at hy ⊢
  obtain ⟨p2, s2⟩ := of_apply hy
  have s2 : Step c (putL Part.name st p1) y p2 := s2
  obtain ⟨t1, t2⟩ := s1.swap s2 h3 h3' hd
  rw [apply_of t1]
  have e1 : applyF c (putR st p2).1 x = putR (putL Part.name st p2) p1 := apply_of t2
  have e2 : applyF c (putR st p1).1 y = putR (putL Part.name st p1) p2 := apply_of s2
  rw [e1, e2]
  refine ⟨rfl, rfl, put_comm s1.vs.inc ?_⟩
  rw [s1.name, s2.name]
  intro e
  exact hd x.part (by unfold mentions; split <;> simp) (by rw [← e]; unfold mentions; split <;> simp)
end Go.Sx

/- The course with two events exchanged. -/
set_option linter.all false
namespace Go.Sx
open Go
theorem names_of {e : Evt} (hv : validE e = true) (s : ByteArray) : s ∈ namesE e ↔ s ∈ mentions e := by
  unfold namesE mentions
  rw [if_neg (by simp [hv])]
  split
  · unfold minS maxS
    cases h1 : sLt e.part e.into with
    | true => simp
    | false =>
      by_cases h2 : e.part = e.into
      · rw [h2]; simp
      · simp [h2]
        constructor
        · rintro (h | h)
          · exact .inr h
          · exact .inl h
        · rintro (h | h)
          · exact .inr h
          · exact .inl h
  · rfl
theorem go_ok_valid {c : List Kind} {s : List Part} {e : Evt} (h : (applyF c s e).2 = 0) : validE e = true := by
  obtain ⟨_, hs⟩ := of_apply h
  exact hs.ve
theorem go_swap {c : List Kind} {a b : List Evt} {x y : Evt} {s : List Part} {i : Int} (h : (runGo c s i (a ++ x :: y :: b)).2.2 = 0) (h3 : x.op ≠ 3) (h3' : y.op ≠ 3) (hd : ∀ z ∈ namesE x, z ∉ namesE y) :
    runGo c s i (a ++ y :: x :: b) = runGo c s i (a ++ x :: y :: b) := by
  have h0 : (runGo c s i a).2.2 = 0 := by
    by_cases h0 : (runGo c s i a).2.2 = 0
    · exact h0
    · rw [go_app_err a _ s i h0] at h; exact absurd h h0
  rw [go_app_ok a _ s i h0] at h ⊢
  rw [go_app_ok a _ s i h0]
  generalize (runGo c s i a).1 = st at *
  generalize i + (a.length : Nat) = k at *
  simp only [runGo] at h ⊢
  split at h
  · rename_i hx
    split at h
    · rename_i hy
      have hd' : ∀ z ∈ mentions x, z ∉ mentions y := fun z hz hz' => hd z ((names_of (go_ok_valid hx) z).2 hz) ((names_of (go_ok_valid hy) z).2 hz')
      obtain ⟨e1, e2, e3⟩ := apply_swap hx hy h3 h3' hd'
      rw [if_pos e1, if_pos e2, e3, if_pos hx, if_pos hy]
    · rename_i hy; exact absurd h hy
  · rename_i hx; exact absurd h hx
theorem list_at2 (m : List Evt) {k : Nat} (hk : k + 1 < m.length) : m = m.take k ++ m[k] :: m[k + 1] :: m.drop (k + 2) := by
  have := split2 m hk
  simpa using this
theorem swp_at2 (m : List Evt) {k : Nat} (hk : k + 1 < m.length) : swp m (k + 1) k = m.take k ++ m[k + 1] :: m[k] :: m.drop (k + 2) := by
  have := swp_adj m hk
  simpa using this
theorem exchange {c : List Kind} {l : List Evt} {k : Nat} (h : (runF c l).2.2 = 0) (hk : k + 1 < (sortF l).length) (hd : (sortF l)[k].day = (sortF l)[k + 1].day) (h3 : (sortF l)[k].op ≠ 3) (h3' : (sortF l)[k + 1].op ≠ 3)
    (hn : ∀ z ∈ namesE (sortF l)[k], z ∉ namesE (sortF l)[k + 1]) : runF c (swp (sortF l) (k + 1) k) = runF c l := by
  have hv := run_valid h
  have e1 := list_at2 (sortF l) hk
  have e2 := swp_at2 (sortF l) hk
  have hs : sortF (swp (sortF l) (k + 1) k) = swp (sortF l) (k + 1) k := by
    apply sortF_self
    have h1 := sortF_srt l
    unfold Srtd at h1 ⊢
    rw [e1] at h1
    rw [e2]
    rw [List.pairwise_append, List.pairwise_cons, List.pairwise_cons] at h1 ⊢
    obtain ⟨a1, ⟨a2, a3, a4⟩, a5⟩ := h1
    have hday : Day.day (sortF l)[k] = Day.day (sortF l)[k + 1] := hd
    refine ⟨a1, ⟨fun z hz => ?_, fun z hz => ?_, a4⟩, fun z hz w hw => ?_⟩
    · rcases List.mem_cons.1 hz with rfl | hz
      · exact Int.le_of_eq hday.symm
      · exact a3 z hz
    · exact a2 z (List.mem_cons_of_mem _ hz)
    · refine a5 z hz w ?_
      simp only [List.mem_cons] at hw ⊢
      rcases hw with h | h | h
      · exact .inr (.inl h)
      · exact .inl h
      · exact .inr (.inr h)
  rw [runF_eq hv] at h
  rw [runF_eq hv, runF_eq hv, hs, e2]
  conv => rhs; rw [e1]
  rw [e1] at h
  exact go_swap h h3 h3' hn
theorem swp_sub {l : List Evt} {i j : Nat} {x : Evt} (h : x ∈ swp l i j) : x ∈ l := by
  unfold swp at h
  split at h
  · rename_i a b ha hb
    rcases List.mem_or_eq_of_mem_set h with h | rfl
    · rcases List.mem_or_eq_of_mem_set h with h | rfl
      · exact h
      · exact List.mem_of_getElem? hb
    · exact List.mem_of_getElem? ha
  · exact h
theorem swp_rest2 {l : List Evt} {k : Nat} {rest : List (List Value)} (hk : k + 1 < l.length) : ((evCh l ++ rest).set k (Day.ch l[k + 1])).set (k + 1) (Day.ch l[k]) = evCh (swp l (k + 1) k) ++ rest := by
  rw [evCh_set' _ _ _ (by omega), evCh_set' _ _ _ (by simpa using hk), swp_eq hk (by omega), List.set_comm _ _ (by omega)]
theorem swp_rest2' {l : List Evt} {k : Nat} {rest : List (List Value)} (hk : k + 1 < l.length) : ((evCh l ++ rest).set (k + 1) (Day.ch l[k])).set k (Day.ch l[k + 1]) = evCh (swp l (k + 1) k) ++ rest := by
  rw [evCh_set' _ _ _ hk, evCh_set' _ _ _ (by simp; omega), swp_eq hk (by omega)]
end Go.Sx

/- The plain law of HistoryApart: events of parts that have nothing to do with each other. -/
set_option linter.all false
namespace Go.Sx
open Go
/-- a state in two parts: that of the names in D, and that of the others -/
structure Spl (D : ByteArray → Bool) (s a b : List Part) : Prop where
  is : Inc Part.name s
  ia : Inc Part.name a
  ib : Inc Part.name b
  mem : ∀ x, x ∈ s ↔ x ∈ a ∨ x ∈ b
  na : ∀ x ∈ a, D x.name = true ∧ (x.into = nil8 ∨ D x.into = true)
  nb : ∀ x ∈ b, D x.name = false ∧ (x.into = nil8 ∨ D x.into = false)
theorem Spl.nil (D : ByteArray → Bool) : Spl D [] [] [] := ⟨.nil, .nil, .nil, by simp, by simp, by simp⟩
theorem Spl.turn {D : ByteArray → Bool} {s a b : List Part} (h : Spl D s a b) : Spl (fun n => !D n) s b a :=
  ⟨h.is, h.ib, h.ia, fun x => by rw [h.mem x]; exact Or.comm, fun x hx => by simpa using h.nb x hx, fun x hx => by simpa using h.na x hx⟩
theorem Spl.find {D : ByteArray → Bool} {s a b : List Part} (h : Spl D s a b) {n : ByteArray} (hn : D n = true) : findP s n = findP a n := by
  refine Option.ext fun x => ?_
  show s.find? _ = some x ↔ a.find? _ = some x
  rw [find_iff h.is, find_iff h.ia, h.mem x]
  constructor
  · rintro ⟨h1 | h1, h2⟩
    · exact ⟨h1, h2⟩
    · have := (h.nb x h1).1
      rw [h2, hn] at this; cases this
  · rintro ⟨h1, h2⟩
    exact ⟨.inl h1, h2⟩
/-- an event of D alone -/
def Dev (D : ByteArray → Bool) (e : Evt) : Prop := ∀ z ∈ mentions e, D z = true
theorem Dev.part {D : ByteArray → Bool} {e : Evt} (h : Dev D e) : D e.part = true := h _ (by unfold mentions; split <;> simp)
theorem Dev.into {D : ByteArray → Bool} {e : Evt} (h : Dev D e) (ho : e.op = 2) : D e.into = true := h _ (by simp [mentions, ho])
theorem Spl.taken {D : ByteArray → Bool} {s a b : List Part} (h : Spl D s a b) {e : Evt} (hn : D e.into = true) (h0 : e.into ≠ nil8) : seatTaken s e = seatTaken a e := by
  unfold seatTaken
  rw [Bool.eq_iff_iff, List.any_eq_true, List.any_eq_true]
  constructor
  · rintro ⟨x, hx, hp⟩
    rcases (h.mem x).1 hx with h1 | h1
    · exact ⟨x, h1, hp⟩
    · have hi : x.into = e.into := by simp at hp; exact hp.1
      rcases (h.nb x h1).2 with h2 | h2
      · exact absurd (hi.symm.trans h2) h0
      · rw [hi, hn] at h2; cases h2
  · rintro ⟨x, hx, hp⟩
    exact ⟨x, (h.mem x).2 (.inl hx), hp⟩
theorem Spl.holds {D : ByteArray → Bool} {s a b : List Part} (h : Spl D s a b) {n : ByteArray} (hn : D n = true) (h0 : n ≠ nil8) : holdsAny s n = holdsAny a n := by
  unfold holdsAny
  rw [Bool.eq_iff_iff, List.any_eq_true, List.any_eq_true]
  constructor
  · rintro ⟨x, hx, hp⟩
    rcases (h.mem x).1 hx with h1 | h1
    · exact ⟨x, h1, hp⟩
    · have hi : x.into = n := by simpa using hp
      rcases (h.nb x h1).2 with h2 | h2
      · exact absurd (hi.symm.trans h2) h0
      · rw [hi, hn] at h2; cases h2
  · rintro ⟨x, hx, hp⟩
    exact ⟨x, (h.mem x).2 (.inl hx), hp⟩
theorem Spl.step {c : List Kind} {D : ByteArray → Bool} {s a b : List Part} (h : Spl D s a b) {e : Evt} (he : Dev D e) (vs : VS c s) (va : VS c a) (ls : s.length < 20000) (la : a.length < 20000) (p' : Part) : Step c s e p' ↔ Step c a e p' := by
  have f1 := h.find he.part
  constructor
  · intro hs
    obtain ⟨v1, v2, v3, v4, v5⟩ := validE_parts hs.ve
    refine ⟨va, hs.ve, ?_⟩
    rcases hs.how with ⟨h1, h2, h3, h4, h5⟩ | ⟨p, h1, h2, h3⟩
    · exact .inl ⟨h1, by rw [← f1]; exact h2, h3, by omega, h5⟩
    · refine .inr ⟨p, by rw [← f1]; exact h1, h2, ?_⟩
      have hpn : p.name = e.part := ((find_iff h.is).1 h1).2
      rcases h3 with ⟨o1, q, o2, o3, o4, o5, o6, o7, o8⟩ | h3 | h3 | h3 | h3 | ⟨o1, o2, o3, o4⟩
      · exact .inl ⟨o1, q, by rw [← h.find (he.into o1)]; exact o2, o3, o4, o5, o6, by rw [← h.taken (he.into o1) (name_ne (v4 o1).1)]; exact o7, o8⟩
      · exact .inr (.inl h3)
      · exact .inr (.inr (.inl h3))
      · exact .inr (.inr (.inr (.inl h3)))
      · exact .inr (.inr (.inr (.inr (.inl h3))))
      · exact .inr (.inr (.inr (.inr (.inr ⟨o1, o2, by rw [← h.holds (by rw [hpn]; exact he.part) (by rw [hpn]; exact name_ne v1)]; exact o3, o4⟩))))
  · intro hs
    obtain ⟨v1, v2, v3, v4, v5⟩ := validE_parts hs.ve
    refine ⟨vs, hs.ve, ?_⟩
    rcases hs.how with ⟨h1, h2, h3, h4, h5⟩ | ⟨p, h1, h2, h3⟩
    · exact .inl ⟨h1, by rw [f1]; exact h2, h3, by omega, h5⟩
    · refine .inr ⟨p, by rw [f1]; exact h1, h2, ?_⟩
      have hpn : p.name = e.part := ((find_iff h.ia).1 h1).2
      rcases h3 with ⟨o1, q, o2, o3, o4, o5, o6, o7, o8⟩ | h3 | h3 | h3 | h3 | ⟨o1, o2, o3, o4⟩
      · exact .inl ⟨o1, q, by rw [h.find (he.into o1)]; exact o2, o3, o4, o5, o6, by rw [h.taken (he.into o1) (name_ne (v4 o1).1)]; exact o7, o8⟩
      · exact .inr (.inl h3)
      · exact .inr (.inr (.inl h3))
      · exact .inr (.inr (.inr (.inl h3)))
      · exact .inr (.inr (.inr (.inr (.inl h3))))
      · exact .inr (.inr (.inr (.inr (.inr ⟨o1, o2, by rw [h.holds (by rw [hpn]; exact he.part) (by rw [hpn]; exact name_ne v1)]; exact o3, o4⟩))))
theorem Spl.put {c : List Kind} {D : ByteArray → Bool} {s a b : List Part} (h : Spl D s a b) {e : Evt} (he : Dev D e) {p' : Part} (hs : Step c a e p') : Spl D (putL Part.name s p') (putL Part.name a p') b := by
  have hn := hs.name
  refine ⟨put_inc _ h.is, put_inc _ h.ia, h.ib, fun x => ?_, fun x hx => ?_, h.nb⟩
  · rw [put_mem h.is, put_mem h.ia, h.mem x, hn]
    constructor
    · rintro (h1 | ⟨h1 | h1, h2⟩)
      · exact .inl (.inl h1)
      · exact .inl (.inr ⟨h1, h2⟩)
      · exact .inr h1
    · rintro ((h1 | ⟨h1, h2⟩) | h1)
      · exact .inl h1
      · exact .inr ⟨.inl h1, h2⟩
      · refine .inr ⟨.inr h1, fun h2 => ?_⟩
        have := (h.nb x h1).1
        rw [h2, he.part] at this; cases this
  · rcases (put_mem h.ia).1 hx with rfl | ⟨h1, _⟩
    · refine ⟨by rw [hn]; exact he.part, ?_⟩
      rcases hs.how with ⟨_, _, _, _, rfl⟩ | ⟨p, h1, h2, h3⟩
      · exact .inl rfl
      · have hp := h.na p ((find_iff h.ia).1 h1).1
        rcases h3 with ⟨o1, q, o2, o3, o4, o5, o6, o7, rfl⟩ | ⟨_, _, rfl⟩ | ⟨_, _, rfl⟩ | ⟨_, rfl⟩ | ⟨_, _, rfl⟩ | ⟨_, _, _, rfl⟩
        · exact .inr (he.into o1)
        · exact .inl rfl
        · exact hp.2
        · exact hp.2
        · exact hp.2
        · exact hp.2
    · exact h.na x h1
theorem put_le {l : List Part} {x : Part} (h : Inc Part.name l) : (putL Part.name l x).length ≤ l.length + 1 := by
  rw [put_len h]; split <;> omega
theorem step_or (c : List Kind) (s : List Part) (e : Evt) : (∃ p', Step c s e p' ∧ (applyF c s e).2 = 0 ∧ (applyF c s e).1 = putL Part.name s p') ∨ ((applyF c s e).2 ≠ 0 ∧ ∀ p', ¬ Step c s e p') := by
  by_cases h : (applyF c s e).2 = 0
  · obtain ⟨p', hp⟩ := of_apply h
    exact .inl ⟨p', hp, h, by rw [apply_of hp]; rfl⟩
  · exact .inr ⟨h, fun p' hp => h (by rw [apply_of hp]; rfl)⟩
theorem runs_split {c : List Kind} {D : ByteArray → Bool} : ∀ (Z : List Evt) (s a b : List Part), Spl D s a b → VS c s → VS c a → VS c b → s.length + Z.length < 20000 → a.length + Z.length < 20000 → b.length + Z.length < 20000 →
    (∀ e ∈ Z, Dev D e ∨ Dev (fun n => !D n) e) → (runsTo c s Z).isSome = ((runsTo c a (Z.filter fun e => D e.part)).isSome && (runsTo c b (Z.filter fun e => !D e.part)).isSome)
  | [], _, _, _, _, _, _, _, _, _, _, _ => rfl
  | e :: r, s, a, b, h, vs, va, vb, ls, la, lb, hd => by
    simp only [List.length_cons] at ls la lb
    rcases hd e (by simp) with he | he
    · have hp := he.part
      have hst := fun p' => h.step he vs va (by omega) (by omega) p'
      simp only [List.filter_cons, hp, Bool.not_true, if_true, Bool.false_eq_true, if_false]
      rcases step_or c a e with ⟨p', h1, h2, h3⟩ | ⟨h1, h2⟩
      · have h4 := (hst p').2 h1
        have e4 : applyF c s e = putR s p' := apply_of h4
        simp only [runsTo]
        rw [if_pos h2, h3, if_pos (by rw [e4]; rfl), e4]
        have l1 := put_le (x := p') h.is
        have l2 := put_le (x := p') h.ia
        exact runs_split r _ _ _ (h.put he h1) h4.valid h1.valid vb (by show (putL Part.name s p').length + r.length < 20000; omega) (by omega) (by omega) fun x hx => hd x (by simp [hx])
      · simp only [runsTo]
        rw [if_neg h1, if_neg (fun h0 => by obtain ⟨p', hp'⟩ := of_apply h0; exact h2 p' ((hst p').1 hp'))]
        rfl
    · have hp : D e.part = false := by simpa using he.part
      have hst := fun p' => h.turn.step he vs vb (by omega) (by omega) p'
      simp only [List.filter_cons, hp, Bool.not_false, if_true, Bool.false_eq_true, if_false]
      rcases step_or c b e with ⟨p', h1, h2, h3⟩ | ⟨h1, h2⟩
      · have h4 := (hst p').2 h1
        have e4 : applyF c s e = putR s p' := apply_of h4
        simp only [runsTo]
        rw [if_pos h2, h3, if_pos (by rw [e4]; rfl), e4]
        have l1 := put_le (x := p') h.is
        have l2 := put_le (x := p') h.ib
        have ht := (h.turn.put he h1).turn
        have ht : Spl D (putL Part.name s p') a (putL Part.name b p') := ⟨ht.is, ht.ia, ht.ib, ht.mem, fun x hx => by simpa using ht.na x hx, fun x hx => by simpa using ht.nb x hx⟩
        exact runs_split r _ _ _ ht h4.valid va h1.valid (by show (putL Part.name s p').length + r.length < 20000; omega) (by omega) (by omega) fun x hx => hd x (by simp [hx])
      · simp only [runsTo]
        rw [if_neg h1, if_neg (fun h0 => by obtain ⟨p', hp'⟩ := of_apply h0; exact h2 p' ((hst p').1 hp'))]
        simp
theorem vs_nil {c : List Kind} (h : validC c = true) : VS c [] := ⟨h, by simp, .nil, by simp, by simp, by simp, by simp⟩
/-! the law -/
theorem pickE_mem {day : Int} {l : List Rep} {ch : List Int} {e : Evt} (h : e ∈ pickE day l ch) : ∃ r ∈ l, e ∈ r.options := by
  rw [pickE, List.mem_filterMap] at h
  obtain ⟨p, hp, h⟩ := h
  exact ⟨p.1, (List.of_mem_zip hp).1, opt_some h⟩
theorem pickE_len (day : Int) (l : List Rep) (ch : List Int) : (pickE day l ch).length ≤ l.length := by
  unfold pickE
  refine Nat.le_trans (List.length_filterMap_le _ _) ?_
  rw [List.length_zip]; exact Nat.min_le_left _ _
theorem given_app {c : List Kind} {l m : List Rep} {a b : List Int} (ga : givenF c l a 0 = true) (gb : givenF c m b 0 = true) : givenF c (l ++ m) (a ++ b) 0 = true := by
  have la := (given_all ga).1
  have lb := (given_all gb).1
  refine given_mk (given_cat ga) (by simp [la, lb]) fun i h1 h2 => ?_
  by_cases hi : i < l.length
  · rw [List.getElem_append_left hi, List.getElem_append_left (by omega)]
    exact given_at ga hi (by omega)
  · rw [List.length_append] at h1 h2
    rw [List.getElem_append_right (by omega), List.getElem_append_right (by omega)]
    have := given_at gb (i := i - l.length) (by omega) (by omega)
    simpa [la] using this
/-- the names that reports mention -/
def names15 (l : List Rep) (n : ByteArray) : Bool := l.any fun r => r.options.any fun e => decide (n ∈ mentions e)
theorem names15_is {l : List Rep} {n : ByteArray} : names15 l n = true ↔ ∃ r ∈ l, ∃ e ∈ r.options, n ∈ mentions e := by
  simp [names15, List.any_eq_true]
theorem filt_all {α : Type} {p : α → Bool} {l : List α} (h : ∀ x ∈ l, p x = true) : l.filter p = l := List.filter_eq_self.2 h
theorem filt_no {α : Type} {p : α → Bool} {l : List α} (h : ∀ x ∈ l, p x = false) : l.filter p = [] := List.filter_eq_nil_iff.2 fun x hx => by rw [h x hx]; decide
theorem law_apart {c : List Kind} {l m : List Rep} {a b : List Int} (ga : givenF c l a 0 = true) (gb : givenF c m b 0 = true) (hl : l.length ≤ 1000) (hm : m.length ≤ 1000)
    (hd : ∀ s ∈ m, ∀ f ∈ s.options, ∀ z ∈ mentions f, names15 l z = false) : (isF c (l ++ m) (a ++ b) == (isF c l a && isF c m b)) = true := by
  rw [is_ev ga, is_ev gb, is_ev (given_app ga gb)]
  have la := (given_all ga).1
  have e0 : pickE 40001 (l ++ m) (a ++ b) = pickE 40001 l a ++ pickE 40001 m b := by
    unfold pickE; rw [List.zip_append (by omega), List.filterMap_append]
  have hx : ∀ e ∈ pickE 40001 l a, Dev (names15 l) e := fun e he z hz => by
    obtain ⟨r, hr, h1⟩ := pickE_mem he
    exact names15_is.2 ⟨r, hr, e, h1, hz⟩
  have hy : ∀ e ∈ pickE 40001 m b, Dev (fun n => !names15 l n) e := fun e he z hz => by
    obtain ⟨r, hr, h1⟩ := pickE_mem he
    simp [hd r hr e h1 z hz]
  have l1 := pickE_len 40001 l a
  have l2 := pickE_len 40001 m b
  have hlen : (sortF (pickE 40001 l a ++ pickE 40001 m b)).length < 20000 := by rw [sortF_len, List.length_append]; omega
  have hc := vs_nil (given_cat ga)
  rw [e0, runs_split (D := names15 l) _ [] [] [] (Spl.nil _) hc hc hc (by simpa using hlen) (by simpa using hlen) (by simpa using hlen) (fun e he => by
    rcases List.mem_append.1 (sortF_mem.1 he) with h | h
    · exact .inl (hx e h)
    · exact .inr (hy e h))]
  rw [sortF_filt (fun e : Evt => names15 l e.part), sortF_filt (fun e : Evt => !names15 l e.part), List.filter_append, List.filter_append,
    filt_all (l := pickE 40001 l a) (p := fun e => names15 l e.part) (fun e he => (hx e he).part), filt_no (l := pickE 40001 m b) (p := fun e => names15 l e.part) (fun e he => by simpa using (hy e he).part),
    filt_no (l := pickE 40001 l a) (p := fun e => !names15 l e.part) (fun e he => by simp [(hx e he).part]), filt_all (l := pickE 40001 m b) (p := fun e => !names15 l e.part) (fun e he => (hy e he).part)]
  simp
/-! the names that are seen -/
def Seen (kvs : List (ByteArray × Value)) (p : ByteArray → Bool) : Prop := ∀ s, (mget kvs s).getD (.bool false) = .bool (p s)
theorem Seen.nil {p : ByteArray → Bool} (h : ∀ s, p s = false) : Seen [] p := fun s => by rw [h s]; rfl
theorem Seen.put {kvs : List (ByteArray × Value)} {p q : ByteArray → Bool} (h : Seen kvs p) (k : ByteArray) (hq : ∀ s, q s = (p s || decide (k = s))) : Seen (mput kvs k (.bool true)) q := fun s => by
  rw [mget_mput, hq s]
  by_cases hk : k = s
  · simp [hk]
  · simp [hk, h s]
theorem Seen.congr {kvs : List (ByteArray × Value)} {p q : ByteArray → Bool} (h : Seen kvs p) (hq : ∀ s, q s = p s) : Seen kvs q := fun s => by rw [h s, hq s]
theorem mem_snoc {ns : List ByteArray} {j : Nat} (hj : j < ns.length) (b : Bool) (s : ByteArray) : (b || decide (s ∈ ns.take (j + 1))) = ((b || decide (s ∈ ns.take j)) || decide (ns[j] = s)) := by
  rw [Bool.eq_iff_iff, ← take_succ_of hj]
  simp only [Bool.or_eq_true, decide_eq_true_eq, List.mem_append, List.mem_singleton]
  constructor
  · rintro (h | h | h)
    · exact .inl (.inl h)
    · exact .inl (.inr h)
    · exact .inr h.symm
  · rintro ((h | h) | h)
    · exact .inl h
    · exact .inr (.inl h)
    · exact .inr (.inr h.symm)
theorem names15_mem {r : Rep} {ns : List ByteArray} (hv : validRep r = true) (hn : NamesOf r ns) (s : ByteArray) : s ∈ ns ↔ ∃ e ∈ r.options, s ∈ mentions e := by
  rw [hn.1 s]
  constructor
  · rintro ⟨_, e, he, h⟩; exact ⟨e, he, (names_of (validRep_e hv e he) s).1 h⟩
  · rintro ⟨e, he, h⟩; exact ⟨hv, e, he, (names_of (validRep_e hv e he) s).2 h⟩
theorem names15_succ {l : List Rep} {i : Nat} {ns : List ByteArray} (hi : i < l.length) (hv : validRep l[i] = true) (hn : NamesOf l[i] ns) (s : ByteArray) : names15 (l.take (i + 1)) s = (names15 (l.take i) s || decide (s ∈ ns)) := by
  rw [Bool.eq_iff_iff, ← take_succ_of hi, names15_is, Bool.or_eq_true, names15_is, decide_eq_true_eq, names15_mem hv hn]
  constructor
  · rintro ⟨r, hr, h⟩
    rcases List.mem_append.1 hr with hr | hr
    · exact .inl ⟨r, hr, h⟩
    · obtain rfl := List.mem_singleton.1 hr; exact .inr h
  · rintro (⟨r, hr, h⟩ | h)
    · exact ⟨r, List.mem_append_left _ hr, h⟩
    · exact ⟨_, List.mem_append_right _ (List.mem_singleton.2 rfl), h⟩
theorem free_succ {l m : List Rep} {i : Nat} {ns : List ByteArray} (hi : i < m.length) (hv : validRep m[i] = true) (hn : NamesOf m[i] ns) (h : ∀ r ∈ m.take i, ∀ e ∈ r.options, ∀ z ∈ mentions e, names15 l z = false) (h2 : ∀ z ∈ ns, names15 l z = false) :
    ∀ r ∈ m.take (i + 1), ∀ e ∈ r.options, ∀ z ∈ mentions e, names15 l z = false := by
  intro r hr e he z hz
  rw [← take_succ_of hi] at hr
  rcases List.mem_append.1 hr with hr | hr
  · exact h r hr e he z hz
  · obtain rfl := List.mem_singleton.1 hr
    exact h2 z ((names15_mem hv hn z).2 ⟨e, he, hz⟩)
theorem free_snoc {ns : List ByteArray} {p : ByteArray → Bool} {j : Nat} (hj : j < ns.length) (h : ∀ z ∈ ns.take j, p z = false) (h2 : p ns[j] = false) : ∀ z ∈ ns.take (j + 1), p z = false := by
  intro z hz
  rw [← take_succ_of hj] at hz
  rcases List.mem_append.1 hz with hz | hz
  · exact h z hz
  · obtain rfl := List.mem_singleton.1 hz; exact h2
theorem app_sm {l m : List Rep} (h1 : ∀ r ∈ l, ∀ e ∈ r.options, SmE e) (h2 : ∀ r ∈ m, ∀ e ∈ r.options, SmE e) : ∀ r ∈ l ++ m, ∀ e ∈ r.options, SmE e := fun r hr => (List.mem_append.1 hr).elim (h1 r) (h2 r)
theorem giv_valid {c : List Kind} {l : List Rep} (h : givF c l = true) : ∀ r ∈ l, validRep r = true := by
  simp only [givF, Bool.and_eq_true] at h
  exact fun r hr => by obtain ⟨_, h1⟩ := allP_mem h.2 hr; exact h1
end Go.Sx

/- Walks, printed by a program out of the code of the functions: each theorem is a contract of one function. -/
namespace Go.Proofs.YtkmdojpfccjnoaaGreat
open Go Go.Sx
set_option linter.all false
set_option maxRecDepth 20000
set_option maxHeartbeats 4000000
theorem lawApart (I : IMap) (vc : Value) (c : List Kind) (hvc : RdS I vc c) (hoc : ∀ x ∈ c, OkKd x) (v : Value) (l : List Rep) (hv : RdS I v l) (hok : ∀ x ∈ l, OkRp x) (v2 : Value) (m : List Rep) (hv2 : RdS I v2 m) (hok2 : ∀ x ∈ m, OkRp x) (w : Value) (raw : List UInt8) (hw : RdS I w raw) (hrw : ∀ x ∈ raw, True) (w2 : Value) (raw2 : List UInt8) (hw2 : RdS I w2 raw2) (hrw2 : ∀ x ∈ raw2, True) :
    FnV Tryz.prog 8 #[.agg #[vc], v, v2, w, w2] I (.bool true) := by
 have hv0 := hv
 obtain ⟨A, c0, rfl, hA, hc, hm_⟩ := hv
 have hm0 := hv2
 obtain ⟨B, c1, rfl, hM, hcb, hmb⟩ := hv2
 refine enter Tryz.func8 Tryz.call8 rfl Tryz.ntmps8 rfl (fun w0 => ?_)
 refine go 3 ?_
 refine o_box _ rfl rfl rfl (fun g5 => ?_)
 refine go 6 ?_
 refine o_callV (head15 _) rfl rfl ?_
 refine go 9 ?_
 refine o_callV (ref15Few _ vc c hvc _ l hv0 5) rfl rfl ?_
 refine go 2 ?_
 refine sxb 27 rfl (fun h27 p27 => ?_) (fun h27 p27 => ?_)
 ·refine go 19 ?_
  refine c_true rfl ?_
  refine go 8 ?_
  refine fin1 rfl rfl ?_
  exact q_vI rfl
 ·have hfa : fewC c = true ∧ fewR l 5 = true := by simpa using h27
  obtain ⟨hsa, hla⟩ := fewR_sm hfa.2
  have h6a : l.length ≤ 1000 := by omega
  have hsc := fewC_sm hfa.1
  refine go 3 ?_
  refine o_yes rfl rfl h27 (o_callV (ref15Few _ vc c hvc _ m hm0 5) rfl rfl ?_)
  refine go 3 ?_
  refine sxb 33 rfl (fun h33 p33 => ?_) (fun h33 p33 => ?_)
  ·refine go 13 ?_
   refine c_true rfl ?_
   refine go 8 ?_
   refine fin1 rfl rfl ?_
   exact q_vI rfl
  ·have hfb : fewC c = true ∧ fewR m 5 = true := by simpa using h33
   obtain ⟨hsb, hlb⟩ := fewR_sm hfb.2
   have h6b : m.length ≤ 1000 := by omega
   refine go 3 ?_
   refine o_yes rfl rfl h33 (o_callV (ref15Given _ vc c hvc hsc _ l hv0 hsa) rfl rfl ?_)
   refine go 3 ?_
   refine sxb 39 rfl (fun h39 p39 => ?_) (fun h39 p39 => ?_)
   ·refine go 7 ?_
    refine c_true rfl ?_
    refine go 8 ?_
    refine fin1 rfl rfl ?_
    exact q_vI rfl
   ·refine go 3 ?_
    refine o_yes rfl rfl h39 (o_callV (ref15Given _ vc c hvc hsc _ m hm0 hsb) rfl rfl ?_)
    refine go 4 ?_
    refine cb rfl (fun h44 p44 => ?_) (fun h44 p44 => ?_)
    ·refine go 8 ?_
     refine fin1 rfl rfl ?_
     exact q_vI rfl
    ·have hgl : givF c l = true := by simpa using h39
     have hgm : givF c m = true := by simpa using h44
     have hvl := giv_valid hgl
     have hvm := giv_valid hgm
     refine go 5 ?_
     refine o_map0 (Value.string) he rfl (fun r46 => ?_)
     refine go 10 ?_
     refine c_loop3 ((0 : Nat)) ([]) (I) (fun i kvs J => J)
      (fun i kvs J => [(1, .slice A l.length c0), (2, .slice B m.length c1), (3, w), (4, w2), (5, .pointer (some ⟨g5, 0, none⟩)), (11, .bool true), (12, .map (some r46)), (13, .int .i64 ((i : Nat) : Int))])
      (fun i kvs J => [.mp r46 (emap Value.string kvs), .blk g5 24 [vc]])
      (fun i kvs J => i ≤ l.length ∧ ILe I J ∧ Seen kvs (names15 (l.take i)))
      (fun i kvs J => l.length - i) ⟨Nat.zero_le _, ILe.refl _, Seen.nil fun s => rfl⟩ rfl sb rfl ?_
     intro i kvs J ⟨hi, hJ, hsn⟩
     try have hvc := hvc.le hJ
     try have hv0 := hv0.le hJ
     try have hm0 := hm0.le hJ
     try have hA := hA.le hJ
     try have hM := hM.le hJ
     try have hw := hw.le hJ
     try have hw2 := hw2.le hJ
     refine go 9 ?_
     refine cb rfl (fun h50 p50 => ?_) (fun h50 p50 => ?_)
     ·have hlt : i < l.length := by omega
      refine go 8 ?_
      obtain ⟨b55, o55, w55, e55, c55, r55⟩ := RdA.at_ hA (i := i) (by omega)
      obtain ⟨q55, rfl, S55, d55, rfl, hS55, hd55, hm55⟩ := r55
      refine o_v rfl (v_idx he rfl rfl e55 (i) (by omega) (by omega)) ?_
      refine o_v rfl (v_ldIa he rfl c55 rfl) ?_
      refine go 1 ?_
      refine o_call (repNames _ l[i] S55 d55 ⟨_, _, rfl, hS55, hd55, hm55⟩ (hsa _ (List.getElem_mem hlt))) rfl rfl (fun v57 I57 j57 q57 => ?_)
      try have hvc := hvc.le j57
      try have hv0 := hv0.le j57
      try have hm0 := hm0.le j57
      try have hA := hA.le j57
      try have hM := hM.le j57
      try have hw := hw.le j57
      try have hw2 := hw2.le j57
      try have R95 := R95.le j57
      try have R98 := R98.le j57
      try have R95s := R95s.le j57
      try have R98s := R98s.le j57
      try have R103 := R103.le j57
      try have R112 := R112.le j57
      obtain ⟨ns, hns, hno⟩ := q57
      obtain ⟨NA, nc, rfl, hNA, _, _⟩ := hns
      refine go 9 ?_
      refine c_loop2 ((0 : Nat)) (kvs) (fun j kvs2 => I57)
       (fun j kvs2 => [(1, .slice A l.length c0), (2, .slice B m.length c1), (3, w), (4, w2), (5, .pointer (some ⟨g5, 0, none⟩)), (11, .bool true), (12, .map (some r46)), (13, .int .i64 ((i : Nat) : Int)), (14, .slice NA ns.length nc), (15, .int .i64 ((j : Nat) : Int))])
       (fun j kvs2 => [.mp r46 (emap Value.string kvs2), .blk g5 24 [vc]])
       (fun j kvs2 => j ≤ ns.length ∧ Seen kvs2 (fun s => names15 (l.take i) s || decide (s ∈ ns.take j)))
       (fun j kvs2 => ns.length - j) ⟨Nat.zero_le _, hsn.congr fun s => by simp⟩ rfl sb rfl ?_
      intro j kvs2 ⟨hj, hsn2⟩
      refine go 9 ?_
      refine cb rfl (fun h61 p61 => ?_) (fun h61 p61 => ?_)
      ·have hlj : j < ns.length := by omega
       refine go 8 ?_
       obtain ⟨b67, o67, w67, e67, c67, r67⟩ := RdA.at_ hNA (i := j) (by omega)
       obtain rfl := r67
       refine o_v rfl (v_idx he rfl rfl e67 (j) (by omega) (by omega)) ?_
       refine o_v rfl (v_ldI he rfl (c67 0 _ rfl)) ?_
       refine go 1 ?_
       refine o_mapPut (mput kvs2 ns[j] (.bool true)) (key_string he) he (ns[j]) rfl rfl rfl (rfl) ?_
       refine go 9 ?_
       exact q_next2 (j + 1) (_) ⟨by omega, hsn2.put ns[j] fun s => mem_snoc hlj _ s⟩ (by omega) rfl sb rfl
      ·have e : j = ns.length := by omega
       subst e
       rw [List.take_length] at hsn2
       refine go 12 ?_
       exact q_next3 (i + 1) (_) (_) ⟨by omega, hJ.trans j57, hsn2.congr fun s => names15_succ hlt (hvl _ (List.getElem_mem hlt)) hno s⟩ (by omega) rfl sb rfl
     ·have e : i = l.length := by omega
      subst e
      rw [List.take_length] at hsn
      refine go 12 ?_
      refine c_loop2 ((0 : Nat)) (J) (fun i2 J2 => J2)
       (fun i2 J2 => [(1, .slice A l.length c0), (2, .slice B m.length c1), (3, w), (4, w2), (5, .pointer (some ⟨g5, 0, none⟩)), (11, .bool true), (12, .map (some r46)), (16, .int .i64 ((i2 : Nat) : Int))])
       (fun i2 J2 => [.mp r46 (emap Value.string kvs), .blk g5 24 [vc]])
       (fun i2 J2 => i2 ≤ m.length ∧ ILe J J2 ∧ ∀ r ∈ m.take i2, ∀ e ∈ r.options, ∀ z ∈ mentions e, names15 l z = false)
       (fun i2 J2 => m.length - i2) ⟨Nat.zero_le _, ILe.refl _, fun r hr => by simp at hr⟩ rfl sb rfl ?_
      intro i2 J2 ⟨hi2, hJ2, hfree⟩
      try have hvc := hvc.le hJ2
      try have hv0 := hv0.le hJ2
      try have hm0 := hm0.le hJ2
      try have hA := hA.le hJ2
      try have hM := hM.le hJ2
      try have hw := hw.le hJ2
      try have hw2 := hw2.le hJ2
      refine go 9 ?_
      refine cb rfl (fun h72 p72 => ?_) (fun h72 p72 => ?_)
      ·have hlt2 : i2 < m.length := by omega
       refine go 8 ?_
       obtain ⟨b77, o77, w77, e77, c77, r77⟩ := RdA.at_ hM (i := i2) (by omega)
       obtain ⟨q77, rfl, S77, d77, rfl, hS77, hd77, hm77⟩ := r77
       refine o_v rfl (v_idx he rfl rfl e77 (i2) (by omega) (by omega)) ?_
       refine o_v rfl (v_ldIa he rfl c77 rfl) ?_
       refine go 1 ?_
       refine o_call (repNames _ m[i2] S77 d77 ⟨_, _, rfl, hS77, hd77, hm77⟩ (hsb _ (List.getElem_mem hlt2))) rfl rfl (fun v79 I79 j79 q79 => ?_)
       try have hvc := hvc.le j79
       try have hv0 := hv0.le j79
       try have hm0 := hm0.le j79
       try have hA := hA.le j79
       try have hM := hM.le j79
       try have hw := hw.le j79
       try have hw2 := hw2.le j79
       try have R95 := R95.le j79
       try have R98 := R98.le j79
       try have R95s := R95s.le j79
       try have R98s := R98s.le j79
       try have R103 := R103.le j79
       try have R112 := R112.le j79
       obtain ⟨ns2, hns2, hno2⟩ := q79
       obtain ⟨NB, nd, rfl, hNB, _, _⟩ := hns2
       refine go 9 ?_
       refine c_loop (α := Nat) 0 (fun j2 => I79)
        (fun j2 => [(1, .slice A l.length c0), (2, .slice B m.length c1), (3, w), (4, w2), (5, .pointer (some ⟨g5, 0, none⟩)), (11, .bool true), (12, .map (some r46)), (16, .int .i64 ((i2 : Nat) : Int)), (17, .slice NB ns2.length nd), (18, .int .i64 ((j2 : Nat) : Int))])
        (fun j2 => [.mp r46 (emap Value.string kvs), .blk g5 24 [vc]])
        (fun j2 => j2 ≤ ns2.length ∧ ∀ z ∈ ns2.take j2, names15 l z = false)
        (fun j2 => ns2.length - j2) ⟨Nat.zero_le _, fun z hz => by simp at hz⟩ rfl sb rfl ?_
       intro j2 ⟨hj2, hno3⟩
       refine go 9 ?_
       refine cb rfl (fun h83 p83 => ?_) (fun h83 p83 => ?_)
       ·have hlj2 : j2 < ns2.length := by omega
        refine go 9 ?_
        obtain ⟨b89, o89, w89, e89, c89, r89⟩ := RdA.at_ hNB (i := j2) (by omega)
        obtain rfl := r89
        refine o_v rfl (v_idx he rfl rfl e89 (j2) (by omega) (by omega)) ?_
        refine o_v rfl (v_ldI he rfl (c89 0 _ rfl)) ?_
        refine o_v rfl (v_get m0 (key_string he) he he (ns2[j2]) rfl rfl (hsn _)) ?_
        refine go 2 ?_
        refine cb rfl (fun h91 p91 => ?_) (fun h91 p91 => ?_)
        ·refine go 16 ?_
         refine fin1 rfl rfl ?_
         exact q_vI rfl
        ·refine go 9 ?_
         exact q_next (j2 + 1) ⟨by omega, free_snoc hlj2 hno3 h91⟩ (by omega) rfl sb rfl
       ·have e : j2 = ns2.length := by omega
        subst e
        rw [List.take_length] at hno3
        refine go 12 ?_
        exact q_next2 (i2 + 1) (_) ⟨by omega, hJ2.trans j79, free_succ hlt2 (hvm _ (List.getElem_mem hlt2)) hno2 hfree hno3⟩ (by omega) rfl sb rfl
      ·have e : i2 = m.length := by omega
       subst e
       rw [List.take_length] at hfree
       refine go 10 ?_
       refine o_callX0 (ref15Fitted _ _ l hv0 hsa (by omega) _ raw hw) rfl rfl (fun v95 s95 q95 => ?_)
       obtain ⟨xs95, rfl, hF95⟩ := q95
       refine sx_pubrow (l := fitF l raw) rfl (by rw [fit_len]) (hF95) (fun I95 j95 R95 => ?_)
       try have hvc := hvc.le j95
       try have hv0 := hv0.le j95
       try have hm0 := hm0.le j95
       try have hA := hA.le j95
       try have hM := hM.le j95
       try have hw := hw.le j95
       try have hw2 := hw2.le j95
       try have R95 := R95.le j95
       try have R98 := R98.le j95
       try have R95s := R95s.le j95
       try have R98s := R98s.le j95
       try have R103 := R103.le j95
       try have R112 := R112.le j95
       refine go 3 ?_
       refine o_callX0 (ref15Fitted _ _ m hm0 hsb (by omega) _ raw2 hw2) rfl rfl (fun v98 s98 q98 => ?_)
       obtain ⟨xs98, rfl, hF98⟩ := q98
       refine sx_pubrow (l := fitF m raw2) rfl (by rw [fit_len]) (hF98) (fun I98 j98 R98 => ?_)
       try have hvc := hvc.le j98
       try have hv0 := hv0.le j98
       try have hm0 := hm0.le j98
       try have hA := hA.le j98
       try have hM := hM.le j98
       try have hw := hw.le j98
       try have hw2 := hw2.le j98
       try have R95 := R95.le j98
       try have R98 := R98.le j98
       try have R95s := R95s.le j98
       try have R98s := R98s.le j98
       try have R103 := R103.le j98
       try have R112 := R112.le j98
       have R95s := R95
       obtain ⟨F1, f1, rfl, _, _, _⟩ := R95
       refine go 1 ?_
       have R98s := R98
       obtain ⟨F2, f2, rfl, _, _, _⟩ := R98
       have fl1 := fit_len l raw
       have fl2 := fit_len m raw2
       refine go 6 ?_
       refine o_buildSlice he he rfl rfl rfl rfl rfl rfl rfl (fun v99 => ?_)
       refine go 2 ?_
       refine o_appendR (hv0) rfl he he rfl rfl rfl rfl (by omega) (by omega) rfl (fun v101 x101 f101 => ?_)
       refine go 2 ?_
       refine o_appendR (hm0) rfl he he rfl rfl rfl rfl (by omega) (by omega) rfl (fun v103 x103 f103 => ?_)
       refine sx_pubrow (l := (l ++ m)) rfl (by simp) ((f101.append f103)) (fun I103 j103 R103 => ?_)
       try have hvc := hvc.le j103
       try have hv0 := hv0.le j103
       try have hm0 := hm0.le j103
       try have hA := hA.le j103
       try have hM := hM.le j103
       try have hw := hw.le j103
       try have hw2 := hw2.le j103
       try have R95 := R95.le j103
       try have R98 := R98.le j103
       try have R95s := R95s.le j103
       try have R98s := R98s.le j103
       try have R103 := R103.le j103
       try have R112 := R112.le j103
       refine go 4 ?_
       refine sx_knowI (fun hE24 hf24 => ?_)
       refine d_startH T.mixed ?_
       refine d_tv 0 rfl rfl (by kernel_rfl) rfl (.refl _) rfl (v_move rfl) ?_
       refine d_tv 1 rfl rfl (by kernel_rfl) rfl (.refl _) rfl (v_move rfl) ?_
       refine d_t 2 rfl rfl (by kernel_rfl) rfl (fun _ m => m.keeps (.refl _)) (y_yes rfl rfl rfl (v_ldw m1 he rfl rfl)) ?_
       refine d_t 3 rfl rfl (by kernel_rfl) rfl (fun _ m => m.keeps (.refl _)) (y_yes rfl rfl rfl (v_move rfl)) ?_
       refine d_t 5 rfl rfl (by kernel_rfl) rfl (fun _ m => m.keeps (.refl _)) (y_yes rfl rfl rfl (v_move rfl)) ?_
       refine d_t 7 rfl rfl (by kernel_rfl) rfl (fun _ m => m.keeps (.refl _)) (y_yes rfl rfl rfl (v_move rfl)) ?_
       refine d_t 10 rfl rfl (by kernel_rfl) rfl (fun _ m => m.keeps (.refl _)) (y_yes rfl rfl rfl (v_ldw m1 he rfl rfl)) ?_
       refine d_t 11 rfl rfl (by kernel_rfl) rfl (fun _ m => m.keeps (.refl _)) (y_yes rfl rfl rfl (v_move rfl)) ?_
       refine d_t 12 rfl rfl (by kernel_rfl) rfl (fun _ m => m.keeps (.refl _)) (y_yes rfl rfl rfl (v_move rfl)) ?_
       refine d_one 4 (by kernel_rfl) rfl ?_
       refine o_yes rfl rfl rfl (o_buildSlice he he rfl rfl rfl rfl rfl rfl rfl (fun v108 => ?_))
       refine d_on (fun _ m => m.keeps (.cons _ (.refl _))) ?_
       refine d_one 6 (by kernel_rfl) rfl ?_
       refine o_yes rfl rfl rfl (o_appendR (R95s) rfl he he rfl rfl rfl rfl (by omega) (by omega) rfl (fun v110 x110 f110 => ?_))
       refine d_on (fun _ m => m.keeps (.cons _ (.refl _))) ?_
       refine d_one 8 (by kernel_rfl) rfl ?_
       refine o_yes rfl rfl rfl (o_appendR (R98s) rfl he he rfl rfl rfl rfl (by omega) (by omega) rfl (fun v112 x112 f112 => ?_))
       refine sx_pubrow (l := (fitF l raw ++ fitF m raw2)) rfl (by simp) ((f110.append f112)) (fun I112 j112 R112 => ?_)
       try have hvc := hvc.le j112
       try have hv0 := hv0.le j112
       try have hm0 := hm0.le j112
       try have hA := hA.le j112
       try have hM := hM.le j112
       try have hw := hw.le j112
       try have hw2 := hw2.le j112
       try have R95 := R95.le j112
       try have R98 := R98.le j112
       try have R95s := R95s.le j112
       try have R98s := R98s.le j112
       try have R103 := R103.le j112
       try have R112 := R112.le j112
       refine d_on (fun _ m => m.keepsI (.refl _) (j112) hE24 hf24) ?_
       refine d_one 9 (by kernel_rfl) rfl ?_
       refine o_yes rfl rfl rfl (o_call (hiIs _ vc c hvc hsc _ (l ++ m) R103 (by rw [List.length_append]; omega) (app_sm hsa hsb) _ (fitF l raw ++ fitF m raw2) R112) rfl rfl (fun v113 I113 j113 q113 => ?_))
       try have hvc := hvc.le j113
       try have hv0 := hv0.le j113
       try have hm0 := hm0.le j113
       try have hA := hA.le j113
       try have hM := hM.le j113
       try have hw := hw.le j113
       try have hw2 := hw2.le j113
       try have R95 := R95.le j113
       try have R98 := R98.le j113
       try have R95s := R95s.le j113
       try have R98s := R98s.le j113
       try have R103 := R103.le j113
       try have R112 := R112.le j113
       obtain rfl := q113
       refine d_on (fun _ m => m.keepsI (.refl _) ((j112).trans j113) hE24 hf24) ?_
       refine d_one 13 (by kernel_rfl) rfl ?_
       refine o_yes rfl rfl rfl (o_call (hiIs _ vc c hvc hsc _ l hv0 (by omega) (hsa) _ (fitF l raw) R95s) rfl rfl (fun v117 I117 j117 q117 => ?_))
       try have hvc := hvc.le j117
       try have hv0 := hv0.le j117
       try have hm0 := hm0.le j117
       try have hA := hA.le j117
       try have hM := hM.le j117
       try have hw := hw.le j117
       try have hw2 := hw2.le j117
       try have R95 := R95.le j117
       try have R98 := R98.le j117
       try have R95s := R95s.le j117
       try have R98s := R98s.le j117
       try have R103 := R103.le j117
       try have R112 := R112.le j117
       obtain rfl := q117
       refine d_on (fun _ m => m.keepsI (.refl _) (((j112).trans j113).trans j117) hE24 hf24) ?_
       refine d_t 14 rfl rfl (by kernel_rfl) rfl (fun _ m => m.keepsI (.refl _) (((j112).trans j113).trans j117) hE24 hf24) (y_yes rfl rfl rfl (v_move rfl)) ?_
       refine sxb 118 rfl (fun h118 p118 => ?_) (fun h118 p118 => ?_)
       ·refine d_t 15 rfl rfl (by kernel_rfl) rfl (fun _ m => m.keepsI (.refl _) (((j112).trans j113).trans j117) hE24 hf24) (y_yes rfl rfl h118 (v_ldw m1 he rfl rfl)) ?_
        refine d_t 16 rfl rfl (by kernel_rfl) rfl (fun _ m => m.keepsI (.refl _) (((j112).trans j113).trans j117) hE24 hf24) (y_yes rfl rfl h118 (v_move rfl)) ?_
        refine d_t 17 rfl rfl (by kernel_rfl) rfl (fun _ m => m.keepsI (.refl _) (((j112).trans j113).trans j117) hE24 hf24) (y_yes rfl rfl h118 (v_move rfl)) ?_
        refine d_one 18 (by kernel_rfl) rfl ?_
        refine o_yes rfl rfl h118 (o_call (hiIs _ vc c hvc hsc _ m hm0 (by omega) (hsb) _ (fitF m raw2) R98s) rfl rfl (fun v122 I122 j122 q122 => ?_))
        try have hvc := hvc.le j122
        try have hv0 := hv0.le j122
        try have hm0 := hm0.le j122
        try have hA := hA.le j122
        try have hM := hM.le j122
        try have hw := hw.le j122
        try have hw2 := hw2.le j122
        try have R95 := R95.le j122
        try have R98 := R98.le j122
        try have R95s := R95s.le j122
        try have R98s := R98s.le j122
        try have R103 := R103.le j122
        try have R112 := R112.le j122
        obtain rfl := q122
        refine d_on (fun _ m => m.keepsI (.refl _) ((((j112).trans j113).trans j117).trans j122) hE24 hf24) ?_
        refine d_t 19 rfl rfl (by kernel_rfl) rfl (fun _ m => m.keepsI (.refl _) ((((j112).trans j113).trans j117).trans j122) hE24 hf24) (y_yes rfl rfl rfl (v_and_t h118 rfl rfl)) ?_
        refine d_t 20 rfl rfl (by kernel_rfl) rfl (fun _ m => m.keepsI (.refl _) ((((j112).trans j113).trans j117).trans j122) hE24 hf24) (y_yes rfl rfl rfl (OV.cast (u := .bool true) (v_beql he rfl rfl) (congrArg Value.bool (by have := law_apart (c := c) (giv_fit (raw := raw) hgl) (giv_fit (raw := raw2) hgm) h6a h6b (fun r hr => hfree r hr); rw [h118] at this; simpa using this)))) ?_
        refine d_t 21 rfl rfl (by kernel_rfl) rfl (fun _ m => m.keepsI (.refl _) ((((j112).trans j113).trans j117).trans j122) hE24 hf24) (y_v rfl (v_and_t rfl rfl rfl)) ?_
        refine d_t 22 rfl rfl (by kernel_rfl) rfl (fun _ m => m.keepsI (.refl _) ((((j112).trans j113).trans j117).trans j122) hE24 hf24) (y_v rfl (v_assign rfl)) ?_
        refine d_done (by kernel_rfl) ?_
        refine go 2 ?_
        refine fin1 rfl rfl ?_
        exact q_vI rfl
       ·refine d_t 15 rfl rfl (by kernel_rfl) rfl (fun _ m => m.keepsI (.refl _) (((j112).trans j113).trans j117) hE24 hf24) (y_no rfl rfl h118) ?_
        refine d_t 16 rfl rfl (by kernel_rfl) rfl (fun _ m => m.keepsI (.refl _) (((j112).trans j113).trans j117) hE24 hf24) (y_no rfl rfl h118) ?_
        refine d_t 17 rfl rfl (by kernel_rfl) rfl (fun _ m => m.keepsI (.refl _) (((j112).trans j113).trans j117) hE24 hf24) (y_no rfl rfl h118) ?_
        refine d_t 18 rfl rfl (by kernel_rfl) rfl (fun _ m => m.keepsI (.refl _) (((j112).trans j113).trans j117) hE24 hf24) (y_no rfl rfl h118) ?_
        refine d_t 19 rfl rfl (by kernel_rfl) rfl (fun _ m => m.keepsI (.refl _) (((j112).trans j113).trans j117) hE24 hf24) (y_yes rfl rfl rfl (v_and_f h118 rfl)) ?_
        refine d_t 20 rfl rfl (by kernel_rfl) rfl (fun _ m => m.keepsI (.refl _) (((j112).trans j113).trans j117) hE24 hf24) (y_yes rfl rfl rfl (OV.cast (u := .bool true) (v_beql he rfl rfl) (congrArg Value.bool (by have := law_apart (c := c) (giv_fit (raw := raw) hgl) (giv_fit (raw := raw2) hgm) h6a h6b (fun r hr => hfree r hr); rw [h118] at this; simpa using this)))) ?_
        refine d_t 21 rfl rfl (by kernel_rfl) rfl (fun _ m => m.keepsI (.refl _) (((j112).trans j113).trans j117) hE24 hf24) (y_v rfl (v_and_t rfl rfl rfl)) ?_
        refine d_t 22 rfl rfl (by kernel_rfl) rfl (fun _ m => m.keepsI (.refl _) (((j112).trans j113).trans j117) hE24 hf24) (y_v rfl (v_assign rfl)) ?_
        refine d_done (by kernel_rfl) ?_
        refine go 2 ?_
        refine fin1 rfl rfl ?_
        exact q_vI rfl

end Go.Proofs.YtkmdojpfccjnoaaGreat

/- The law HistoryApart holds of the given program, for every input. No condition. -/
namespace Go.Proofs.YtkmdojpfccjnoaaGreat
open Go Go.Sx
set_option linter.all false
theorem T.cel_103 : Tryz.prog.cellsOf 103 = 3 := by kernel_rfl
theorem T.cel_24 : Tryz.prog.cellsOf 24 = 1 := by kernel_rfl
theorem T.cel_37 : Tryz.prog.cellsOf 37 = 2 := by kernel_rfl
theorem T.cel_49 : Tryz.prog.cellsOf 49 = 2 := by kernel_rfl
theorem T.cel_5 : Tryz.prog.cellsOf 5 = 1 := by kernel_rfl
theorem T.cel_51 : Tryz.prog.cellsOf 51 = 6 := by kernel_rfl
theorem T.cel_53 : Tryz.prog.cellsOf 53 = 14 := by kernel_rfl
theorem T.cel_87 : Tryz.prog.cellsOf 87 = 3 := by kernel_rfl
theorem T.cel_9 : Tryz.prog.cellsOf 9 = 1 := by kernel_rfl
instance T.fds_103 : Has (fieldsK Tryz.prog 103) [(9, 0, 1), (57, 1, 1), (3, 2, 1)] := ⟨by kernel_rfl⟩
instance T.fds_24 : Has (fieldsK Tryz.prog 24) [(22, 0, 1)] := ⟨by kernel_rfl⟩
instance T.fds_37 : Has (fieldsK Tryz.prog 37) [(35, 0, 1), (4, 1, 1)] := ⟨by kernel_rfl⟩
instance T.fds_49 : Has (fieldsK Tryz.prog 49) [(3, 0, 1), (3, 1, 1)] := ⟨by kernel_rfl⟩
instance T.fds_51 : Has (fieldsK Tryz.prog 51) [(49, 0, 2), (49, 2, 2), (49, 4, 2)] := ⟨by kernel_rfl⟩
instance T.fds_53 : Has (fieldsK Tryz.prog 53) [(3, 0, 1), (3, 1, 1), (9, 2, 1), (9, 3, 1), (9, 4, 1), (9, 5, 1), (9, 6, 1), (9, 7, 1), (51, 8, 6)] := ⟨by kernel_rfl⟩
instance T.fds_87 : Has (fieldsK Tryz.prog 87) [(9, 0, 1), (4, 1, 1), (85, 2, 1)] := ⟨by kernel_rfl⟩
namespace lawHistoryApart
open Go.ChangeShapes Go.WideShapes Go.ChangeAt Go.RowKit
theorem own : ownKnob Tryz.prog.godebug = none := by kernel_rfl
set_option maxRecDepth 100000 in
theorem lifted (os : Os) (started : os.Started) (H : Type) (enc : TypeId × Value → H) :
    ReturnsInHanded {} Tryz.checked os 8 .any (Rows.historyApartSpec.pre6 enc Tryz.prog Tryz.f8 Rows.historyApartRow.domain false) (Rows.historyApartSpec.post enc Tryz.prog Tryz.f8 false true false false) := by
  refine returnsInHanded_of_change (C := Tryz.checked) own started (by kernel_rfl) Tryz.func8
    (ChangeSpec.witness6 (enc := enc) (C := Tryz.checked) false ⟨#[], #[.agg #[.slice none 0 0], .slice none 0 0, .slice none 0 0, .slice none 0 0, .slice none 0 0], []⟩ 8 (by kernel_rfl) (by kernel_rfl) (by kernel_rfl) (by kernel_rfl)) ?_
  intro W base args ds gs before hval0 hW hcnd _
  have hval : ∀ (j : Nat) t v, Tryz.f8.params[j]? = some t → args[j]? = some v → Value.okWide Tryz.prog W .any base t v := hval0
  have hW' := hW
  obtain ⟨p, q, hA0, hV, rfl, hfz, hnd⟩ := hW
  have hA : DataW.TrodAll enc Tryz.prog W 0 (fun _ => true) true Tryz.f8.params.toList args.toList ds p := hA0
  rw [Tryz.params8] at hA hval
  obtain ⟨v0, vs0, d0, ds0, p0, q0, hargs, rfl, rfl, h0, r0⟩ := trodAll_cons hA
  obtain ⟨v1, vs1, d1, ds1, p1, q1, rfl, rfl, rfl, h1, r1⟩ := trodAll_cons r0
  obtain ⟨v2, vs2, d2, ds2, p2, q2, rfl, rfl, rfl, h2, r2⟩ := trodAll_cons r1
  obtain ⟨v3, vs3, d3, ds3, p3, q3, rfl, rfl, rfl, h3, r3⟩ := trodAll_cons r2
  obtain ⟨v4, vs4, d4, ds4, p4, q4, rfl, rfl, rfl, h4, r4⟩ := trodAll_cons r3
  obtain ⟨rfl, rfl, rfl⟩ := trodAll_nil r4
  obtain rfl : args = #[v0, v1, v2, v3, v4] := by cases args; simp_all
  obtain ⟨rfl, rfl⟩ := trodVars_none hV
  clear hA0 hval0
  obtain ⟨cs0, rfl, hz0⟩ := okWide_agg T.fds_24.eq (hval 0 24 v0 rfl rfl)
  obtain ⟨fu0, hf0⟩ := h0
  obtain ⟨l0, ⟨u0, e0, R0⟩, G0⟩ := (opens_wrap T.fds_24.eq T.cel_24 (opens_slice T.und_22.eq T.cel_87 rfl (opens_kind T.fds_87.eq T.cel_87 (opens_string T.und_9.eq) (opens_bool T.und_4.eq) (opens_slice T.und_85.eq T.cel_103 rfl (opens_slot T.fds_103.eq T.cel_103 (opens_string T.und_9.eq) (opens_slice T.und_57.eq T.cel_9 rfl (opens_string T.und_9.eq)) (opens_int T.und_3.eq)))))) enc W 0 _ true fu0 _ _ hf0
  obtain rfl : cs0 = #[u0] := Array.toList_inj.1 e0
  obtain ⟨s1, n1, c1, rfl⟩ := okWide_slice T.und_25.eq (hval 1 25 v1 rfl rfl)
  obtain ⟨fu1, hf1⟩ := h1
  obtain ⟨l1, ⟨u1, e1, R1⟩, G1⟩ := (opens_slice T.und_25.eq T.cel_37 rfl (opens_rep T.fds_37.eq T.cel_37 (opens_slice T.und_35.eq T.cel_53 rfl (opens_evt T.fds_53.eq T.cel_53 (opens_int T.und_3.eq) (opens_string T.und_9.eq) (opens_use T.fds_51.eq T.cel_51 (opens_ivl T.fds_49.eq T.cel_49 (opens_int T.und_3.eq))))) (opens_bool T.und_4.eq))) enc W 0 _ true fu1 _ _ hf1
  cases e1
  obtain ⟨s2, n2, c2, rfl⟩ := okWide_slice T.und_25.eq (hval 2 25 v2 rfl rfl)
  obtain ⟨fu2, hf2⟩ := h2
  obtain ⟨l2, ⟨u2, e2, R2⟩, G2⟩ := (opens_slice T.und_25.eq T.cel_37 rfl (opens_rep T.fds_37.eq T.cel_37 (opens_slice T.und_35.eq T.cel_53 rfl (opens_evt T.fds_53.eq T.cel_53 (opens_int T.und_3.eq) (opens_string T.und_9.eq) (opens_use T.fds_51.eq T.cel_51 (opens_ivl T.fds_49.eq T.cel_49 (opens_int T.und_3.eq))))) (opens_bool T.und_4.eq))) enc W 0 _ true fu2 _ _ hf2
  cases e2
  obtain ⟨s3, n3, c3, rfl⟩ := okWide_slice T.und_33.eq (hval 3 33 v3 rfl rfl)
  obtain ⟨fu3, hf3⟩ := h3
  obtain ⟨l3, ⟨u3, e3, R3⟩, G3⟩ := (opens_slice T.und_33.eq T.cel_5 rfl (opens_u8 T.und_5.eq)) enc W 0 _ true fu3 _ _ hf3
  cases e3
  obtain ⟨s4, n4, c4, rfl⟩ := okWide_slice T.und_33.eq (hval 4 33 v4 rfl rfl)
  obtain ⟨fu4, hf4⟩ := h4
  obtain ⟨l4, ⟨u4, e4, R4⟩, G4⟩ := (opens_slice T.und_33.eq T.cel_5 rfl (opens_u8 T.und_5.eq)) enc W 0 _ true fu4 _ _ hf4
  cases e4
  exact law_calls (s := Rows.historyApartSpec) Tryz.call8 (lawApart (Iw W) _ l0 R0 G0 _ l1 R1 G1 _ l2 R2 G2 _ l3 R3 G3 _ l4 R4 G4) hW' (by kernel_rfl) (by kernel_rfl) rfl T.und_4.eq rfl rfl
theorem over : Rows.historyApartRow.holds Tryz.pinned (OpenSpec.ofChange Rows.historyApartSpec) :=
  OpenClaim.holds_of_wide 8 Tryz.f8 rfl rfl rfl rfl rfl rfl rfl ⟨rfl, rfl, rfl, rfl, rfl⟩ rfl rfl rfl rfl rfl (by kernel_rfl) Tryz.func8 (by kernel_rfl)
    (of_decide_eq_true (by kernel_rfl)) (by unfold Func.isWrapper; first | (rw [if_pos (by decide +kernel)]; kernel_rfl) | (rw [if_neg (by decide +kernel)]; exact ⟨rfl, rfl⟩))
    (fun os started H enc _ => lifted os started H enc)
/-- the statement -/
theorem proved : Rows.HistoryApartSaid := over
end lawHistoryApart
end Go.Proofs.YtkmdojpfccjnoaaGreat

