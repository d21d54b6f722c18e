/- The law HistoryFails holds of the given program, for every input. No condition. -/
import Derived.Test.YtkmdojpfccjnoaaGreatYc
import Derived.Carry
import Derived.ChangeArms
import Derived.Deep.Slices
import Derived.OpenShut
import Derived.ProofKit
import Derived.Test.YtkmdojpfccjnoaaGreatRows
/- How what comes in is read: out of the row's reading into the data of the walks; how a law's row is closed. -/
set_option linter.all false
namespace Go.Sx
open Go

def Iw (w : World) : IMap := fun b => w.heap[b]?
theorem Iw_mem (w : World) : Mem ⟨foots [], Iw w, w⟩ (Iw w) [] w :=
  ⟨Upd.refl _ _, fun _ _ h => h, ILe.refl _, fun _ h => .inl h, fun _ h => (by cases h), fun _ h => (by cases h), List.nodup_nil⟩
theorem cell_I {w : World} {b off : Nat} {v : Value} (h : w.cell? ⟨b, off, none⟩ = some v) : ICell (Iw w) b off v := by
  unfold World.cell? at h
  split at h
  · rename_i c t fz hb
    exact ⟨c, t, fz, hb, by simpa using h⟩
  · cases h
/-- whatever reads as this type reads as this -/
def Opens (P : Program) (t : TypeId) (α : Type) [Enc α] (G : α → Prop) : Prop :=
  ∀ {H : Type} (enc : TypeId × Value → H) (w : World) (base : Nat) (spare : Nat → Bool) (held : Bool) (fuel : Nat) (cs : List Value) (x : DataW H × List MemPlace),
    DataW.trod enc P w base spare held fuel t cs = some x → ∃ y : α, Enc.rd (Iw w) cs y ∧ G y
abbrev SmB (s : ByteArray) : Prop := s.size ≤ maxLen
theorem wf_i64 {n : Int} (h : (Lit.int .i64 n).wf = true) : I64 n := by
  simp only [Lit.wf, Bool.and_eq_true, decide_eq_true_eq] at h
  unfold I64; simpa [IntKind.min, IntKind.max, IntKind.signed, IntKind.bits] using h
section
variable {P : Program} {t e : TypeId}
theorem opens_string (ht : P.underlying t = some .string) : Opens P t ByteArray SmB := by
  intro H enc w base spare held fuel cs x h
  obtain ⟨s, rfl, _, h2⟩ := DataW.trod_string ht h
  exact ⟨s, rfl, h2⟩
theorem opens_int (ht : P.underlying t = some (.int .i64)) : Opens P t Int I64 := by
  intro H enc w base spare held fuel cs x h
  obtain ⟨s, rfl, _, h2⟩ := DataW.trod_int ht h
  exact ⟨s, rfl, wf_i64 h2⟩
theorem opens_bool (ht : P.underlying t = some .bool) : Opens P t Bool (fun _ => True) := by
  intro H enc w base spare held fuel cs x h
  obtain ⟨b, rfl, _⟩ := DataW.trod_bool ht h
  exact ⟨b, rfl, trivial⟩
theorem choose_list {α : Type} {p : Nat → α → Prop} : ∀ n : Nat, (∀ i, i < n → ∃ x, p i x) → ∃ l : List α, l.length = n ∧ ∀ i x, l[i]? = some x → p i x
  | 0, _ => ⟨[], rfl, fun i x h => by simp at h⟩
  | n + 1, h => by
    obtain ⟨l, h1, h2⟩ := choose_list n (fun i hi => h i (by omega))
    obtain ⟨x, hx⟩ := h n (by omega)
    refine ⟨l ++ [x], by simp [h1], fun i y hy => ?_⟩
    rcases Nat.lt_or_ge i l.length with hi | hi
    · rw [List.getElem?_append_left hi] at hy; exact h2 i y hy
    · rw [List.getElem?_append_right hi] at hy
      have h3 : i - l.length = 0 := by
        rcases Nat.eq_zero_or_pos (i - l.length) with h | h
        · exact h
        · rw [List.getElem?_eq_none (by simp; omega)] at hy; cases hy
      rw [h3] at hy
      simp at hy
      subst hy
      obtain rfl : i = n := by omega
      exact hx
theorem opens_slice {α : Type} [Enc α] {G : α → Prop} (ht : P.underlying t = some (.slice e)) (hc : P.cellsOf e = Enc.k α) (hk : Nat.blt 0 (Enc.k α) = true) (he : Opens P e α G) : Opens P t (List α) (fun l => ∀ x ∈ l, G x) := by
  intro H enc w base spare held fuel cs x h
  rcases Deep.open_slice ht h with ⟨rfl, _⟩ | ⟨a, len, cap, m, n, D, Pl, rfl, hb, hl, hm, hmm, _, hx⟩
  · exact ⟨[], ⟨_, rfl, RdS.nil'⟩, fun _ h => by cases h⟩
  have hlm : len ≤ m := by rw [hmm]; split <;> omega
  obtain ⟨l, h1, h2⟩ := choose_list (p := fun i y => ∃ vs, (∀ j u, vs[j]? = some u → w.cell? ((a.add (i * P.cellsOf e)).add j) = some u) ∧ vs.length = Enc.k α ∧ Enc.rd (Iw w) vs y ∧ G y) len (fun i hi => by
    obtain ⟨cs', h3, h4⟩ := hx i (by omega)
    obtain ⟨y, h5, h6⟩ := he enc w base spare held n cs' _ h4
    obtain ⟨_, h7, h8⟩ := World.cells?_some h3
    refine ⟨y, cs', fun j u hu => ?_, Enc.len h5, h5, h6⟩
    have hj : j < cs'.length := (List.getElem?_eq_some_iff.1 hu).1
    rw [h8 j (by omega), hu])
  subst h1
  refine ⟨l, ⟨_, rfl, some a, cap, rfl, fun hp => ?_, hl, by unfold maxLen at hm; exact hm⟩, fun x hx => ?_⟩
  · have hk' : 0 < Enc.k α := by simpa [Nat.blt_eq] using hk
    have hsp : a.spot = none := by
      obtain ⟨vs, h3, h4, _⟩ := h2 0 l[0] (List.getElem?_eq_getElem hp)
      have h5 := h3 0 vs[0] (List.getElem?_eq_getElem (by omega))
      unfold World.cell? at h5
      split at h5
      · split at h5
        · cases h5
        · rename_i hn; simpa [Addr.add] using hn
      · cases h5
    obtain ⟨b, o, sp⟩ := a
    simp only at hsp
    subst hsp
    refine ⟨b, o, rfl, fun i x hi => ?_⟩
    obtain ⟨vs, h3, h4, h5, _⟩ := h2 i x hi
    refine ⟨vs, fun j u hu => cell_I ?_, h5⟩
    have h6 := h3 j u hu
    rw [add_lit, add_lit, hc] at h6
    exact h6
  · obtain ⟨i, hi, rfl⟩ := List.getElem_of_mem hx
    obtain ⟨_, _, _, _, h3⟩ := h2 i _ (List.getElem?_eq_getElem hi)
    exact h3
def fieldsK (P : Program) (t : TypeId) : Option (List (TypeId × Nat × Nat)) :=
  match P.underlying t with
  | some (.struct fs) => some (fs.toList.map fun f => (f.type, f.offset, P.cellsOf f.type))
  | _ => none
theorem trod_fields {H : Type} {enc : TypeId × Value → H} {w : World} {base : Nat} {spare : Nat → Bool} {held : Bool} {fuel : Nat} {cs : List Value} {x : DataW H × List MemPlace} {l : List (TypeId × Nat × Nat)}
    (hf : fieldsK P t = some l) (h : DataW.trod enc P w base spare held fuel t cs = some x) :
    cs.length = P.cellsOf t ∧ ∀ q ∈ l, ∃ n y, DataW.trod enc P w base spare held n q.1 ((cs.drop q.2.1).take q.2.2) = some y := by
  unfold fieldsK at hf
  split at hf
  · rename_i fs ht
    simp only [Option.some.injEq] at hf
    subst hf
    obtain ⟨xs, n, _, _, h1, h2, h3⟩ := DataW.trod_struct ht h
    refine ⟨h1, fun q hq => ?_⟩
    obtain ⟨f, hf, rfl⟩ := List.mem_map.1 hq
    obtain ⟨i, hi, rfl⟩ := List.getElem_of_mem hf
    have hi' : i < fs.size := by simpa using hi
    have h4 := h3 i fs[i] (by simp [hi'])
    rw [List.getElem?_eq_getElem (by omega)] at h4
    exact ⟨n, _, by simpa using h4⟩
  · cases hf
theorem okWide_agg {l : List (TypeId × Nat × Nat)} {w : World} {r : Reach} {base : Nat} {v : Value} (hf : fieldsK P t = some l) (h : Value.okWide P w r base t v) : ∃ cs, v = .agg cs ∧ cs.size = P.cellsOf t := by
  unfold fieldsK at hf
  split at hf
  · rename_i fs ht; exact WideShapes.okWide_struct ht h
  · cases hf
theorem len_cons {cs : List Value} {n : Nat} (h : cs.length = n + 1) : ∃ a r, cs = a :: r ∧ r.length = n := by
  cases cs with
  | nil => simp at h
  | cons a r => exact ⟨a, r, rfl, by simpa using h⟩
theorem len_nil {cs : List Value} (h : cs.length = 0) : cs = [] := List.eq_nil_of_length_eq_zero h
/-- a struct of one field -/
theorem opens_wrap {α : Type} [Enc α] {G : α → Prop} {t0 : TypeId} {k : Nat} (hf : fieldsK P t = some [(t0, 0, k)]) (hc : P.cellsOf t = k) (h0 : Opens P t0 α G) : Opens P t α G := by
  intro H enc w base spare held fuel cs x h
  obtain ⟨hl, hall⟩ := trod_fields hf h
  obtain ⟨n, y, h1⟩ := hall (t0, 0, k) (by simp)
  have e : (cs.drop 0).take k = cs := by rw [List.drop_zero]; exact List.take_of_length_le (by omega)
  rw [show ((t0, 0, k) : TypeId × Nat × Nat).2.1 = 0 from rfl, show ((t0, 0, k) : TypeId × Nat × Nat).2.2 = k from rfl, e] at h1
  exact h0 enc w base spare held n cs y h1
/-! the types of this program -/
def OkIvl (x : Ivl) : Prop := I64 x.low ∧ I64 x.high
def OkUse (x : Use) : Prop := OkIvl x.km ∧ OkIvl x.cycles ∧ OkIvl x.load
structure OkE (e : Evt) : Prop where
  op : I64 e.op
  day : I64 e.day
  part : SmB e.part
  kind : SmB e.kind
  into : SmB e.into
  slot : SmB e.slot
  key : SmB e.key
  value : SmB e.value
  use : OkUse e.use
def OkSl (s : Slot) : Prop := SmB s.name ∧ (∀ k ∈ s.kinds, SmB k) ∧ I64 s.normal
def OkKd (k : Kind) : Prop := SmB k.name ∧ ∀ s ∈ k.slots, OkSl s
theorem opens_ivl {t0 : TypeId} (hf : fieldsK P t = some [(t0, 0, 1), (t0, 1, 1)]) (hc : P.cellsOf t = 2) (h0 : Opens P t0 Int I64) : Opens P t Ivl OkIvl := by
  intro H enc w base spare held fuel cs x h
  obtain ⟨hl, hall⟩ := trod_fields hf h
  rw [hc] at hl
  obtain ⟨a, r0_, rfl, l0_⟩ := len_cons hl
  obtain ⟨b, r1_, rfl, l1_⟩ := len_cons l0_
  obtain rfl := len_nil l1_
  obtain ⟨n0, y0, h1⟩ := hall (t0, 0, 1) (by simp)
  obtain ⟨n1, y1, h2⟩ := hall (t0, 1, 1) (by simp)
  obtain ⟨x0, e0, g0⟩ := h0 enc w base spare held n0 _ y0 h1
  obtain ⟨x1, e1, g1⟩ := h0 enc w base spare held n1 _ y1 h2
  have e0 : [a] = [.int .i64 x0] := e0
  have e1 : [b] = [.int .i64 x1] := e1
  cases e0
  cases e1
  exact ⟨⟨x0, x1⟩, rfl, g0, g1⟩
theorem opens_three {t0 : TypeId} {w : World} {H : Type} {enc : TypeId × Value → H} {base : Nat} {spare : Nat → Bool} {held : Bool} {fuel : Nat} {cs : List Value} {x : DataW H × List MemPlace} (hf : fieldsK P t = some [(t0, 0, 2), (t0, 2, 2), (t0, 4, 2)]) (hc : P.cellsOf t = 6) (h0 : Opens P t0 Ivl OkIvl)
    (h : DataW.trod enc P w base spare held fuel t cs = some x) : ∃ a b c : Ivl, cs = a.cells ++ (b.cells ++ c.cells) ∧ OkIvl a ∧ OkIvl b ∧ OkIvl c := by
  obtain ⟨hl, hall⟩ := trod_fields hf h
  rw [hc] at hl
  obtain ⟨a, r0_, rfl, l0_⟩ := len_cons hl
  obtain ⟨b, r1_, rfl, l1_⟩ := len_cons l0_
  obtain ⟨c, r2_, rfl, l2_⟩ := len_cons l1_
  obtain ⟨d, r3_, rfl, l3_⟩ := len_cons l2_
  obtain ⟨e, r4_, rfl, l4_⟩ := len_cons l3_
  obtain ⟨f, r5_, rfl, l5_⟩ := len_cons l4_
  obtain rfl := len_nil l5_
  obtain ⟨n0, y0, h1⟩ := hall (t0, 0, 2) (by simp)
  obtain ⟨n1, y1, h2⟩ := hall (t0, 2, 2) (by simp)
  obtain ⟨n2, y2, h3⟩ := hall (t0, 4, 2) (by simp)
  obtain ⟨x0, e0, g0⟩ := h0 enc w base spare held n0 _ y0 h1
  obtain ⟨x1, e1, g1⟩ := h0 enc w base spare held n1 _ y1 h2
  obtain ⟨x2, e2, g2⟩ := h0 enc w base spare held n2 _ y2 h3
  have e0 : [a, b] = x0.cells := e0
  have e1 : [c, d] = x1.cells := e1
  have e2 : [e, f] = x2.cells := e2
  exact ⟨x0, x1, x2, by rw [← e0, ← e1, ← e2]; rfl, g0, g1, g2⟩
theorem opens_use {t0 : TypeId} (hf : fieldsK P t = some [(t0, 0, 2), (t0, 2, 2), (t0, 4, 2)]) (hc : P.cellsOf t = 6) (h0 : Opens P t0 Ivl OkIvl) : Opens P t Use OkUse := by
  intro H enc w base spare held fuel cs x h
  obtain ⟨a, b, c, rfl, h1, h2, h3⟩ := opens_three hf hc h0 h
  exact ⟨⟨a, b, c⟩, rfl, h1, h2, h3⟩
theorem opens_evt {ti ts tu : TypeId} (hf : fieldsK P t = some [(ti, 0, 1), (ti, 1, 1), (ts, 2, 1), (ts, 3, 1), (ts, 4, 1), (ts, 5, 1), (ts, 6, 1), (ts, 7, 1), (tu, 8, 6)]) (hc : P.cellsOf t = 14) (hi : Opens P ti Int I64) (hs : Opens P ts ByteArray SmB) (hu : Opens P tu Use OkUse) : Opens P t Evt OkE := by
  intro H enc w base spare held fuel cs x h
  obtain ⟨hl, hall⟩ := trod_fields hf h
  rw [hc] at hl
  obtain ⟨a0, r0_, rfl, l0_⟩ := len_cons hl
  obtain ⟨a1, r1_, rfl, l1_⟩ := len_cons l0_
  obtain ⟨a2, r2_, rfl, l2_⟩ := len_cons l1_
  obtain ⟨a3, r3_, rfl, l3_⟩ := len_cons l2_
  obtain ⟨a4, r4_, rfl, l4_⟩ := len_cons l3_
  obtain ⟨a5, r5_, rfl, l5_⟩ := len_cons l4_
  obtain ⟨a6, r6_, rfl, l6_⟩ := len_cons l5_
  obtain ⟨a7, r7_, rfl, l7_⟩ := len_cons l6_
  obtain ⟨a8, r8_, rfl, l8_⟩ := len_cons l7_
  obtain ⟨a9, r9_, rfl, l9_⟩ := len_cons l8_
  obtain ⟨a10, r10_, rfl, l10_⟩ := len_cons l9_
  obtain ⟨a11, r11_, rfl, l11_⟩ := len_cons l10_
  obtain ⟨a12, r12_, rfl, l12_⟩ := len_cons l11_
  obtain ⟨a13, r13_, rfl, l13_⟩ := len_cons l12_
  obtain rfl := len_nil l13_
  obtain ⟨n0, y0, h0⟩ := hall (ti, 0, 1) (by simp)
  obtain ⟨x0, e0, g0⟩ := hi enc w base spare held n0 _ y0 h0
  have e0 : [a0] = [.int .i64 x0] := e0
  cases e0
  obtain ⟨n1, y1, h1⟩ := hall (ti, 1, 1) (by simp)
  obtain ⟨x1, e1, g1⟩ := hi enc w base spare held n1 _ y1 h1
  have e1 : [a1] = [.int .i64 x1] := e1
  cases e1
  obtain ⟨n2, y2, h2⟩ := hall (ts, 2, 1) (by simp)
  obtain ⟨x2, e2, g2⟩ := hs enc w base spare held n2 _ y2 h2
  have e2 : [a2] = [.string x2] := e2
  cases e2
  obtain ⟨n3, y3, h3⟩ := hall (ts, 3, 1) (by simp)
  obtain ⟨x3, e3, g3⟩ := hs enc w base spare held n3 _ y3 h3
  have e3 : [a3] = [.string x3] := e3
  cases e3
  obtain ⟨n4, y4, h4⟩ := hall (ts, 4, 1) (by simp)
  obtain ⟨x4, e4, g4⟩ := hs enc w base spare held n4 _ y4 h4
  have e4 : [a4] = [.string x4] := e4
  cases e4
  obtain ⟨n5, y5, h5⟩ := hall (ts, 5, 1) (by simp)
  obtain ⟨x5, e5, g5⟩ := hs enc w base spare held n5 _ y5 h5
  have e5 : [a5] = [.string x5] := e5
  cases e5
  obtain ⟨n6, y6, h6⟩ := hall (ts, 6, 1) (by simp)
  obtain ⟨x6, e6, g6⟩ := hs enc w base spare held n6 _ y6 h6
  have e6 : [a6] = [.string x6] := e6
  cases e6
  obtain ⟨n7, y7, h7⟩ := hall (ts, 7, 1) (by simp)
  obtain ⟨x7, e7, g7⟩ := hs enc w base spare held n7 _ y7 h7
  have e7 : [a7] = [.string x7] := e7
  cases e7
  obtain ⟨n8, y8, h8⟩ := hall (tu, 8, 6) (by simp)
  obtain ⟨x8, e8, g8⟩ := hu enc w base spare held n8 _ y8 h8
  have e8 : [a8, a9, a10, a11, a12, a13] = x8.cells := e8
  cases e8
  exact ⟨⟨x0, x1, x2, x3, x4, x5, x6, x7, x8⟩, rfl, ⟨g0, g1, g2, g3, g4, g5, g6, g7, g8⟩⟩
theorem opens_slot {ti tk ts : TypeId} (hf : fieldsK P t = some [(ts, 0, 1), (tk, 1, 1), (ti, 2, 1)]) (hc : P.cellsOf t = 3) (hs : Opens P ts ByteArray SmB) (hk : Opens P tk (List ByteArray) (fun l => ∀ x ∈ l, SmB x)) (hi : Opens P ti Int I64) : Opens P t Slot OkSl := by
  intro H enc w base spare held fuel cs x h
  obtain ⟨hl, hall⟩ := trod_fields hf h
  rw [hc] at hl
  obtain ⟨a0, r0_, rfl, l0_⟩ := len_cons hl
  obtain ⟨a1, r1_, rfl, l1_⟩ := len_cons l0_
  obtain ⟨a2, r2_, rfl, l2_⟩ := len_cons l1_
  obtain rfl := len_nil l2_
  obtain ⟨n0, y0, h0⟩ := hall (ts, 0, 1) (by simp)
  obtain ⟨x0, e0, g0⟩ := hs enc w base spare held n0 _ y0 h0
  have e0 : [a0] = [.string x0] := e0
  cases e0
  obtain ⟨n1, y1, h1⟩ := hall (tk, 1, 1) (by simp)
  obtain ⟨x1, e1, g1⟩ := hk enc w base spare held n1 _ y1 h1
  obtain ⟨v1, e1, r1⟩ := e1
  have e1 : [a1] = [v1] := e1
  cases e1
  obtain ⟨n2, y2, h2⟩ := hall (ti, 2, 1) (by simp)
  obtain ⟨x2, e2, g2⟩ := hi enc w base spare held n2 _ y2 h2
  have e2 : [a2] = [.int .i64 x2] := e2
  cases e2
  exact ⟨⟨x0, x1, x2⟩, ⟨_, rfl, r1⟩, g0, g1, g2⟩
theorem opens_kind {tb tk ts : TypeId} (hf : fieldsK P t = some [(ts, 0, 1), (tb, 1, 1), (tk, 2, 1)]) (hc : P.cellsOf t = 3) (hs : Opens P ts ByteArray SmB) (hb : Opens P tb Bool (fun _ => True)) (hk : Opens P tk (List Slot) (fun l => ∀ x ∈ l, OkSl x)) : Opens P t Kind OkKd := by
  intro H enc w base spare held fuel cs x h
  obtain ⟨hl, hall⟩ := trod_fields hf h
  rw [hc] at hl
  obtain ⟨a0, r0_, rfl, l0_⟩ := len_cons hl
  obtain ⟨a1, r1_, rfl, l1_⟩ := len_cons l0_
  obtain ⟨a2, r2_, rfl, l2_⟩ := len_cons l1_
  obtain rfl := len_nil l2_
  obtain ⟨n0, y0, h0⟩ := hall (ts, 0, 1) (by simp)
  obtain ⟨x0, e0, g0⟩ := hs enc w base spare held n0 _ y0 h0
  have e0 : [a0] = [.string x0] := e0
  cases e0
  obtain ⟨n1, y1, h1⟩ := hall (tb, 1, 1) (by simp)
  obtain ⟨x1, e1, g1⟩ := hb enc w base spare held n1 _ y1 h1
  have e1 : [a1] = [.bool x1] := e1
  cases e1
  obtain ⟨n2, y2, h2⟩ := hall (tk, 2, 1) (by simp)
  obtain ⟨x2, e2, g2⟩ := hk enc w base spare held n2 _ y2 h2
  obtain ⟨v2, e2, r2⟩ := e2
  have e2 : [a2] = [v2] := e2
  cases e2
  exact ⟨⟨x0, x1, x2⟩, ⟨_, rfl, r2⟩, g0, g2⟩
/-! a law's row -/
open Go.ChangeShapes Go.WideShapes Go.RowKit
variable {H : Type} {enc : TypeId × Value → H}
theorem trodAll_later {W W' : World} (hl : laidOutB P = true) (hb : Below W.heap.size W W') : ∀ (ts : List TypeId) (vs : List Value) (ds : List (DataW H)) (ps : List MemPlace), ts.all (fun t => P.readableRec t && decide (t < P.types.size)) = true → (∀ x ∈ ps, x.block < W.heap.size) →
    DataW.TrodAll enc P W 0 (fun _ => true) true ts vs ds ps → DataW.TrodAll enc P W' 0 (fun b => decide (b < W.heap.size)) true ts vs ds ps
  | [], vs, ds, ps, _, _, h => by
    obtain ⟨rfl, rfl, rfl⟩ := trodAll_nil h
    exact trodAll_mk0
  | t :: ts, vs, ds, ps, ht, hp, h => by
    obtain ⟨v, vs', d, ds', p, q, rfl, rfl, rfl, h1, h2⟩ := trodAll_cons h
    simp only [List.all_cons, Bool.and_eq_true, decide_eq_true_eq] at ht
    exact trodAll_cons_mk (Below.trod hl ht.1.1 ht.1.2 h1 hb fun x hx => hp x (by simp [hx])) (trodAll_later hl hb ts vs' ds' q (by simpa using ht.2) (fun x hx => hp x (by simp [hx])) h2)
theorem law_calls {f : FuncId} {fn : Func} {args : Array Value} {W : World} {s : ChangeSpec} {ds gs : List (DataW H)} {before : List MemPlace} {tb : TypeId}
    (hcall : ∀ (args : Array Value) (w : World), (callFunc f args).run P w = .ok (.enter f args) w) (hc : FnV P f args (Iw W) (.bool true)) (hW : DataW.Whole enc P fn.params.toList s.vars false W args.toList ds gs before)
    (hlaid : laidOutB P = true) (hts : fn.params.toList.all (fun t => P.readableRec t && decide (t < P.types.size)) = true) (hres : fn.resultTypes = #[tb]) (htb : P.underlying tb = some .bool)
    (hfn : s.fn H (ds ++ gs) = { results := [.lit (.bool true)], args := ds }) (hvars : s.vars = []) :
    Calls P f args W fun e W' => ∃ v, e = .returned v ∧ s.post enc P fn false true false false W args v W' := by
  have h := hc.go W (Iw_mem W)
  unfold After at h
  rw [hcall] at h
  refine Calls.mono h ?_
  rintro e W' ⟨v, I', H', rfl, hm, rfl, rfl, rfl⟩
  refine ⟨_, rfl, ?_⟩
  have hlt := hW.lt
  have hb : Below W.heap.size W W' := ⟨hm.upd.os, hm.upd.tape, hm.upd.output, hm.upd.size, fun k hk => hm.upd.block k hk (by simp [foots])⟩
  obtain ⟨p, q, hA, hV, hpq, hfz, hnd⟩ := id hW
  rw [hvars] at hV
  obtain ⟨rfl, rfl⟩ := trodVars_none hV
  refine ⟨ds, [], before, [], p, [], hW, ?_, ?_, ?_, ?_, fun h => by cases h⟩
  · rw [hfn, hres]
    exact trodAll_cons_mk (shut_bool htb _) trodAll_mk0
  · rw [hfn]
    exact trodAll_later hlaid hb _ _ _ _ hts (fun x hx => by simpa using hlt x (by rw [hpq]; simp [hx])) hA
  · rw [hfn, hvars]
    rfl
  · refine ⟨hm.upd.os, hm.upd.output, fun i hi => ?_⟩
    rw [hb.block i hi]
    cases W.heap[i]? with
    | none => rfl
    | some o => cases o <;> simp
end
end Go.Sx

/- How reports and bytes that come in are read. -/
set_option linter.all false
namespace Go.Sx
open Go
def OkRp (r : Rep) : Prop := ∀ e ∈ r.options, OkE e
section
variable {P : Program} {t : TypeId}
theorem opens_rep {tb tk : TypeId} (hf : fieldsK P t = some [(tk, 0, 1), (tb, 1, 1)]) (hc : P.cellsOf t = 2) (hk : Opens P tk (List Evt) (fun l => ∀ x ∈ l, OkE x)) (hb : Opens P tb Bool (fun _ => True)) : Opens P t Rep OkRp := by
  intro H enc w base spare held fuel cs x h
  obtain ⟨hl, hall⟩ := trod_fields hf h
  rw [hc] at hl
  obtain ⟨a0, r0_, rfl, l0_⟩ := len_cons hl
  obtain ⟨a1, r1_, rfl, l1_⟩ := len_cons l0_
  obtain rfl := len_nil l1_
  obtain ⟨n0, y0, h0⟩ := hall (tk, 0, 1) (by simp)
  obtain ⟨x0, e0, g0⟩ := hk enc w base spare held n0 _ y0 h0
  obtain ⟨v0, e0, r0⟩ := e0
  have e0 : [a0] = [v0] := e0
  cases e0
  obtain ⟨n1, y1, h1⟩ := hall (tb, 1, 1) (by simp)
  obtain ⟨x1, e1, g1⟩ := hb enc w base spare held n1 _ y1 h1
  have e1 : [a1] = [.bool x1] := e1
  cases e1
  exact ⟨⟨x0, x1⟩, ⟨_, rfl, r0⟩, g0⟩
theorem opens_u8 (ht : P.underlying t = some (.int .u8)) : Opens P t UInt8 (fun _ => True) := by
  intro H enc w base spare held fuel cs x h
  obtain ⟨s, rfl, _, h2⟩ := DataW.trod_int ht h
  have hs : 0 ≤ s ∧ s ≤ 255 := by
    simp only [Lit.wf, Bool.and_eq_true, decide_eq_true_eq] at h2
    simpa [IntKind.min, IntKind.max, IntKind.signed, IntKind.bits] using h2
  refine ⟨UInt8.ofNat s.toNat, ?_, trivial⟩
  show [Value.int .u8 s] = [.int .u8 ((UInt8.ofNat s.toNat).toNat : Int)]
  rw [UInt8.toNat_ofNat']
  congr 2
  omega
theorem u8_nat {n : Int} (h : (Lit.int .u8 n).wf = true) : ∃ a : Nat, n = (a : Int) ∧ a < 256 := by
  have h2 : 0 ≤ n ∧ n ≤ 255 := by
    simp only [Lit.wf, Bool.and_eq_true, decide_eq_true_eq] at h
    simpa [IntKind.min, IntKind.max, IntKind.signed, IntKind.bits] using h
  exact ⟨n.toNat, by omega, by omega⟩
theorem u16_nat {n : Int} (h : (Lit.int .u16 n).wf = true) : ∃ a : Nat, n = (a : Int) ∧ a < 65536 := by
  have h2 : 0 ≤ n ∧ n ≤ 65535 := by
    simp only [Lit.wf, Bool.and_eq_true, decide_eq_true_eq] at h
    simpa [IntKind.min, IntKind.max, IntKind.signed, IntKind.bits] using h
  exact ⟨n.toNat, by omega, by omega⟩
end
end Go.Sx

/- The plain law of HistoryFalse: fewer open choices are false, too. -/
set_option linter.all false
namespace Go.Sx
open Go
theorem giv_not {c : List Kind} {l : List Rep} {ch : List Int} {n : Int} (h : givF c l = false) : givenF c l ch n = false := by
  cases hg : givenF c l ch n with
  | false => rfl
  | true =>
    obtain ⟨_, h2⟩ := given_all hg
    have h1 : validC c = true := by
      simp only [givenF, Bool.and_eq_true, Bool.not_eq_true', Bool.or_eq_false_iff, Bool.not_eq_false'] at hg
      exact hg.1.1
    have h3 : allP (fun _ r => validRep r) l l.length = true := by
      rw [allP, List.all_eq_true]
      intro i hi
      have hi := List.mem_range.1 hi
      simp only [List.getElem?_eq_getElem hi]
      exact h2 _ (List.getElem_mem hi)
    simp [givF, h1, h3] at h
theorem chs_pos {r : Rep} (h : validRep r = true) : 1 ≤ chs r := by
  have := validRep_len h
  simp only [chs, h, Bool.true_eq_false, if_false]
  split <;> omega
theorem allTo_of {f : Rep → Int → Bool} {l : List Rep} {ch : List Int} (h : ∀ i (h1 : i < l.length) (h2 : i < ch.length), f l[i] ch[i] = true) (hl : ch.length = l.length) : allTo f l ch l.length = true := by
  rw [allTo, List.all_eq_true]
  intro i hi
  have hi := List.mem_range.1 hi
  rw [at2_eq hi (by omega)]
  exact h i hi (by omega)
theorem given_mk {c : List Kind} {l : List Rep} {ch : List Int} {n : Int} (hc : validC c = true) (hl : ch.length = l.length) (h : ∀ i (h1 : i < l.length) (h2 : i < ch.length), chs l[i] ≠ 0 ∧ n ≤ ch[i] ∧ ch[i] < chs l[i]) : givenF c l ch n = true := by
  simp only [givenF, hc, Bool.and_eq_true]
  refine ⟨by simp [hl], allTo_of (fun i h1 h2 => ?_) hl⟩
  obtain ⟨a, b, d⟩ := h i h1 h2
  simp only [chFine, Bool.not_eq_true', Bool.or_eq_false_iff, decide_eq_false_iff_not]
  omega
theorem given_at {c : List Kind} {l : List Rep} {ch : List Int} {n : Int} (h : givenF c l ch n = true) {i : Nat} (h1 : i < l.length) (h2 : i < ch.length) : chs l[i] ≠ 0 ∧ n ≤ ch[i] ∧ ch[i] < chs l[i] := by
  simp only [givenF, Bool.and_eq_true] at h
  have := allTo_at h.2 h1 h1 h2
  simp only [chFine, Bool.not_eq_true', Bool.or_eq_false_iff, decide_eq_false_iff_not] at this
  omega
theorem given_cat {c : List Kind} {l : List Rep} {ch : List Int} {n : Int} (h : givenF c l ch n = true) : validC c = true := by
  simp only [givenF, Bool.and_eq_true, Bool.not_eq_true', Bool.or_eq_false_iff, Bool.not_eq_false'] at h
  exact h.1.1
theorem fit_len (l : List Rep) (raw : List UInt8) : (fitF l raw).length = l.length := by simp [fitF]
theorem giv_fit {c : List Kind} {l : List Rep} {raw : List UInt8} (h : givF c l = true) : givenF c l (fitF l raw) 0 = true := by
  simp only [givF, Bool.and_eq_true] at h
  refine given_mk h.1 (fit_len l raw) fun i h1 h2 => ?_
  obtain ⟨_, hv⟩ := allP_mem h.2 (List.getElem_mem h1)
  have hp := chs_pos hv
  have e : (fitF l raw)[i] = fitAt (chs l[i]) raw[i]? := by simp [fitF]
  rw [e]
  unfold fitAt
  split
  · rw [if_pos (by omega)]
    rename_i b _
    have := Int.emod_nonneg (b.toNat : Int) (show chs l[i] ≠ 0 by omega)
    have := Int.emod_lt_of_pos (b.toNat : Int) (show 0 < chs l[i] by omega)
    omega
  · omega
theorem open_at {ch : List Int} {a i : Nat} (h : i < (openF ch a).length) : (openF ch a)[i] = if a.testBit i = true then -1 else ch[i]'(by simpa [openF] using h) := by simp [openF]
theorem given_open {c : List Kind} {l : List Rep} {ch : List Int} (h : givenF c l ch 0 = true) (a : Nat) : givenF c l (openF ch a) (-1) = true := by
  have hl := (given_all h).1
  refine given_mk (given_cat h) (by rw [openF_len, hl]) fun i h1 h2 => ?_
  have := given_at h h1 (by rw [openF_len] at h2; exact h2)
  rw [open_at]
  split <;> omega
theorem given_less {c : List Kind} {l : List Rep} {ch : List Int} (h : givenF c l ch 0 = true) : givenF c l ch (-1) = true := by
  refine given_mk (given_cat h) (given_all h).1 fun i h1 h2 => ?_
  have := given_at h h1 h2
  omega
/-! the least day -/
theorem least_le : ∀ (l : List Int) (a : Int), l.foldl (fun a d => if d < a then d else a) a ≤ a ∧ ∀ d ∈ l, l.foldl (fun a d => if d < a then d else a) a ≤ d
  | [], a => ⟨Int.le_refl _, fun d h => by cases h⟩
  | x :: r, a => by
    obtain ⟨h1, h2⟩ := least_le r (if x < a then x else a)
    rw [List.foldl_cons]
    refine ⟨Int.le_trans h1 (by split <;> omega), fun d hd => ?_⟩
    rcases List.mem_cons.1 hd with rfl | hd
    · exact Int.le_trans h1 (by split <;> omega)
    · exact h2 d hd
theorem least_ge : ∀ (l : List Int) (a m : Int), m ≤ a → (∀ d ∈ l, m ≤ d) → m ≤ l.foldl (fun a d => if d < a then d else a) a
  | [], a, m, h, _ => h
  | x :: r, a, m, h, hl => by
    rw [List.foldl_cons]
    exact least_ge r _ m (by have := hl x (by simp); split <;> omega) fun d hd => hl d (by simp [hd])
theorem mem_open {l : List Rep} {ch : List Int} (hl : ch.length = l.length) {d : Int} : d ∈ openDays l ch l.length ↔ ∃ i, ∃ (h1 : i < l.length), ∃ (h2 : i < ch.length), ch[i] < 0 ∧ ∃ e ∈ l[i].options, e.day = d := by
  rw [openDays, List.mem_flatMap]
  constructor
  · rintro ⟨i, hi, hd⟩
    have hi := List.mem_range.1 hi
    rw [at2_eq hi (by omega)] at hd
    simp only [Option.getD_some] at hd
    split at hd
    · rename_i hc
      obtain ⟨e, he, rfl⟩ := List.mem_map.1 hd
      exact ⟨i, hi, by omega, hc, e, he, rfl⟩
    · cases hd
  · rintro ⟨i, h1, h2, hc, e, he, rfl⟩
    refine ⟨i, List.mem_range.2 h1, ?_⟩
    rw [at2_eq h1 h2]
    simp only [Option.getD_some, if_pos hc]
    exact List.mem_map.2 ⟨e, he, rfl⟩
    
/-! picks before a day -/
theorem pkd_filt {L1 L2 : Int} {l : List Rep} {ch1 ch2 : List Int} {i : Nat} (h1 : i < l.length) (h2 : i < ch1.length) (h3 : i < ch2.length) (h : optAt L1 l[i] ch1[i] = (optAt L2 l[i] ch2[i]).filter fun e => decide (e.day < L1)) :
    pkd L1 l ch1 i = (pkd L2 l ch2 i).filter fun p => decide (p.e.day < L1) := by
  unfold pkd
  rw [at2_eq h1 h2, at2_eq h1 h3, h]
  cases hq : optAt L2 l[i] ch2[i] with
  | none => rfl
  | some e =>
    simp only [Option.join_some, Option.filter_some]
    by_cases hd : e.day < L1
    · simp only [hd, decide_true, if_true]
      split
      · simp [Option.filter, hd]
      · rfl
    · simp only [hd, decide_false, Bool.false_eq_true, if_false]
      split
      · simp [Option.filter, hd]
      · rfl
theorem pick_filt {L1 L2 : Int} {l : List Rep} {ch1 ch2 : List Int} (hl1 : ch1.length = l.length) (hl2 : ch2.length = l.length) (h : ∀ i (h1 : i < l.length) (h2 : i < ch1.length) (h3 : i < ch2.length), optAt L1 l[i] ch1[i] = (optAt L2 l[i] ch2[i]).filter fun e => decide (e.day < L1)) :
    ∀ n, n ≤ l.length → pickF L1 l ch1 n = (pickF L2 l ch2 n).filter fun p => decide (p.e.day < L1) := by
  intro n
  induction n with
  | zero => intro _; rfl
  | succ n ih =>
    intro hn
    rw [pick_succ, pick_succ, List.filter_append, ← ih (by omega), pkd_filt (by omega) (by omega) (by omega) (h n (by omega) (by omega) (by omega))]
    congr 1
    cases pkd L2 l ch2 n with
    | none => rfl
    | some p => by_cases hp : p.e.day < L1 <;> simp [Option.filter, hp]
theorem srt_split {α : Type} [Day α] (L : Int) : ∀ {l : List α}, Srtd l → l = l.filter (fun x => decide (Day.day x < L)) ++ l.filter (fun x => !decide (Day.day x < L))
  | [], _ => rfl
  | x :: r, h => by
    have h' := List.pairwise_cons.1 h
    by_cases hx : Day.day x < L
    · simp only [List.filter_cons, hx, decide_true, if_true, Bool.not_true, Bool.false_eq_true, if_false, List.cons_append]
      rw [← srt_split L h'.2]
    · have h0 : r.filter (fun x => decide (Day.day x < L)) = [] := by
        rw [List.filter_eq_nil_iff]
        intro y hy
        have := h'.1 y hy
        simp; omega
      have h1 : r.filter (fun x => !decide (Day.day x < L)) = r := by
        rw [List.filter_eq_self]
        intro y hy
        have := h'.1 y hy
        simp; omega
      simp [List.filter_cons, hx, h0, h1]
theorem follow_less {c : List Kind} {l : List Rep} {ch1 ch2 : List Int} {L1 L2 : Int} (h : pickF L1 l ch1 l.length = (pickF L2 l ch2 l.length).filter fun p => decide (p.e.day < L1)) (hf : (followF c l ch1 L1).2 ≠ 0) : (followF c l ch2 L2).2 ≠ 0 := by
  unfold followF at hf ⊢
  have e1 : sortF (pickF L1 l ch1 l.length) = (sortF (pickF L2 l ch2 l.length)).filter (fun p => decide (Day.day p < L1)) := by
    rw [h, sortF_filt]; rfl
  have e2 := srt_split L1 (sortF_srt (pickF L2 l ch2 l.length))
  rw [e2, ← e1, follow_app]
  have e3 : runsTo c [] ((sortF (pickF L1 l ch1 l.length)).map Pkd.e) = none := by
    have := follow_ok c (sortF (pickF L1 l ch1 l.length)) []
    rw [decide_eq_false hf] at this
    cases hr : runsTo c [] ((sortF (pickF L1 l ch1 l.length)).map Pkd.e) with
    | none => rfl
    | some s => rw [hr] at this; cases this
  rw [e3]
  exact hf
theorem opt_some {L : Int} {r : Rep} {k : Int} {e : Evt} (h : optAt L r k = some e) : e ∈ r.options := by
  unfold optAt at h
  split at h
  · split at h
    · rename_i x hx
      split at h
      · cases h; exact List.mem_of_getElem? hx
      · cases h
    · cases h
  · cases h
theorem opt_less {L1 L2 : Int} (hL : L1 ≤ L2) (r : Rep) (k : Int) : optAt L1 r k = (optAt L2 r k).filter fun e => decide (e.day < L1) := by
  unfold optAt
  split
  · cases r.options[k.toNat]? with
    | none => rfl
    | some e =>
      simp only
      by_cases h : e.day < L1
      · rw [if_pos h, if_pos (by omega)]; simp [Option.filter, h]
      · rw [if_neg h]
        split
        · simp [Option.filter, h]
        · rfl
  · rfl
theorem false_mono {c : List Kind} {l : List Rep} {ch : List Int} {a b : Nat} (hg : givenF c l ch 0 = true) (hs : ∀ i, b.testBit i = true → a.testBit i = true) (h : falseF c l (openF ch a) = true) : falseF c l (openF ch b) = true := by
  have hl := (given_all hg).1
  have ga := given_open hg a
  have gb := given_open hg b
  have la : (openF ch a).length = l.length := by rw [openF_len, hl]
  have lb : (openF ch b).length = l.length := by rw [openF_len, hl]
  unfold falseF at h ⊢
  rw [if_neg (by rw [ga]; decide)] at h
  rw [if_neg (by rw [gb]; decide)]
  simp only [Bool.not_eq_true', decide_eq_false_iff_not] at h ⊢
  have hL : leastF (openDays l (openF ch a) l.length) ≤ leastF (openDays l (openF ch b) l.length) := by
    refine least_ge _ _ _ (least_le _ _).1 fun d hd => ?_
    refine (least_le _ _).2 d ?_
    rw [mem_open lb] at hd
    obtain ⟨i, h1, h2, hc, e, he, rfl⟩ := hd
    refine (mem_open la).2 ⟨i, h1, by omega, ?_, e, he, rfl⟩
    rw [open_at] at hc ⊢
    have h0 := given_at hg h1 (by omega)
    split at hc
    · rename_i hb
      rw [if_pos (hs i hb)]; omega
    · omega
  refine follow_less (ch1 := openF ch a) (pick_filt la lb (fun i h1 h2 h3 => ?_) _ (Nat.le_refl _)) h
  rw [open_at, open_at]
  by_cases ha : a.testBit i = true
  · rw [if_pos ha]
    by_cases hb : b.testBit i = true
    · rw [if_pos hb]; rfl
    · rw [if_neg hb]
      cases hq : optAt (leastF (openDays l (openF ch b) l.length)) l[i] (ch[i]'(by omega)) with
      | none => rfl
      | some e =>
        have h4 : leastF (openDays l (openF ch a) l.length) ≤ e.day := by
          refine (least_le _ _).2 _ ((mem_open la).2 ⟨i, h1, h2, ?_, e, opt_some hq, rfl⟩)
          rw [open_at, if_pos ha]; omega
        have h5 : ¬ e.day < leastF (openDays l (openF ch a) l.length) := by omega
        simp [optAt, Option.filter, h5]
  · have hb : ¬ b.testBit i = true := fun hb => ha (hs i hb)
    rw [if_neg ha, if_neg hb]
    exact opt_less hL _ _
theorem open_none (ch : List Int) : openF ch 0 = ch := by
  refine List.ext_getElem (openF_len ch 0) fun i h1 h2 => ?_
  rw [open_at]; simp
theorem false_is {c : List Kind} {l : List Rep} {ch : List Int} (hg : givenF c l ch 0 = true) : falseF c l ch = !isF c l ch := by
  have hl := (given_all hg).1
  have h0 : openDays l ch l.length = [] := by
    rw [List.eq_nil_iff_forall_not_mem]
    intro d hd
    obtain ⟨i, h1, h2, hc, _⟩ := (mem_open hl).1 hd
    have := given_at hg h1 h2
    omega
  rw [falseF, if_neg (by rw [given_less hg]; decide), isF, failsF, if_neg (by rw [hg]; decide), h0]
  rfl
theorem false_not {c : List Kind} {l : List Rep} {ch : List Int} (hg : givF c l = false) : falseF c l ch = false := by
  rw [falseF, if_pos (giv_not hg)]
/-- the law -/
theorem law_f1 (c : List Kind) (l : List Rep) (raw : List UInt8) (a b : Nat) : (!falseF c l (openF (fitF l raw) (a ||| b)) || falseF c l (openF (fitF l raw) a)) = true := by
  cases hg : givF c l with
  | false => rw [false_not hg]; rfl
  | true =>
    cases h : falseF c l (openF (fitF l raw) (a ||| b)) with
    | false => rfl
    | true => rw [false_mono (giv_fit hg) (fun i hi => by rw [Nat.testBit_or, hi]; rfl) h]; rfl
theorem law_f2 (c : List Kind) (l : List Rep) (raw : List UInt8) (a : Nat) : (!falseF c l (openF (fitF l raw) a) || falseF c l (fitF l raw)) = true := by
  cases hg : givF c l with
  | false => rw [false_not hg]; rfl
  | true =>
    cases h : falseF c l (openF (fitF l raw) a) with
    | false => rfl
    | true =>
      have := false_mono (b := 0) (giv_fit hg) (fun i hi => by simp at hi) h
      rw [open_none] at this
      rw [this]; rfl
theorem law_f3 (c : List Kind) (l : List Rep) (raw : List UInt8) : falseF c l (fitF l raw) = (givF c l && !isF c l (fitF l raw)) := by
  cases hg : givF c l with
  | false => rw [false_not hg]; rfl
  | true => rw [false_is (giv_fit hg)]; rfl
end Go.Sx

/- The events that are picked, without the reports' places. -/
set_option linter.all false
namespace Go.Sx
open Go
/-- the events that are picked before a day -/
def pickE (day : Int) (l : List Rep) (ch : List Int) : List Evt := (l.zip ch).filterMap fun p => optAt day p.1 p.2
theorem pickE_take (day : Int) (l : List Rep) (ch : List Int) (hl : ch.length = l.length) (hv : ∀ r ∈ l, validRep r = true) : ∀ n, n ≤ l.length → (pickF day l ch n).map Pkd.e = ((l.zip ch).take n).filterMap fun p => optAt day p.1 p.2 := by
  intro n
  induction n with
  | zero => intro _; rfl
  | succ n ih =>
    intro hn
    have h1 : n < l.length := by omega
    have h2 : n < ch.length := by omega
    have h3 : n < (l.zip ch).length := by simp; omega
    rw [pick_succ, List.map_append, ih (by omega), ← take_succ_of h3, List.filterMap_append]
    congr 1
    have e : (l.zip ch)[n] = (l[n], ch[n]) := by simp
    rw [e, pkd, at2_eq h1 h2]
    cases hq : optAt day l[n] ch[n] with
    | none => simp [hq]
    | some x =>
      have hd := validE_day (validRep_e (hv _ (List.getElem_mem h1)) x (opt_some hq))
      simp [hq, hd]
theorem pickE_eq {day : Int} {l : List Rep} {ch : List Int} (hl : ch.length = l.length) (hv : ∀ r ∈ l, validRep r = true) : (pickF day l ch l.length).map Pkd.e = pickE day l ch := by
  rw [pickE_take day l ch hl hv l.length (Nat.le_refl _), pickE, List.take_of_length_le (by simp; omega)]
/-- whether it is possible depends on the events alone -/
theorem follow_ev {c : List Kind} {l : List Rep} {ch : List Int} {day : Int} (hl : ch.length = l.length) (hv : ∀ r ∈ l, validRep r = true) : decide ((followF c l ch day).2 = 0) = (runsTo c [] (sortF (pickE day l ch))).isSome := by
  rw [followF, follow_ok, sortF_map Pkd.e (fun _ => rfl), pickE_eq hl hv]
/-- without the element at an index -/
def cutAt {α : Type} (l : List α) (k : Nat) : List α := l.take k ++ l.drop (k + 1)
theorem cutAt_len {α : Type} {l : List α} {k : Nat} (h : k < l.length) : (cutAt l k).length + 1 = l.length := by
  simp only [cutAt, List.length_append, List.length_take, List.length_drop]; omega
theorem cutAt_mem {α : Type} {l : List α} {k : Nat} {x : α} (h : x ∈ cutAt l k) : x ∈ l := by
  rcases List.mem_append.1 h with h | h
  · exact List.mem_of_mem_take h
  · exact List.mem_of_mem_drop h
theorem cut_whole {α : Type} {l : List α} {k : Nat} (h : k < l.length) : l = l.take k ++ l[k] :: l.drop (k + 1) := by
  rw [← List.drop_eq_getElem_cons h, List.take_append_drop]
theorem zip_cut {day : Int} {l : List Rep} {ch : List Int} {k : Nat} (hl : ch.length = l.length) (h1 : k < l.length) (h2 : k < ch.length) (h : optAt day l[k] ch[k] = none) : pickE day (cutAt l k) (cutAt ch k) = pickE day l ch := by
  have e1 : (l.take k).length = (ch.take k).length := by simp; omega
  conv => rhs; rw [cut_whole h1, cut_whole h2]
  unfold pickE cutAt
  rw [List.zip_append e1, List.zip_append e1, List.filterMap_append, List.filterMap_append, List.zip_cons_cons, List.filterMap_cons, h]
theorem allTo_zip {f : Rep → Int → Bool} {l : List Rep} {ch : List Int} (hl : ch.length = l.length) : allTo f l ch l.length = (l.zip ch).all fun p => f p.1 p.2 := by
  rw [Bool.eq_iff_iff, List.all_eq_true]
  constructor
  · intro h p hp
    obtain ⟨i, hi, rfl⟩ := List.getElem_of_mem hp
    have hi' : i < l.length := by simp at hi; omega
    have := allTo_at h hi' hi' (by omega)
    simpa using this
  · intro h
    refine allTo_of (fun i h1 h2 => ?_) hl
    have h3 : i < (l.zip ch).length := by simp; omega
    have := h _ (List.getElem_mem h3)
    simpa using this
theorem all_cut {f : Rep → Int → Bool} {l : List Rep} {ch : List Int} {k : Nat} (hl : ch.length = l.length) (h1 : k < l.length) (h2 : k < ch.length) (h : f l[k] ch[k] = true) : ((cutAt l k).zip (cutAt ch k)).all (fun p => f p.1 p.2) = (l.zip ch).all fun p => f p.1 p.2 := by
  have e1 : (l.take k).length = (ch.take k).length := by simp; omega
  conv => rhs; rw [cut_whole h1, cut_whole h2]
  unfold cutAt
  rw [List.zip_append e1, List.zip_append e1, List.all_append, List.all_append, List.zip_cons_cons, List.all_cons, h, Bool.true_and]
theorem given_cut {c : List Kind} {l : List Rep} {ch : List Int} {k : Nat} {n : Int} (hl : ch.length = l.length) (h1 : k < l.length) (h2 : k < ch.length) (h : chFine n l[k] ch[k] = true) : givenF c (cutAt l k) (cutAt ch k) n = givenF c l ch n := by
  have e1 := cutAt_len h1
  have e2 := cutAt_len h2
  have e3 : (cutAt ch k).length = (cutAt l k).length := by omega
  simp only [givenF]
  rw [allTo_zip e3, allTo_zip hl, all_cut hl h1 h2 h]
  simp [hl, e3]
theorem open_take (l : List Rep) (ch : List Int) (hl : ch.length = l.length) : ∀ n, n ≤ l.length → openDays l ch n = ((l.zip ch).take n).flatMap fun p => if p.2 < 0 then p.1.options.map Evt.day else [] := by
  intro n
  induction n with
  | zero => intro _; rfl
  | succ n ih =>
    intro hn
    have h1 : n < l.length := by omega
    have h2 : n < ch.length := by omega
    have h3 : n < (l.zip ch).length := by simp; omega
    rw [open_succ, ih (by omega), ← take_succ_of h3, List.flatMap_append]
    congr 1
    have e : (l.zip ch)[n] = (l[n], ch[n]) := by simp
    rw [e, at2_eq h1 h2]
    simp
theorem open_zip {l : List Rep} {ch : List Int} (hl : ch.length = l.length) : openDays l ch l.length = (l.zip ch).flatMap fun p => if p.2 < 0 then p.1.options.map Evt.day else [] := by
  rw [open_take l ch hl l.length (Nat.le_refl _), List.take_of_length_le (by simp; omega)]
theorem open_cut {l : List Rep} {ch : List Int} {k : Nat} (hl : ch.length = l.length) (h1 : k < l.length) (h2 : k < ch.length) (h : ¬ ch[k] < 0) : openDays (cutAt l k) (cutAt ch k) (cutAt l k).length = openDays l ch l.length := by
  have e1 := cutAt_len h1
  have e2 := cutAt_len h2
  have e3 : (l.take k).length = (ch.take k).length := by simp; omega
  rw [open_zip (by omega), open_zip hl]
  conv => rhs; rw [cut_whole h1, cut_whole h2]
  unfold cutAt
  rw [List.zip_append e3, List.zip_append e3, List.flatMap_append, List.flatMap_append, List.zip_cons_cons, List.flatMap_cons, if_neg h, List.nil_append]
theorem is_ev {c : List Kind} {l : List Rep} {ch : List Int} (hg : givenF c l ch 0 = true) : isF c l ch = (runsTo c [] (sortF (pickE 40001 l ch))).isSome := by
  obtain ⟨hl, hv⟩ := given_all hg
  rw [isF, failsF, if_neg (by rw [hg]; decide), follow_ev hl hv]
theorem is_no {c : List Kind} {l : List Rep} {ch : List Int} (hg : givenF c l ch 0 = false) : isF c l ch = false := by
  rw [isF, failsF, if_pos hg]; rfl
theorem is_cut {c : List Kind} {l : List Rep} {ch : List Int} {k : Nat} (hl : ch.length = l.length) (h1 : k < l.length) (h2 : k < ch.length) (hf : chFine 0 l[k] ch[k] = true) (hn : ∀ day, optAt day l[k] ch[k] = none) : isF c (cutAt l k) (cutAt ch k) = isF c l ch := by
  have e := given_cut (c := c) hl h1 h2 hf
  cases hg : givenF c l ch 0 with
  | false => rw [is_no hg, is_no (by rw [e, hg])]
  | true => rw [is_ev hg, is_ev (by rw [e, hg]), zip_cut hl h1 h2 (hn _)]
theorem false_cut {c : List Kind} {l : List Rep} {ch : List Int} {k : Nat} (hl : ch.length = l.length) (h1 : k < l.length) (h2 : k < ch.length) (hf : chFine (-1) l[k] ch[k] = true) (h0 : ¬ ch[k] < 0) (hn : ∀ day, optAt day l[k] ch[k] = none) : falseF c (cutAt l k) (cutAt ch k) = falseF c l ch := by
  have e := given_cut (c := c) hl h1 h2 hf
  cases hg : givenF c l ch (-1) with
  | false =>
    have hg2f : givenF c (cutAt l k) (cutAt ch k) (-1) = false := by rw [e, hg]
    rw [falseF, falseF, if_pos hg2f, if_pos hg]
  | true =>
    obtain ⟨_, hv⟩ := given_all hg
    have hg2 : givenF c (cutAt l k) (cutAt ch k) (-1) = true := by rw [e, hg]
    obtain ⟨hl2, hv2⟩ := given_all hg2
    rw [falseF, falseF, if_neg (by rw [hg2]; decide), if_neg (by rw [hg]; decide), open_cut hl h1 h2 h0, follow_ev hl hv, follow_ev hl2 hv2, zip_cut hl h1 h2 (hn _)]
theorem sort_swap {α : Type} [Day α] (A B : List α) (x y : α) (h : Day.day x ≠ Day.day y) : sortF (A ++ y :: x :: B) = sortF (A ++ x :: y :: B) := by
  refine sortF_is ⟨?_, fun d => ?_⟩ (sortF_srt _)
  · rw [sortF_len]; simp
  · rw [sortF_filter, List.filter_append, List.filter_append]
    congr 1
    simp only [List.filter_cons]
    by_cases hx : Day.day x = d
    · have hy : ¬ Day.day y = d := fun e => h (hx.trans e.symm)
      simp [hx, hy]
    · simp [hx]
/-! the law -/
theorem none_opt (r : Rep) (day : Int) : optAt day r ((r.options.length : Nat) : Int) = none := by
  unfold optAt
  rw [if_pos (by omega), Int.toNat_natCast, List.getElem?_eq_none (Nat.le_refl _)]
theorem none_fine {r : Rep} (hv : validRep r = true) (hd : r.doubtful = true) {n : Int} (hn : n ≤ 0) : chFine n r ((r.options.length : Nat) : Int) = true := by
  simp only [chFine, chs, hv, hd, Bool.true_eq_false, if_true, if_false, Bool.not_eq_true', Bool.or_eq_false_iff, decide_eq_false_iff_not]
  omega
theorem law_none_is {c : List Kind} {l : List Rep} {ch : List Int} {k : Nat} (hl : ch.length = l.length) (h1 : k < l.length) (h2 : k < ch.length) (hv : validRep l[k] = true) (hd : l[k].doubtful = true) (he : ch[k] = ((l[k].options.length : Nat) : Int)) :
    (isF c l ch == isF c (cutAt l k) (cutAt ch k)) = true := by
  rw [is_cut hl h1 h2 (by rw [he]; exact none_fine hv hd (by omega)) (fun day => by rw [he]; exact none_opt _ _)]; simp
theorem law_none_false {c : List Kind} {l : List Rep} {ch : List Int} {k : Nat} (hl : ch.length = l.length) (h1 : k < l.length) (h2 : k < ch.length) (hv : validRep l[k] = true) (hd : l[k].doubtful = true) (he : ch[k] = ((l[k].options.length : Nat) : Int)) :
    (falseF c l ch == falseF c (cutAt l k) (cutAt ch k)) = true := by
  rw [false_cut hl h1 h2 (by rw [he]; exact none_fine hv hd (by omega)) (by rw [he]; omega) (fun day => by rw [he]; exact none_opt _ _)]; simp
end Go.Sx

/- The plain law of HistoryPlaces: neighbours of different days change their places. -/
set_option linter.all false
namespace Go.Sx
open Go
theorem two_at {α : Type} {l : List α} {k : Nat} (h : k + 1 < l.length) : ∃ A B, l = A ++ l[k] :: l[k + 1] :: B ∧ A.length = k := by
  refine ⟨l.take k, l.drop (k + 2), ?_, by rw [List.length_take]; omega⟩
  conv => lhs; rw [← List.take_append_drop k l]
  rw [List.drop_eq_getElem_cons (by omega : k < l.length), List.drop_eq_getElem_cons h]
theorem set_two {α : Type} (A B : List α) (x y : α) : ((A ++ x :: y :: B).set A.length y).set (A.length + 1) x = A ++ y :: x :: B := by
  rw [List.set_append_right _ _ (Nat.le_refl _), Nat.sub_self, List.set_append_right _ _ (by omega)]
  simp
theorem opt_picked {day : Int} {r : Rep} {k : Int} {e : Evt} (h : optAt day r k = some e) : r.options[k.toNat]? = some e := by
  unfold optAt at h
  split at h
  · split at h
    · rename_i x hx
      split at h
      · cases h; exact hx
      · cases h
    · cases h
  · cases h
theorem all_turn {f : Rep × Int → Bool} (A B : List (Rep × Int)) (x y : Rep × Int) : (A ++ y :: x :: B).all f = (A ++ x :: y :: B).all f := by
  simp only [List.all_append, List.all_cons]
  cases f x <;> cases f y <;> simp
theorem is_zip {c : List Kind} {l m : List Rep} {ch cm : List Int} (hl : ch.length = l.length) (hm : cm.length = m.length) (A B : List (Rep × Int)) (x y : Rep × Int) (h1 : l.zip ch = A ++ x :: y :: B) (h2 : m.zip cm = A ++ y :: x :: B)
    (hd : ∀ e d, optAt 40001 x.1 x.2 = some e → optAt 40001 y.1 y.2 = some d → e.day ≠ d.day) : isF c l ch = isF c m cm := by
  have hlm : l.length = m.length := by
    have e1 : (l.zip ch).length = l.length := by simp; omega
    have e2 : (m.zip cm).length = m.length := by simp; omega
    rw [← e1, ← e2, h1, h2]; simp
  have hg : givenF c m cm 0 = givenF c l ch 0 := by
    simp only [givenF]
    rw [allTo_zip hl, allTo_zip hm, h1, h2, all_turn (f := fun p => chFine 0 p.1 p.2)]
    simp [hl, hm]
  cases hgl : givenF c l ch 0 with
  | false => rw [is_no hgl, is_no (by rw [hg, hgl])]
  | true =>
    rw [is_ev hgl, is_ev (by rw [hg, hgl])]
    congr 1
    congr 1
    unfold pickE
    rw [h1, h2, List.filterMap_append, List.filterMap_append, List.filterMap_cons, List.filterMap_cons, List.filterMap_cons, List.filterMap_cons]
    cases hx : optAt 40001 x.1 x.2 with
    | none => rfl
    | some e =>
      cases hy : optAt 40001 y.1 y.2 with
      | none => rfl
      | some d => exact (sort_swap _ _ e d (hd e d hx hy)).symm
theorem is_turn {c : List Kind} {l : List Rep} {ch : List Int} {k : Nat} (hl : ch.length = l.length) (hk : k + 1 < l.length) (hk2 : k + 1 < ch.length)
    (hd : ∀ e d, l[k].options[ch[k].toNat]? = some e → l[k + 1].options[ch[k + 1].toNat]? = some d → e.day ≠ d.day) :
    isF c l ch = isF c ((l.set k l[k + 1]).set (k + 1) l[k]) ((ch.set k ch[k + 1]).set (k + 1) ch[k]) := by
  obtain ⟨A, B, e1, e2⟩ := two_at hk
  obtain ⟨C, D, e3, e4⟩ := two_at hk2
  have s1 : (l.set k l[k + 1]).set (k + 1) l[k] = A ++ l[k + 1] :: l[k] :: B := by
    generalize l[k] = x at *
    generalize l[k + 1] = y at *
    rw [e1]; subst e2; exact set_two A B x y
  have s2 : (ch.set k ch[k + 1]).set (k + 1) ch[k] = C ++ ch[k + 1] :: ch[k] :: D := by
    generalize ch[k] = x at *
    generalize ch[k + 1] = y at *
    rw [e3]; subst e4; exact set_two C D x y
  refine is_zip (x := (l[k], ch[k])) (y := (l[k + 1], ch[k + 1])) (A := A.zip C) (B := B.zip D) hl (by simp [hl]) ?_ ?_ (fun e d h1 h2 => hd e d (opt_picked h1) (opt_picked h2))
  · conv => lhs; rw [e1, e3]
    rw [List.zip_append (by omega)]; rfl
  · rw [s1, s2, List.zip_append (by omega)]; rfl
/-- what bars the change -/
def placesBad (p q : List Evt × Int) : Bool := !decide (p.2 = 0) || !decide (q.2 = 0) || !fewE p.1 1 || !fewE q.1 1 || (decide (((p.1.length : Nat) : Int) = 1) && decide (((q.1.length : Nat) : Int) = 1) && decide (dayAt p.1 0 = dayAt q.1 0))
theorem picked_one {r : Rep} {k : Int} (h : (pickedF [r] [k]).2 = 0) : (pickedF [r] [k]).1 = (r.options[k.toNat]?).toList := by
  unfold pickedF at h ⊢
  split
  · show evsTo [r] [k] 1 = _
    have e : evAt [r] [k] 0 = r.options[k.toNat]? := rfl
    show ([0] : List Nat).filterMap (evAt [r] [k]) = _
    rw [List.filterMap_cons, e]
    cases r.options[k.toNat]? <;> rfl
  · rename_i hn; rw [if_neg hn] at h; simp at h
theorem mid_one {α : Type} {l : List α} {k : Nat} (h : k < l.length) : (l.take (k + 1)).drop k = [l[k]] := by
  rw [← take_succ_of h, List.drop_append_of_le_length (by rw [List.length_take]; omega), List.drop_eq_nil_of_le (by rw [List.length_take]; omega)]; rfl
theorem law_places {c : List Kind} {l : List Rep} {ch : List Int} {k : Nat} (hl : ch.length = l.length) (hk : k + 1 < l.length) (hk2 : k + 1 < ch.length)
    (h : placesBad (pickedF ((l.take (k + 1)).drop k) ((ch.take (k + 1)).drop k)) (pickedF ((l.take (k + 2)).drop (k + 1)) ((ch.take (k + 2)).drop (k + 1))) = false) :
    (isF c l ch == isF c ((l.set k l[k + 1]).set (k + 1) l[k]) ((ch.set k ch[k + 1]).set (k + 1) ch[k])) = true := by
  rw [is_turn hl hk hk2 ?_]
  · simp
  intro e d h1 h2 hde
  rw [mid_one (by omega), mid_one (by omega), mid_one (l := l) (k := k + 1) hk, mid_one (l := ch) (k := k + 1) hk2] at h
  simp only [placesBad, Bool.or_eq_false_iff, Bool.not_eq_false', decide_eq_true_eq] at h
  obtain ⟨⟨⟨⟨p0, q0⟩, _⟩, _⟩, h5⟩ := h
  rw [picked_one p0, picked_one q0, h1, h2] at h5
  simp [dayAt, Day.day, hde] at h5
end Go.Sx

/- The plain law of HistoryFails: with just what comes before it, or is it, the report that is named fails alike; without it, nothing fails. -/
set_option linter.all false
namespace Go.Sx
open Go
/-- the elements whose indices are marked -/
def selF {α : Type} (b : Nat → Bool) (l : List α) (n : Nat) : List α := (List.range n).filterMap fun i => if b i = true then l[i]? else none
theorem sel_succ {α : Type} (b : Nat → Bool) (l : List α) (n : Nat) (h : n < l.length) : selF b l (n + 1) = selF b l n ++ if b n = true then [l[n]] else [] := by
  rw [selF, List.range_succ, List.filterMap_append, selF]
  congr 1
  by_cases hb : b n = true <;> simp [hb, h]
theorem sel_len {α β : Type} (b : Nat → Bool) (l : List α) (m : List β) : ∀ n, n ≤ l.length → n ≤ m.length → (selF b l n).length = (selF b m n).length
  | 0, _, _ => rfl
  | n + 1, h1, h2 => by
    rw [sel_succ b l n (by omega), sel_succ b m n (by omega), List.length_append, List.length_append, sel_len b l m n (by omega) (by omega)]
    by_cases hb : b n = true <;> simp [hb]
theorem sel_le {α : Type} (b : Nat → Bool) (l : List α) (n : Nat) : (selF b l n).length ≤ n := by
  unfold selF
  exact Nat.le_trans (List.length_filterMap_le _ _) (by simp)
theorem sel_mem {α : Type} {b : Nat → Bool} {l : List α} {n : Nat} {x : α} (h : x ∈ selF b l n) : x ∈ l := by
  rw [selF, List.mem_filterMap] at h
  obtain ⟨i, _, hi⟩ := h
  split at hi
  · exact List.mem_of_getElem? hi
  · cases hi
theorem sel_zip {α β : Type} (b : Nat → Bool) (l : List α) (m : List β) : ∀ n, n ≤ l.length → n ≤ m.length → (selF b l n).zip (selF b m n) = selF b (l.zip m) n
  | 0, _, _ => rfl
  | n + 1, h1, h2 => by
    rw [sel_succ b l n (by omega), sel_succ b m n (by omega), sel_succ b (l.zip m) n (by simp; omega), List.zip_append (sel_len b l m n (by omega) (by omega)), sel_zip b l m n (by omega) (by omega)]
    by_cases hb : b n = true <;> simp [hb]
theorem given_sel {c : List Kind} {l : List Rep} {ch : List Int} (h : givenF c l ch 0 = true) (b : Nat → Bool) (n : Nat) (hn : n ≤ l.length) : givenF c (selF b l n) (selF b ch n) 0 = true := by
  have hl := (given_all h).1
  have e3 : (selF b ch n).length = (selF b l n).length := (sel_len b l ch n hn (by omega)).symm
  have h2 := h
  simp only [givenF, Bool.and_eq_true] at h2
  obtain ⟨h2, h3⟩ := h2
  rw [allTo_zip hl, List.all_eq_true] at h3
  simp only [givenF, Bool.and_eq_true]
  refine ⟨by simp [given_cat h, e3], ?_⟩
  rw [allTo_zip e3, sel_zip b l ch n hn (by omega), List.all_eq_true]
  exact fun x hx => h3 x (sel_mem hx)
/-! the order of the course -/
def Ltp (x y : Pkd) : Prop := x.e.day < y.e.day ∨ x.e.day = y.e.day ∧ x.rep < y.rep
theorem pkd_rep {day : Int} {l : List Rep} {ch : List Int} {i : Nat} {p : Pkd} (h : pkd day l ch i = some p) : p.rep = (i : Int) := by
  unfold pkd at h
  split at h
  · split at h
    · cases h; rfl
    · cases h
  · cases h
theorem pick_srt (day : Int) (l : List Rep) (ch : List Int) : ∀ n, (pickF day l ch n).Pairwise (fun x y => x.rep < y.rep) ∧ ∀ p ∈ pickF day l ch n, p.rep < (n : Int)
  | 0 => ⟨.nil, fun p h => by cases h⟩
  | n + 1 => by
    obtain ⟨h1, h2⟩ := pick_srt day l ch n
    rw [pick_succ]
    have h3 : ∀ p ∈ (pkd day l ch n).toList, p.rep = (n : Int) := fun p hp => pkd_rep (by simpa using hp)
    refine ⟨List.pairwise_append.2 ⟨h1, ?_, fun x hx y hy => by have := h2 x hx; have := h3 y hy; omega⟩, fun p hp => ?_⟩
    · cases pkd day l ch n <;> simp
    · rcases List.mem_append.1 hp with hp | hp
      · have := h2 p hp; omega
      · have := h3 p hp; omega
theorem ins_ltp {e : Pkd} : ∀ {l : List Pkd}, l.Pairwise Ltp → (∀ x ∈ l, e.rep < x.rep) → (insD e l).Pairwise Ltp
  | [], _, _ => by simp [insD]
  | x :: r, h, he => by
    have h' := List.pairwise_cons.1 h
    simp only [insD]
    by_cases hd : Day.day e ≤ Day.day x
    · rw [if_pos hd]
      have hd : e.e.day ≤ x.e.day := hd
      refine List.pairwise_cons.2 ⟨fun y hy => ?_, h⟩
      have hr := he y hy
      rcases List.mem_cons.1 hy with rfl | hy
      · unfold Ltp; omega
      · have := h'.1 y hy
        unfold Ltp at this ⊢; omega
    · rw [if_neg hd]
      have hd : ¬ e.e.day ≤ x.e.day := hd
      refine List.pairwise_cons.2 ⟨fun y hy => ?_, ins_ltp h'.2 fun y hy => he y (by simp [hy])⟩
      rcases insD_mem.1 hy with rfl | hy
      · unfold Ltp; omega
      · exact h'.1 y hy
theorem sort_ltp : ∀ {l : List Pkd}, l.Pairwise (fun x y => x.rep < y.rep) → (sortF l).Pairwise Ltp
  | [], _ => .nil
  | x :: r, h => by
    have h' := List.pairwise_cons.1 h
    exact ins_ltp (sort_ltp h'.2) fun y hy => h'.1 y (sortF_mem.1 hy)
/-! the same events under other places -/
def renF (b : Nat → Bool) (x : Pkd) : Pkd := { x with rep := (((List.range x.rep.toNat).filter b).length : Nat) }
theorem sel_cnt {α : Type} (b : Nat → Bool) (l : List α) : ∀ n, n ≤ l.length → (selF b l n).length = ((List.range n).filter b).length
  | 0, _ => rfl
  | n + 1, h => by
    rw [sel_succ b l n (by omega), List.length_append, sel_cnt b l n (by omega), List.range_succ, List.filter_append, List.length_append]
    by_cases hb : b n = true <;> simp [hb]
theorem pkd_app {day : Int} {l m : List Rep} {ch cm : List Int} {i : Nat} (h1 : i < l.length) (h2 : i < ch.length) : pkd day (l ++ m) (ch ++ cm) i = pkd day l ch i := by
  unfold pkd
  rw [at2_eq (by simp; omega) (by simp; omega), at2_eq h1 h2, List.getElem_append_left h1, List.getElem_append_left h2]
theorem pick_app {day : Int} {l m : List Rep} {ch cm : List Int} : ∀ n, n ≤ l.length → n ≤ ch.length → pickF day (l ++ m) (ch ++ cm) n = pickF day l ch n
  | 0, _, _ => rfl
  | n + 1, h1, h2 => by rw [pick_succ, pick_succ, pick_app n (by omega) (by omega), pkd_app (by omega) (by omega)]
theorem pick_sel {day : Int} {l : List Rep} {ch : List Int} (b : Nat → Bool) (hl : ch.length = l.length) : ∀ n, n ≤ l.length →
    pickF day (selF b l n) (selF b ch n) (selF b l n).length = ((pickF day l ch n).filter fun x => b x.rep.toNat).map (renF b)
  | 0, _ => rfl
  | n + 1, h => by
    have ih := pick_sel (day := day) b hl n (by omega)
    have hrep : ∀ p, pkd day l ch n = some p → p.rep.toNat = n := fun p hp => by have := pkd_rep hp; omega
    rw [pick_succ, List.filter_append, List.map_append, ← ih, sel_succ b l n (by omega), sel_succ b ch n (by omega)]
    by_cases hb : b n = true
    · simp only [if_pos hb, List.length_append, List.length_singleton]
      have e := sel_len b l ch n (by omega) (by omega)
      rw [pick_succ, pick_app _ (Nat.le_refl _) (by omega)]
      congr 1
      have e1 : pkd day (selF b l n ++ [l[n]]) (selF b ch n ++ [ch[n]'(by omega)]) (selF b l n).length = (pkd day l ch n).map (renF b) := by
        have g1 : (selF b l n ++ [l[n]])[(selF b l n).length]'(by simp) = l[n] := by simp
        have g2 : (selF b ch n ++ [ch[n]'(by omega)])[(selF b l n).length]'(by simp; omega) = ch[n]'(by omega) := by simp [e]
        unfold pkd
        rw [at2_eq (by simp) (by simp; omega), at2_eq (by omega : n < l.length) (by omega), g1, g2]
        cases optAt day l[n] (ch[n]'(by omega)) with
        | none => rfl
        | some x =>
          simp only [Option.join_some]
          split
          · simp [renF, sel_cnt b l n (by omega)]
          · rfl
      rw [e1]
      cases hp : pkd day l ch n with
      | none => rfl
      | some p => simp [hrep p hp, hb]
    · simp only [if_neg hb, List.append_nil]
      cases hp : pkd day l ch n with
      | none => simp
      | some p => simp [hrep p hp, hb]
theorem ren_day (b : Nat → Bool) (x : Pkd) : Day.day (renF b x) = Day.day x := rfl
theorem follow_sel {c : List Kind} {l : List Rep} {ch : List Int} (b : Nat → Bool) (hl : ch.length = l.length) (day : Int) :
    followF c (selF b l l.length) (selF b ch l.length) day = followGo c [] (((sortF (pickF day l ch l.length)).filter fun x => b x.rep.toNat).map (renF b)) := by
  rw [followF, pick_sel b hl _ (Nat.le_refl _), ← sortF_map (renF b) (ren_day b), sortF_filt]
/-! the law -/
def beforeF (l : List Rep) (ch : List Int) (i k : Nat) : Bool :=
  match l[i]?, ch[i]?, l[k]?, ch[k]? with
  | some r, some x, some s, some y => !(decide (x < 0) || decide (((r.options.length : Nat) : Int) ≤ x) || decide (y < 0) || decide (((s.options.length : Nat) : Int) ≤ y)) &&
    (match r.options[x.toNat]?, s.options[y.toNat]? with
    | some d, some e => decide (d.day < e.day) || (decide (d.day = e.day) && decide ((i : Int) ≤ (k : Int)))
    | _, _ => false)
  | _, _, _, _ => false
theorem pkd_some {day : Int} {l : List Rep} {ch : List Int} {i : Nat} {p : Pkd} (h : pkd day l ch i = some p) : ∃ (h1 : i < l.length) (h2 : i < ch.length), 0 ≤ ch[i] ∧ ch[i] < (l[i].options.length : Nat) ∧ l[i].options[ch[i].toNat]? = some p.e ∧ p.rep = (i : Int) := by
  have hr := pkd_rep h
  unfold pkd at2 at h
  split at h
  · rename_i e he
    split at h
    · cases h
      split at he
      · rename_i r k h1 h2
        obtain ⟨h3, rfl⟩ := List.getElem?_eq_some_iff.1 h1
        obtain ⟨h4, rfl⟩ := List.getElem?_eq_some_iff.1 h2
        simp only [Option.join_some, optAt] at he
        split at he
        · rename_i hk
          split at he
          · rename_i e' h5
            split at he
            · cases he
              have := (List.getElem?_eq_some_iff.1 h5).1
              exact ⟨h3, h4, hk, by omega, h5, rfl⟩
            · cases he
          · cases he
        · cases he
      · simp at he
    · cases h
  · cases h
theorem pick_pkd {day : Int} {l : List Rep} {ch : List Int} {n : Nat} {p : Pkd} (h : p ∈ pickF day l ch n) : ∃ i, i < n ∧ pkd day l ch i = some p := by
  rw [pickF, List.mem_filterMap] at h
  obtain ⟨i, hi, h⟩ := h
  exact ⟨i, List.mem_range.1 hi, h⟩
theorem before_is {l : List Rep} {ch : List Int} {day : Int} {i k : Nat} {x p : Pkd} (hx : pkd day l ch i = some x) (hp : pkd day l ch k = some p) : beforeF l ch i k = true ↔ (x.e.day < p.e.day ∨ x.e.day = p.e.day ∧ i ≤ k) := by
  obtain ⟨a1, a2, a3, a4, a5, _⟩ := pkd_some hx
  obtain ⟨b1, b2, b3, b4, b5, _⟩ := pkd_some hp
  simp only [beforeF, List.getElem?_eq_getElem a1, List.getElem?_eq_getElem a2, List.getElem?_eq_getElem b1, List.getElem?_eq_getElem b2, a5, b5]
  simp only [show decide (ch[i] < 0) = false from by simp; omega, show decide (((l[i].options.length : Nat) : Int) ≤ ch[i]) = false from by simp; omega, show decide (ch[k] < 0) = false from by simp; omega, show decide (((l[k].options.length : Nat) : Int) ≤ ch[k]) = false from by simp; omega, Bool.or_false, Bool.not_false, Bool.true_and, Bool.or_eq_true, Bool.and_eq_true, decide_eq_true_eq]
  omega
theorem follow_zero (c : List Kind) : ∀ (l : List Pkd) (st : List Part), (followGo c st l).2 = 0 → (followGo c st l).1 = -1
  | [], _, _ => rfl
  | p :: r, st, h => by
    simp only [followGo] at h ⊢
    split at h
    · rename_i h0; rw [if_pos h0]; exact follow_zero c r _ h
    · rename_i h0; exact absurd h h0
theorem fails_ok {c : List Kind} {l : List Rep} {ch : List Int} (h : (failsF c l ch).2 = 0) : (failsF c l ch).1 = -1 := by
  unfold failsF at h ⊢
  split at h
  · rename_i hg; cases h
  · rename_i hg; rw [if_neg hg]; exact follow_zero c _ _ h
theorem fails_main {c : List Kind} {l : List Rep} {ch : List Int} (hg : givenF c l ch 0 = true) (h : (failsF c l ch).2 ≠ 0) : ∃ a p b s, sortF (pickF 40001 l ch l.length) = a ++ p :: b ∧ runsTo c [] (a.map Pkd.e) = some s ∧ (applyF c s p.e).2 ≠ 0 ∧ failsF c l ch = (p.rep, (applyF c s p.e).2) := by
  have e : failsF c l ch = followF c l ch 40001 := by rw [failsF, if_neg (by rw [hg]; decide)]
  rw [e] at h ⊢
  obtain ⟨a, p, b, s, h1, h2, h3, h4⟩ := follow_at c _ _ h
  exact ⟨a, p, b, s, h1, h2, h3, h4⟩
theorem fails_neg {c : List Kind} {l : List Rep} {ch : List Int} (h : (failsF c l ch).2 ≠ 0) (h0 : (failsF c l ch).1 < 0) : givenF c l ch 0 = false := by
  cases hg : givenF c l ch 0 with
  | false => rfl
  | true =>
    obtain ⟨a, p, b, s, h1, h2, h3, h4⟩ := fails_main hg h
    have hp : p ∈ pickF 40001 l ch l.length := sortF_mem.1 (by rw [h1]; simp)
    obtain ⟨i, _, hi⟩ := pick_pkd hp
    have := pkd_rep hi
    rw [h4] at h0
    simp only at h0
    omega
theorem fails_arg {c : List Kind} {l : List Rep} {ch : List Int} (hfit : givF c l = true → givenF c l ch 0 = true) (h : (failsF c l ch).2 ≠ 0) (h0 : (failsF c l ch).1 < 0) : (failsF c l ch).1 = -1 ∧ (failsF c l ch).2 = 1 ∧ givF c l = false := by
  have hg := fails_neg h h0
  refine ⟨by rw [failsF, if_pos hg], by rw [failsF, if_pos hg], ?_⟩
  cases hgf : givF c l with
  | false => rfl
  | true => rw [hfit hgf] at hg; cases hg
theorem fm_congr {α β : Type} {f g : α → Option β} : ∀ {l : List α}, (∀ x ∈ l, f x = g x) → l.filterMap f = l.filterMap g
  | [], _ => rfl
  | x :: r, h => by rw [List.filterMap_cons, List.filterMap_cons, h x (by simp), fm_congr fun y hy => h y (by simp [hy])]
theorem sel_split {α : Type} (b : Nat → Bool) (l : List α) (k : Nat) (hk : k < l.length) (hb : b k = true) : ∀ n, k < n → n ≤ l.length → ∃ T, selF b l n = selF b l k ++ l[k] :: T ∧ selF (fun i => b i && !decide (i = k)) l n = selF b l k ++ T := by
  intro n
  induction n with
  | zero => intro h; omega
  | succ n ih =>
    intro h1 h2
    by_cases hn : n = k
    · subst hn
      refine ⟨[], by rw [sel_succ b l n hk, if_pos hb], ?_⟩
      have e : selF (fun i => b i && !decide (i = n)) l n = selF b l n := by
        unfold selF
        refine fm_congr fun i hi => ?_
        have := List.mem_range.1 hi
        have : ¬ i = n := by omega
        simp [this]
      rw [sel_succ _ l n hk, e]
      simp
    · obtain ⟨T, e1, e2⟩ := ih (by omega) (by omega)
      refine ⟨T ++ if b n = true then [l[n]] else [], ?_, ?_⟩
      · rw [sel_succ b l n (by omega), e1]; simp
      · rw [sel_succ _ l n (by omega), e2]; simp [hn]
theorem cut_split {α : Type} (A T : List α) (x : α) : cutAt (A ++ x :: T) A.length = A ++ T := by
  simp [cutAt, List.drop_append]
theorem sel_no {α : Type} {b : Nat → Bool} {l : List α} {n : Nat} (h : n < l.length) (hb : b n = false) : selF b l (n + 1) = selF b l n := by
  rw [sel_succ b l n h, if_neg (by rw [hb]; decide), List.append_nil]
theorem sel_yes {α : Type} {b : Nat → Bool} {l : List α} {n : Nat} (h : n < l.length) (hb : b n = true) : selF b l (n + 1) = selF b l n ++ [l[n]] := by
  rw [sel_succ b l n h, if_pos hb]
/-- the place of an index among those that are marked, once it is passed -/
def plF (b : Nat → Bool) (l : List Rep) (k i : Nat) : Nat := if k < i then (selF b l k).length else 0
theorem plF_at {b : Nat → Bool} {l : List Rep} {k i : Nat} (h : i = k) : (selF b l i).length = plF b l k (i + 1) := by
  subst h; unfold plF; rw [if_pos (by omega)]
theorem plF_next {b : Nat → Bool} {l : List Rep} {k i : Nat} (h : ¬ i = k) : plF b l k i = plF b l k (i + 1) := by
  unfold plF
  by_cases hk : k < i
  · rw [if_pos hk, if_pos (by omega)]
  · rw [if_neg hk, if_neg (by omega)]
theorem before_bad {l : List Rep} {ch : List Int} {i k : Nat} (h1 : i < l.length) (h2 : i < ch.length) (h3 : k < l.length) (h4 : k < ch.length)
    (h : (decide (ch[i] < 0) || decide (((l[i].options.length : Nat) : Int) ≤ ch[i]) || decide (ch[k] < 0) || decide (((l[k].options.length : Nat) : Int) ≤ ch[k])) = true) : beforeF l ch i k = false := by
  simp only [beforeF, List.getElem?_eq_getElem h1, List.getElem?_eq_getElem h2, List.getElem?_eq_getElem h3, List.getElem?_eq_getElem h4, h, Bool.not_true, Bool.false_and]
theorem before_ok {l : List Rep} {ch : List Int} {i k : Nat} (h1 : i < l.length) (h2 : i < ch.length) (h3 : k < l.length) (h4 : k < ch.length)
    (h : (decide (ch[i] < 0) || decide (((l[i].options.length : Nat) : Int) ≤ ch[i]) || decide (ch[k] < 0) || decide (((l[k].options.length : Nat) : Int) ≤ ch[k])) = false) (h5 : ch[i].toNat < l[i].options.length) (h6 : ch[k].toNat < l[k].options.length) :
    beforeF l ch i k = (decide (l[i].options[ch[i].toNat].day < l[k].options[ch[k].toNat].day) || (decide (l[i].options[ch[i].toNat].day = l[k].options[ch[k].toNat].day) && decide ((i : Int) ≤ (k : Int)))) := by
  simp only [beforeF, List.getElem?_eq_getElem h1, List.getElem?_eq_getElem h2, List.getElem?_eq_getElem h3, List.getElem?_eq_getElem h4, h, Bool.not_false, Bool.true_and, List.getElem?_eq_getElem h5, List.getElem?_eq_getElem h6]
/-- all that the law asks where a report is named -/
theorem fails_law {c : List Kind} {l : List Rep} {ch : List Int} (h : (failsF c l ch).2 ≠ 0) (h0 : ¬ (failsF c l ch).1 < 0) : ∃ (k : Nat) (h1 : k < l.length) (h2 : k < ch.length), (failsF c l ch).1 = (k : Int) ∧ ch[k] < (l[k].options.length : Nat) ∧ ch.length = l.length ∧ beforeF l ch k k = true ∧
    (selF (fun i => beforeF l ch i k) l k).length < (selF (fun i => beforeF l ch i k) l l.length).length ∧
    failsF c (selF (fun i => beforeF l ch i k) l l.length) (selF (fun i => beforeF l ch i k) ch l.length) = ((((selF (fun i => beforeF l ch i k) l k).length : Nat) : Int), (failsF c l ch).2) ∧
    isF c (cutAt (selF (fun i => beforeF l ch i k) l l.length) (selF (fun i => beforeF l ch i k) l k).length) (cutAt (selF (fun i => beforeF l ch i k) ch l.length) (selF (fun i => beforeF l ch i k) l k).length) = true := by
  have hg : givenF c l ch 0 = true := by
    cases hg : givenF c l ch 0 with
    | true => rfl
    | false => rw [failsF, if_pos hg] at h0; exact absurd (by decide) h0
  have hl := (given_all hg).1
  obtain ⟨a, p, d, s, e1, e2, e3, e4⟩ := fails_main hg h
  have hp : p ∈ pickF 40001 l ch l.length := sortF_mem.1 (by rw [e1]; simp)
  obtain ⟨k, hkn, hpk⟩ := pick_pkd hp
  obtain ⟨h1, h2, h3, h4, h5, h6⟩ := pkd_some hpk
  have hord := sort_ltp (pick_srt 40001 l ch l.length).1
  rw [e1] at hord
  obtain ⟨o1, o2, o3⟩ := List.pairwise_append.1 hord
  have o4 := (List.pairwise_cons.1 o2).1
  obtain ⟨b, hb⟩ : ∃ b, b = fun i => beforeF l ch i k := ⟨_, rfl⟩
  have hbq : ∀ i, b i = beforeF l ch i k := fun i => by rw [hb]
  have hmem : ∀ x, x ∈ a ++ p :: d → (b x.rep.toNat = true ↔ x.e.day < p.e.day ∨ x.e.day = p.e.day ∧ x.rep ≤ p.rep) := by
    intro x hx
    rw [← e1] at hx
    obtain ⟨i, hin, hxi⟩ := pick_pkd (sortF_mem.1 hx)
    have hxr := pkd_rep hxi
    rw [hbq, show x.rep.toNat = i by omega, before_is hxi hpk]
    omega
  have hbk : b k = true := by
    have := (hmem p (by simp)).2 (by omega)
    rwa [show p.rep.toNat = k by omega] at this
  have ha : ∀ x ∈ a, b x.rep.toNat = true := fun x hx => (hmem x (by simp [hx])).2 (by have := o3 x hx p (by simp); unfold Ltp at this; omega)
  have hd : ∀ x ∈ d, ¬ b x.rep.toNat = true := fun x hx => by
    rw [hmem x (by simp [hx])]
    have := o4 x hx
    unfold Ltp at this; omega
  have hpb : b p.rep.toNat = true := by rw [show p.rep.toNat = k by omega]; exact hbk
  obtain ⟨T, t1, t2⟩ := sel_split b l k h1 hbk l.length h1 (Nat.le_refl _)
  obtain ⟨U, u1, u2⟩ := sel_split b ch k h2 hbk l.length h1 (by omega)
  have hkl := sel_len b l ch k (by omega) (by omega)
  have f1 : (a ++ p :: d).filter (fun x => b x.rep.toNat) = a ++ [p] := by
    rw [List.filter_append, List.filter_cons, if_pos hpb, List.filter_eq_self.2 ha, List.filter_eq_nil_iff.2 hd]
  have f2 : (a ++ p :: d).filter (fun x => b x.rep.toNat && !decide (x.rep.toNat = k)) = a := by
    have g1 : a.filter (fun x => b x.rep.toNat && !decide (x.rep.toNat = k)) = a := by
      rw [List.filter_eq_self]
      intro x hx
      have hlt := o3 x hx p (by simp)
      obtain ⟨i, _, hxi⟩ := pick_pkd (day := 40001) (l := l) (ch := ch) (n := l.length) (p := x) (sortF_mem.1 (by rw [e1]; simp [hx]))
      have hxr := pkd_rep hxi
      have hne : ¬ x.rep.toNat = k := fun hh => by
        have hik : i = k := by omega
        subst hik
        rw [hxi] at hpk
        cases hpk
        unfold Ltp at hlt; omega
      simp [ha x hx, hne]
    have g2 : d.filter (fun x => b x.rep.toNat && !decide (x.rep.toNat = k)) = [] := by
      rw [List.filter_eq_nil_iff]
      intro x hx
      simp [hd x hx]
    rw [List.filter_append, List.filter_cons, g1, g2, if_neg (by simp [show p.rep.toNat = k by omega])]; simp
  refine ⟨k, h1, h2, by rw [e4]; exact h6, h4, hl, by rw [← hbq]; exact hbk, by rw [← hb, t1]; simp, ?_, ?_⟩
  · rw [← hb, failsF, if_neg (by rw [given_sel hg b _ (Nat.le_refl _)]; decide), follow_sel b hl, e1, f1, List.map_append, follow_app]
    have r1 : (a.map (renF b)).map Pkd.e = a.map Pkd.e := by rw [List.map_map]; rfl
    rw [r1, e2]
    show followGo c s [renF b p] = _
    simp only [followGo]
    rw [if_neg (show ¬ (applyF c s (renF b p).e).2 = 0 from e3), e4]
    show (((((List.range p.rep.toNat).filter b).length : Nat) : Int), (applyF c s p.e).2) = _
    rw [show p.rep.toNat = k by omega, sel_cnt b l k (by omega)]
  · have c1 : cutAt (selF b l l.length) (selF b l k).length = selF (fun i => b i && !decide (i = k)) l l.length := by rw [t1, t2, cut_split]
    have c2 : cutAt (selF b ch l.length) (selF b l k).length = selF (fun i => b i && !decide (i = k)) ch l.length := by rw [u1, u2, hkl, cut_split]
    rw [← hb, c1, c2, isF, failsF, if_neg (by rw [given_sel hg _ _ (Nat.le_refl _)]; decide), follow_sel _ hl, e1, f2, follow_ok, List.map_map]
    have r1 : a.map (Pkd.e ∘ renF fun i => b i && !decide (i = k)) = a.map Pkd.e := rfl
    rw [r1, e2]; rfl
end Go.Sx

/- Walks, printed by a program out of the code of the functions: each theorem is a contract of one function. -/
namespace Go.Proofs.YtkmdojpfccjnoaaGreat
open Go Go.Sx
set_option linter.all false
set_option maxRecDepth 20000
set_option maxHeartbeats 4000000
theorem law15before (I : IMap) (v : Value) (l : List Rep) (hv : RdS I v l) (hl : l.length ≤ 1000000) (w : Value) (ch : List Int) (hw : RdS I w ch) (hlc : ch.length = l.length) (i k : Nat) (hi : i < l.length) (hk : k < l.length) :
    FnV Tryz.prog 19 #[v, w, .int .i64 ((i : Nat) : Int), .int .i64 ((k : Nat) : Int)] I (.bool (beforeF l ch i k)) := by
 obtain ⟨A, c0, rfl, hA, hc, hm⟩ := hv
 obtain ⟨B, c1, rfl, hB, hc1, hm1⟩ := hw
 refine enter Tryz.func19 Tryz.call19 rfl Tryz.ntmps19 rfl (fun w0 => ?_)
 refine go 6 ?_
 refine d_startH T.mixed ?_
 refine d_tv 0 rfl rfl (by kernel_rfl) rfl .slnil rfl (v_move rfl) ?_
 refine d_tv 1 rfl rfl (by kernel_rfl) rfl .slnil rfl (v_move rfl) ?_
 obtain ⟨b15, o15, w15, e15, c15, r15⟩ := RdA.at_ hA (i := i) (by omega)
 obtain ⟨q15, rfl, S15, d15, rfl, hS15, hd15, hm15⟩ := r15
 refine d_tv 2 rfl rfl (by kernel_rfl) rfl .slnil rfl (v_idx he rfl rfl e15 (i) (by omega) (by omega)) ?_
 refine d_tv 3 rfl rfl (by kernel_rfl) rfl .slnil rfl (v_fieldAddr he rfl) ?_
 refine d_tv 4 rfl rfl (by kernel_rfl) rfl .slnil rfl (v_ldI he rfl (c15 0 _ rfl)) ?_
 refine d_tv 5 rfl rfl (by kernel_rfl) rfl .slnil rfl (v_move rfl) ?_
 refine d_tv 6 rfl rfl (by kernel_rfl) rfl .slnil rfl (v_move rfl) ?_
 obtain ⟨b20, o20, w20, e20, c20, r20⟩ := RdA.at_ hA (i := k) (by omega)
 obtain ⟨q20, rfl, S20, d20, rfl, hS20, hd20, hm20⟩ := r20
 refine d_tv 7 rfl rfl (by kernel_rfl) rfl .slnil rfl (v_idx he rfl rfl e20 (k) (by omega) (by omega)) ?_
 refine d_tv 8 rfl rfl (by kernel_rfl) rfl .slnil rfl (v_fieldAddr he rfl) ?_
 refine d_tv 9 rfl rfl (by kernel_rfl) rfl .slnil rfl (v_ldI he rfl (c20 0 _ rfl)) ?_
 refine d_tv 10 rfl rfl (by kernel_rfl) rfl .slnil rfl (v_assign rfl) ?_
 refine d_tv 11 rfl rfl (by kernel_rfl) rfl .slnil rfl (v_assign rfl) ?_
 refine d_done (by kernel_rfl) ?_
 refine go 6 ?_
 obtain ⟨b25, o25, w25, e25, c25, r25⟩ := RdA.at_ hB (i := i) (by omega)
 obtain rfl := r25
 refine o_v rfl (v_idx he rfl rfl e25 (i) (by omega) (by omega)) ?_
 refine o_v rfl (v_ldI he rfl (c25 0 _ rfl)) ?_
 refine go 2 ?_
 refine sxb 28 rfl (fun h28 p28 => ?_) (fun h28 p28 => ?_)
 ·refine go 26 ?_
  refine c_true rfl ?_
  refine go 7 ?_
  refine fin1 rfl rfl ?_
  exact q_v (congrArg Value.bool (before_bad hi (by omega) hk (by omega) (by simp only [h28, bS])).symm)
 ·refine go 2 ?_
  obtain ⟨b31, o31, w31, e31, c31, r31⟩ := RdA.at_ hB (i := i) (by omega)
  obtain rfl := r31
  refine o_cons (o_yes rfl rfl h28 (o_val rfl (v_idx he rfl rfl e31 (i) (by omega) (by omega)) ?_))
  refine o_cons (o_yes rfl rfl h28 (o_val rfl (v_ldI he rfl (c31 0 _ rfl)) ?_))
  refine go 5 ?_
  refine sxb 37 rfl (fun h37 p37 => ?_) (fun h37 p37 => ?_)
  ·refine go 17 ?_
   refine c_true rfl ?_
   refine go 7 ?_
   refine fin1 rfl rfl ?_
   exact q_v (congrArg Value.bool (before_bad hi (by omega) hk (by omega) (by simp only [h28, h37, bS])).symm)
  ·refine go 2 ?_
   obtain ⟨b40, o40, w40, e40, c40, r40⟩ := RdA.at_ hB (i := k) (by omega)
   obtain rfl := r40
   refine o_cons (o_yes rfl rfl h37 (o_val rfl (v_idx he rfl rfl e40 (k) (by omega) (by omega)) ?_))
   refine o_cons (o_yes rfl rfl h37 (o_val rfl (v_ldI he rfl (c40 0 _ rfl)) ?_))
   refine go 3 ?_
   refine sxb 44 rfl (fun h44 p44 => ?_) (fun h44 p44 => ?_)
   ·refine go 10 ?_
    refine c_true rfl ?_
    refine go 7 ?_
    refine fin1 rfl rfl ?_
    exact q_v (congrArg Value.bool (before_bad hi (by omega) hk (by omega) (by simp only [h28, h37, h44, bS])).symm)
   ·refine go 2 ?_
    obtain ⟨b47, o47, w47, e47, c47, r47⟩ := RdA.at_ hB (i := k) (by omega)
    obtain rfl := r47
    refine o_cons (o_yes rfl rfl h44 (o_val rfl (v_idx he rfl rfl e47 (k) (by omega) (by omega)) ?_))
    refine o_cons (o_yes rfl rfl h44 (o_val rfl (v_ldI he rfl (c47 0 _ rfl)) ?_))
    refine go 6 ?_
    refine cb rfl (fun h52 p52 => ?_) (fun h52 p52 => ?_)
    ·refine go 7 ?_
     refine fin1 rfl rfl ?_
     exact q_v (congrArg Value.bool (before_bad hi (by omega) hk (by omega) (by simp only [h28, h37, h44, h52, bS])).symm)
    ·have hbad : (decide (ch[i] < 0) || decide (((l[i].options.length : Nat) : Int) ≤ ch[i]) || decide (ch[k] < 0) || decide (((l[k].options.length : Nat) : Int) ≤ ch[k])) = false := by simp only [h28, h37, h44, h52, bS]
     have hk1 : ch[i].toNat < l[i].options.length := by omega
     have hk2 : ch[k].toNat < l[k].options.length := by omega
     refine go 3 ?_
     refine d_startH T.mixed ?_
     refine d_tv 0 rfl rfl (by kernel_rfl) rfl .slnil rfl (v_move rfl) ?_
     refine d_tv 1 rfl rfl (by kernel_rfl) rfl .slnil rfl (v_move rfl) ?_
     refine d_tv 2 rfl rfl (by kernel_rfl) rfl .slnil rfl (v_move rfl) ?_
     obtain ⟨b56, o56, w56, e56, c56, r56⟩ := RdA.at_ hB (i := i) (by omega)
     obtain rfl := r56
     refine d_tv 3 rfl rfl (by kernel_rfl) rfl .slnil rfl (v_idx he rfl rfl e56 (i) (by omega) (by omega)) ?_
     refine d_tv 4 rfl rfl (by kernel_rfl) rfl .slnil rfl (v_ldI he rfl (c56 0 _ rfl)) ?_
     obtain ⟨b58, o58, w58, e58, c58, r58⟩ := RdA.at_ hS15 (i := ch[i].toNat) hk1
     obtain rfl := r58
     refine d_tv 5 rfl rfl (by kernel_rfl) rfl .slnil rfl (v_idx he rfl rfl e58 (ch[i].toNat) (by omega) hk1) ?_
     refine d_tv 6 rfl rfl (by kernel_rfl) rfl .slnil rfl (v_fieldAddr he rfl) ?_
     refine d_tv 7 rfl rfl (by kernel_rfl) rfl .slnil rfl (v_ldI he rfl (c58 1 _ rfl)) ?_
     refine d_tv 8 rfl rfl (by kernel_rfl) rfl .slnil rfl (v_move rfl) ?_
     refine d_tv 9 rfl rfl (by kernel_rfl) rfl .slnil rfl (v_move rfl) ?_
     refine d_tv 10 rfl rfl (by kernel_rfl) rfl .slnil rfl (v_move rfl) ?_
     obtain ⟨b64, o64, w64, e64, c64, r64⟩ := RdA.at_ hB (i := k) (by omega)
     obtain rfl := r64
     refine d_tv 11 rfl rfl (by kernel_rfl) rfl .slnil rfl (v_idx he rfl rfl e64 (k) (by omega) (by omega)) ?_
     refine d_tv 12 rfl rfl (by kernel_rfl) rfl .slnil rfl (v_ldI he rfl (c64 0 _ rfl)) ?_
     obtain ⟨b66, o66, w66, e66, c66, r66⟩ := RdA.at_ hS20 (i := ch[k].toNat) hk2
     obtain rfl := r66
     refine d_tv 13 rfl rfl (by kernel_rfl) rfl .slnil rfl (v_idx he rfl rfl e66 (ch[k].toNat) (by omega) hk2) ?_
     refine d_tv 14 rfl rfl (by kernel_rfl) rfl .slnil rfl (v_fieldAddr he rfl) ?_
     refine d_tv 15 rfl rfl (by kernel_rfl) rfl .slnil rfl (v_ldI he rfl (c66 1 _ rfl)) ?_
     refine d_tv 16 rfl rfl (by kernel_rfl) rfl .slnil rfl (v_assign rfl) ?_
     refine d_tv 17 rfl rfl (by kernel_rfl) rfl .slnil rfl (v_assign rfl) ?_
     refine d_done (by kernel_rfl) ?_
     refine go 7 ?_
     refine sxb 72 rfl (fun h72 p72 => ?_) (fun h72 p72 => ?_)
     ·refine go 13 ?_
      refine fin1 rfl rfl ?_
      exact q_v (congrArg Value.bool (by rw [before_ok hi (by omega) hk (by omega) hbad hk1 hk2]; simp only [h28, h37, h44, h52, h72, bS]))
     ·refine go 4 ?_
      refine sxb 76 rfl (fun h76 p76 => ?_) (fun h76 p76 => ?_)
      ·refine go 9 ?_
       refine fin1 rfl rfl ?_
       exact q_v (congrArg Value.bool (by rw [before_ok hi (by omega) hk (by omega) hbad hk1 hk2]; simp only [h28, h37, h44, h52, h72, h76, bS]))
      ·refine go 9 ?_
       refine fin1 rfl rfl ?_
       exact q_v (congrArg Value.bool (by rw [before_ok hi (by omega) hk (by omega) hbad hk1 hk2]; simp only [h28, h37, h44, h52, h72, h76, bS]))

theorem lawHFails (I : IMap) (vc : Value) (c : List Kind) (hvc : RdS I vc c) (hoc : ∀ x ∈ c, OkKd x) (v : Value) (l : List Rep) (hv : RdS I v l) (hok : ∀ x ∈ l, OkRp x) (w : Value) (raw : List UInt8) (hw : RdS I w raw) (hrw : ∀ x ∈ raw, True)  :
    FnV Tryz.prog 4 #[.agg #[vc], v, w] I (.bool true) := by
 have hv0 := hv
 obtain ⟨A, c0, rfl, hA, hc, hm⟩ := hv
 refine enter Tryz.func4 Tryz.call4 rfl Tryz.ntmps4 rfl (fun w0 => ?_)
 refine go 3 ?_
 refine o_box _ rfl rfl rfl (fun g3 => ?_)
 refine go 6 ?_
 refine o_callV (head15 _) rfl rfl ?_
 refine go 9 ?_
 refine o_callV (law15few _ vc c hvc _ l hv0) rfl rfl ?_
 refine go 3 ?_
 refine cb rfl (fun h23 p23 => ?_) (fun h23 p23 => ?_)
 ·refine go 8 ?_
  refine fin1 rfl rfl ?_
  exact q_vI rfl
 ·have hf : fewC c = true ∧ fewR l 10 = true := by simpa using h23
  obtain ⟨hsl, hl⟩ := fewR_sm hf.2
  have hsc := fewC_sm hf.1
  have hl6 : l.length ≤ 1000000 := by omega
  refine go 7 ?_
  refine o_callX0 (ref15Fitted _ _ l hv0 hsl hl6 w raw hw) rfl rfl (fun v27 s27 q27 => ?_)
  obtain ⟨xs27, rfl, hF27⟩ := q27
  obtain ⟨ch, hch⟩ : ∃ q, q = fitF l raw := ⟨_, rfl⟩
  rw [← hch] at hF27
  have lch : ch.length = l.length := by rw [hch, fit_len]
  refine sx_pubrow (l := ch) rfl lch.symm (hF27) (fun I27 j27 R27 => ?_)
  try have hvc := hvc.le j27
  try have hv0 := hv0.le j27
  try have hA := hA.le j27
  try have R27s := R27s.le j27
  try have hB := hB.le j27
  try have hF1 := hF1.le j27
  try have hF2 := hF2.le j27
  try have Rs := Rs.le j27
  try have Ro := Ro.le j27
  try have R139 := R139.le j27
  try have R149 := R149.le j27
  have R27s := R27
  obtain ⟨B, c1, rfl, hB, hc1, hm1⟩ := R27
  refine go 9 ?_
  refine o_call (hiFails _ vc c hvc hsc _ l hv0 hl6 hsl _ ch R27s) rfl rfl (fun v32 I32 j32 q32 => ?_)
  try have hvc := hvc.le j32
  try have hv0 := hv0.le j32
  try have hA := hA.le j32
  try have R27s := R27s.le j32
  try have hB := hB.le j32
  try have hF1 := hF1.le j32
  try have hF2 := hF2.le j32
  try have Rs := Rs.le j32
  try have Ro := Ro.le j32
  try have R139 := R139.le j32
  try have R149 := R149.le j32
  have hu32 : v32 = .tuple #[.int .i64 (failsF c l ch).1, .int .i64 (failsF c l ch).2] := q32
  obtain ⟨x, hf1⟩ : ∃ x, (failsF c l ch).1 = x := ⟨_, rfl⟩
  obtain ⟨y, hf2⟩ : ∃ y, (failsF c l ch).2 = y := ⟨_, rfl⟩
  rw [hf1, hf2] at hu32
  subst hu32
  refine go 14 ?_
  refine o_call (hiIs _ vc c hvc hsc _ l hv0 hl6 hsl _ ch R27s) rfl rfl (fun v38 I38 j38 q38 => ?_)
  try have hvc := hvc.le j38
  try have hv0 := hv0.le j38
  try have hA := hA.le j38
  try have R27s := R27s.le j38
  try have hB := hB.le j38
  try have hF1 := hF1.le j38
  try have hF2 := hF2.le j38
  try have Rs := Rs.le j38
  try have Ro := Ro.le j38
  try have R139 := R139.le j38
  try have R149 := R149.le j38
  obtain rfl := q38
  refine go 2 ?_
  refine o_v rfl (OV.cast (u := .bool false) (v_bneq he rfl rfl) (congrArg Value.bool (by rw [isF, hf2]; simp))) ?_
  refine go 2 ?_
  refine c_false rfl ?_
  refine go 8 ?_
  refine sxb 44 rfl (fun h44 p44 => ?_) (fun h44 p44 => ?_)
  ·have hx1 : x = -1 := by rw [← hf1]; exact fails_ok (by rw [hf2]; simpa using h44)
   refine go 5 ?_
   refine c_true rfl ?_
   refine go 5 ?_
   refine o_cons (o_yes rfl rfl rfl (o_val rfl (OV.cast (u := .bool true) (v_eql rfl rfl) (congrArg Value.bool (decide_eq_true hx1))) ?_))
   refine go 3 ?_
   refine o_cons (o_yes rfl rfl rfl (o_val rfl (OV.cast (u := .bool true) (v_eql rfl rfl) (congrArg Value.bool h44)) ?_))
   refine go 16 ?_
   refine fin1 rfl rfl ?_
   exact q_vI rfl
  ·refine go 5 ?_
   refine cb rfl (fun h47 p47 => ?_) (fun h47 p47 => ?_)
   ·obtain ⟨hx1, hy1, hgv⟩ := fails_arg (c := c) (l := l) (ch := ch) (fun hg => by rw [hch]; exact giv_fit hg) (by rw [hf2]; simpa using h44) (by rw [hf1]; simpa using h47)
    rw [hf1] at hx1
    rw [hf2] at hy1
    refine go 5 ?_
    refine o_cons (o_yes rfl rfl rfl (o_val rfl (OV.cast (u := .bool true) (v_eql rfl rfl) (congrArg Value.bool (decide_eq_true hx1))) ?_))
    refine go 3 ?_
    refine o_cons (o_yes rfl rfl rfl (o_val rfl (OV.cast (u := .bool false) (v_eql rfl rfl) (congrArg Value.bool h44)) ?_))
    refine go 2 ?_
    refine o_cons (o_yes rfl rfl rfl (o_val rfl (OV.cast (u := .bool true) (v_eql rfl rfl) (congrArg Value.bool (decide_eq_true hy1))) ?_))
    refine go 4 ?_
    refine o_yes rfl rfl rfl (o_callV (ref15Given _ vc c hvc hsc _ l hv0 hsl) rfl rfl ?_)
    refine o_cons (o_yes rfl rfl rfl (o_val rfl (OV.cast (u := .bool true) (v_not rfl) (congrArg Value.bool (by rw [hgv]; rfl))) ?_))
    refine go 8 ?_
    refine fin1 rfl rfl ?_
    exact q_vI rfl
   ·obtain ⟨k, h1, h2, hfk, hck, hlc, hbk, hpl, hfs, his⟩ := fails_law (c := c) (l := l) (ch := ch) (by rw [hf2]; simpa using h44) (by rw [hf1]; simpa using h47)
    rw [hf1] at hfk
    subst hfk
    rw [hf2] at hfs
    refine go 4 ?_
    refine d_startH T.mixed ?_
    refine d_tv 0 rfl rfl (by kernel_rfl) rfl (.refl _) rfl (v_move rfl) ?_
    refine d_tv 1 rfl rfl (by kernel_rfl) rfl (.refl _) rfl (v_move rfl) ?_
    refine d_tv 2 rfl rfl (by kernel_rfl) rfl (.refl _) rfl (v_len_slice he rfl) ?_
    refine d_tv 3 rfl rfl (by kernel_rfl) rfl (.refl _) rfl (OV.cast (u := .bool false) (v_geq rfl rfl) (congrArg Value.bool (decide_eq_false (by omega)))) ?_
    refine d_tv 4 rfl rfl (by kernel_rfl) rfl (.refl _) rfl (v_move rfl) ?_
    refine d_t 5 rfl rfl (by kernel_rfl) rfl (fun _ m => m.keeps (.refl _)) (y_yes rfl rfl rfl (v_move rfl)) ?_
    refine d_t 6 rfl rfl (by kernel_rfl) rfl (fun _ m => m.keeps (.refl _)) (y_yes rfl rfl rfl (v_move rfl)) ?_
    obtain ⟨b74, o74, w74, e74, c74, r74⟩ := RdA.at_ hB (i := k) (by omega)
    obtain rfl := r74
    refine d_t 7 rfl rfl (by kernel_rfl) rfl (fun _ m => m.keeps (.refl _)) (y_yes rfl rfl rfl (v_idx he rfl rfl e74 (k) (by omega) (by omega))) ?_
    refine d_t 8 rfl rfl (by kernel_rfl) rfl (fun _ m => m.keeps (.refl _)) (y_yes rfl rfl rfl (v_ldI he rfl (c74 0 _ rfl))) ?_
    refine d_t 9 rfl rfl (by kernel_rfl) rfl (fun _ m => m.keeps (.refl _)) (y_yes rfl rfl rfl (v_move rfl)) ?_
    refine d_t 10 rfl rfl (by kernel_rfl) rfl (fun _ m => m.keeps (.refl _)) (y_yes rfl rfl rfl (v_move rfl)) ?_
    obtain ⟨b78, o78, w78, e78, c78, r78⟩ := RdA.at_ hA (i := k) (by omega)
    obtain ⟨q78, rfl, S78, d78, rfl, hS78, hd78, hm78⟩ := r78
    refine d_t 11 rfl rfl (by kernel_rfl) rfl (fun _ m => m.keeps (.refl _)) (y_yes rfl rfl rfl (v_idx he rfl rfl e78 (k) (by omega) (by omega))) ?_
    refine d_t 12 rfl rfl (by kernel_rfl) rfl (fun _ m => m.keeps (.refl _)) (y_yes rfl rfl rfl (v_fieldAddr he rfl)) ?_
    refine d_t 13 rfl rfl (by kernel_rfl) rfl (fun _ m => m.keeps (.refl _)) (y_yes rfl rfl rfl (v_ldI he rfl (c78 0 _ rfl))) ?_
    refine d_t 14 rfl rfl (by kernel_rfl) rfl (fun _ m => m.keeps (.refl _)) (y_yes rfl rfl rfl (v_len_slice he rfl)) ?_
    refine d_t 15 rfl rfl (by kernel_rfl) rfl (fun _ m => m.keeps (.refl _)) (y_yes rfl rfl rfl (OV.cast (u := .bool false) (v_geq rfl rfl) (congrArg Value.bool (decide_eq_false (by omega))))) ?_
    refine d_tv 16 rfl rfl (by kernel_rfl) rfl (.refl _) rfl (v_or_f rfl rfl rfl) ?_
    refine d_done (by kernel_rfl) ?_
    refine go 1 ?_
    refine c_false rfl ?_
    refine go 4 ?_
    refine sx_nilrow 37 2 ?_
    refine go 5 ?_
    refine sx_nilrow 3 1 ?_
    refine go 15 ?_
    refine bring2 ?_
    refine bring1 ?_
    refine bring2 ?_
    refine c_loop5 ((0 : Nat)) (_) ([]) (_) ([]) (fun i v11 x11 v12 x12 => I38)
     (fun i v11 x11 v12 x12 => [(1, .slice A l.length c0), (3, .pointer (some ⟨g3, 0, none⟩)), (7, .bool true), (8, .slice B ch.length c1), (9, .int .i64 ((k : Nat) : Int)), (10, .int .i64 y), (11, v11), (12, v12), (13, .int .i64 ((plF (fun i => beforeF l ch i k) l k (i) : Nat) : Int)), (14, .int .i64 ((i : Nat) : Int))])
     (fun i v11 x11 v12 x12 => [.row v11 37 2 (selF (fun i => beforeF l ch i k) l (i)).length x11, .row v12 3 1 (selF (fun i => beforeF l ch i k) ch (i)).length x12, .blk g3 24 [vc]])
     (fun i v11 x11 v12 x12 => i ≤ l.length ∧ Flat I38 x11 (selF (fun i => beforeF l ch i k) l (i)) ∧ Flat I38 x12 (selF (fun i => beforeF l ch i k) ch (i)))
     (fun i v11 x11 v12 x12 => l.length - i) ⟨Nat.zero_le _, .nil, .nil⟩ rfl sb rfl ?_
    intro i v11 x11 v12 x12 ⟨hi, hF1, hF2⟩
    have hsl1 := sel_le (fun i => beforeF l ch i k) l i
    have hsl2 := sel_le (fun i => beforeF l ch i k) ch i
    refine go 9 ?_
    refine cb rfl (fun h87 p87 => ?_) (fun h87 p87 => ?_)
    ·have hlt : i < l.length := by omega
     have hlt2 : i < ch.length := by omega
     refine go 12 ?_
     refine o_callV (law15before _ _ l hv0 hl6 _ ch R27s hlc i k hlt h1) rfl rfl ?_
     refine go 3 ?_
     refine cb rfl (fun h95 p95 => ?_) (fun h95 p95 => ?_)
     ·have hb : beforeF l ch i k = false := by simpa using h95
      refine go 10 ?_
      exact q_next5 (i + 1) (_) (_) (_) (_) ⟨by omega, by rw [sel_no hlt hb]; exact hF1, by rw [sel_no hlt2 hb]; exact hF2⟩ (by omega) rfl ⟨rfl, rfl, rfl, rfl, rfl, rfl, rfl, rfl, (congrArg (fun z => some (Value.int .i64 ((z : Nat) : Int))) (plF_next (fun e => by subst e; rw [hbk] at hb; cases hb))), rfl, trivial⟩ (by simp only [sel_no (b := (fun i => beforeF l ch i k)) hlt hb, sel_no (b := (fun i => beforeF l ch i k)) hlt2 hb])
     ·have hb : beforeF l ch i k = true := by simpa using h95
      refine go 3 ?_
      refine c_cutL (L' := [(1, .slice A l.length c0), (3, .pointer (some ⟨g3, 0, none⟩)), (7, .bool true), (8, .slice B ch.length c1), (9, .int .i64 ((k : Nat) : Int)), (10, .int .i64 y), (11, v11), (12, v12), (13, .int .i64 ((plF (fun i => beforeF l ch i k) l k (i + 1) : Nat) : Int)), (14, .int .i64 ((i : Nat) : Int))]) ?_ ?_
      ·refine go 7 ?_
       refine cb rfl (fun h98 p98 => ?_) (fun h98 p98 => ?_)
       ·refine go 1 ?_
        refine sx_rowslice (fun A11 c11 e11 => ?_)
        subst e11
        refine go 5 ?_
        exact q_cut ⟨rfl, rfl, rfl, rfl, rfl, rfl, rfl, rfl, (congrArg (fun z => some (Value.int .i64 ((z : Nat) : Int))) (by first | exact plF_at (by omega) | exact plF_next (by omega))), rfl, trivial⟩ rfl rfl
       ·refine go 2 ?_
        exact q_cut ⟨rfl, rfl, rfl, rfl, rfl, rfl, rfl, rfl, (congrArg (fun z => some (Value.int .i64 ((z : Nat) : Int))) (by first | exact plF_at (by omega) | exact plF_next (by omega))), rfl, trivial⟩ rfl rfl
      ·refine go 5 ?_
       obtain ⟨b104, o104, w104, e104, c104, r104⟩ := RdA.at_ hA (i := i) (by omega)
       obtain ⟨q104, rfl, S104, d104, rfl, hS104, hd104, hm104⟩ := r104
       refine o_v rfl (v_idx he rfl rfl e104 (i) (by omega) (by omega)) ?_
       refine o_v rfl (v_ldIa he rfl c104 rfl) ?_
       refine go 1 ?_
       refine o_buildSlice he he rfl rfl rfl rfl rfl rfl rfl (fun v106 => ?_)
       refine go 1 ?_
       refine bring1 ?_
       refine o_appendO he he rfl rfl rfl rfl rfl (by omega) (by omega) rfl (fun v107 => ?_)
       refine go 7 ?_
       obtain ⟨b111, o111, w111, e111, c111, r111⟩ := RdA.at_ hB (i := i) (by omega)
       obtain rfl := r111
       refine o_v rfl (v_idx he rfl rfl e111 (i) (by omega) (by omega)) ?_
       refine o_v rfl (v_ldI he rfl (c111 0 _ rfl)) ?_
       refine go 1 ?_
       refine o_buildSlice he he rfl rfl rfl rfl rfl rfl rfl (fun v113 => ?_)
       refine go 1 ?_
       refine bring3 ?_
       refine o_appendO he he rfl rfl rfl rfl rfl (by omega) (by omega) rfl (fun v114 => ?_)
       refine go 10 ?_
       refine bring1 ?_
       refine sx_drop ?_
       refine bring2 ?_
       refine sx_drop ?_
       refine bring2 ?_
       refine bring1 ?_
       refine bring2 ?_
       exact q_next5 (i + 1) (_) (_) (_) (_) ⟨by omega, by rw [sel_yes hlt hb]; exact hF1.append (.one ⟨_, rfl, ⟨_, _, rfl, hS104, hd104, hm104⟩⟩), by rw [sel_yes hlt2 hb]; exact hF2.append (.one rfl)⟩ (by omega) rfl sb (by simp only [sel_yes (b := (fun i => beforeF l ch i k)) hlt hb, sel_yes (b := (fun i => beforeF l ch i k)) hlt2 hb, List.length_append, List.length_singleton]; rfl)
    ·have e : i = l.length := by omega
     subst e
     have hpe : plF (fun i => beforeF l ch i k) l k l.length = (selF (fun i => beforeF l ch i k) l (k)).length := if_pos h1
     rw [hpe]
     have hSm : ∀ r ∈ (selF (fun i => beforeF l ch i k) l (l.length)), r ∈ l := fun r hr => sel_mem hr
     have hSO := sel_len (fun i => beforeF l ch i k) l ch l.length (Nat.le_refl _) (by omega)
     generalize (selF (fun i => beforeF l ch i k) l (l.length)) = S at hF1 hpl hfs his hSm hSO hsl1 ⊢
     generalize (selF (fun i => beforeF l ch i k) ch (l.length)) = O at hF2 hfs his hSO hsl2 ⊢
     generalize (selF (fun i => beforeF l ch i k) l (k)).length = pl at hpl hfs his ⊢
     refine go 8 ?_
     refine sx_pubrow (l := S) rfl rfl (hF1) (fun Is js Rs => ?_)
     try have hvc := hvc.le js
     try have hv0 := hv0.le js
     try have hA := hA.le js
     try have R27s := R27s.le js
     try have hB := hB.le js
     try have hF1 := hF1.le js
     try have hF2 := hF2.le js
     try have Rs := Rs.le js
     try have Ro := Ro.le js
     try have R139 := R139.le js
     try have R149 := R149.le js
     refine go 1 ?_
     refine sx_pubrow (l := O) rfl rfl (hF2) (fun Io jo Ro => ?_)
     try have hvc := hvc.le jo
     try have hv0 := hv0.le jo
     try have hA := hA.le jo
     try have R27s := R27s.le jo
     try have hB := hB.le jo
     try have hF1 := hF1.le jo
     try have hF2 := hF2.le jo
     try have Rs := Rs.le jo
     try have Ro := Ro.le jo
     try have R139 := R139.le jo
     try have R149 := R149.le jo
     refine go 2 ?_
     refine o_call (hiFails _ vc c hvc hsc _ S Rs (by omega) (fun r hr => hsl r (hSm r hr)) _ O Ro) rfl rfl (fun v119 I119 j119 q119 => ?_)
     try have hvc := hvc.le j119
     try have hv0 := hv0.le j119
     try have hA := hA.le j119
     try have R27s := R27s.le j119
     try have hB := hB.le j119
     try have hF1 := hF1.le j119
     try have hF2 := hF2.le j119
     try have Rs := Rs.le j119
     try have Ro := Ro.le j119
     try have R139 := R139.le j119
     try have R149 := R149.le j119
     obtain rfl := q119
     obtain ⟨SA, sc, rfl, hSA, hs1, hs2⟩ := id Rs
     obtain ⟨OA, oc, rfl, hOA, ho1, ho2⟩ := id Ro
     refine go 12 ?_
     refine o_v rfl (OV.cast (u := .bool false) (v_neq rfl rfl) (congrArg Value.bool (by rw [hfs]; simp))) ?_
     refine go 3 ?_
     refine o_cons (o_yes rfl rfl rfl (o_val rfl (OV.cast (u := .bool false) (v_neq rfl rfl) (congrArg Value.bool (by rw [hfs]; simp))) ?_))
     refine go 3 ?_
     refine c_false rfl ?_
     refine go 3 ?_
     refine sx_knowI (fun hE26 hf26 => ?_)
     refine d_startH T.mixed ?_
     refine d_tv 1 rfl rfl (by kernel_rfl) rfl (.refl _) rfl (v_move rfl) ?_
     refine d_tv 2 rfl rfl (by kernel_rfl) rfl (.refl _) rfl (v_move rfl) ?_
     refine d_tv 3 rfl rfl (by kernel_rfl) rfl (.refl _) rfl (v_slice_hi he rfl rfl (pl) (by omega) (by omega)) ?_
     refine d_tv 5 rfl rfl (by kernel_rfl) rfl (.refl _) rfl (v_move rfl) ?_
     refine d_tv 6 rfl rfl (by kernel_rfl) rfl (.refl _) rfl (v_move rfl) ?_
     refine d_tv 7 rfl rfl (by kernel_rfl) rfl (.refl _) rfl (v_add rfl rfl ⟨by omega, by omega⟩) ?_
     refine d_tv 8 rfl rfl (by kernel_rfl) rfl (.refl _) rfl (v_slice_lo he rfl rfl ((pl) + 1) (by omega) (by omega)) ?_
     refine d_one 0 (by kernel_rfl) rfl ?_
     refine o_buildSlice he he rfl rfl rfl rfl rfl rfl rfl (fun v130 => ?_)
     refine d_on (fun _ m => m.keeps (.cons _ (.refl _))) ?_
     refine d_one 4 (by kernel_rfl) rfl ?_
     refine o_appendR ((Rs.takeM ((pl)) (by omega))) rfl he he rfl rfl rfl rfl (by simp only [List.length_take, List.length_drop]; omega) (by simp only [List.length_take, List.length_drop]; omega) rfl (fun v134 x134 f134 => ?_)
     refine d_on (fun _ m => m.keeps (.cons _ (.refl _))) ?_
     refine d_one 9 (by kernel_rfl) rfl ?_
     refine o_appendR ((Rs.dropM ((pl) + 1) (by omega))) rfl he he rfl rfl rfl rfl (by simp only [List.length_take, List.length_drop]; omega) (by simp only [List.length_take, List.length_drop]; omega) rfl (fun v139 x139 f139 => ?_)
     refine sx_pubrow (l := cutAt S ((pl))) rfl (by rw [cutAt, List.length_append, Nat.zero_add]) ((f134.append f139)) (fun I139 j139 R139 => ?_)
     try have hvc := hvc.le j139
     try have hv0 := hv0.le j139
     try have hA := hA.le j139
     try have R27s := R27s.le j139
     try have hB := hB.le j139
     try have hF1 := hF1.le j139
     try have hF2 := hF2.le j139
     try have Rs := Rs.le j139
     try have Ro := Ro.le j139
     try have R139 := R139.le j139
     try have R149 := R149.le j139
     refine d_on (fun _ m => m.keepsI (.refl _) (j139) hE26 hf26) ?_
     refine d_t 10 rfl rfl (by kernel_rfl) rfl (fun _ m => m.keepsI (.refl _) (j139) hE26 hf26) (y_v rfl (v_assign rfl)) ?_
     refine d_done (by kernel_rfl) ?_
     refine go 2 ?_
     refine sx_knowI (fun hE27 hf27 => ?_)
     refine d_startH T.mixed ?_
     refine d_tv 1 rfl rfl (by kernel_rfl) rfl (.refl _) rfl (v_move rfl) ?_
     refine d_tv 2 rfl rfl (by kernel_rfl) rfl (.refl _) rfl (v_move rfl) ?_
     refine d_tv 3 rfl rfl (by kernel_rfl) rfl (.refl _) rfl (v_slice_hi he rfl rfl (pl) (by omega) (by omega)) ?_
     refine d_tv 5 rfl rfl (by kernel_rfl) rfl (.refl _) rfl (v_move rfl) ?_
     refine d_tv 6 rfl rfl (by kernel_rfl) rfl (.refl _) rfl (v_move rfl) ?_
     refine d_tv 7 rfl rfl (by kernel_rfl) rfl (.refl _) rfl (v_add rfl rfl ⟨by omega, by omega⟩) ?_
     refine d_tv 8 rfl rfl (by kernel_rfl) rfl (.refl _) rfl (v_slice_lo he rfl rfl ((pl) + 1) (by omega) (by omega)) ?_
     refine d_one 0 (by kernel_rfl) rfl ?_
     refine o_buildSlice he he rfl rfl rfl rfl rfl rfl rfl (fun v140 => ?_)
     refine d_on (fun _ m => m.keeps (.cons _ (.refl _))) ?_
     refine d_one 4 (by kernel_rfl) rfl ?_
     refine o_appendR ((Ro.takeM ((pl)) (by omega))) rfl he he rfl rfl rfl rfl (by simp only [List.length_take, List.length_drop]; omega) (by simp only [List.length_take, List.length_drop]; omega) rfl (fun v144 x144 f144 => ?_)
     refine d_on (fun _ m => m.keeps (.cons _ (.refl _))) ?_
     refine d_one 9 (by kernel_rfl) rfl ?_
     refine o_appendR ((Ro.dropM ((pl) + 1) (by omega))) rfl he he rfl rfl rfl rfl (by simp only [List.length_take, List.length_drop]; omega) (by simp only [List.length_take, List.length_drop]; omega) rfl (fun v149 x149 f149 => ?_)
     refine sx_pubrow (l := cutAt O ((pl))) rfl (by rw [cutAt, List.length_append, Nat.zero_add]) ((f144.append f149)) (fun I149 j149 R149 => ?_)
     try have hvc := hvc.le j149
     try have hv0 := hv0.le j149
     try have hA := hA.le j149
     try have R27s := R27s.le j149
     try have hB := hB.le j149
     try have hF1 := hF1.le j149
     try have hF2 := hF2.le j149
     try have Rs := Rs.le j149
     try have Ro := Ro.le j149
     try have R139 := R139.le j149
     try have R149 := R149.le j149
     refine d_on (fun _ m => m.keepsI (.refl _) (j149) hE27 hf27) ?_
     refine d_t 10 rfl rfl (by kernel_rfl) rfl (fun _ m => m.keepsI (.refl _) (j149) hE27 hf27) (y_v rfl (v_assign rfl)) ?_
     refine d_done (by kernel_rfl) ?_
     refine go 9 ?_
     refine o_yes rfl rfl rfl (o_call (hiIs _ vc c hvc hsc _ (cutAt S pl) R139 (by have := cutAt_len hpl; omega) (fun r hr => hsl r (hSm r (cutAt_mem hr))) _ (cutAt O pl) R149) rfl rfl (fun v155 I155 j155 q155 => ?_))
     try have hvc := hvc.le j155
     try have hv0 := hv0.le j155
     try have hA := hA.le j155
     try have R27s := R27s.le j155
     try have hB := hB.le j155
     try have hF1 := hF1.le j155
     try have hF2 := hF2.le j155
     try have Rs := Rs.le j155
     try have Ro := Ro.le j155
     try have R139 := R139.le j155
     try have R149 := R149.le j155
     obtain rfl := q155
     rw [his]
     refine go 5 ?_
     refine fin1 rfl rfl ?_
     exact q_vI rfl

end Go.Proofs.YtkmdojpfccjnoaaGreat

/- The law HistoryFails holds of the given program, for every input. No condition. -/
namespace Go.Proofs.YtkmdojpfccjnoaaGreat
open Go Go.Sx
set_option linter.all false
theorem T.cel_103 : Tryz.prog.cellsOf 103 = 3 := by kernel_rfl
theorem T.cel_24 : Tryz.prog.cellsOf 24 = 1 := by kernel_rfl
theorem T.cel_37 : Tryz.prog.cellsOf 37 = 2 := by kernel_rfl
theorem T.cel_49 : Tryz.prog.cellsOf 49 = 2 := by kernel_rfl
theorem T.cel_5 : Tryz.prog.cellsOf 5 = 1 := by kernel_rfl
theorem T.cel_51 : Tryz.prog.cellsOf 51 = 6 := by kernel_rfl
theorem T.cel_53 : Tryz.prog.cellsOf 53 = 14 := by kernel_rfl
theorem T.cel_87 : Tryz.prog.cellsOf 87 = 3 := by kernel_rfl
theorem T.cel_9 : Tryz.prog.cellsOf 9 = 1 := by kernel_rfl
instance T.fds_103 : Has (fieldsK Tryz.prog 103) [(9, 0, 1), (57, 1, 1), (3, 2, 1)] := ⟨by kernel_rfl⟩
instance T.fds_24 : Has (fieldsK Tryz.prog 24) [(22, 0, 1)] := ⟨by kernel_rfl⟩
instance T.fds_37 : Has (fieldsK Tryz.prog 37) [(35, 0, 1), (4, 1, 1)] := ⟨by kernel_rfl⟩
instance T.fds_49 : Has (fieldsK Tryz.prog 49) [(3, 0, 1), (3, 1, 1)] := ⟨by kernel_rfl⟩
instance T.fds_51 : Has (fieldsK Tryz.prog 51) [(49, 0, 2), (49, 2, 2), (49, 4, 2)] := ⟨by kernel_rfl⟩
instance T.fds_53 : Has (fieldsK Tryz.prog 53) [(3, 0, 1), (3, 1, 1), (9, 2, 1), (9, 3, 1), (9, 4, 1), (9, 5, 1), (9, 6, 1), (9, 7, 1), (51, 8, 6)] := ⟨by kernel_rfl⟩
instance T.fds_87 : Has (fieldsK Tryz.prog 87) [(9, 0, 1), (4, 1, 1), (85, 2, 1)] := ⟨by kernel_rfl⟩
namespace lawHistoryFails
open Go.ChangeShapes Go.WideShapes Go.ChangeAt Go.RowKit
theorem own : ownKnob Tryz.prog.godebug = none := by kernel_rfl
set_option maxRecDepth 100000 in
theorem lifted (os : Os) (started : os.Started) (H : Type) (enc : TypeId × Value → H) :
    ReturnsInHanded {} Tryz.checked os 4 .any (Rows.historyFailsSpec.pre6 enc Tryz.prog Tryz.f4 Rows.historyFailsRow.domain false) (Rows.historyFailsSpec.post enc Tryz.prog Tryz.f4 false true false false) := by
  refine returnsInHanded_of_change (C := Tryz.checked) own started (by kernel_rfl) Tryz.func4
    (ChangeSpec.witness6 (enc := enc) (C := Tryz.checked) false ⟨#[], #[.agg #[.slice none 0 0], .slice none 0 0, .slice none 0 0], []⟩ 8 (by kernel_rfl) (by kernel_rfl) (by kernel_rfl) (by kernel_rfl)) ?_
  intro W base args ds gs before hval0 hW hcnd _
  have hval : ∀ (j : Nat) t v, Tryz.f4.params[j]? = some t → args[j]? = some v → Value.okWide Tryz.prog W .any base t v := hval0
  have hW' := hW
  obtain ⟨p, q, hA0, hV, rfl, hfz, hnd⟩ := hW
  have hA : DataW.TrodAll enc Tryz.prog W 0 (fun _ => true) true Tryz.f4.params.toList args.toList ds p := hA0
  rw [Tryz.params4] at hA hval
  obtain ⟨v0, vs0, d0, ds0, p0, q0, hargs, rfl, rfl, h0, r0⟩ := trodAll_cons hA
  obtain ⟨v1, vs1, d1, ds1, p1, q1, rfl, rfl, rfl, h1, r1⟩ := trodAll_cons r0
  obtain ⟨v2, vs2, d2, ds2, p2, q2, rfl, rfl, rfl, h2, r2⟩ := trodAll_cons r1
  obtain ⟨rfl, rfl, rfl⟩ := trodAll_nil r2
  obtain rfl : args = #[v0, v1, v2] := by cases args; simp_all
  obtain ⟨rfl, rfl⟩ := trodVars_none hV
  clear hA0 hval0
  obtain ⟨cs0, rfl, hz0⟩ := okWide_agg T.fds_24.eq (hval 0 24 v0 rfl rfl)
  obtain ⟨fu0, hf0⟩ := h0
  obtain ⟨l0, ⟨u0, e0, R0⟩, G0⟩ := (opens_wrap T.fds_24.eq T.cel_24 (opens_slice T.und_22.eq T.cel_87 rfl (opens_kind T.fds_87.eq T.cel_87 (opens_string T.und_9.eq) (opens_bool T.und_4.eq) (opens_slice T.und_85.eq T.cel_103 rfl (opens_slot T.fds_103.eq T.cel_103 (opens_string T.und_9.eq) (opens_slice T.und_57.eq T.cel_9 rfl (opens_string T.und_9.eq)) (opens_int T.und_3.eq)))))) enc W 0 _ true fu0 _ _ hf0
  obtain rfl : cs0 = #[u0] := Array.toList_inj.1 e0
  obtain ⟨s1, n1, c1, rfl⟩ := okWide_slice T.und_25.eq (hval 1 25 v1 rfl rfl)
  obtain ⟨fu1, hf1⟩ := h1
  obtain ⟨l1, ⟨u1, e1, R1⟩, G1⟩ := (opens_slice T.und_25.eq T.cel_37 rfl (opens_rep T.fds_37.eq T.cel_37 (opens_slice T.und_35.eq T.cel_53 rfl (opens_evt T.fds_53.eq T.cel_53 (opens_int T.und_3.eq) (opens_string T.und_9.eq) (opens_use T.fds_51.eq T.cel_51 (opens_ivl T.fds_49.eq T.cel_49 (opens_int T.und_3.eq))))) (opens_bool T.und_4.eq))) enc W 0 _ true fu1 _ _ hf1
  cases e1
  obtain ⟨s2, n2, c2, rfl⟩ := okWide_slice T.und_33.eq (hval 2 33 v2 rfl rfl)
  obtain ⟨fu2, hf2⟩ := h2
  obtain ⟨l2, ⟨u2, e2, R2⟩, G2⟩ := (opens_slice T.und_33.eq T.cel_5 rfl (opens_u8 T.und_5.eq)) enc W 0 _ true fu2 _ _ hf2
  cases e2
  exact law_calls (s := Rows.historyFailsSpec) Tryz.call4 (lawHFails (Iw W) _ l0 R0 G0 _ l1 R1 G1 _ l2 R2 G2) hW' (by kernel_rfl) (by kernel_rfl) rfl T.und_4.eq rfl rfl
theorem over : Rows.historyFailsRow.holds Tryz.pinned (OpenSpec.ofChange Rows.historyFailsSpec) :=
  OpenClaim.holds_of_wide 4 Tryz.f4 rfl rfl rfl rfl rfl rfl rfl ⟨rfl, rfl, rfl, rfl, rfl⟩ rfl rfl rfl rfl rfl (by kernel_rfl) Tryz.func4 (by kernel_rfl)
    (of_decide_eq_true (by kernel_rfl)) (by unfold Func.isWrapper; first | (rw [if_pos (by decide +kernel)]; kernel_rfl) | (rw [if_neg (by decide +kernel)]; exact ⟨rfl, rfl⟩))
    (fun os started H enc _ => lifted os started H enc)
/-- the statement -/
theorem proved : Rows.HistoryFailsSaid := over
end lawHistoryFails
end Go.Proofs.YtkmdojpfccjnoaaGreat

