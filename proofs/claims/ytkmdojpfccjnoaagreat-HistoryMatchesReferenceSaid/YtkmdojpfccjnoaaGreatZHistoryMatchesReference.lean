/- The law HistoryMatchesReference holds of the given program, for every input. No condition. -/
import Derived.Test.YtkmdojpfccjnoaaGreatYc
import Derived.Carry
import Derived.ChangeArms
import Derived.Deep.Slices
import Derived.OpenShut
import Derived.ProofKit
import Derived.Test.YtkmdojpfccjnoaaGreatRows
/- How what comes in is read: out of the row's reading into the data of the walks; how a law's row is closed. -/
set_option linter.all false
namespace Go.Sx
open Go

def Iw (w : World) : IMap := fun b => w.heap[b]?
theorem Iw_mem (w : World) : Mem ⟨foots [], Iw w, w⟩ (Iw w) [] w :=
  ⟨Upd.refl _ _, fun _ _ h => h, ILe.refl _, fun _ h => .inl h, fun _ h => (by cases h), fun _ h => (by cases h), List.nodup_nil⟩
theorem cell_I {w : World} {b off : Nat} {v : Value} (h : w.cell? ⟨b, off, none⟩ = some v) : ICell (Iw w) b off v := by
  unfold World.cell? at h
  split at h
  · rename_i c t fz hb
    exact ⟨c, t, fz, hb, by simpa using h⟩
  · cases h
/-- whatever reads as this type reads as this -/
def Opens (P : Program) (t : TypeId) (α : Type) [Enc α] (G : α → Prop) : Prop :=
  ∀ {H : Type} (enc : TypeId × Value → H) (w : World) (base : Nat) (spare : Nat → Bool) (held : Bool) (fuel : Nat) (cs : List Value) (x : DataW H × List MemPlace),
    DataW.trod enc P w base spare held fuel t cs = some x → ∃ y : α, Enc.rd (Iw w) cs y ∧ G y
abbrev SmB (s : ByteArray) : Prop := s.size ≤ maxLen
theorem wf_i64 {n : Int} (h : (Lit.int .i64 n).wf = true) : I64 n := by
  simp only [Lit.wf, Bool.and_eq_true, decide_eq_true_eq] at h
  unfold I64; simpa [IntKind.min, IntKind.max, IntKind.signed, IntKind.bits] using h
section
variable {P : Program} {t e : TypeId}
theorem opens_string (ht : P.underlying t = some .string) : Opens P t ByteArray SmB := by
  intro H enc w base spare held fuel cs x h
  obtain ⟨s, rfl, _, h2⟩ := DataW.trod_string ht h
  exact ⟨s, rfl, h2⟩
theorem opens_int (ht : P.underlying t = some (.int .i64)) : Opens P t Int I64 := by
  intro H enc w base spare held fuel cs x h
  obtain ⟨s, rfl, _, h2⟩ := DataW.trod_int ht h
  exact ⟨s, rfl, wf_i64 h2⟩
theorem opens_bool (ht : P.underlying t = some .bool) : Opens P t Bool (fun _ => True) := by
  intro H enc w base spare held fuel cs x h
  obtain ⟨b, rfl, _⟩ := DataW.trod_bool ht h
  exact ⟨b, rfl, trivial⟩
theorem choose_list {α : Type} {p : Nat → α → Prop} : ∀ n : Nat, (∀ i, i < n → ∃ x, p i x) → ∃ l : List α, l.length = n ∧ ∀ i x, l[i]? = some x → p i x
  | 0, _ => ⟨[], rfl, fun i x h => by simp at h⟩
  | n + 1, h => by
    obtain ⟨l, h1, h2⟩ := choose_list n (fun i hi => h i (by omega))
    obtain ⟨x, hx⟩ := h n (by omega)
    refine ⟨l ++ [x], by simp [h1], fun i y hy => ?_⟩
    rcases Nat.lt_or_ge i l.length with hi | hi
    · rw [List.getElem?_append_left hi] at hy; exact h2 i y hy
    · rw [List.getElem?_append_right hi] at hy
      have h3 : i - l.length = 0 := by
        rcases Nat.eq_zero_or_pos (i - l.length) with h | h
        · exact h
        · rw [List.getElem?_eq_none (by simp; omega)] at hy; cases hy
      rw [h3] at hy
      simp at hy
      subst hy
      obtain rfl : i = n := by omega
      exact hx
theorem opens_slice {α : Type} [Enc α] {G : α → Prop} (ht : P.underlying t = some (.slice e)) (hc : P.cellsOf e = Enc.k α) (hk : Nat.blt 0 (Enc.k α) = true) (he : Opens P e α G) : Opens P t (List α) (fun l => ∀ x ∈ l, G x) := by
  intro H enc w base spare held fuel cs x h
  rcases Deep.open_slice ht h with ⟨rfl, _⟩ | ⟨a, len, cap, m, n, D, Pl, rfl, hb, hl, hm, hmm, _, hx⟩
  · exact ⟨[], ⟨_, rfl, RdS.nil'⟩, fun _ h => by cases h⟩
  have hlm : len ≤ m := by rw [hmm]; split <;> omega
  obtain ⟨l, h1, h2⟩ := choose_list (p := fun i y => ∃ vs, (∀ j u, vs[j]? = some u → w.cell? ((a.add (i * P.cellsOf e)).add j) = some u) ∧ vs.length = Enc.k α ∧ Enc.rd (Iw w) vs y ∧ G y) len (fun i hi => by
    obtain ⟨cs', h3, h4⟩ := hx i (by omega)
    obtain ⟨y, h5, h6⟩ := he enc w base spare held n cs' _ h4
    obtain ⟨_, h7, h8⟩ := World.cells?_some h3
    refine ⟨y, cs', fun j u hu => ?_, Enc.len h5, h5, h6⟩
    have hj : j < cs'.length := (List.getElem?_eq_some_iff.1 hu).1
    rw [h8 j (by omega), hu])
  subst h1
  refine ⟨l, ⟨_, rfl, some a, cap, rfl, fun hp => ?_, hl, by unfold maxLen at hm; exact hm⟩, fun x hx => ?_⟩
  · have hk' : 0 < Enc.k α := by simpa [Nat.blt_eq] using hk
    have hsp : a.spot = none := by
      obtain ⟨vs, h3, h4, _⟩ := h2 0 l[0] (List.getElem?_eq_getElem hp)
      have h5 := h3 0 vs[0] (List.getElem?_eq_getElem (by omega))
      unfold World.cell? at h5
      split at h5
      · split at h5
        · cases h5
        · rename_i hn; simpa [Addr.add] using hn
      · cases h5
    obtain ⟨b, o, sp⟩ := a
    simp only at hsp
    subst hsp
    refine ⟨b, o, rfl, fun i x hi => ?_⟩
    obtain ⟨vs, h3, h4, h5, _⟩ := h2 i x hi
    refine ⟨vs, fun j u hu => cell_I ?_, h5⟩
    have h6 := h3 j u hu
    rw [add_lit, add_lit, hc] at h6
    exact h6
  · obtain ⟨i, hi, rfl⟩ := List.getElem_of_mem hx
    obtain ⟨_, _, _, _, h3⟩ := h2 i _ (List.getElem?_eq_getElem hi)
    exact h3
def fieldsK (P : Program) (t : TypeId) : Option (List (TypeId × Nat × Nat)) :=
  match P.underlying t with
  | some (.struct fs) => some (fs.toList.map fun f => (f.type, f.offset, P.cellsOf f.type))
  | _ => none
theorem trod_fields {H : Type} {enc : TypeId × Value → H} {w : World} {base : Nat} {spare : Nat → Bool} {held : Bool} {fuel : Nat} {cs : List Value} {x : DataW H × List MemPlace} {l : List (TypeId × Nat × Nat)}
    (hf : fieldsK P t = some l) (h : DataW.trod enc P w base spare held fuel t cs = some x) :
    cs.length = P.cellsOf t ∧ ∀ q ∈ l, ∃ n y, DataW.trod enc P w base spare held n q.1 ((cs.drop q.2.1).take q.2.2) = some y := by
  unfold fieldsK at hf
  split at hf
  · rename_i fs ht
    simp only [Option.some.injEq] at hf
    subst hf
    obtain ⟨xs, n, _, _, h1, h2, h3⟩ := DataW.trod_struct ht h
    refine ⟨h1, fun q hq => ?_⟩
    obtain ⟨f, hf, rfl⟩ := List.mem_map.1 hq
    obtain ⟨i, hi, rfl⟩ := List.getElem_of_mem hf
    have hi' : i < fs.size := by simpa using hi
    have h4 := h3 i fs[i] (by simp [hi'])
    rw [List.getElem?_eq_getElem (by omega)] at h4
    exact ⟨n, _, by simpa using h4⟩
  · cases hf
theorem okWide_agg {l : List (TypeId × Nat × Nat)} {w : World} {r : Reach} {base : Nat} {v : Value} (hf : fieldsK P t = some l) (h : Value.okWide P w r base t v) : ∃ cs, v = .agg cs ∧ cs.size = P.cellsOf t := by
  unfold fieldsK at hf
  split at hf
  · rename_i fs ht; exact WideShapes.okWide_struct ht h
  · cases hf
theorem len_cons {cs : List Value} {n : Nat} (h : cs.length = n + 1) : ∃ a r, cs = a :: r ∧ r.length = n := by
  cases cs with
  | nil => simp at h
  | cons a r => exact ⟨a, r, rfl, by simpa using h⟩
theorem len_nil {cs : List Value} (h : cs.length = 0) : cs = [] := List.eq_nil_of_length_eq_zero h
/-- a struct of one field -/
theorem opens_wrap {α : Type} [Enc α] {G : α → Prop} {t0 : TypeId} {k : Nat} (hf : fieldsK P t = some [(t0, 0, k)]) (hc : P.cellsOf t = k) (h0 : Opens P t0 α G) : Opens P t α G := by
  intro H enc w base spare held fuel cs x h
  obtain ⟨hl, hall⟩ := trod_fields hf h
  obtain ⟨n, y, h1⟩ := hall (t0, 0, k) (by simp)
  have e : (cs.drop 0).take k = cs := by rw [List.drop_zero]; exact List.take_of_length_le (by omega)
  rw [show ((t0, 0, k) : TypeId × Nat × Nat).2.1 = 0 from rfl, show ((t0, 0, k) : TypeId × Nat × Nat).2.2 = k from rfl, e] at h1
  exact h0 enc w base spare held n cs y h1
/-! the types of this program -/
def OkIvl (x : Ivl) : Prop := I64 x.low ∧ I64 x.high
def OkUse (x : Use) : Prop := OkIvl x.km ∧ OkIvl x.cycles ∧ OkIvl x.load
structure OkE (e : Evt) : Prop where
  op : I64 e.op
  day : I64 e.day
  part : SmB e.part
  kind : SmB e.kind
  into : SmB e.into
  slot : SmB e.slot
  key : SmB e.key
  value : SmB e.value
  use : OkUse e.use
def OkSl (s : Slot) : Prop := SmB s.name ∧ (∀ k ∈ s.kinds, SmB k) ∧ I64 s.normal
def OkKd (k : Kind) : Prop := SmB k.name ∧ ∀ s ∈ k.slots, OkSl s
theorem opens_ivl {t0 : TypeId} (hf : fieldsK P t = some [(t0, 0, 1), (t0, 1, 1)]) (hc : P.cellsOf t = 2) (h0 : Opens P t0 Int I64) : Opens P t Ivl OkIvl := by
  intro H enc w base spare held fuel cs x h
  obtain ⟨hl, hall⟩ := trod_fields hf h
  rw [hc] at hl
  obtain ⟨a, r0_, rfl, l0_⟩ := len_cons hl
  obtain ⟨b, r1_, rfl, l1_⟩ := len_cons l0_
  obtain rfl := len_nil l1_
  obtain ⟨n0, y0, h1⟩ := hall (t0, 0, 1) (by simp)
  obtain ⟨n1, y1, h2⟩ := hall (t0, 1, 1) (by simp)
  obtain ⟨x0, e0, g0⟩ := h0 enc w base spare held n0 _ y0 h1
  obtain ⟨x1, e1, g1⟩ := h0 enc w base spare held n1 _ y1 h2
  have e0 : [a] = [.int .i64 x0] := e0
  have e1 : [b] = [.int .i64 x1] := e1
  cases e0
  cases e1
  exact ⟨⟨x0, x1⟩, rfl, g0, g1⟩
theorem opens_three {t0 : TypeId} {w : World} {H : Type} {enc : TypeId × Value → H} {base : Nat} {spare : Nat → Bool} {held : Bool} {fuel : Nat} {cs : List Value} {x : DataW H × List MemPlace} (hf : fieldsK P t = some [(t0, 0, 2), (t0, 2, 2), (t0, 4, 2)]) (hc : P.cellsOf t = 6) (h0 : Opens P t0 Ivl OkIvl)
    (h : DataW.trod enc P w base spare held fuel t cs = some x) : ∃ a b c : Ivl, cs = a.cells ++ (b.cells ++ c.cells) ∧ OkIvl a ∧ OkIvl b ∧ OkIvl c := by
  obtain ⟨hl, hall⟩ := trod_fields hf h
  rw [hc] at hl
  obtain ⟨a, r0_, rfl, l0_⟩ := len_cons hl
  obtain ⟨b, r1_, rfl, l1_⟩ := len_cons l0_
  obtain ⟨c, r2_, rfl, l2_⟩ := len_cons l1_
  obtain ⟨d, r3_, rfl, l3_⟩ := len_cons l2_
  obtain ⟨e, r4_, rfl, l4_⟩ := len_cons l3_
  obtain ⟨f, r5_, rfl, l5_⟩ := len_cons l4_
  obtain rfl := len_nil l5_
  obtain ⟨n0, y0, h1⟩ := hall (t0, 0, 2) (by simp)
  obtain ⟨n1, y1, h2⟩ := hall (t0, 2, 2) (by simp)
  obtain ⟨n2, y2, h3⟩ := hall (t0, 4, 2) (by simp)
  obtain ⟨x0, e0, g0⟩ := h0 enc w base spare held n0 _ y0 h1
  obtain ⟨x1, e1, g1⟩ := h0 enc w base spare held n1 _ y1 h2
  obtain ⟨x2, e2, g2⟩ := h0 enc w base spare held n2 _ y2 h3
  have e0 : [a, b] = x0.cells := e0
  have e1 : [c, d] = x1.cells := e1
  have e2 : [e, f] = x2.cells := e2
  exact ⟨x0, x1, x2, by rw [← e0, ← e1, ← e2]; rfl, g0, g1, g2⟩
theorem opens_use {t0 : TypeId} (hf : fieldsK P t = some [(t0, 0, 2), (t0, 2, 2), (t0, 4, 2)]) (hc : P.cellsOf t = 6) (h0 : Opens P t0 Ivl OkIvl) : Opens P t Use OkUse := by
  intro H enc w base spare held fuel cs x h
  obtain ⟨a, b, c, rfl, h1, h2, h3⟩ := opens_three hf hc h0 h
  exact ⟨⟨a, b, c⟩, rfl, h1, h2, h3⟩
theorem opens_evt {ti ts tu : TypeId} (hf : fieldsK P t = some [(ti, 0, 1), (ti, 1, 1), (ts, 2, 1), (ts, 3, 1), (ts, 4, 1), (ts, 5, 1), (ts, 6, 1), (ts, 7, 1), (tu, 8, 6)]) (hc : P.cellsOf t = 14) (hi : Opens P ti Int I64) (hs : Opens P ts ByteArray SmB) (hu : Opens P tu Use OkUse) : Opens P t Evt OkE := by
  intro H enc w base spare held fuel cs x h
  obtain ⟨hl, hall⟩ := trod_fields hf h
  rw [hc] at hl
  obtain ⟨a0, r0_, rfl, l0_⟩ := len_cons hl
  obtain ⟨a1, r1_, rfl, l1_⟩ := len_cons l0_
  obtain ⟨a2, r2_, rfl, l2_⟩ := len_cons l1_
  obtain ⟨a3, r3_, rfl, l3_⟩ := len_cons l2_
  obtain ⟨a4, r4_, rfl, l4_⟩ := len_cons l3_
  obtain ⟨a5, r5_, rfl, l5_⟩ := len_cons l4_
  obtain ⟨a6, r6_, rfl, l6_⟩ := len_cons l5_
  obtain ⟨a7, r7_, rfl, l7_⟩ := len_cons l6_
  obtain ⟨a8, r8_, rfl, l8_⟩ := len_cons l7_
  obtain ⟨a9, r9_, rfl, l9_⟩ := len_cons l8_
  obtain ⟨a10, r10_, rfl, l10_⟩ := len_cons l9_
  obtain ⟨a11, r11_, rfl, l11_⟩ := len_cons l10_
  obtain ⟨a12, r12_, rfl, l12_⟩ := len_cons l11_
  obtain ⟨a13, r13_, rfl, l13_⟩ := len_cons l12_
  obtain rfl := len_nil l13_
  obtain ⟨n0, y0, h0⟩ := hall (ti, 0, 1) (by simp)
  obtain ⟨x0, e0, g0⟩ := hi enc w base spare held n0 _ y0 h0
  have e0 : [a0] = [.int .i64 x0] := e0
  cases e0
  obtain ⟨n1, y1, h1⟩ := hall (ti, 1, 1) (by simp)
  obtain ⟨x1, e1, g1⟩ := hi enc w base spare held n1 _ y1 h1
  have e1 : [a1] = [.int .i64 x1] := e1
  cases e1
  obtain ⟨n2, y2, h2⟩ := hall (ts, 2, 1) (by simp)
  obtain ⟨x2, e2, g2⟩ := hs enc w base spare held n2 _ y2 h2
  have e2 : [a2] = [.string x2] := e2
  cases e2
  obtain ⟨n3, y3, h3⟩ := hall (ts, 3, 1) (by simp)
  obtain ⟨x3, e3, g3⟩ := hs enc w base spare held n3 _ y3 h3
  have e3 : [a3] = [.string x3] := e3
  cases e3
  obtain ⟨n4, y4, h4⟩ := hall (ts, 4, 1) (by simp)
  obtain ⟨x4, e4, g4⟩ := hs enc w base spare held n4 _ y4 h4
  have e4 : [a4] = [.string x4] := e4
  cases e4
  obtain ⟨n5, y5, h5⟩ := hall (ts, 5, 1) (by simp)
  obtain ⟨x5, e5, g5⟩ := hs enc w base spare held n5 _ y5 h5
  have e5 : [a5] = [.string x5] := e5
  cases e5
  obtain ⟨n6, y6, h6⟩ := hall (ts, 6, 1) (by simp)
  obtain ⟨x6, e6, g6⟩ := hs enc w base spare held n6 _ y6 h6
  have e6 : [a6] = [.string x6] := e6
  cases e6
  obtain ⟨n7, y7, h7⟩ := hall (ts, 7, 1) (by simp)
  obtain ⟨x7, e7, g7⟩ := hs enc w base spare held n7 _ y7 h7
  have e7 : [a7] = [.string x7] := e7
  cases e7
  obtain ⟨n8, y8, h8⟩ := hall (tu, 8, 6) (by simp)
  obtain ⟨x8, e8, g8⟩ := hu enc w base spare held n8 _ y8 h8
  have e8 : [a8, a9, a10, a11, a12, a13] = x8.cells := e8
  cases e8
  exact ⟨⟨x0, x1, x2, x3, x4, x5, x6, x7, x8⟩, rfl, ⟨g0, g1, g2, g3, g4, g5, g6, g7, g8⟩⟩
theorem opens_slot {ti tk ts : TypeId} (hf : fieldsK P t = some [(ts, 0, 1), (tk, 1, 1), (ti, 2, 1)]) (hc : P.cellsOf t = 3) (hs : Opens P ts ByteArray SmB) (hk : Opens P tk (List ByteArray) (fun l => ∀ x ∈ l, SmB x)) (hi : Opens P ti Int I64) : Opens P t Slot OkSl := by
  intro H enc w base spare held fuel cs x h
  obtain ⟨hl, hall⟩ := trod_fields hf h
  rw [hc] at hl
  obtain ⟨a0, r0_, rfl, l0_⟩ := len_cons hl
  obtain ⟨a1, r1_, rfl, l1_⟩ := len_cons l0_
  obtain ⟨a2, r2_, rfl, l2_⟩ := len_cons l1_
  obtain rfl := len_nil l2_
  obtain ⟨n0, y0, h0⟩ := hall (ts, 0, 1) (by simp)
  obtain ⟨x0, e0, g0⟩ := hs enc w base spare held n0 _ y0 h0
  have e0 : [a0] = [.string x0] := e0
  cases e0
  obtain ⟨n1, y1, h1⟩ := hall (tk, 1, 1) (by simp)
  obtain ⟨x1, e1, g1⟩ := hk enc w base spare held n1 _ y1 h1
  obtain ⟨v1, e1, r1⟩ := e1
  have e1 : [a1] = [v1] := e1
  cases e1
  obtain ⟨n2, y2, h2⟩ := hall (ti, 2, 1) (by simp)
  obtain ⟨x2, e2, g2⟩ := hi enc w base spare held n2 _ y2 h2
  have e2 : [a2] = [.int .i64 x2] := e2
  cases e2
  exact ⟨⟨x0, x1, x2⟩, ⟨_, rfl, r1⟩, g0, g1, g2⟩
theorem opens_kind {tb tk ts : TypeId} (hf : fieldsK P t = some [(ts, 0, 1), (tb, 1, 1), (tk, 2, 1)]) (hc : P.cellsOf t = 3) (hs : Opens P ts ByteArray SmB) (hb : Opens P tb Bool (fun _ => True)) (hk : Opens P tk (List Slot) (fun l => ∀ x ∈ l, OkSl x)) : Opens P t Kind OkKd := by
  intro H enc w base spare held fuel cs x h
  obtain ⟨hl, hall⟩ := trod_fields hf h
  rw [hc] at hl
  obtain ⟨a0, r0_, rfl, l0_⟩ := len_cons hl
  obtain ⟨a1, r1_, rfl, l1_⟩ := len_cons l0_
  obtain ⟨a2, r2_, rfl, l2_⟩ := len_cons l1_
  obtain rfl := len_nil l2_
  obtain ⟨n0, y0, h0⟩ := hall (ts, 0, 1) (by simp)
  obtain ⟨x0, e0, g0⟩ := hs enc w base spare held n0 _ y0 h0
  have e0 : [a0] = [.string x0] := e0
  cases e0
  obtain ⟨n1, y1, h1⟩ := hall (tb, 1, 1) (by simp)
  obtain ⟨x1, e1, g1⟩ := hb enc w base spare held n1 _ y1 h1
  have e1 : [a1] = [.bool x1] := e1
  cases e1
  obtain ⟨n2, y2, h2⟩ := hall (tk, 2, 1) (by simp)
  obtain ⟨x2, e2, g2⟩ := hk enc w base spare held n2 _ y2 h2
  obtain ⟨v2, e2, r2⟩ := e2
  have e2 : [a2] = [v2] := e2
  cases e2
  exact ⟨⟨x0, x1, x2⟩, ⟨_, rfl, r2⟩, g0, g2⟩
/-! a law's row -/
open Go.ChangeShapes Go.WideShapes Go.RowKit
variable {H : Type} {enc : TypeId × Value → H}
theorem trodAll_later {W W' : World} (hl : laidOutB P = true) (hb : Below W.heap.size W W') : ∀ (ts : List TypeId) (vs : List Value) (ds : List (DataW H)) (ps : List MemPlace), ts.all (fun t => P.readableRec t && decide (t < P.types.size)) = true → (∀ x ∈ ps, x.block < W.heap.size) →
    DataW.TrodAll enc P W 0 (fun _ => true) true ts vs ds ps → DataW.TrodAll enc P W' 0 (fun b => decide (b < W.heap.size)) true ts vs ds ps
  | [], vs, ds, ps, _, _, h => by
    obtain ⟨rfl, rfl, rfl⟩ := trodAll_nil h
    exact trodAll_mk0
  | t :: ts, vs, ds, ps, ht, hp, h => by
    obtain ⟨v, vs', d, ds', p, q, rfl, rfl, rfl, h1, h2⟩ := trodAll_cons h
    simp only [List.all_cons, Bool.and_eq_true, decide_eq_true_eq] at ht
    exact trodAll_cons_mk (Below.trod hl ht.1.1 ht.1.2 h1 hb fun x hx => hp x (by simp [hx])) (trodAll_later hl hb ts vs' ds' q (by simpa using ht.2) (fun x hx => hp x (by simp [hx])) h2)
theorem law_calls {f : FuncId} {fn : Func} {args : Array Value} {W : World} {s : ChangeSpec} {ds gs : List (DataW H)} {before : List MemPlace} {tb : TypeId}
    (hcall : ∀ (args : Array Value) (w : World), (callFunc f args).run P w = .ok (.enter f args) w) (hc : FnV P f args (Iw W) (.bool true)) (hW : DataW.Whole enc P fn.params.toList s.vars false W args.toList ds gs before)
    (hlaid : laidOutB P = true) (hts : fn.params.toList.all (fun t => P.readableRec t && decide (t < P.types.size)) = true) (hres : fn.resultTypes = #[tb]) (htb : P.underlying tb = some .bool)
    (hfn : s.fn H (ds ++ gs) = { results := [.lit (.bool true)], args := ds }) (hvars : s.vars = []) :
    Calls P f args W fun e W' => ∃ v, e = .returned v ∧ s.post enc P fn false true false false W args v W' := by
  have h := hc.go W (Iw_mem W)
  unfold After at h
  rw [hcall] at h
  refine Calls.mono h ?_
  rintro e W' ⟨v, I', H', rfl, hm, rfl, rfl, rfl⟩
  refine ⟨_, rfl, ?_⟩
  have hlt := hW.lt
  have hb : Below W.heap.size W W' := ⟨hm.upd.os, hm.upd.tape, hm.upd.output, hm.upd.size, fun k hk => hm.upd.block k hk (by simp [foots])⟩
  obtain ⟨p, q, hA, hV, hpq, hfz, hnd⟩ := id hW
  rw [hvars] at hV
  obtain ⟨rfl, rfl⟩ := trodVars_none hV
  refine ⟨ds, [], before, [], p, [], hW, ?_, ?_, ?_, ?_, fun h => by cases h⟩
  · rw [hfn, hres]
    exact trodAll_cons_mk (shut_bool htb _) trodAll_mk0
  · rw [hfn]
    exact trodAll_later hlaid hb _ _ _ _ hts (fun x hx => by simpa using hlt x (by rw [hpq]; simp [hx])) hA
  · rw [hfn, hvars]
    rfl
  · refine ⟨hm.upd.os, hm.upd.output, fun i hi => ?_⟩
    rw [hb.block i hi]
    cases W.heap[i]? with
    | none => rfl
    | some o => cases o <;> simp
end
end Go.Sx

/- How reports and bytes that come in are read. -/
set_option linter.all false
namespace Go.Sx
open Go
def OkRp (r : Rep) : Prop := ∀ e ∈ r.options, OkE e
section
variable {P : Program} {t : TypeId}
theorem opens_rep {tb tk : TypeId} (hf : fieldsK P t = some [(tk, 0, 1), (tb, 1, 1)]) (hc : P.cellsOf t = 2) (hk : Opens P tk (List Evt) (fun l => ∀ x ∈ l, OkE x)) (hb : Opens P tb Bool (fun _ => True)) : Opens P t Rep OkRp := by
  intro H enc w base spare held fuel cs x h
  obtain ⟨hl, hall⟩ := trod_fields hf h
  rw [hc] at hl
  obtain ⟨a0, r0_, rfl, l0_⟩ := len_cons hl
  obtain ⟨a1, r1_, rfl, l1_⟩ := len_cons l0_
  obtain rfl := len_nil l1_
  obtain ⟨n0, y0, h0⟩ := hall (tk, 0, 1) (by simp)
  obtain ⟨x0, e0, g0⟩ := hk enc w base spare held n0 _ y0 h0
  obtain ⟨v0, e0, r0⟩ := e0
  have e0 : [a0] = [v0] := e0
  cases e0
  obtain ⟨n1, y1, h1⟩ := hall (tb, 1, 1) (by simp)
  obtain ⟨x1, e1, g1⟩ := hb enc w base spare held n1 _ y1 h1
  have e1 : [a1] = [.bool x1] := e1
  cases e1
  exact ⟨⟨x0, x1⟩, ⟨_, rfl, r0⟩, g0⟩
theorem opens_u8 (ht : P.underlying t = some (.int .u8)) : Opens P t UInt8 (fun _ => True) := by
  intro H enc w base spare held fuel cs x h
  obtain ⟨s, rfl, _, h2⟩ := DataW.trod_int ht h
  have hs : 0 ≤ s ∧ s ≤ 255 := by
    simp only [Lit.wf, Bool.and_eq_true, decide_eq_true_eq] at h2
    simpa [IntKind.min, IntKind.max, IntKind.signed, IntKind.bits] using h2
  refine ⟨UInt8.ofNat s.toNat, ?_, trivial⟩
  show [Value.int .u8 s] = [.int .u8 ((UInt8.ofNat s.toNat).toNat : Int)]
  rw [UInt8.toNat_ofNat']
  congr 2
  omega
theorem u8_nat {n : Int} (h : (Lit.int .u8 n).wf = true) : ∃ a : Nat, n = (a : Int) ∧ a < 256 := by
  have h2 : 0 ≤ n ∧ n ≤ 255 := by
    simp only [Lit.wf, Bool.and_eq_true, decide_eq_true_eq] at h
    simpa [IntKind.min, IntKind.max, IntKind.signed, IntKind.bits] using h
  exact ⟨n.toNat, by omega, by omega⟩
theorem u16_nat {n : Int} (h : (Lit.int .u16 n).wf = true) : ∃ a : Nat, n = (a : Int) ∧ a < 65536 := by
  have h2 : 0 ≤ n ∧ n ≤ 65535 := by
    simp only [Lit.wf, Bool.and_eq_true, decide_eq_true_eq] at h
    simpa [IntKind.min, IntKind.max, IntKind.signed, IntKind.bits] using h
  exact ⟨n.toNat, by omega, by omega⟩
end
end Go.Sx

/- The plain law of HistoryFalse: fewer open choices are false, too. -/
set_option linter.all false
namespace Go.Sx
open Go
theorem giv_not {c : List Kind} {l : List Rep} {ch : List Int} {n : Int} (h : givF c l = false) : givenF c l ch n = false := by
  cases hg : givenF c l ch n with
  | false => rfl
  | true =>
    obtain ⟨_, h2⟩ := given_all hg
    have h1 : validC c = true := by
      simp only [givenF, Bool.and_eq_true, Bool.not_eq_true', Bool.or_eq_false_iff, Bool.not_eq_false'] at hg
      exact hg.1.1
    have h3 : allP (fun _ r => validRep r) l l.length = true := by
      rw [allP, List.all_eq_true]
      intro i hi
      have hi := List.mem_range.1 hi
      simp only [List.getElem?_eq_getElem hi]
      exact h2 _ (List.getElem_mem hi)
    simp [givF, h1, h3] at h
theorem chs_pos {r : Rep} (h : validRep r = true) : 1 ≤ chs r := by
  have := validRep_len h
  simp only [chs, h, Bool.true_eq_false, if_false]
  split <;> omega
theorem allTo_of {f : Rep → Int → Bool} {l : List Rep} {ch : List Int} (h : ∀ i (h1 : i < l.length) (h2 : i < ch.length), f l[i] ch[i] = true) (hl : ch.length = l.length) : allTo f l ch l.length = true := by
  rw [allTo, List.all_eq_true]
  intro i hi
  have hi := List.mem_range.1 hi
  rw [at2_eq hi (by omega)]
  exact h i hi (by omega)
theorem given_mk {c : List Kind} {l : List Rep} {ch : List Int} {n : Int} (hc : validC c = true) (hl : ch.length = l.length) (h : ∀ i (h1 : i < l.length) (h2 : i < ch.length), chs l[i] ≠ 0 ∧ n ≤ ch[i] ∧ ch[i] < chs l[i]) : givenF c l ch n = true := by
  simp only [givenF, hc, Bool.and_eq_true]
  refine ⟨by simp [hl], allTo_of (fun i h1 h2 => ?_) hl⟩
  obtain ⟨a, b, d⟩ := h i h1 h2
  simp only [chFine, Bool.not_eq_true', Bool.or_eq_false_iff, decide_eq_false_iff_not]
  omega
theorem given_at {c : List Kind} {l : List Rep} {ch : List Int} {n : Int} (h : givenF c l ch n = true) {i : Nat} (h1 : i < l.length) (h2 : i < ch.length) : chs l[i] ≠ 0 ∧ n ≤ ch[i] ∧ ch[i] < chs l[i] := by
  simp only [givenF, Bool.and_eq_true] at h
  have := allTo_at h.2 h1 h1 h2
  simp only [chFine, Bool.not_eq_true', Bool.or_eq_false_iff, decide_eq_false_iff_not] at this
  omega
theorem given_cat {c : List Kind} {l : List Rep} {ch : List Int} {n : Int} (h : givenF c l ch n = true) : validC c = true := by
  simp only [givenF, Bool.and_eq_true, Bool.not_eq_true', Bool.or_eq_false_iff, Bool.not_eq_false'] at h
  exact h.1.1
theorem fit_len (l : List Rep) (raw : List UInt8) : (fitF l raw).length = l.length := by simp [fitF]
theorem giv_fit {c : List Kind} {l : List Rep} {raw : List UInt8} (h : givF c l = true) : givenF c l (fitF l raw) 0 = true := by
  simp only [givF, Bool.and_eq_true] at h
  refine given_mk h.1 (fit_len l raw) fun i h1 h2 => ?_
  obtain ⟨_, hv⟩ := allP_mem h.2 (List.getElem_mem h1)
  have hp := chs_pos hv
  have e : (fitF l raw)[i] = fitAt (chs l[i]) raw[i]? := by simp [fitF]
  rw [e]
  unfold fitAt
  split
  · rw [if_pos (by omega)]
    rename_i b _
    have := Int.emod_nonneg (b.toNat : Int) (show chs l[i] ≠ 0 by omega)
    have := Int.emod_lt_of_pos (b.toNat : Int) (show 0 < chs l[i] by omega)
    omega
  · omega
theorem open_at {ch : List Int} {a i : Nat} (h : i < (openF ch a).length) : (openF ch a)[i] = if a.testBit i = true then -1 else ch[i]'(by simpa [openF] using h) := by simp [openF]
theorem given_open {c : List Kind} {l : List Rep} {ch : List Int} (h : givenF c l ch 0 = true) (a : Nat) : givenF c l (openF ch a) (-1) = true := by
  have hl := (given_all h).1
  refine given_mk (given_cat h) (by rw [openF_len, hl]) fun i h1 h2 => ?_
  have := given_at h h1 (by rw [openF_len] at h2; exact h2)
  rw [open_at]
  split <;> omega
theorem given_less {c : List Kind} {l : List Rep} {ch : List Int} (h : givenF c l ch 0 = true) : givenF c l ch (-1) = true := by
  refine given_mk (given_cat h) (given_all h).1 fun i h1 h2 => ?_
  have := given_at h h1 h2
  omega
/-! the least day -/
theorem least_le : ∀ (l : List Int) (a : Int), l.foldl (fun a d => if d < a then d else a) a ≤ a ∧ ∀ d ∈ l, l.foldl (fun a d => if d < a then d else a) a ≤ d
  | [], a => ⟨Int.le_refl _, fun d h => by cases h⟩
  | x :: r, a => by
    obtain ⟨h1, h2⟩ := least_le r (if x < a then x else a)
    rw [List.foldl_cons]
    refine ⟨Int.le_trans h1 (by split <;> omega), fun d hd => ?_⟩
    rcases List.mem_cons.1 hd with rfl | hd
    · exact Int.le_trans h1 (by split <;> omega)
    · exact h2 d hd
theorem least_ge : ∀ (l : List Int) (a m : Int), m ≤ a → (∀ d ∈ l, m ≤ d) → m ≤ l.foldl (fun a d => if d < a then d else a) a
  | [], a, m, h, _ => h
  | x :: r, a, m, h, hl => by
    rw [List.foldl_cons]
    exact least_ge r _ m (by have := hl x (by simp); split <;> omega) fun d hd => hl d (by simp [hd])
theorem mem_open {l : List Rep} {ch : List Int} (hl : ch.length = l.length) {d : Int} : d ∈ openDays l ch l.length ↔ ∃ i, ∃ (h1 : i < l.length), ∃ (h2 : i < ch.length), ch[i] < 0 ∧ ∃ e ∈ l[i].options, e.day = d := by
  rw [openDays, List.mem_flatMap]
  constructor
  · rintro ⟨i, hi, hd⟩
    have hi := List.mem_range.1 hi
    rw [at2_eq hi (by omega)] at hd
    simp only [Option.getD_some] at hd
    split at hd
    · rename_i hc
      obtain ⟨e, he, rfl⟩ := List.mem_map.1 hd
      exact ⟨i, hi, by omega, hc, e, he, rfl⟩
    · cases hd
  · rintro ⟨i, h1, h2, hc, e, he, rfl⟩
    refine ⟨i, List.mem_range.2 h1, ?_⟩
    rw [at2_eq h1 h2]
    simp only [Option.getD_some, if_pos hc]
    exact List.mem_map.2 ⟨e, he, rfl⟩
    
/-! picks before a day -/
theorem pkd_filt {L1 L2 : Int} {l : List Rep} {ch1 ch2 : List Int} {i : Nat} (h1 : i < l.length) (h2 : i < ch1.length) (h3 : i < ch2.length) (h : optAt L1 l[i] ch1[i] = (optAt L2 l[i] ch2[i]).filter fun e => decide (e.day < L1)) :
    pkd L1 l ch1 i = (pkd L2 l ch2 i).filter fun p => decide (p.e.day < L1) := by
  unfold pkd
  rw [at2_eq h1 h2, at2_eq h1 h3, h]
  cases hq : optAt L2 l[i] ch2[i] with
  | none => rfl
  | some e =>
    simp only [Option.join_some, Option.filter_some]
    by_cases hd : e.day < L1
    · simp only [hd, decide_true, if_true]
      split
      · simp [Option.filter, hd]
      · rfl
    · simp only [hd, decide_false, Bool.false_eq_true, if_false]
      split
      · simp [Option.filter, hd]
      · rfl
theorem pick_filt {L1 L2 : Int} {l : List Rep} {ch1 ch2 : List Int} (hl1 : ch1.length = l.length) (hl2 : ch2.length = l.length) (h : ∀ i (h1 : i < l.length) (h2 : i < ch1.length) (h3 : i < ch2.length), optAt L1 l[i] ch1[i] = (optAt L2 l[i] ch2[i]).filter fun e => decide (e.day < L1)) :
    ∀ n, n ≤ l.length → pickF L1 l ch1 n = (pickF L2 l ch2 n).filter fun p => decide (p.e.day < L1) := by
  intro n
  induction n with
  | zero => intro _; rfl
  | succ n ih =>
    intro hn
    rw [pick_succ, pick_succ, List.filter_append, ← ih (by omega), pkd_filt (by omega) (by omega) (by omega) (h n (by omega) (by omega) (by omega))]
    congr 1
    cases pkd L2 l ch2 n with
    | none => rfl
    | some p => by_cases hp : p.e.day < L1 <;> simp [Option.filter, hp]
theorem srt_split {α : Type} [Day α] (L : Int) : ∀ {l : List α}, Srtd l → l = l.filter (fun x => decide (Day.day x < L)) ++ l.filter (fun x => !decide (Day.day x < L))
  | [], _ => rfl
  | x :: r, h => by
    have h' := List.pairwise_cons.1 h
    by_cases hx : Day.day x < L
    · simp only [List.filter_cons, hx, decide_true, if_true, Bool.not_true, Bool.false_eq_true, if_false, List.cons_append]
      rw [← srt_split L h'.2]
    · have h0 : r.filter (fun x => decide (Day.day x < L)) = [] := by
        rw [List.filter_eq_nil_iff]
        intro y hy
        have := h'.1 y hy
        simp; omega
      have h1 : r.filter (fun x => !decide (Day.day x < L)) = r := by
        rw [List.filter_eq_self]
        intro y hy
        have := h'.1 y hy
        simp; omega
      simp [List.filter_cons, hx, h0, h1]
theorem follow_less {c : List Kind} {l : List Rep} {ch1 ch2 : List Int} {L1 L2 : Int} (h : pickF L1 l ch1 l.length = (pickF L2 l ch2 l.length).filter fun p => decide (p.e.day < L1)) (hf : (followF c l ch1 L1).2 ≠ 0) : (followF c l ch2 L2).2 ≠ 0 := by
  unfold followF at hf ⊢
  have e1 : sortF (pickF L1 l ch1 l.length) = (sortF (pickF L2 l ch2 l.length)).filter (fun p => decide (Day.day p < L1)) := by
    rw [h, sortF_filt]; rfl
  have e2 := srt_split L1 (sortF_srt (pickF L2 l ch2 l.length))
  rw [e2, ← e1, follow_app]
  have e3 : runsTo c [] ((sortF (pickF L1 l ch1 l.length)).map Pkd.e) = none := by
    have := follow_ok c (sortF (pickF L1 l ch1 l.length)) []
    rw [decide_eq_false hf] at this
    cases hr : runsTo c [] ((sortF (pickF L1 l ch1 l.length)).map Pkd.e) with
    | none => rfl
    | some s => rw [hr] at this; cases this
  rw [e3]
  exact hf
theorem opt_some {L : Int} {r : Rep} {k : Int} {e : Evt} (h : optAt L r k = some e) : e ∈ r.options := by
  unfold optAt at h
  split at h
  · split at h
    · rename_i x hx
      split at h
      · cases h; exact List.mem_of_getElem? hx
      · cases h
    · cases h
  · cases h
theorem opt_less {L1 L2 : Int} (hL : L1 ≤ L2) (r : Rep) (k : Int) : optAt L1 r k = (optAt L2 r k).filter fun e => decide (e.day < L1) := by
  unfold optAt
  split
  · cases r.options[k.toNat]? with
    | none => rfl
    | some e =>
      simp only
      by_cases h : e.day < L1
      · rw [if_pos h, if_pos (by omega)]; simp [Option.filter, h]
      · rw [if_neg h]
        split
        · simp [Option.filter, h]
        · rfl
  · rfl
theorem false_mono {c : List Kind} {l : List Rep} {ch : List Int} {a b : Nat} (hg : givenF c l ch 0 = true) (hs : ∀ i, b.testBit i = true → a.testBit i = true) (h : falseF c l (openF ch a) = true) : falseF c l (openF ch b) = true := by
  have hl := (given_all hg).1
  have ga := given_open hg a
  have gb := given_open hg b
  have la : (openF ch a).length = l.length := by rw [openF_len, hl]
  have lb : (openF ch b).length = l.length := by rw [openF_len, hl]
  unfold falseF at h ⊢
  rw [if_neg (by rw [ga]; decide)] at h
  rw [if_neg (by rw [gb]; decide)]
  simp only [Bool.not_eq_true', decide_eq_false_iff_not] at h ⊢
  have hL : leastF (openDays l (openF ch a) l.length) ≤ leastF (openDays l (openF ch b) l.length) := by
    refine least_ge _ _ _ (least_le _ _).1 fun d hd => ?_
    refine (least_le _ _).2 d ?_
    rw [mem_open lb] at hd
    obtain ⟨i, h1, h2, hc, e, he, rfl⟩ := hd
    refine (mem_open la).2 ⟨i, h1, by omega, ?_, e, he, rfl⟩
    rw [open_at] at hc ⊢
    have h0 := given_at hg h1 (by omega)
    split at hc
    · rename_i hb
      rw [if_pos (hs i hb)]; omega
    · omega
  refine follow_less (ch1 := openF ch a) (pick_filt la lb (fun i h1 h2 h3 => ?_) _ (Nat.le_refl _)) h
  rw [open_at, open_at]
  by_cases ha : a.testBit i = true
  · rw [if_pos ha]
    by_cases hb : b.testBit i = true
    · rw [if_pos hb]; rfl
    · rw [if_neg hb]
      cases hq : optAt (leastF (openDays l (openF ch b) l.length)) l[i] (ch[i]'(by omega)) with
      | none => rfl
      | some e =>
        have h4 : leastF (openDays l (openF ch a) l.length) ≤ e.day := by
          refine (least_le _ _).2 _ ((mem_open la).2 ⟨i, h1, h2, ?_, e, opt_some hq, rfl⟩)
          rw [open_at, if_pos ha]; omega
        have h5 : ¬ e.day < leastF (openDays l (openF ch a) l.length) := by omega
        simp [optAt, Option.filter, h5]
  · have hb : ¬ b.testBit i = true := fun hb => ha (hs i hb)
    rw [if_neg ha, if_neg hb]
    exact opt_less hL _ _
theorem open_none (ch : List Int) : openF ch 0 = ch := by
  refine List.ext_getElem (openF_len ch 0) fun i h1 h2 => ?_
  rw [open_at]; simp
theorem false_is {c : List Kind} {l : List Rep} {ch : List Int} (hg : givenF c l ch 0 = true) : falseF c l ch = !isF c l ch := by
  have hl := (given_all hg).1
  have h0 : openDays l ch l.length = [] := by
    rw [List.eq_nil_iff_forall_not_mem]
    intro d hd
    obtain ⟨i, h1, h2, hc, _⟩ := (mem_open hl).1 hd
    have := given_at hg h1 h2
    omega
  rw [falseF, if_neg (by rw [given_less hg]; decide), isF, failsF, if_neg (by rw [hg]; decide), h0]
  rfl
theorem false_not {c : List Kind} {l : List Rep} {ch : List Int} (hg : givF c l = false) : falseF c l ch = false := by
  rw [falseF, if_pos (giv_not hg)]
/-- the law -/
theorem law_f1 (c : List Kind) (l : List Rep) (raw : List UInt8) (a b : Nat) : (!falseF c l (openF (fitF l raw) (a ||| b)) || falseF c l (openF (fitF l raw) a)) = true := by
  cases hg : givF c l with
  | false => rw [false_not hg]; rfl
  | true =>
    cases h : falseF c l (openF (fitF l raw) (a ||| b)) with
    | false => rfl
    | true => rw [false_mono (giv_fit hg) (fun i hi => by rw [Nat.testBit_or, hi]; rfl) h]; rfl
theorem law_f2 (c : List Kind) (l : List Rep) (raw : List UInt8) (a : Nat) : (!falseF c l (openF (fitF l raw) a) || falseF c l (fitF l raw)) = true := by
  cases hg : givF c l with
  | false => rw [false_not hg]; rfl
  | true =>
    cases h : falseF c l (openF (fitF l raw) a) with
    | false => rfl
    | true =>
      have := false_mono (b := 0) (giv_fit hg) (fun i hi => by simp at hi) h
      rw [open_none] at this
      rw [this]; rfl
theorem law_f3 (c : List Kind) (l : List Rep) (raw : List UInt8) : falseF c l (fitF l raw) = (givF c l && !isF c l (fitF l raw)) := by
  cases hg : givF c l with
  | false => rw [false_not hg]; rfl
  | true => rw [false_is (giv_fit hg)]; rfl
end Go.Sx

/- The events that are picked, without the reports' places. -/
set_option linter.all false
namespace Go.Sx
open Go
/-- the events that are picked before a day -/
def pickE (day : Int) (l : List Rep) (ch : List Int) : List Evt := (l.zip ch).filterMap fun p => optAt day p.1 p.2
theorem pickE_take (day : Int) (l : List Rep) (ch : List Int) (hl : ch.length = l.length) (hv : ∀ r ∈ l, validRep r = true) : ∀ n, n ≤ l.length → (pickF day l ch n).map Pkd.e = ((l.zip ch).take n).filterMap fun p => optAt day p.1 p.2 := by
  intro n
  induction n with
  | zero => intro _; rfl
  | succ n ih =>
    intro hn
    have h1 : n < l.length := by omega
    have h2 : n < ch.length := by omega
    have h3 : n < (l.zip ch).length := by simp; omega
    rw [pick_succ, List.map_append, ih (by omega), ← take_succ_of h3, List.filterMap_append]
    congr 1
    have e : (l.zip ch)[n] = (l[n], ch[n]) := by simp
    rw [e, pkd, at2_eq h1 h2]
    cases hq : optAt day l[n] ch[n] with
    | none => simp [hq]
    | some x =>
      have hd := validE_day (validRep_e (hv _ (List.getElem_mem h1)) x (opt_some hq))
      simp [hq, hd]
theorem pickE_eq {day : Int} {l : List Rep} {ch : List Int} (hl : ch.length = l.length) (hv : ∀ r ∈ l, validRep r = true) : (pickF day l ch l.length).map Pkd.e = pickE day l ch := by
  rw [pickE_take day l ch hl hv l.length (Nat.le_refl _), pickE, List.take_of_length_le (by simp; omega)]
/-- whether it is possible depends on the events alone -/
theorem follow_ev {c : List Kind} {l : List Rep} {ch : List Int} {day : Int} (hl : ch.length = l.length) (hv : ∀ r ∈ l, validRep r = true) : decide ((followF c l ch day).2 = 0) = (runsTo c [] (sortF (pickE day l ch))).isSome := by
  rw [followF, follow_ok, sortF_map Pkd.e (fun _ => rfl), pickE_eq hl hv]
/-- without the element at an index -/
def cutAt {α : Type} (l : List α) (k : Nat) : List α := l.take k ++ l.drop (k + 1)
theorem cutAt_len {α : Type} {l : List α} {k : Nat} (h : k < l.length) : (cutAt l k).length + 1 = l.length := by
  simp only [cutAt, List.length_append, List.length_take, List.length_drop]; omega
theorem cutAt_mem {α : Type} {l : List α} {k : Nat} {x : α} (h : x ∈ cutAt l k) : x ∈ l := by
  rcases List.mem_append.1 h with h | h
  · exact List.mem_of_mem_take h
  · exact List.mem_of_mem_drop h
theorem cut_whole {α : Type} {l : List α} {k : Nat} (h : k < l.length) : l = l.take k ++ l[k] :: l.drop (k + 1) := by
  rw [← List.drop_eq_getElem_cons h, List.take_append_drop]
theorem zip_cut {day : Int} {l : List Rep} {ch : List Int} {k : Nat} (hl : ch.length = l.length) (h1 : k < l.length) (h2 : k < ch.length) (h : optAt day l[k] ch[k] = none) : pickE day (cutAt l k) (cutAt ch k) = pickE day l ch := by
  have e1 : (l.take k).length = (ch.take k).length := by simp; omega
  conv => rhs; rw [cut_whole h1, cut_whole h2]
  unfold pickE cutAt
  rw [List.zip_append e1, List.zip_append e1, List.filterMap_append, List.filterMap_append, List.zip_cons_cons, List.filterMap_cons, h]
theorem allTo_zip {f : Rep → Int → Bool} {l : List Rep} {ch : List Int} (hl : ch.length = l.length) : allTo f l ch l.length = (l.zip ch).all fun p => f p.1 p.2 := by
  rw [Bool.eq_iff_iff, List.all_eq_true]
  constructor
  · intro h p hp
    obtain ⟨i, hi, rfl⟩ := List.getElem_of_mem hp
    have hi' : i < l.length := by simp at hi; omega
    have := allTo_at h hi' hi' (by omega)
    simpa using this
  · intro h
    refine allTo_of (fun i h1 h2 => ?_) hl
    have h3 : i < (l.zip ch).length := by simp; omega
    have := h _ (List.getElem_mem h3)
    simpa using this
theorem all_cut {f : Rep → Int → Bool} {l : List Rep} {ch : List Int} {k : Nat} (hl : ch.length = l.length) (h1 : k < l.length) (h2 : k < ch.length) (h : f l[k] ch[k] = true) : ((cutAt l k).zip (cutAt ch k)).all (fun p => f p.1 p.2) = (l.zip ch).all fun p => f p.1 p.2 := by
  have e1 : (l.take k).length = (ch.take k).length := by simp; omega
  conv => rhs; rw [cut_whole h1, cut_whole h2]
  unfold cutAt
  rw [List.zip_append e1, List.zip_append e1, List.all_append, List.all_append, List.zip_cons_cons, List.all_cons, h, Bool.true_and]
theorem given_cut {c : List Kind} {l : List Rep} {ch : List Int} {k : Nat} {n : Int} (hl : ch.length = l.length) (h1 : k < l.length) (h2 : k < ch.length) (h : chFine n l[k] ch[k] = true) : givenF c (cutAt l k) (cutAt ch k) n = givenF c l ch n := by
  have e1 := cutAt_len h1
  have e2 := cutAt_len h2
  have e3 : (cutAt ch k).length = (cutAt l k).length := by omega
  simp only [givenF]
  rw [allTo_zip e3, allTo_zip hl, all_cut hl h1 h2 h]
  simp [hl, e3]
theorem open_take (l : List Rep) (ch : List Int) (hl : ch.length = l.length) : ∀ n, n ≤ l.length → openDays l ch n = ((l.zip ch).take n).flatMap fun p => if p.2 < 0 then p.1.options.map Evt.day else [] := by
  intro n
  induction n with
  | zero => intro _; rfl
  | succ n ih =>
    intro hn
    have h1 : n < l.length := by omega
    have h2 : n < ch.length := by omega
    have h3 : n < (l.zip ch).length := by simp; omega
    rw [open_succ, ih (by omega), ← take_succ_of h3, List.flatMap_append]
    congr 1
    have e : (l.zip ch)[n] = (l[n], ch[n]) := by simp
    rw [e, at2_eq h1 h2]
    simp
theorem open_zip {l : List Rep} {ch : List Int} (hl : ch.length = l.length) : openDays l ch l.length = (l.zip ch).flatMap fun p => if p.2 < 0 then p.1.options.map Evt.day else [] := by
  rw [open_take l ch hl l.length (Nat.le_refl _), List.take_of_length_le (by simp; omega)]
theorem open_cut {l : List Rep} {ch : List Int} {k : Nat} (hl : ch.length = l.length) (h1 : k < l.length) (h2 : k < ch.length) (h : ¬ ch[k] < 0) : openDays (cutAt l k) (cutAt ch k) (cutAt l k).length = openDays l ch l.length := by
  have e1 := cutAt_len h1
  have e2 := cutAt_len h2
  have e3 : (l.take k).length = (ch.take k).length := by simp; omega
  rw [open_zip (by omega), open_zip hl]
  conv => rhs; rw [cut_whole h1, cut_whole h2]
  unfold cutAt
  rw [List.zip_append e3, List.zip_append e3, List.flatMap_append, List.flatMap_append, List.zip_cons_cons, List.flatMap_cons, if_neg h, List.nil_append]
theorem is_ev {c : List Kind} {l : List Rep} {ch : List Int} (hg : givenF c l ch 0 = true) : isF c l ch = (runsTo c [] (sortF (pickE 40001 l ch))).isSome := by
  obtain ⟨hl, hv⟩ := given_all hg
  rw [isF, failsF, if_neg (by rw [hg]; decide), follow_ev hl hv]
theorem is_no {c : List Kind} {l : List Rep} {ch : List Int} (hg : givenF c l ch 0 = false) : isF c l ch = false := by
  rw [isF, failsF, if_pos hg]; rfl
theorem is_cut {c : List Kind} {l : List Rep} {ch : List Int} {k : Nat} (hl : ch.length = l.length) (h1 : k < l.length) (h2 : k < ch.length) (hf : chFine 0 l[k] ch[k] = true) (hn : ∀ day, optAt day l[k] ch[k] = none) : isF c (cutAt l k) (cutAt ch k) = isF c l ch := by
  have e := given_cut (c := c) hl h1 h2 hf
  cases hg : givenF c l ch 0 with
  | false => rw [is_no hg, is_no (by rw [e, hg])]
  | true => rw [is_ev hg, is_ev (by rw [e, hg]), zip_cut hl h1 h2 (hn _)]
theorem false_cut {c : List Kind} {l : List Rep} {ch : List Int} {k : Nat} (hl : ch.length = l.length) (h1 : k < l.length) (h2 : k < ch.length) (hf : chFine (-1) l[k] ch[k] = true) (h0 : ¬ ch[k] < 0) (hn : ∀ day, optAt day l[k] ch[k] = none) : falseF c (cutAt l k) (cutAt ch k) = falseF c l ch := by
  have e := given_cut (c := c) hl h1 h2 hf
  cases hg : givenF c l ch (-1) with
  | false =>
    have hg2f : givenF c (cutAt l k) (cutAt ch k) (-1) = false := by rw [e, hg]
    rw [falseF, falseF, if_pos hg2f, if_pos hg]
  | true =>
    obtain ⟨_, hv⟩ := given_all hg
    have hg2 : givenF c (cutAt l k) (cutAt ch k) (-1) = true := by rw [e, hg]
    obtain ⟨hl2, hv2⟩ := given_all hg2
    rw [falseF, falseF, if_neg (by rw [hg2]; decide), if_neg (by rw [hg]; decide), open_cut hl h1 h2 h0, follow_ev hl hv, follow_ev hl2 hv2, zip_cut hl h1 h2 (hn _)]
theorem sort_swap {α : Type} [Day α] (A B : List α) (x y : α) (h : Day.day x ≠ Day.day y) : sortF (A ++ y :: x :: B) = sortF (A ++ x :: y :: B) := by
  refine sortF_is ⟨?_, fun d => ?_⟩ (sortF_srt _)
  · rw [sortF_len]; simp
  · rw [sortF_filter, List.filter_append, List.filter_append]
    congr 1
    simp only [List.filter_cons]
    by_cases hx : Day.day x = d
    · have hy : ¬ Day.day y = d := fun e => h (hx.trans e.symm)
      simp [hx, hy]
    · simp [hx]
/-! the law -/
theorem none_opt (r : Rep) (day : Int) : optAt day r ((r.options.length : Nat) : Int) = none := by
  unfold optAt
  rw [if_pos (by omega), Int.toNat_natCast, List.getElem?_eq_none (Nat.le_refl _)]
theorem none_fine {r : Rep} (hv : validRep r = true) (hd : r.doubtful = true) {n : Int} (hn : n ≤ 0) : chFine n r ((r.options.length : Nat) : Int) = true := by
  simp only [chFine, chs, hv, hd, Bool.true_eq_false, if_true, if_false, Bool.not_eq_true', Bool.or_eq_false_iff, decide_eq_false_iff_not]
  omega
theorem law_none_is {c : List Kind} {l : List Rep} {ch : List Int} {k : Nat} (hl : ch.length = l.length) (h1 : k < l.length) (h2 : k < ch.length) (hv : validRep l[k] = true) (hd : l[k].doubtful = true) (he : ch[k] = ((l[k].options.length : Nat) : Int)) :
    (isF c l ch == isF c (cutAt l k) (cutAt ch k)) = true := by
  rw [is_cut hl h1 h2 (by rw [he]; exact none_fine hv hd (by omega)) (fun day => by rw [he]; exact none_opt _ _)]; simp
theorem law_none_false {c : List Kind} {l : List Rep} {ch : List Int} {k : Nat} (hl : ch.length = l.length) (h1 : k < l.length) (h2 : k < ch.length) (hv : validRep l[k] = true) (hd : l[k].doubtful = true) (he : ch[k] = ((l[k].options.length : Nat) : Int)) :
    (falseF c l ch == falseF c (cutAt l k) (cutAt ch k)) = true := by
  rw [false_cut hl h1 h2 (by rw [he]; exact none_fine hv hd (by omega)) (by rw [he]; omega) (fun day => by rw [he]; exact none_opt _ _)]; simp
end Go.Sx

/- The references of histories: what they compute. -/
set_option linter.all false
namespace Go.Sx
open Go
def areF (l : List Rep) (ch : List Int) : Bool := decide (((l.length : Nat) : Int) = (ch.length : Nat)) && allTo okK l ch l.length
def openOk (r : Rep) (k : Int) : Bool := !(decide (k < -1) || decide (chs r ≤ k))
def openTF (l : List Rep) (ch : List Int) : Bool := decide (((ch.length : Nat) : Int) = (l.length : Nat)) && allTo openOk l ch l.length
theorem picked_are (l : List Rep) (ch : List Int) : pickedF l ch = if areF l ch = true then (evsTo l ch l.length, 0) else ([], 1) := rfl
theorem are_len {l : List Rep} {ch : List Int} (h : areF l ch = true) : ch.length = l.length := by
  simp only [areF, Bool.and_eq_true, decide_eq_true_eq] at h; omega
theorem are_at {l : List Rep} {ch : List Int} (h : areF l ch = true) {i : Nat} (h1 : i < l.length) (h2 : i < ch.length) : 0 ≤ ch[i] ∧ ch[i] < chs l[i] := by
  simp only [areF, Bool.and_eq_true] at h
  have := allTo_at h.2 h1 h1 h2
  simp only [okK, Bool.not_eq_true', Bool.or_eq_false_iff, decide_eq_false_iff_not] at this
  omega
theorem giv_at {c : List Kind} {l : List Rep} (h : givF c l = true) : validC c = true ∧ ∀ r ∈ l, validRep r = true := by
  simp only [givF, Bool.and_eq_true] at h
  exact ⟨h.1, fun r hr => by obtain ⟨_, h1⟩ := allP_mem h.2 hr; exact h1⟩
theorem giv_are (c : List Kind) (l : List Rep) (ch : List Int) : (givF c l && areF l ch) = givenF c l ch 0 := by
  cases hg : givF c l with
  | false => rw [giv_not hg]; rfl
  | true =>
    obtain ⟨hc, hv⟩ := giv_at hg
    rw [Bool.true_and, Bool.eq_iff_iff]
    constructor
    · intro h
      refine given_mk hc (are_len h) fun i h1 h2 => ?_
      have := are_at h h1 h2
      have := chs_pos (hv _ (List.getElem_mem h1))
      omega
    · intro h
      have hl := (given_all h).1
      simp only [areF, Bool.and_eq_true, decide_eq_true_eq]
      refine ⟨by omega, allTo_of (fun i h1 h2 => ?_) hl⟩
      have := given_at h h1 h2
      simp only [okK, Bool.not_eq_true', Bool.or_eq_false_iff, decide_eq_false_iff_not]
      omega
theorem giv_open (c : List Kind) (l : List Rep) (ch : List Int) : (givF c l && openTF l ch) = givenF c l ch (-1) := by
  cases hg : givF c l with
  | false => rw [giv_not hg]; rfl
  | true =>
    obtain ⟨hc, hv⟩ := giv_at hg
    rw [Bool.true_and, Bool.eq_iff_iff]
    constructor
    · intro h
      simp only [openTF, Bool.and_eq_true, decide_eq_true_eq] at h
      refine given_mk hc (by omega) fun i h1 h2 => ?_
      have := allTo_at h.2 h1 h1 h2
      simp only [openOk, Bool.not_eq_true', Bool.or_eq_false_iff, decide_eq_false_iff_not] at this
      have := chs_pos (hv _ (List.getElem_mem h1))
      omega
    · intro h
      have hl := (given_all h).1
      simp only [openTF, Bool.and_eq_true, decide_eq_true_eq]
      refine ⟨by omega, allTo_of (fun i h1 h2 => ?_) hl⟩
      have := given_at h h1 h2
      simp only [openOk, Bool.not_eq_true', Bool.or_eq_false_iff, decide_eq_false_iff_not]
      omega
/-! the order -/
/-- an event that is picked is that of its report -/
def Pin (l : List Rep) (ch : List Int) (p : Pkd) : Prop := ∃ (i : Nat) (h1 : i < l.length) (h2 : i < ch.length) (h3 : ch[i].toNat < l[i].options.length), 0 ≤ ch[i] ∧ l[i].options[ch[i].toNat] = p.e ∧ p.rep = (i : Int)
theorem pkd_inv {day : Int} {l : List Rep} {ch : List Int} {i : Nat} {p : Pkd} (h : pkd day l ch i = some p) : ∃ (h1 : i < l.length) (h2 : i < ch.length) (h3 : ch[i].toNat < l[i].options.length), 0 ≤ ch[i] ∧ l[i].options[ch[i].toNat] = p.e ∧ p.rep = (i : Int) := by
  unfold pkd at2 at h
  split at h
  · rename_i e he
    split at h
    · cases h
      split at he
      · rename_i r k h1 h2
        obtain ⟨h3, rfl⟩ := List.getElem?_eq_some_iff.1 h1
        obtain ⟨h4, rfl⟩ := List.getElem?_eq_some_iff.1 h2
        have h5 := opt_some (L := day) (r := l[i]) (k := ch[i]) (e := e) (by simpa using he)
        simp only [Option.join_some, optAt] at he
        split at he
        · rename_i h0
          split at he
          · rename_i e' h6
            split at he
            · cases he
              obtain ⟨h7, h8⟩ := List.getElem?_eq_some_iff.1 h6
              exact ⟨h3, h4, h7, h0, h8, rfl⟩
            · cases he
          · cases he
        · cases he
      · simp at he
    · cases h
  · cases h
theorem pick_inv {day : Int} {l : List Rep} {ch : List Int} {n : Nat} {p : Pkd} (h : p ∈ sortF (pickF day l ch n)) : Pin l ch p := by
  have h := sortF_mem.1 h
  rw [pickF, List.mem_filterMap] at h
  obtain ⟨i, _, h⟩ := h
  exact ⟨i, pkd_inv h⟩
/-- the indices of the events that are picked, in order -/
def ordI (day : Int) (l : List Rep) (ch : List Int) (n : Nat) : List Int := (sortF (pickF day l ch n)).map Pkd.rep
theorem sort_snoc {A : List Pkd} {x : Pkd} {k : Nat} (hk : k ≤ (sortF A).length) (h1 : ∀ j (h : j < (sortF A).length), k ≤ j → x.e.day < (sortF A)[j].e.day) (h2 : ∀ j (h : j < (sortF A).length), j < k → (sortF A)[j].e.day ≤ x.e.day) :
    sortF (A ++ [x]) = (sortF A).take k ++ x :: (sortF A).drop k := by
  have hs := sortF_srt A
  have hlen := sortF_len A
  have hst : ∀ d, (sortF A).filter (fun e => decide (Day.day e = d)) = A.filter (fun e => decide (Day.day e = d)) := fun d => sortF_filter d A
  generalize sortF A = P at *
  symm
  have e1 : P = P.take k ++ P.drop k := (List.take_append_drop k P).symm
  have hs' := hs
  rw [e1] at hs'
  unfold Srtd at hs'
  obtain ⟨s1, s2, s3⟩ := List.pairwise_append.1 hs'
  refine sortF_is ⟨?_, fun d => ?_⟩ ?_
  · simp only [List.length_append, List.length_cons, List.length_take, List.length_drop, List.length_nil]; omega
  · rw [List.filter_append, List.filter_cons, List.filter_append, ← hst d, List.filter_cons, List.filter_nil]
    conv => rhs; rw [e1, List.filter_append]
    by_cases hx : Day.day x = d
    · have h0 : (P.drop k).filter (fun e => decide (Day.day e = d)) = [] := by
        rw [List.filter_eq_nil_iff]
        intro y hy
        obtain ⟨j, hj, rfl⟩ := List.getElem_of_mem hy
        rw [List.length_drop] at hj
        rw [List.getElem_drop]
        have := h1 (k + j) (by omega) (by omega)
        have hx : x.e.day = d := hx
        simp only [decide_eq_true_eq]
        show ¬ (P[k + j]).e.day = d
        omega
      simp [hx, h0]
    · simp [hx]
  · unfold Srtd
    refine List.pairwise_append.2 ⟨s1, List.pairwise_cons.2 ⟨fun y hy => ?_, s2⟩, fun y hy z hz => ?_⟩
    · obtain ⟨j, hj, rfl⟩ := List.getElem_of_mem hy
      rw [List.length_drop] at hj
      rw [List.getElem_drop]
      have := h1 (k + j) (by omega) (by omega)
      show x.e.day ≤ (P[k + j]).e.day
      omega
    · rcases List.mem_cons.1 hz with rfl | hz
      · obtain ⟨j, hj, rfl⟩ := List.getElem_of_mem hy
        rw [List.length_take] at hj
        rw [List.getElem_take]
        exact h2 j (by omega) (by omega)
      · exact s3 y hy z hz
theorem ord_yes {day : Int} {l : List Rep} {ch : List Int} {i k : Nat} {x : Pkd} {P : List Pkd} (hP : sortF (pickF day l ch i) = P) (hx : pickF day l ch (i + 1) = pickF day l ch i ++ [x]) (hr : x.rep = (i : Int)) (hk : k ≤ P.length) (h1 : ∀ j (h : j < P.length), k ≤ j → x.e.day < P[j].e.day) (h2 : ∀ j (h : j < P.length), j < k → P[j].e.day ≤ x.e.day) :
    ordI day l ch (i + 1) = (P.map Pkd.rep).take k ++ ([(i : Int)] ++ (P.map Pkd.rep).drop k) := by
  subst hP
  rw [ordI, hx, sort_snoc hk h1 h2, List.map_append, List.map_cons, List.map_take, List.map_drop, hr]; rfl
theorem ord_no {day : Int} {l : List Rep} {ch : List Int} {i : Nat} {P : List Pkd} (hP : sortF (pickF day l ch i) = P) (hx : pickF day l ch (i + 1) = pickF day l ch i) : ordI day l ch (i + 1) = P.map Pkd.rep := by
  rw [ordI, hx, hP]
theorem srt_down {P : List Pkd} (hs : Srtd P) {k : Nat} {d : Int} (hk : 0 < k) (hl : k ≤ P.length) (h : P[k - 1].e.day ≤ d) (j : Nat) (hj : j < P.length) (hjk : j < k) : P[j].e.day ≤ d := by
  rcases Nat.lt_or_ge j (k - 1) with h1 | h1
  · have := (List.pairwise_iff_getElem.1 hs) j (k - 1) hj (by omega) h1
    have : P[j].e.day ≤ P[k - 1].e.day := this
    omega
  · obtain rfl : j = k - 1 := by omega
    exact h
theorem mem_at {P : List Pkd} {i : Nat} (h : i < P.length) : P[i] ∈ P := List.getElem_mem h
/-! days beyond the last one -/
theorem opt_far {d1 d2 : Int} {r : Rep} {k : Int} (hv : validRep r = true) (h1 : 40000 < d1) (h2 : 40000 < d2) : optAt d1 r k = optAt d2 r k := by
  unfold optAt
  split
  · cases hq : r.options[k.toNat]? with
    | none => rfl
    | some e =>
      have := (validE_day (validRep_e hv e (List.mem_of_getElem? hq))).2
      simp only
      rw [if_pos (by omega), if_pos (by omega)]
  · rfl
theorem pick_far {d1 d2 : Int} {l : List Rep} {ch : List Int} (hv : ∀ r ∈ l, validRep r = true) (h1 : 40000 < d1) (h2 : 40000 < d2) : ∀ n, pickF d1 l ch n = pickF d2 l ch n := by
  intro n
  induction n with
  | zero => rfl
  | succ n ih =>
    rw [pick_succ, pick_succ, ih]
    congr 2
    unfold pkd at2
    cases hl : l[n]? with
    | none => rfl
    | some r =>
      cases ch[n]? with
      | none => rfl
      | some k => simp only [opt_far (d1 := d1) (d2 := d2) (hv r (List.mem_of_getElem? hl)) h1 h2]
theorem follow_far {c : List Kind} {l : List Rep} {ch : List Int} {d1 d2 : Int} (hv : ∀ r ∈ l, validRep r = true) (h1 : 40000 < d1) (h2 : 40000 < d2) : followF c l ch d1 = followF c l ch d2 := by
  rw [followF, followF, pick_far hv h1 h2]
/-- the least day, from a later bound -/
def leastR (l : List Int) : Int := l.foldl (fun a d => if d < a then d else a) 50000
theorem leastR_snoc (l : List Int) (d : Int) : leastR (l ++ [d]) = if d < leastR l then d else leastR l := by
  rw [leastR, List.foldl_append]; rfl
theorem fold_least : ∀ (l : List Int) (a b : Int), a ≤ b → (∀ d ∈ l, d < a) → l ≠ [] → l.foldl (fun a d => if d < a then d else a) a = l.foldl (fun a d => if d < a then d else a) b
  | [], _, _, _, _, h => absurd rfl h
  | x :: r, a, b, hab, h, _ => by
    have := h x (by simp)
    rw [List.foldl_cons, List.foldl_cons, if_pos this, if_pos (by omega)]
theorem follow_least {c : List Kind} {l : List Rep} {ch : List Int} (hl : ch.length = l.length) (hv : ∀ r ∈ l, validRep r = true) : followF c l ch (leastR (openDays l ch l.length)) = followF c l ch (leastF (openDays l ch l.length)) := by
  by_cases h : openDays l ch l.length = []
  · rw [h]; exact follow_far hv (by decide) (by decide)
  · congr 1
    refine (fold_least _ 40001 50000 (by decide) (fun d hd => ?_) h).symm
    obtain ⟨i, h1, _, _, e, he, rfl⟩ := (mem_open hl).1 hd
    have := (validE_day (validRep_e (hv _ (List.getElem_mem h1)) e he)).2
    omega
/-! the answers -/
theorem ref_fails {c : List Kind} {l : List Rep} {ch : List Int} (hg : givF c l = true) (ha : areF l ch = true) : followF c l ch 50000 = failsF c l ch := by
  have h : givenF c l ch 0 = true := by rw [← giv_are, hg, ha]; rfl
  rw [failsF, if_neg (by rw [h]; decide), follow_far (giv_at hg).2 (by decide) (by decide : (40000 : Int) < 40001)]
theorem ref_fails_no {c : List Kind} {l : List Rep} {ch : List Int} (h : (givF c l && areF l ch) = false) : failsF c l ch = (-1, 1) := by
  rw [giv_are] at h
  rw [failsF, if_pos h]
theorem evs_pickE {l : List Rep} {ch : List Int} (ha : areF l ch = true) (hv : ∀ r ∈ l, validRep r = true) : evsTo l ch l.length = pickE 40001 l ch := by
  have hl := are_len ha
  rw [← pickE_eq hl hv]
  have key : ∀ n, n ≤ l.length → evsTo l ch n = (pickF 40001 l ch n).map Pkd.e := by
    intro n
    induction n with
    | zero => intro _; rfl
    | succ n ih =>
      intro hn
      have h1 : n < l.length := by omega
      have h2 : n < ch.length := by omega
      rw [evs_succ, pick_succ, List.map_append, ih (by omega)]
      congr 1
      have h3 := are_at ha h1 h2
      rw [evAt_eq h1 h2, pkd, at2_eq h1 h2]
      cases hq : l[n].options[ch[n].toNat]? with
      | none => simp [optAt, h3, hq]
      | some e =>
        have hd := validE_day (validRep_e (hv _ (List.getElem_mem h1)) e (List.mem_of_getElem? hq))
        simp [optAt, h3, hq, show e.day < 40001 by omega, hd]
  exact key _ (Nat.le_refl _)
theorem ref_is {c : List Kind} {l : List Rep} {ch : List Int} (hg : givF c l = true) (ha : areF l ch = true) : decide ((runF c (pickedF l ch).1).2.2 = 0) = isF c l ch := by
  have h : givenF c l ch 0 = true := by rw [← giv_are, hg, ha]; rfl
  rw [is_ev h, picked_are, if_pos ha, runF, if_neg (by rw [(giv_at hg).1]; decide), ← runs_go, evs_pickE ha (giv_at hg).2]
theorem ref_is_no {c : List Kind} {l : List Rep} {ch : List Int} (h : (givF c l && areF l ch) = false) : isF c l ch = false := by
  rw [giv_are] at h; exact is_no h
theorem ref_false {c : List Kind} {l : List Rep} {ch : List Int} (hg : givF c l = true) (ha : openTF l ch = true) : (!decide ((followF c l ch (leastR (openDays l ch l.length))).2 = 0)) = falseF c l ch := by
  have h : givenF c l ch (-1) = true := by rw [← giv_open, hg, ha]; rfl
  rw [falseF, if_neg (by rw [h]; decide), follow_least (given_all h).1 (giv_at hg).2]
theorem ref_false_no {c : List Kind} {l : List Rep} {ch : List Int} (h : (givF c l && openTF l ch) = false) : falseF c l ch = false := by
  rw [giv_open] at h
  rw [falseF, if_pos h]
theorem evs_sm {l : List Rep} {ch : List Int} {n : Nat} {e : Evt} (hsl : ∀ r ∈ l, ∀ e ∈ r.options, SmE e) (h : e ∈ evsTo l ch n) : SmE e := by
  rw [evsTo, List.mem_filterMap] at h
  obtain ⟨i, _, h⟩ := h
  unfold evAt at2 at h
  split at h
  · rename_i r k h1 h2
    exact hsl r (List.mem_of_getElem? h1) e (List.mem_of_getElem? (by simpa using h))
  · simp at h
end Go.Sx

/- Walks, printed by a program out of the code of the functions: each theorem is a contract of one function. -/
namespace Go.Proofs.YtkmdojpfccjnoaaGreat
open Go Go.Sx
set_option linter.all false
set_option maxRecDepth 20000
set_option maxHeartbeats 4000000
theorem ref13Are (I : IMap) (v : Value) (l : List Rep) (hv : RdS I v l) (hl : l.length ≤ 1000000) (hsl : ∀ r ∈ l, ∀ e ∈ r.options, SmE e) (w : Value) (ch : List Int) (hw : RdS I w ch) :
    FnV Tryz.prog 29 #[v, w] I (.bool (areF l ch)) := by
 obtain ⟨A, c0, rfl, hA, hc, hm⟩ := hv
 obtain ⟨B, c1, rfl, hB, hc1, hm1⟩ := hw
 refine enter Tryz.func29 Tryz.call29 rfl Tryz.ntmps29 rfl (fun w0 => ?_)
 refine go 15 ?_
 refine cb rfl (fun h10 p10 => ?_) (fun h10 p10 => ?_)
 ·refine go 7 ?_
  refine fin1 rfl rfl ?_
  exact q_v (congrArg Value.bool (by simp only [areF, show decide (((l.length : Nat) : Int) = (ch.length : Nat)) = false from by simpa using h10, bS]))
 ·have hle : ((l.length : Nat) : Int) = (ch.length : Nat) := by simpa using h10
  refine go 9 ?_
  refine c_loop (α := Nat) 0 (fun i => I)
   (fun i => [(0, .slice A l.length c0), (1, .slice B ch.length c1), (5, .int .i64 ((i : Nat) : Int))])
   (fun i => [])
   (fun i => i ≤ l.length ∧ allTo okK l ch i = true)
   (fun i => l.length - i) ⟨Nat.zero_le _, rfl⟩ rfl sb rfl ?_
  intro i ⟨hi, hn⟩
  refine go 9 ?_
  refine cb rfl (fun h14 p14 => ?_) (fun h14 p14 => ?_)
  ·have hlt : i < l.length := by omega
   have hlt2 : i < ch.length := by omega
   refine go 5 ?_
   refine d_startH T.mixed ?_
   refine d_tv 0 rfl rfl (by kernel_rfl) rfl .slnil rfl (v_move rfl) ?_
   refine d_tv 1 rfl rfl (by kernel_rfl) rfl .slnil rfl (v_move rfl) ?_
   obtain ⟨b19, o19, w19, e19, c19, r19⟩ := RdA.at_ hB (i := i) (by omega)
   obtain rfl := r19
   refine d_tv 2 rfl rfl (by kernel_rfl) rfl .slnil rfl (v_idx he rfl rfl e19 (i) (by omega) (by omega)) ?_
   refine d_tv 3 rfl rfl (by kernel_rfl) rfl .slnil rfl (v_ldI he rfl (c19 0 _ rfl)) ?_
   refine d_tv 4 rfl rfl (by kernel_rfl) rfl .slnil rfl (v_lss rfl rfl) ?_
   refine d_tv 5 rfl rfl (by kernel_rfl) rfl .slnil rfl (v_move rfl) ?_
   refine sxb 22 rfl (fun h22 p22 => ?_) (fun h22 p22 => ?_)
   ·refine d_t 6 rfl rfl (by kernel_rfl) rfl (fun _ m => m.keeps .slnil) (y_no rfl rfl h22) ?_
    refine d_t 7 rfl rfl (by kernel_rfl) rfl (fun _ m => m.keeps .slnil) (y_no rfl rfl h22) ?_
    refine d_t 8 rfl rfl (by kernel_rfl) rfl (fun _ m => m.keeps .slnil) (y_no rfl rfl h22) ?_
    refine d_t 9 rfl rfl (by kernel_rfl) rfl (fun _ m => m.keeps .slnil) (y_no rfl rfl h22) ?_
    refine d_t 10 rfl rfl (by kernel_rfl) rfl (fun _ m => m.keeps .slnil) (y_no rfl rfl h22) ?_
    refine d_t 11 rfl rfl (by kernel_rfl) rfl (fun _ m => m.keeps .slnil) (y_no rfl rfl h22) ?_
    refine d_t 12 rfl rfl (by kernel_rfl) rfl (fun _ m => m.keeps .slnil) (y_no rfl rfl h22) ?_
    refine d_t 13 rfl rfl (by kernel_rfl) rfl (fun _ m => m.keeps .slnil) (y_no rfl rfl h22) ?_
    refine d_t 14 rfl rfl (by kernel_rfl) rfl (fun _ m => m.keeps .slnil) (y_no rfl rfl h22) ?_
    refine d_t 15 rfl rfl (by kernel_rfl) rfl (fun _ m => m.keeps .slnil) (y_no rfl rfl h22) ?_
    refine d_tv 16 rfl rfl (by kernel_rfl) rfl .slnil rfl (v_or_t h22 rfl) ?_
    refine d_done (by kernel_rfl) ?_
    refine go 1 ?_
    refine c_true rfl ?_
    refine go 11 ?_
    refine fin1 rfl rfl ?_
    exact q_v (congrArg Value.bool (by simp only [areF, allTo_not hlt hlt hlt2 (show okK l[i] ch[i] = false by simp only [okK, h14, h22, bS]), bS]))
   ·refine d_t 6 rfl rfl (by kernel_rfl) rfl (fun _ m => m.keeps .slnil) (y_yes rfl rfl h22 (v_move rfl)) ?_
    refine d_t 7 rfl rfl (by kernel_rfl) rfl (fun _ m => m.keeps .slnil) (y_yes rfl rfl h22 (v_move rfl)) ?_
    obtain ⟨b25, o25, w25, e25, c25, r25⟩ := RdA.at_ hB (i := i) (by omega)
    obtain rfl := r25
    refine d_t 8 rfl rfl (by kernel_rfl) rfl (fun _ m => m.keeps .slnil) (y_yes rfl rfl h22 (v_idx he rfl rfl e25 (i) (by omega) (by omega))) ?_
    refine d_t 9 rfl rfl (by kernel_rfl) rfl (fun _ m => m.keeps .slnil) (y_yes rfl rfl h22 (v_ldI he rfl (c25 0 _ rfl))) ?_
    refine d_t 10 rfl rfl (by kernel_rfl) rfl (fun _ m => m.keeps .slnil) (y_yes rfl rfl h22 (v_move rfl)) ?_
    refine d_t 11 rfl rfl (by kernel_rfl) rfl (fun _ m => m.keeps .slnil) (y_yes rfl rfl h22 (v_move rfl)) ?_
    obtain ⟨b29, o29, w29, e29, c29, r29⟩ := RdA.at_ hA (i := i) (by omega)
    obtain ⟨q29, rfl, S29, d29, rfl, hS29, hd29, hm29⟩ := r29
    refine d_t 12 rfl rfl (by kernel_rfl) rfl (fun _ m => m.keeps .slnil) (y_yes rfl rfl h22 (v_idx he rfl rfl e29 (i) (by omega) (by omega))) ?_
    refine d_t 13 rfl rfl (by kernel_rfl) rfl (fun _ m => m.keeps .slnil) (y_yes rfl rfl h22 (v_ldIa he rfl c29 rfl)) ?_
    refine d_one 14 (by kernel_rfl) rfl ?_
    refine o_yes rfl rfl h22 (o_callV (ref13Choices _ l[i] S29 d29 ⟨_, _, rfl, hS29, hd29, hm29⟩ (hsl _ (List.getElem_mem hlt))) rfl rfl ?_)
    refine d_on (fun _ m => m.keeps .slnil) ?_
    refine d_t 15 rfl rfl (by kernel_rfl) rfl (fun _ m => m.keeps .slnil) (y_yes rfl rfl h22 (v_geq rfl rfl)) ?_
    refine d_tv 16 rfl rfl (by kernel_rfl) rfl .slnil rfl (v_or_f h22 rfl rfl) ?_
    refine d_done (by kernel_rfl) ?_
    refine go 1 ?_
    refine cb rfl (fun h33 p33 => ?_) (fun h33 p33 => ?_)
    ·refine go 11 ?_
     refine fin1 rfl rfl ?_
     exact q_v (congrArg Value.bool (by simp only [areF, allTo_not hlt hlt hlt2 (show okK l[i] ch[i] = false by simp only [okK, h14, h22, h33, bS]), bS]))
    ·refine go 9 ?_
     exact q_next (i + 1) ⟨by omega, allTo_succ hn hlt hlt2 (by simp only [okK, h14, h22, h33, bS])⟩ (by omega) rfl sb rfl
  ·refine go 11 ?_
   refine fin1 rfl rfl ?_
   have e : i = l.length := (by omega)
   subst e
   exact q_v (congrArg Value.bool (by simp only [areF, hn, decide_eq_true hle, bS]))

theorem ref15Open (I : IMap) (v : Value) (l : List Rep) (hv : RdS I v l) (hl : l.length ≤ 1000000) (hsl : ∀ r ∈ l, ∀ e ∈ r.options, SmE e) (w : Value) (ch : List Int) (hw : RdS I w ch) :
    FnV Tryz.prog 35 #[v, w] I (.bool (openTF l ch)) := by
 obtain ⟨A, c0, rfl, hA, hc, hm⟩ := hv
 obtain ⟨B, c1, rfl, hB, hc1, hm1⟩ := hw
 refine enter Tryz.func35 Tryz.call35 rfl Tryz.ntmps35 rfl (fun w0 => ?_)
 refine go 15 ?_
 refine cb rfl (fun h10 p10 => ?_) (fun h10 p10 => ?_)
 ·refine go 7 ?_
  refine fin1 rfl rfl ?_
  exact q_v (congrArg Value.bool (by simp only [openTF, show decide (((ch.length : Nat) : Int) = (l.length : Nat)) = false from by simpa using h10, bS]))
 ·have hle : ((ch.length : Nat) : Int) = (l.length : Nat) := by simpa using h10
  refine go 9 ?_
  refine c_loop (α := Nat) 0 (fun i => I)
   (fun i => [(0, .slice A l.length c0), (1, .slice B ch.length c1), (5, .int .i64 ((i : Nat) : Int))])
   (fun i => [])
   (fun i => i ≤ l.length ∧ allTo openOk l ch i = true)
   (fun i => l.length - i) ⟨Nat.zero_le _, rfl⟩ rfl sb rfl ?_
  intro i ⟨hi, hn⟩
  refine go 9 ?_
  refine cb rfl (fun h14 p14 => ?_) (fun h14 p14 => ?_)
  ·have hlt : i < l.length := by omega
   have hlt2 : i < ch.length := by omega
   refine go 5 ?_
   refine d_startH T.mixed ?_
   refine d_tv 0 rfl rfl (by kernel_rfl) rfl .slnil rfl (v_move rfl) ?_
   refine d_tv 1 rfl rfl (by kernel_rfl) rfl .slnil rfl (v_move rfl) ?_
   obtain ⟨b19, o19, w19, e19, c19, r19⟩ := RdA.at_ hB (i := i) (by omega)
   obtain rfl := r19
   refine d_tv 2 rfl rfl (by kernel_rfl) rfl .slnil rfl (v_idx he rfl rfl e19 (i) (by omega) (by omega)) ?_
   refine d_tv 3 rfl rfl (by kernel_rfl) rfl .slnil rfl (v_ldI he rfl (c19 0 _ rfl)) ?_
   refine d_tv 4 rfl rfl (by kernel_rfl) rfl .slnil rfl (v_lss rfl rfl) ?_
   refine d_tv 5 rfl rfl (by kernel_rfl) rfl .slnil rfl (v_move rfl) ?_
   refine sxb 22 rfl (fun h22 p22 => ?_) (fun h22 p22 => ?_)
   ·refine d_t 6 rfl rfl (by kernel_rfl) rfl (fun _ m => m.keeps .slnil) (y_no rfl rfl h22) ?_
    refine d_t 7 rfl rfl (by kernel_rfl) rfl (fun _ m => m.keeps .slnil) (y_no rfl rfl h22) ?_
    refine d_t 8 rfl rfl (by kernel_rfl) rfl (fun _ m => m.keeps .slnil) (y_no rfl rfl h22) ?_
    refine d_t 9 rfl rfl (by kernel_rfl) rfl (fun _ m => m.keeps .slnil) (y_no rfl rfl h22) ?_
    refine d_t 10 rfl rfl (by kernel_rfl) rfl (fun _ m => m.keeps .slnil) (y_no rfl rfl h22) ?_
    refine d_t 11 rfl rfl (by kernel_rfl) rfl (fun _ m => m.keeps .slnil) (y_no rfl rfl h22) ?_
    refine d_t 12 rfl rfl (by kernel_rfl) rfl (fun _ m => m.keeps .slnil) (y_no rfl rfl h22) ?_
    refine d_t 13 rfl rfl (by kernel_rfl) rfl (fun _ m => m.keeps .slnil) (y_no rfl rfl h22) ?_
    refine d_t 14 rfl rfl (by kernel_rfl) rfl (fun _ m => m.keeps .slnil) (y_no rfl rfl h22) ?_
    refine d_t 15 rfl rfl (by kernel_rfl) rfl (fun _ m => m.keeps .slnil) (y_no rfl rfl h22) ?_
    refine d_tv 16 rfl rfl (by kernel_rfl) rfl .slnil rfl (v_or_t h22 rfl) ?_
    refine d_done (by kernel_rfl) ?_
    refine go 1 ?_
    refine c_true rfl ?_
    refine go 11 ?_
    refine fin1 rfl rfl ?_
    exact q_v (congrArg Value.bool (by simp only [openTF, allTo_not hlt hlt hlt2 (show openOk l[i] ch[i] = false by simp only [openOk, h14, h22, bS]), bS]))
   ·refine d_t 6 rfl rfl (by kernel_rfl) rfl (fun _ m => m.keeps .slnil) (y_yes rfl rfl h22 (v_move rfl)) ?_
    refine d_t 7 rfl rfl (by kernel_rfl) rfl (fun _ m => m.keeps .slnil) (y_yes rfl rfl h22 (v_move rfl)) ?_
    obtain ⟨b25, o25, w25, e25, c25, r25⟩ := RdA.at_ hB (i := i) (by omega)
    obtain rfl := r25
    refine d_t 8 rfl rfl (by kernel_rfl) rfl (fun _ m => m.keeps .slnil) (y_yes rfl rfl h22 (v_idx he rfl rfl e25 (i) (by omega) (by omega))) ?_
    refine d_t 9 rfl rfl (by kernel_rfl) rfl (fun _ m => m.keeps .slnil) (y_yes rfl rfl h22 (v_ldI he rfl (c25 0 _ rfl))) ?_
    refine d_t 10 rfl rfl (by kernel_rfl) rfl (fun _ m => m.keeps .slnil) (y_yes rfl rfl h22 (v_move rfl)) ?_
    refine d_t 11 rfl rfl (by kernel_rfl) rfl (fun _ m => m.keeps .slnil) (y_yes rfl rfl h22 (v_move rfl)) ?_
    obtain ⟨b29, o29, w29, e29, c29, r29⟩ := RdA.at_ hA (i := i) (by omega)
    obtain ⟨q29, rfl, S29, d29, rfl, hS29, hd29, hm29⟩ := r29
    refine d_t 12 rfl rfl (by kernel_rfl) rfl (fun _ m => m.keeps .slnil) (y_yes rfl rfl h22 (v_idx he rfl rfl e29 (i) (by omega) (by omega))) ?_
    refine d_t 13 rfl rfl (by kernel_rfl) rfl (fun _ m => m.keeps .slnil) (y_yes rfl rfl h22 (v_ldIa he rfl c29 rfl)) ?_
    refine d_one 14 (by kernel_rfl) rfl ?_
    refine o_yes rfl rfl h22 (o_callV (ref13Choices _ l[i] S29 d29 ⟨_, _, rfl, hS29, hd29, hm29⟩ (hsl _ (List.getElem_mem hlt))) rfl rfl ?_)
    refine d_on (fun _ m => m.keeps .slnil) ?_
    refine d_t 15 rfl rfl (by kernel_rfl) rfl (fun _ m => m.keeps .slnil) (y_yes rfl rfl h22 (v_geq rfl rfl)) ?_
    refine d_tv 16 rfl rfl (by kernel_rfl) rfl .slnil rfl (v_or_f h22 rfl rfl) ?_
    refine d_done (by kernel_rfl) ?_
    refine go 1 ?_
    refine cb rfl (fun h33 p33 => ?_) (fun h33 p33 => ?_)
    ·refine go 11 ?_
     refine fin1 rfl rfl ?_
     exact q_v (congrArg Value.bool (by simp only [openTF, allTo_not hlt hlt hlt2 (show openOk l[i] ch[i] = false by simp only [openOk, h14, h22, h33, bS]), bS]))
    ·refine go 9 ?_
     exact q_next (i + 1) ⟨by omega, allTo_succ hn hlt hlt2 (by simp only [openOk, h14, h22, h33, bS])⟩ (by omega) rfl sb rfl
  ·refine go 11 ?_
   refine fin1 rfl rfl ?_
   have e : i = l.length := (by omega)
   subst e
   exact q_v (congrArg Value.bool (by simp only [openTF, hn, decide_eq_true hle, bS]))

theorem ref13Picked (I : IMap) (v : Value) (l : List Rep) (hv : RdS I v l) (hl : l.length ≤ 1000000) (hsl : ∀ r ∈ l, ∀ e ∈ r.options, SmE e) (w : Value) (ch : List Int) (hw : RdS I w ch) :
    FnI Tryz.prog 32 #[v, w] I (fun u J => ∃ z, u = .tuple #[z, .int .i64 (pickedF l ch).2] ∧ RdS J z (pickedF l ch).1) := by
 have hv0 := hv
 have hw0 := hw
 obtain ⟨A, c0, rfl, hA, hc, hm⟩ := hv
 obtain ⟨B, c1, rfl, hB, hc1, hm1⟩ := hw
 refine enter Tryz.func32 Tryz.call32 rfl Tryz.ntmps32 rfl (fun w0 => ?_)
 refine go 12 ?_
 refine o_callV (ref13Are _ _ l hv0 hl hsl _ ch hw0) rfl rfl ?_
 refine go 3 ?_
 refine cb rfl (fun h11 p11 => ?_) (fun h11 p11 => ?_)
 ·refine go 8 ?_
  refine fin2 rfl rfl rfl ?_
  have hn : ¬ areF l ch = true := by simpa using h11
  exact q_i ⟨_, by rw [picked_are, if_neg hn], by rw [picked_are, if_neg hn]; exact RdS.nil'⟩
 ·have ha : areF l ch = true := by simpa using h11
  have hle := are_len ha
  refine go 4 ?_
  refine sx_nilrow 53 14 ?_
  refine go 10 ?_
  refine c_loop4 ((0 : Nat)) (_) ([]) ([]) (fun i v6 xs out => I)
   (fun i v6 xs out => [(0, .slice A l.length c0), (1, .slice B ch.length c1), (6, v6), (7, .int .i64 ((i : Nat) : Int))])
   (fun i v6 xs out => [.row v6 53 14 out.length xs])
   (fun i v6 xs out => i ≤ l.length ∧ evsTo l ch i = out ∧ Flat I xs out)
   (fun i v6 xs out => l.length - i) ⟨Nat.zero_le _, rfl, .nil⟩ rfl sb rfl ?_
  intro i v6 xs out ⟨hi, hev, hF⟩
  have hol : out.length ≤ i := by rw [← hev]; exact evs_len _ _ _
  refine go 9 ?_
  refine cb rfl (fun h15 p15 => ?_) (fun h15 p15 => ?_)
  ·have hlt : i < l.length := by omega
   have hlt2 : i < ch.length := by omega
   have hai := are_at ha hlt hlt2
   have hcl := chs_le l[i]
   refine go 5 ?_
   refine d_startH T.mixed ?_
   refine d_tv 0 rfl rfl (by kernel_rfl) rfl (.refl _) rfl (v_move rfl) ?_
   refine d_tv 1 rfl rfl (by kernel_rfl) rfl (.refl _) rfl (v_move rfl) ?_
   obtain ⟨b20, o20, w20, e20, c20, r20⟩ := RdA.at_ hB (i := i) (by omega)
   obtain rfl := r20
   refine d_tv 2 rfl rfl (by kernel_rfl) rfl (.refl _) rfl (v_idx he rfl rfl e20 (i) (by omega) (by omega)) ?_
   refine d_tv 3 rfl rfl (by kernel_rfl) rfl (.refl _) rfl (v_ldI he rfl (c20 0 _ rfl)) ?_
   refine d_tv 4 rfl rfl (by kernel_rfl) rfl (.refl _) rfl (v_move rfl) ?_
   refine d_tv 5 rfl rfl (by kernel_rfl) rfl (.refl _) rfl (v_move rfl) ?_
   obtain ⟨b24, o24, w24, e24, c24, r24⟩ := RdA.at_ hA (i := i) (by omega)
   obtain ⟨q24, rfl, S24, d24, rfl, hS24, hd24, hm24⟩ := r24
   refine d_tv 6 rfl rfl (by kernel_rfl) rfl (.refl _) rfl (v_idx he rfl rfl e24 (i) (by omega) (by omega)) ?_
   refine d_tv 7 rfl rfl (by kernel_rfl) rfl (.refl _) rfl (v_fieldAddr he rfl) ?_
   refine d_tv 8 rfl rfl (by kernel_rfl) rfl (.refl _) rfl (v_ldI he rfl (c24 0 _ rfl)) ?_
   refine d_tv 9 rfl rfl (by kernel_rfl) rfl (.refl _) rfl (v_len_slice he rfl) ?_
   refine d_tv 10 rfl rfl (by kernel_rfl) rfl (.refl _) rfl (v_lss rfl rfl) ?_
   refine d_done (by kernel_rfl) ?_
   refine go 1 ?_
   refine cb rfl (fun h28 p28 => ?_) (fun h28 p28 => ?_)
   ·have hk : ch[i].toNat < l[i].options.length := by omega
    refine d_start1 T.mixed ?_
    refine d_tv 0 rfl rfl (by kernel_rfl) rfl (.cons _ .slnil) rfl (v_move rfl) ?_
    refine d_tv 1 rfl rfl (by kernel_rfl) rfl (.cons _ .slnil) rfl (v_move rfl) ?_
    refine d_tv 2 rfl rfl (by kernel_rfl) rfl (.cons _ .slnil) rfl (v_move rfl) ?_
    obtain ⟨b32, o32, w32, e32, c32, r32⟩ := RdA.at_ hA (i := i) (by omega)
    obtain ⟨q32, rfl, S32, d32, rfl, hS32, hd32, hm32⟩ := r32
    refine d_tv 3 rfl rfl (by kernel_rfl) rfl (.cons _ .slnil) rfl (v_idx he rfl rfl e32 (i) (by omega) (by omega)) ?_
    refine d_tv 4 rfl rfl (by kernel_rfl) rfl (.cons _ .slnil) rfl (v_fieldAddr he rfl) ?_
    refine d_tv 5 rfl rfl (by kernel_rfl) rfl (.cons _ .slnil) rfl (v_ldI he rfl (c32 0 _ rfl)) ?_
    refine d_tv 6 rfl rfl (by kernel_rfl) rfl (.cons _ .slnil) rfl (v_move rfl) ?_
    refine d_tv 7 rfl rfl (by kernel_rfl) rfl (.cons _ .slnil) rfl (v_move rfl) ?_
    obtain ⟨b37, o37, w37, e37, c37, r37⟩ := RdA.at_ hB (i := i) (by omega)
    obtain rfl := r37
    refine d_tv 8 rfl rfl (by kernel_rfl) rfl (.cons _ .slnil) rfl (v_idx he rfl rfl e37 (i) (by omega) (by omega)) ?_
    refine d_tv 9 rfl rfl (by kernel_rfl) rfl (.cons _ .slnil) rfl (v_ldI he rfl (c37 0 _ rfl)) ?_
    obtain ⟨b39, o39, w39, e39, c39, r39⟩ := RdA.at_ hS32 (i := ch[i].toNat) hk
    obtain rfl := r39
    refine d_tv 10 rfl rfl (by kernel_rfl) rfl (.cons _ .slnil) rfl (v_idx he rfl rfl e39 (ch[i].toNat) (by omega) hk) ?_
    refine d_tv 11 rfl rfl (by kernel_rfl) rfl (.cons _ .slnil) rfl (v_ldIa he rfl c39 rfl) ?_
    refine d_one 12 (by kernel_rfl) rfl ?_
    refine o_buildSlice he he rfl rfl rfl rfl rfl rfl rfl (fun v41 => ?_)
    refine d_on (fun _ m => m.keeps (.cons _ (.cons _ .slnil))) ?_
    refine d_one 13 (by kernel_rfl) rfl ?_
    refine bring1 ?_
    refine o_appendO he he rfl rfl rfl rfl rfl (by omega) (by omega) rfl (fun v42 => ?_)
    refine d_on (fun _ m => m.keeps (.cons _ (.cons _ .slnil))) ?_
    refine d_tv 14 rfl rfl (by kernel_rfl) rfl (.cons _ (.cons _ .slnil)) rfl (v_assign rfl) ?_
    refine d_done (by kernel_rfl) ?_
    refine go 8 ?_
    refine bring1 ?_
    refine sx_drop ?_
    exact q_next4 (i + 1) (_) (_) (out ++ [l[i].options[ch[i].toNat]]) ⟨by omega, evs_yes hlt hlt2 hev hk, hF.append (.one rfl)⟩ (by omega) rfl sb (by first | rfl | (simp only [List.length_append, List.length_singleton]; rfl) | simp only [List.length_append, List.length_singleton])
   ·refine go 9 ?_
    exact q_next4 (i + 1) (_) (_) (out) ⟨by omega, evs_no hlt hlt2 hev (by omega), hF⟩ (by omega) rfl sb (by first | rfl | (simp only [List.length_append, List.length_singleton]; rfl) | simp only [List.length_append, List.length_singleton])
  ·refine go 7 ?_
   obtain rfl : i = l.length := by omega
   refine sx_pubrow (l := out) rfl rfl (hF) (fun Ip jp Rp => ?_)
   refine go 6 ?_
   refine fin2 rfl rfl rfl ?_
   exact q_i ⟨_, by rw [picked_are, if_pos ha], by rw [picked_are, if_pos ha, hev]; exact Rp⟩

theorem ref15Order (I : IMap) (v : Value) (l : List Rep) (hv : RdS I v l) (hl : l.length ≤ 1000000) (hsl : ∀ r ∈ l, ∀ e ∈ r.options, SmE e) (hgd : ∀ r ∈ l, validRep r = true) (w : Value) (ch : List Int) (hw : RdS I w ch) (hlc : ch.length = l.length) (day : Int) :
    FnI Tryz.prog 31 #[v, w, .int .i64 day] I (fun u J => RdS J u (ordI day l ch l.length)) := by
 obtain ⟨A, c0, rfl, hA, hc, hm⟩ := hv
 obtain ⟨B, c1, rfl, hB, hc1, hm1⟩ := hw
 refine enter Tryz.func31 Tryz.call31 rfl Tryz.ntmps31 rfl (fun w0 => ?_)
 refine go 17 ?_
 refine c_loop3 ((0 : Nat)) (.slice none 0 0) (I) (fun i v7 J => J)
  (fun i v7 J => [(0, .slice A l.length c0), (1, .slice B ch.length c1), (2, .int .i64 day), (7, v7), (8, .int .i64 ((i : Nat) : Int))])
  (fun i v7 J => [])
  (fun i v7 J => i ≤ l.length ∧ ILe I J ∧ RdS J v7 (ordI day l ch i))
  (fun i v7 J => l.length - i) ⟨Nat.zero_le _, ILe.refl _, RdS.nil'⟩ rfl sb rfl ?_
 intro i v7 J ⟨hi, hJ, hv7⟩
 have hA := hA.le hJ
 have hB := hB.le hJ
 obtain ⟨P, hP⟩ : ∃ P, sortF (pickF day l ch i) = P := ⟨_, rfl⟩
 have hpl : P.length ≤ i := by rw [← hP, sortF_len]; exact pick_len _ _ _ _
 have hinv : ∀ p ∈ P, Pin l ch p := fun p hp => pick_inv (by rw [hP]; exact hp)
 have hps : Srtd P := hP ▸ sortF_srt _
 rw [ordI, hP] at hv7
 have hml : (P.map Pkd.rep).length = P.length := List.length_map _
 obtain ⟨C7, c7, rfl, hC7, hc7, hm7⟩ := id hv7
 refine go 9 ?_
 refine cb rfl (fun h13 p13 => ?_) (fun h13 p13 => ?_)
 ·have hlt : i < l.length := by omega
  have hlt2 : i < ch.length := by omega
  refine go 6 ?_
  refine d_startH T.mixed ?_
  refine d_tv 0 rfl rfl (by kernel_rfl) rfl .slnil rfl (v_move rfl) ?_
  refine d_tv 1 rfl rfl (by kernel_rfl) rfl .slnil rfl (v_move rfl) ?_
  obtain ⟨b18, o18, w18, e18, c18, r18⟩ := RdA.at_ hB (i := i) (by omega)
  obtain rfl := r18
  refine d_tv 2 rfl rfl (by kernel_rfl) rfl .slnil rfl (v_idx he rfl rfl e18 (i) (by omega) (by omega)) ?_
  refine d_tv 3 rfl rfl (by kernel_rfl) rfl .slnil rfl (v_ldI he rfl (c18 0 _ rfl)) ?_
  refine d_tv 4 rfl rfl (by kernel_rfl) rfl .slnil rfl (v_lss rfl rfl) ?_
  refine d_tv 5 rfl rfl (by kernel_rfl) rfl .slnil rfl (v_move rfl) ?_
  refine sxb 21 rfl (fun h21 p21 => ?_) (fun h21 p21 => ?_)
  ·refine d_t 6 rfl rfl (by kernel_rfl) rfl (fun _ m => m.keeps .slnil) (y_no rfl rfl h21) ?_
   refine d_t 7 rfl rfl (by kernel_rfl) rfl (fun _ m => m.keeps .slnil) (y_no rfl rfl h21) ?_
   refine d_t 8 rfl rfl (by kernel_rfl) rfl (fun _ m => m.keeps .slnil) (y_no rfl rfl h21) ?_
   refine d_t 9 rfl rfl (by kernel_rfl) rfl (fun _ m => m.keeps .slnil) (y_no rfl rfl h21) ?_
   refine d_t 10 rfl rfl (by kernel_rfl) rfl (fun _ m => m.keeps .slnil) (y_no rfl rfl h21) ?_
   refine d_t 11 rfl rfl (by kernel_rfl) rfl (fun _ m => m.keeps .slnil) (y_no rfl rfl h21) ?_
   refine d_t 12 rfl rfl (by kernel_rfl) rfl (fun _ m => m.keeps .slnil) (y_no rfl rfl h21) ?_
   refine d_t 13 rfl rfl (by kernel_rfl) rfl (fun _ m => m.keeps .slnil) (y_no rfl rfl h21) ?_
   refine d_t 14 rfl rfl (by kernel_rfl) rfl (fun _ m => m.keeps .slnil) (y_no rfl rfl h21) ?_
   refine d_t 15 rfl rfl (by kernel_rfl) rfl (fun _ m => m.keeps .slnil) (y_no rfl rfl h21) ?_
   refine d_t 16 rfl rfl (by kernel_rfl) rfl (fun _ m => m.keeps .slnil) (y_no rfl rfl h21) ?_
   refine d_tv 17 rfl rfl (by kernel_rfl) rfl .slnil rfl (v_or_t h21 rfl) ?_
   refine d_tv 18 rfl rfl (by kernel_rfl) rfl .slnil rfl (v_move rfl) ?_
   refine d_t 19 rfl rfl (by kernel_rfl) rfl (fun _ m => m.keeps .slnil) (y_no rfl rfl rfl) ?_
   refine d_t 20 rfl rfl (by kernel_rfl) rfl (fun _ m => m.keeps .slnil) (y_no rfl rfl rfl) ?_
   refine d_t 21 rfl rfl (by kernel_rfl) rfl (fun _ m => m.keeps .slnil) (y_no rfl rfl rfl) ?_
   refine d_t 22 rfl rfl (by kernel_rfl) rfl (fun _ m => m.keeps .slnil) (y_no rfl rfl rfl) ?_
   refine d_t 23 rfl rfl (by kernel_rfl) rfl (fun _ m => m.keeps .slnil) (y_no rfl rfl rfl) ?_
   refine d_t 24 rfl rfl (by kernel_rfl) rfl (fun _ m => m.keeps .slnil) (y_no rfl rfl rfl) ?_
   refine d_t 25 rfl rfl (by kernel_rfl) rfl (fun _ m => m.keeps .slnil) (y_no rfl rfl rfl) ?_
   refine d_t 26 rfl rfl (by kernel_rfl) rfl (fun _ m => m.keeps .slnil) (y_no rfl rfl rfl) ?_
   refine d_t 27 rfl rfl (by kernel_rfl) rfl (fun _ m => m.keeps .slnil) (y_no rfl rfl rfl) ?_
   refine d_t 28 rfl rfl (by kernel_rfl) rfl (fun _ m => m.keeps .slnil) (y_no rfl rfl rfl) ?_
   refine d_t 29 rfl rfl (by kernel_rfl) rfl (fun _ m => m.keeps .slnil) (y_no rfl rfl rfl) ?_
   refine d_t 30 rfl rfl (by kernel_rfl) rfl (fun _ m => m.keeps .slnil) (y_no rfl rfl rfl) ?_
   refine d_t 31 rfl rfl (by kernel_rfl) rfl (fun _ m => m.keeps .slnil) (y_no rfl rfl rfl) ?_
   refine d_t 32 rfl rfl (by kernel_rfl) rfl (fun _ m => m.keeps .slnil) (y_no rfl rfl rfl) ?_
   refine d_tv 33 rfl rfl (by kernel_rfl) rfl .slnil rfl (v_or_t rfl rfl) ?_
   refine d_done (by kernel_rfl) ?_
   refine go 1 ?_
   refine c_true rfl ?_
   refine go 10 ?_
   exact q_next3 (i + 1) (_) (J) ⟨by omega, hJ, by rw [ord_no hP (pk_neg hlt hlt2 rfl (by omega))]; exact hv7⟩ (by omega) rfl sb rfl
  ·refine d_t 6 rfl rfl (by kernel_rfl) rfl (fun _ m => m.keeps .slnil) (y_yes rfl rfl h21 (v_move rfl)) ?_
   refine d_t 7 rfl rfl (by kernel_rfl) rfl (fun _ m => m.keeps .slnil) (y_yes rfl rfl h21 (v_move rfl)) ?_
   obtain ⟨b24, o24, w24, e24, c24, r24⟩ := RdA.at_ hB (i := i) (by omega)
   obtain rfl := r24
   refine d_t 8 rfl rfl (by kernel_rfl) rfl (fun _ m => m.keeps .slnil) (y_yes rfl rfl h21 (v_idx he rfl rfl e24 (i) (by omega) (by omega))) ?_
   refine d_t 9 rfl rfl (by kernel_rfl) rfl (fun _ m => m.keeps .slnil) (y_yes rfl rfl h21 (v_ldI he rfl (c24 0 _ rfl))) ?_
   refine d_t 10 rfl rfl (by kernel_rfl) rfl (fun _ m => m.keeps .slnil) (y_yes rfl rfl h21 (v_move rfl)) ?_
   refine d_t 11 rfl rfl (by kernel_rfl) rfl (fun _ m => m.keeps .slnil) (y_yes rfl rfl h21 (v_move rfl)) ?_
   obtain ⟨b28, o28, w28, e28, c28, r28⟩ := RdA.at_ hA (i := i) (by omega)
   obtain ⟨q28, rfl, S28, d28, rfl, hS28, hd28, hm28⟩ := r28
   refine d_t 12 rfl rfl (by kernel_rfl) rfl (fun _ m => m.keeps .slnil) (y_yes rfl rfl h21 (v_idx he rfl rfl e28 (i) (by omega) (by omega))) ?_
   refine d_t 13 rfl rfl (by kernel_rfl) rfl (fun _ m => m.keeps .slnil) (y_yes rfl rfl h21 (v_fieldAddr he rfl)) ?_
   refine d_t 14 rfl rfl (by kernel_rfl) rfl (fun _ m => m.keeps .slnil) (y_yes rfl rfl h21 (v_ldI he rfl (c28 0 _ rfl))) ?_
   refine d_t 15 rfl rfl (by kernel_rfl) rfl (fun _ m => m.keeps .slnil) (y_yes rfl rfl h21 (v_len_slice he rfl)) ?_
   refine d_t 16 rfl rfl (by kernel_rfl) rfl (fun _ m => m.keeps .slnil) (y_yes rfl rfl h21 (v_geq rfl rfl)) ?_
   refine d_tv 17 rfl rfl (by kernel_rfl) rfl .slnil rfl (v_or_f h21 rfl rfl) ?_
   refine d_tv 18 rfl rfl (by kernel_rfl) rfl .slnil rfl (v_move rfl) ?_
   refine sxb 34 rfl (fun h34 p34 => ?_) (fun h34 p34 => ?_)
   ·refine d_t 19 rfl rfl (by kernel_rfl) rfl (fun _ m => m.keeps .slnil) (y_no rfl rfl h34) ?_
    refine d_t 20 rfl rfl (by kernel_rfl) rfl (fun _ m => m.keeps .slnil) (y_no rfl rfl h34) ?_
    refine d_t 21 rfl rfl (by kernel_rfl) rfl (fun _ m => m.keeps .slnil) (y_no rfl rfl h34) ?_
    refine d_t 22 rfl rfl (by kernel_rfl) rfl (fun _ m => m.keeps .slnil) (y_no rfl rfl h34) ?_
    refine d_t 23 rfl rfl (by kernel_rfl) rfl (fun _ m => m.keeps .slnil) (y_no rfl rfl h34) ?_
    refine d_t 24 rfl rfl (by kernel_rfl) rfl (fun _ m => m.keeps .slnil) (y_no rfl rfl h34) ?_
    refine d_t 25 rfl rfl (by kernel_rfl) rfl (fun _ m => m.keeps .slnil) (y_no rfl rfl h34) ?_
    refine d_t 26 rfl rfl (by kernel_rfl) rfl (fun _ m => m.keeps .slnil) (y_no rfl rfl h34) ?_
    refine d_t 27 rfl rfl (by kernel_rfl) rfl (fun _ m => m.keeps .slnil) (y_no rfl rfl h34) ?_
    refine d_t 28 rfl rfl (by kernel_rfl) rfl (fun _ m => m.keeps .slnil) (y_no rfl rfl h34) ?_
    refine d_t 29 rfl rfl (by kernel_rfl) rfl (fun _ m => m.keeps .slnil) (y_no rfl rfl h34) ?_
    refine d_t 30 rfl rfl (by kernel_rfl) rfl (fun _ m => m.keeps .slnil) (y_no rfl rfl h34) ?_
    refine d_t 31 rfl rfl (by kernel_rfl) rfl (fun _ m => m.keeps .slnil) (y_no rfl rfl h34) ?_
    refine d_t 32 rfl rfl (by kernel_rfl) rfl (fun _ m => m.keeps .slnil) (y_no rfl rfl h34) ?_
    refine d_tv 33 rfl rfl (by kernel_rfl) rfl .slnil rfl (v_or_t h34 rfl) ?_
    refine d_done (by kernel_rfl) ?_
    refine go 1 ?_
    refine c_true rfl ?_
    refine go 10 ?_
    exact q_next3 (i + 1) (_) (J) ⟨by omega, hJ, by rw [ord_no hP (pk_big hlt hlt2 rfl (by omega))]; exact hv7⟩ (by omega) rfl sb rfl
   ·have hki : ch[i].toNat < l[i].options.length := by omega
    have h0i : 0 ≤ ch[i] := by omega
    refine d_t 19 rfl rfl (by kernel_rfl) rfl (fun _ m => m.keeps .slnil) (y_yes rfl rfl h34 (v_move rfl)) ?_
    refine d_t 20 rfl rfl (by kernel_rfl) rfl (fun _ m => m.keeps .slnil) (y_yes rfl rfl h34 (v_move rfl)) ?_
    obtain ⟨b37, o37, w37, e37, c37, r37⟩ := RdA.at_ hA (i := i) (by omega)
    obtain ⟨q37, rfl, S37, d37, rfl, hS37, hd37, hm37⟩ := r37
    refine d_t 21 rfl rfl (by kernel_rfl) rfl (fun _ m => m.keeps .slnil) (y_yes rfl rfl h34 (v_idx he rfl rfl e37 (i) (by omega) (by omega))) ?_
    refine d_t 22 rfl rfl (by kernel_rfl) rfl (fun _ m => m.keeps .slnil) (y_yes rfl rfl h34 (v_fieldAddr he rfl)) ?_
    refine d_t 23 rfl rfl (by kernel_rfl) rfl (fun _ m => m.keeps .slnil) (y_yes rfl rfl h34 (v_ldI he rfl (c37 0 _ rfl))) ?_
    refine d_t 24 rfl rfl (by kernel_rfl) rfl (fun _ m => m.keeps .slnil) (y_yes rfl rfl h34 (v_move rfl)) ?_
    refine d_t 25 rfl rfl (by kernel_rfl) rfl (fun _ m => m.keeps .slnil) (y_yes rfl rfl h34 (v_move rfl)) ?_
    obtain ⟨b42, o42, w42, e42, c42, r42⟩ := RdA.at_ hB (i := i) (by omega)
    obtain rfl := r42
    refine d_t 26 rfl rfl (by kernel_rfl) rfl (fun _ m => m.keeps .slnil) (y_yes rfl rfl h34 (v_idx he rfl rfl e42 (i) (by omega) (by omega))) ?_
    refine d_t 27 rfl rfl (by kernel_rfl) rfl (fun _ m => m.keeps .slnil) (y_yes rfl rfl h34 (v_ldI he rfl (c42 0 _ rfl))) ?_
    obtain ⟨b44, o44, w44, e44, c44, r44⟩ := RdA.at_ hS37 (i := ch[i].toNat) hki
    obtain rfl := r44
    refine d_t 28 rfl rfl (by kernel_rfl) rfl (fun _ m => m.keeps .slnil) (y_yes rfl rfl h34 (v_idx he rfl rfl e44 (ch[i].toNat) (by omega) hki)) ?_
    refine d_t 29 rfl rfl (by kernel_rfl) rfl (fun _ m => m.keeps .slnil) (y_yes rfl rfl h34 (v_fieldAddr he rfl)) ?_
    refine d_t 30 rfl rfl (by kernel_rfl) rfl (fun _ m => m.keeps .slnil) (y_yes rfl rfl h34 (v_ldI he rfl (c44 1 _ rfl))) ?_
    refine d_t 31 rfl rfl (by kernel_rfl) rfl (fun _ m => m.keeps .slnil) (y_yes rfl rfl h34 (v_move rfl)) ?_
    refine d_t 32 rfl rfl (by kernel_rfl) rfl (fun _ m => m.keeps .slnil) (y_yes rfl rfl h34 (v_geq rfl rfl)) ?_
    refine d_tv 33 rfl rfl (by kernel_rfl) rfl .slnil rfl (v_or_f h34 rfl rfl) ?_
    refine d_done (by kernel_rfl) ?_
    refine go 1 ?_
    refine cb rfl (fun h49 p49 => ?_) (fun h49 p49 => ?_)
    ·refine go 10 ?_
     exact q_next3 (i + 1) (_) (J) ⟨by omega, hJ, by rw [ord_no hP (pk_late hlt hlt2 rfl hki (by omega))]; exact hv7⟩ (by omega) rfl sb rfl
    ·have hdv := validE_day (validRep_e (hgd _ (List.getElem_mem hlt)) _ (List.getElem_mem hki))
     have hdy : l[i].options[ch[i].toNat].day < day := by omega
     refine go 5 ?_
     refine o_v rfl (OV.cast (u := .int .i64 ((P.length : Nat) : Int)) (v_len_slice he rfl) (congrArg (Value.int .i64) (by rw [List.length_map]))) ?_
     refine go 4 ?_
     refine c_cutx (α := Nat) (Ix := (fun k => J)) (Lx := (fun k => [(0, .slice A l.length c0), (1, .slice B ch.length c1), (2, .int .i64 day), (7, .slice C7 (P.map Pkd.rep).length c7), (8, .int .i64 ((i : Nat) : Int)), (9, .int .i64 ((k : Nat) : Int))])) (Hx := (fun k => [])) (p := (fun k => k ≤ P.length ∧ (∀ j (h : j < P.length), k ≤ j → l[i].options[ch[i].toNat].day < P[j].e.day) ∧ (∀ j (h : j < P.length), j < k → P[j].e.day ≤ l[i].options[ch[i].toNat].day))) ?_ ?_
     ·refine go 1 ?_
      refine c_loop (α := Nat) (P.length) (fun k => J)
       (fun k => [(0, .slice A l.length c0), (1, .slice B ch.length c1), (2, .int .i64 day), (7, .slice C7 (P.map Pkd.rep).length c7), (8, .int .i64 ((i : Nat) : Int)), (9, .int .i64 ((k : Nat) : Int))])
       (fun k => [])
       (fun k => k ≤ P.length ∧ (∀ j (h : j < P.length), k ≤ j → l[i].options[ch[i].toNat].day < P[j].e.day))
       (fun k => k) ⟨Nat.le_refl _, fun j h h2 => absurd h (by omega)⟩ rfl sb rfl ?_
      intro k ⟨hk, hgt⟩
      refine go 2 ?_
      refine d_startH T.mixed ?_
      refine d_tv 0 rfl rfl (by kernel_rfl) rfl .slnil rfl (v_move rfl) ?_
      refine d_tv 1 rfl rfl (by kernel_rfl) rfl .slnil rfl (v_gtr rfl rfl) ?_
      refine d_tv 2 rfl rfl (by kernel_rfl) rfl .slnil rfl (v_move rfl) ?_
      refine sxb 54 rfl (fun h54 p54 => ?_) (fun h54 p54 => ?_)
      ·have hk0 : 0 < k := by omega
       have hkm : k - 1 < P.length := by omega
       obtain ⟨q, hq1, hq2, hq3, hq0, hq4, hq5⟩ := hinv _ (List.getElem_mem hkm)
       refine d_t 3 rfl rfl (by kernel_rfl) rfl (fun _ m => m.keeps .slnil) (y_yes rfl rfl h54 (v_move rfl)) ?_
       refine d_t 4 rfl rfl (by kernel_rfl) rfl (fun _ m => m.keeps .slnil) (y_yes rfl rfl h54 (v_move rfl)) ?_
       refine d_t 5 rfl rfl (by kernel_rfl) rfl (fun _ m => m.keeps .slnil) (y_yes rfl rfl h54 (v_move rfl)) ?_
       refine d_t 6 rfl rfl (by kernel_rfl) rfl (fun _ m => m.keeps .slnil) (y_yes rfl rfl h54 (OV.cast (u := .int .i64 ((k - 1 : Nat) : Int)) (v_sub rfl rfl ⟨by omega, by omega⟩) (congrArg (Value.int .i64) (by omega)))) ?_
       obtain ⟨b59, o59, w59, e59, c59, r59⟩ := RdA.at_ hC7 (i := k - 1) (by rw [List.length_map]; exact hkm)
       obtain rfl := r59
       refine d_t 7 rfl rfl (by kernel_rfl) rfl (fun _ m => m.keeps .slnil) (y_yes rfl rfl h54 (v_idx he rfl rfl e59 (k - 1) (by omega) (by rw [List.length_map]; exact hkm))) ?_
       refine d_t 8 rfl rfl (by kernel_rfl) rfl (fun _ m => m.keeps .slnil) (y_yes rfl rfl h54 (OV.cast (u := .int .i64 ((q : Nat) : Int)) (v_ldI he rfl (c59 0 _ rfl)) (congrArg (Value.int .i64) (by rw [List.getElem_map]; exact hq5)))) ?_
       obtain ⟨b61, o61, w61, e61, c61, r61⟩ := RdA.at_ hA (i := q) (by omega)
       obtain ⟨q61, rfl, S61, d61, rfl, hS61, hd61, hm61⟩ := r61
       refine d_t 9 rfl rfl (by kernel_rfl) rfl (fun _ m => m.keeps .slnil) (y_yes rfl rfl h54 (v_idx he rfl rfl e61 (q) (by omega) (by omega))) ?_
       refine d_t 10 rfl rfl (by kernel_rfl) rfl (fun _ m => m.keeps .slnil) (y_yes rfl rfl h54 (v_fieldAddr he rfl)) ?_
       refine d_t 11 rfl rfl (by kernel_rfl) rfl (fun _ m => m.keeps .slnil) (y_yes rfl rfl h54 (v_ldI he rfl (c61 0 _ rfl))) ?_
       refine d_t 12 rfl rfl (by kernel_rfl) rfl (fun _ m => m.keeps .slnil) (y_yes rfl rfl h54 (v_move rfl)) ?_
       refine d_t 13 rfl rfl (by kernel_rfl) rfl (fun _ m => m.keeps .slnil) (y_yes rfl rfl h54 (v_move rfl)) ?_
       refine d_t 14 rfl rfl (by kernel_rfl) rfl (fun _ m => m.keeps .slnil) (y_yes rfl rfl h54 (v_move rfl)) ?_
       refine d_t 15 rfl rfl (by kernel_rfl) rfl (fun _ m => m.keeps .slnil) (y_yes rfl rfl h54 (OV.cast (u := .int .i64 ((k - 1 : Nat) : Int)) (v_sub rfl rfl ⟨by omega, by omega⟩) (congrArg (Value.int .i64) (by omega)))) ?_
       obtain ⟨b68, o68, w68, e68, c68, r68⟩ := RdA.at_ hC7 (i := k - 1) (by rw [List.length_map]; exact hkm)
       obtain rfl := r68
       refine d_t 16 rfl rfl (by kernel_rfl) rfl (fun _ m => m.keeps .slnil) (y_yes rfl rfl h54 (v_idx he rfl rfl e68 (k - 1) (by omega) (by rw [List.length_map]; exact hkm))) ?_
       refine d_t 17 rfl rfl (by kernel_rfl) rfl (fun _ m => m.keeps .slnil) (y_yes rfl rfl h54 (OV.cast (u := .int .i64 ((q : Nat) : Int)) (v_ldI he rfl (c68 0 _ rfl)) (congrArg (Value.int .i64) (by rw [List.getElem_map]; exact hq5)))) ?_
       obtain ⟨b70, o70, w70, e70, c70, r70⟩ := RdA.at_ hB (i := q) (by omega)
       obtain rfl := r70
       refine d_t 18 rfl rfl (by kernel_rfl) rfl (fun _ m => m.keeps .slnil) (y_yes rfl rfl h54 (v_idx he rfl rfl e70 (q) (by omega) (by omega))) ?_
       refine d_t 19 rfl rfl (by kernel_rfl) rfl (fun _ m => m.keeps .slnil) (y_yes rfl rfl h54 (v_ldI he rfl (c70 0 _ rfl))) ?_
       obtain ⟨b72, o72, w72, e72, c72, r72⟩ := RdA.at_ hS61 (i := ch[q].toNat) hq3
       obtain rfl := r72
       refine d_t 20 rfl rfl (by kernel_rfl) rfl (fun _ m => m.keeps .slnil) (y_yes rfl rfl h54 (v_idx he rfl rfl e72 (ch[q].toNat) (by omega) hq3)) ?_
       refine d_t 21 rfl rfl (by kernel_rfl) rfl (fun _ m => m.keeps .slnil) (y_yes rfl rfl h54 (v_fieldAddr he rfl)) ?_
       refine d_t 22 rfl rfl (by kernel_rfl) rfl (fun _ m => m.keeps .slnil) (y_yes rfl rfl h54 (OV.cast (u := .int .i64 (P[k - 1].e.day)) (v_ldI he rfl (c72 1 _ rfl)) (congrArg (Value.int .i64) (by rw [← hq4])))) ?_
       refine d_t 23 rfl rfl (by kernel_rfl) rfl (fun _ m => m.keeps .slnil) (y_yes rfl rfl h54 (v_move rfl)) ?_
       refine d_t 24 rfl rfl (by kernel_rfl) rfl (fun _ m => m.keeps .slnil) (y_yes rfl rfl h54 (v_move rfl)) ?_
       obtain ⟨b77, o77, w77, e77, c77, r77⟩ := RdA.at_ hA (i := i) (by omega)
       obtain ⟨q77, rfl, S77, d77, rfl, hS77, hd77, hm77⟩ := r77
       refine d_t 25 rfl rfl (by kernel_rfl) rfl (fun _ m => m.keeps .slnil) (y_yes rfl rfl h54 (v_idx he rfl rfl e77 (i) (by omega) (by omega))) ?_
       refine d_t 26 rfl rfl (by kernel_rfl) rfl (fun _ m => m.keeps .slnil) (y_yes rfl rfl h54 (v_fieldAddr he rfl)) ?_
       refine d_t 27 rfl rfl (by kernel_rfl) rfl (fun _ m => m.keeps .slnil) (y_yes rfl rfl h54 (v_ldI he rfl (c77 0 _ rfl))) ?_
       refine d_t 28 rfl rfl (by kernel_rfl) rfl (fun _ m => m.keeps .slnil) (y_yes rfl rfl h54 (v_move rfl)) ?_
       refine d_t 29 rfl rfl (by kernel_rfl) rfl (fun _ m => m.keeps .slnil) (y_yes rfl rfl h54 (v_move rfl)) ?_
       obtain ⟨b82, o82, w82, e82, c82, r82⟩ := RdA.at_ hB (i := i) (by omega)
       obtain rfl := r82
       refine d_t 30 rfl rfl (by kernel_rfl) rfl (fun _ m => m.keeps .slnil) (y_yes rfl rfl h54 (v_idx he rfl rfl e82 (i) (by omega) (by omega))) ?_
       refine d_t 31 rfl rfl (by kernel_rfl) rfl (fun _ m => m.keeps .slnil) (y_yes rfl rfl h54 (v_ldI he rfl (c82 0 _ rfl))) ?_
       obtain ⟨b84, o84, w84, e84, c84, r84⟩ := RdA.at_ hS77 (i := ch[i].toNat) hki
       obtain rfl := r84
       refine d_t 32 rfl rfl (by kernel_rfl) rfl (fun _ m => m.keeps .slnil) (y_yes rfl rfl h54 (v_idx he rfl rfl e84 (ch[i].toNat) (by omega) hki)) ?_
       refine d_t 33 rfl rfl (by kernel_rfl) rfl (fun _ m => m.keeps .slnil) (y_yes rfl rfl h54 (v_fieldAddr he rfl)) ?_
       refine d_t 34 rfl rfl (by kernel_rfl) rfl (fun _ m => m.keeps .slnil) (y_yes rfl rfl h54 (v_ldI he rfl (c84 1 _ rfl))) ?_
       refine d_t 35 rfl rfl (by kernel_rfl) rfl (fun _ m => m.keeps .slnil) (y_yes rfl rfl h54 (v_gtr rfl rfl)) ?_
       refine d_tv 36 rfl rfl (by kernel_rfl) rfl .slnil rfl (v_and_t h54 rfl rfl) ?_
       refine d_done (by kernel_rfl) ?_
       refine go 1 ?_
       refine cb rfl (fun h88 p88 => ?_) (fun h88 p88 => ?_)
       ·refine go 5 ?_
        refine o_v rfl (OV.cast (u := .int .i64 ((k - 1 : Nat) : Int)) (v_sub rfl rfl ⟨by omega, by omega⟩) (congrArg (Value.int .i64) (by omega))) ?_
        refine go 4 ?_
        exact q_next (k - 1) ⟨by omega, fun j h h2 => by
          rcases Nat.lt_or_ge j k with h3 | h3
          · obtain rfl : j = k - 1 := by omega
            exact p88
          · exact hgt j h h3⟩ (by omega) rfl sb rfl
       ·refine go 5 ?_
        exact q_cutx k ⟨hk, hgt, srt_down hps (by omega) hk (by omega)⟩ sb rfl rfl
      ·refine d_t 3 rfl rfl (by kernel_rfl) rfl (fun _ m => m.keeps .slnil) (y_no rfl rfl h54) ?_
       refine d_t 4 rfl rfl (by kernel_rfl) rfl (fun _ m => m.keeps .slnil) (y_no rfl rfl h54) ?_
       refine d_t 5 rfl rfl (by kernel_rfl) rfl (fun _ m => m.keeps .slnil) (y_no rfl rfl h54) ?_
       refine d_t 6 rfl rfl (by kernel_rfl) rfl (fun _ m => m.keeps .slnil) (y_no rfl rfl h54) ?_
       refine d_t 7 rfl rfl (by kernel_rfl) rfl (fun _ m => m.keeps .slnil) (y_no rfl rfl h54) ?_
       refine d_t 8 rfl rfl (by kernel_rfl) rfl (fun _ m => m.keeps .slnil) (y_no rfl rfl h54) ?_
       refine d_t 9 rfl rfl (by kernel_rfl) rfl (fun _ m => m.keeps .slnil) (y_no rfl rfl h54) ?_
       refine d_t 10 rfl rfl (by kernel_rfl) rfl (fun _ m => m.keeps .slnil) (y_no rfl rfl h54) ?_
       refine d_t 11 rfl rfl (by kernel_rfl) rfl (fun _ m => m.keeps .slnil) (y_no rfl rfl h54) ?_
       refine d_t 12 rfl rfl (by kernel_rfl) rfl (fun _ m => m.keeps .slnil) (y_no rfl rfl h54) ?_
       refine d_t 13 rfl rfl (by kernel_rfl) rfl (fun _ m => m.keeps .slnil) (y_no rfl rfl h54) ?_
       refine d_t 14 rfl rfl (by kernel_rfl) rfl (fun _ m => m.keeps .slnil) (y_no rfl rfl h54) ?_
       refine d_t 15 rfl rfl (by kernel_rfl) rfl (fun _ m => m.keeps .slnil) (y_no rfl rfl h54) ?_
       refine d_t 16 rfl rfl (by kernel_rfl) rfl (fun _ m => m.keeps .slnil) (y_no rfl rfl h54) ?_
       refine d_t 17 rfl rfl (by kernel_rfl) rfl (fun _ m => m.keeps .slnil) (y_no rfl rfl h54) ?_
       refine d_t 18 rfl rfl (by kernel_rfl) rfl (fun _ m => m.keeps .slnil) (y_no rfl rfl h54) ?_
       refine d_t 19 rfl rfl (by kernel_rfl) rfl (fun _ m => m.keeps .slnil) (y_no rfl rfl h54) ?_
       refine d_t 20 rfl rfl (by kernel_rfl) rfl (fun _ m => m.keeps .slnil) (y_no rfl rfl h54) ?_
       refine d_t 21 rfl rfl (by kernel_rfl) rfl (fun _ m => m.keeps .slnil) (y_no rfl rfl h54) ?_
       refine d_t 22 rfl rfl (by kernel_rfl) rfl (fun _ m => m.keeps .slnil) (y_no rfl rfl h54) ?_
       refine d_t 23 rfl rfl (by kernel_rfl) rfl (fun _ m => m.keeps .slnil) (y_no rfl rfl h54) ?_
       refine d_t 24 rfl rfl (by kernel_rfl) rfl (fun _ m => m.keeps .slnil) (y_no rfl rfl h54) ?_
       refine d_t 25 rfl rfl (by kernel_rfl) rfl (fun _ m => m.keeps .slnil) (y_no rfl rfl h54) ?_
       refine d_t 26 rfl rfl (by kernel_rfl) rfl (fun _ m => m.keeps .slnil) (y_no rfl rfl h54) ?_
       refine d_t 27 rfl rfl (by kernel_rfl) rfl (fun _ m => m.keeps .slnil) (y_no rfl rfl h54) ?_
       refine d_t 28 rfl rfl (by kernel_rfl) rfl (fun _ m => m.keeps .slnil) (y_no rfl rfl h54) ?_
       refine d_t 29 rfl rfl (by kernel_rfl) rfl (fun _ m => m.keeps .slnil) (y_no rfl rfl h54) ?_
       refine d_t 30 rfl rfl (by kernel_rfl) rfl (fun _ m => m.keeps .slnil) (y_no rfl rfl h54) ?_
       refine d_t 31 rfl rfl (by kernel_rfl) rfl (fun _ m => m.keeps .slnil) (y_no rfl rfl h54) ?_
       refine d_t 32 rfl rfl (by kernel_rfl) rfl (fun _ m => m.keeps .slnil) (y_no rfl rfl h54) ?_
       refine d_t 33 rfl rfl (by kernel_rfl) rfl (fun _ m => m.keeps .slnil) (y_no rfl rfl h54) ?_
       refine d_t 34 rfl rfl (by kernel_rfl) rfl (fun _ m => m.keeps .slnil) (y_no rfl rfl h54) ?_
       refine d_t 35 rfl rfl (by kernel_rfl) rfl (fun _ m => m.keeps .slnil) (y_no rfl rfl h54) ?_
       refine d_tv 36 rfl rfl (by kernel_rfl) rfl .slnil rfl (v_and_f h54 rfl) ?_
       refine d_done (by kernel_rfl) ?_
       refine go 1 ?_
       refine c_false rfl ?_
       refine go 5 ?_
       exact q_cutx k ⟨hk, hgt, fun j h h2 => absurd h2 (by omega)⟩ sb rfl rfl
     ·intro k ⟨hk, hgt, hle⟩
      refine sx_knowI (fun hE9 hf9 => ?_)
      refine d_startH T.mixed ?_
      refine d_tv 1 rfl rfl (by kernel_rfl) rfl .slnil rfl (v_move rfl) ?_
      refine d_tv 2 rfl rfl (by kernel_rfl) rfl .slnil rfl (v_move rfl) ?_
      refine d_tv 3 rfl rfl (by kernel_rfl) rfl .slnil rfl (v_slice_hi he rfl rfl k (by omega) (by omega)) ?_
      refine d_tv 5 rfl rfl (by kernel_rfl) rfl .slnil rfl (v_move rfl) ?_
      refine d_tv 8 rfl rfl (by kernel_rfl) rfl .slnil rfl (v_move rfl) ?_
      refine d_tv 9 rfl rfl (by kernel_rfl) rfl .slnil rfl (v_move rfl) ?_
      refine d_tv 10 rfl rfl (by kernel_rfl) rfl .slnil rfl (v_slice_lo he rfl rfl k (by omega) (by omega)) ?_
      refine d_two 0 6 (by kernel_rfl) rfl rfl ?_ ?_
      ·refine o_buildSlice he he rfl rfl rfl rfl rfl rfl rfl (fun v91 => ?_)
       refine d_on (fun _ m => m.keeps (.cons _ .slnil)) ?_
       refine d_two 4 6 (by kernel_rfl) rfl rfl ?_ ?_
       ·refine o_appendR ((hv7.takeM k (by omega))) rfl he he rfl rfl rfl rfl (by simp; omega) (by simp; omega) rfl (fun v95 x95 f95 => ?_)
        refine d_on (fun _ m => m.keeps (.cons _ .slnil)) ?_
        refine d_one 6 (by kernel_rfl) rfl ?_
        refine o_buildSlice he he rfl rfl rfl rfl rfl rfl rfl (fun v97 => ?_)
        refine d_on (fun _ m => m.keeps (.cons _ (.cons _ .slnil))) ?_
        refine d_one 7 (by kernel_rfl) rfl ?_
        refine bring1 ?_
        refine o_appendO he he rfl rfl rfl rfl rfl (by simp; omega) (by simp; omega) rfl (fun v98 => ?_)
        refine d_on (fun _ m => m.keeps (.cons _ (.cons _ .slnil))) ?_
        refine d_one 11 (by kernel_rfl) rfl ?_
        refine o_appendR ((hv7.dropM k (by omega))) rfl he he rfl rfl rfl rfl (by simp; omega) (by simp; omega) rfl (fun v102 x102 f102 => ?_)
        refine sx_pubrow (l := ((P.map Pkd.rep).take k ++ [((i : Nat) : Int)]) ++ (P.map Pkd.rep).drop k) rfl (by simp; omega) (((f95.append (.one rfl)).append f102)) (fun I102 j102 R102 => ?_)
        refine d_on (fun _ m => m.keepsI (.cons _ .slnil) (j102) hE9 hf9) ?_
        refine d_t 12 rfl rfl (by kernel_rfl) rfl (fun _ m => m.keepsI (.cons _ .slnil) (j102) hE9 hf9) (y_v rfl (v_assign rfl)) ?_
        refine d_done (by kernel_rfl) ?_
        refine go 8 ?_
        refine sx_drop ?_
        exact q_next3 (i + 1) (_) (I102) ⟨by omega, hJ.trans j102, by rw [ord_yes hP (pk_yes hlt hlt2 rfl h0i hki hdy hdv) rfl hk hgt hle, ← List.append_assoc]; exact R102⟩ (by omega) rfl sb rfl
       ·refine o_buildSlice he he rfl rfl rfl rfl rfl rfl rfl (fun v97 => ?_)
        refine d_on (fun _ m => m.keeps (.cons _ (.cons _ .slnil))) ?_
        refine d_one 4 (by kernel_rfl) rfl ?_
        refine bring1 ?_
        refine o_appendR ((hv7.takeM k (by omega))) rfl he he rfl rfl rfl rfl (by simp; omega) (by simp; omega) rfl (fun v95 x95 f95 => ?_)
        refine d_on (fun _ m => m.keeps (.cons _ (.cons _ .slnil))) ?_
        refine d_one 7 (by kernel_rfl) rfl ?_
        refine bring1 ?_
        refine bring1 ?_
        refine o_appendO he he rfl rfl rfl rfl rfl (by simp; omega) (by simp; omega) rfl (fun v98 => ?_)
        refine d_on (fun _ m => m.keeps (.cons _ (.cons _ .slnil))) ?_
        refine d_one 11 (by kernel_rfl) rfl ?_
        refine o_appendR ((hv7.dropM k (by omega))) rfl he he rfl rfl rfl rfl (by simp; omega) (by simp; omega) rfl (fun v102 x102 f102 => ?_)
        refine sx_pubrow (l := ((P.map Pkd.rep).take k ++ [((i : Nat) : Int)]) ++ (P.map Pkd.rep).drop k) rfl (by simp; omega) (((f95.append (.one rfl)).append f102)) (fun I102 j102 R102 => ?_)
        refine d_on (fun _ m => m.keepsI (.cons _ .slnil) (j102) hE9 hf9) ?_
        refine d_t 12 rfl rfl (by kernel_rfl) rfl (fun _ m => m.keepsI (.cons _ .slnil) (j102) hE9 hf9) (y_v rfl (v_assign rfl)) ?_
        refine d_done (by kernel_rfl) ?_
        refine go 8 ?_
        refine sx_drop ?_
        exact q_next3 (i + 1) (_) (I102) ⟨by omega, hJ.trans j102, by rw [ord_yes hP (pk_yes hlt hlt2 rfl h0i hki hdy hdv) rfl hk hgt hle, ← List.append_assoc]; exact R102⟩ (by omega) rfl sb rfl
      ·refine o_buildSlice he he rfl rfl rfl rfl rfl rfl rfl (fun v97 => ?_)
       refine d_on (fun _ m => m.keeps (.cons _ .slnil)) ?_
       refine d_one 0 (by kernel_rfl) rfl ?_
       refine o_buildSlice he he rfl rfl rfl rfl rfl rfl rfl (fun v91 => ?_)
       refine d_on (fun _ m => m.keeps (.cons _ (.cons _ .slnil))) ?_
       refine d_one 4 (by kernel_rfl) rfl ?_
       refine o_appendR ((hv7.takeM k (by omega))) rfl he he rfl rfl rfl rfl (by simp; omega) (by simp; omega) rfl (fun v95 x95 f95 => ?_)
       refine d_on (fun _ m => m.keeps (.cons _ (.cons _ .slnil))) ?_
       refine d_one 7 (by kernel_rfl) rfl ?_
       refine bring1 ?_
       refine bring1 ?_
       refine o_appendO he he rfl rfl rfl rfl rfl (by simp; omega) (by simp; omega) rfl (fun v98 => ?_)
       refine d_on (fun _ m => m.keeps (.cons _ (.cons _ .slnil))) ?_
       refine d_one 11 (by kernel_rfl) rfl ?_
       refine o_appendR ((hv7.dropM k (by omega))) rfl he he rfl rfl rfl rfl (by simp; omega) (by simp; omega) rfl (fun v102 x102 f102 => ?_)
       refine sx_pubrow (l := ((P.map Pkd.rep).take k ++ [((i : Nat) : Int)]) ++ (P.map Pkd.rep).drop k) rfl (by simp; omega) (((f95.append (.one rfl)).append f102)) (fun I102 j102 R102 => ?_)
       refine d_on (fun _ m => m.keepsI (.cons _ .slnil) (j102) hE9 hf9) ?_
       refine d_t 12 rfl rfl (by kernel_rfl) rfl (fun _ m => m.keepsI (.cons _ .slnil) (j102) hE9 hf9) (y_v rfl (v_assign rfl)) ?_
       refine d_done (by kernel_rfl) ?_
       refine go 8 ?_
       refine sx_drop ?_
       exact q_next3 (i + 1) (_) (I102) ⟨by omega, hJ.trans j102, by rw [ord_yes hP (pk_yes hlt hlt2 rfl h0i hki hdy hdv) rfl hk hgt hle, ← List.append_assoc]; exact R102⟩ (by omega) rfl sb rfl
 ·refine go 12 ?_
  refine fin1 rfl rfl ?_
  have e : i = l.length := by omega
  subst e
  exact q_i (by rw [ordI, hP]; exact hv7)

theorem ref15fails (I : IMap) (vc : Value) (c : List Kind) (hvc : RdS I vc c) (hsc : SmC c) (v : Value) (l : List Rep) (hv : RdS I v l) (hl : l.length ≤ 1000000) (hsl : ∀ r ∈ l, ∀ e ∈ r.options, SmE e) (w : Value) (ch : List Int) (hw : RdS I w ch) (P : List Pkd) (hP : ∀ p ∈ P, Pin l ch p) (hPl : P.length ≤ 1000000) (z : Value) (hz : RdS I z (P.map Pkd.rep)) :
    FnI Tryz.prog 30 #[.agg #[vc], v, w, z] I (fun u J => u = .tuple #[.int .i64 (followGo c [] P).1, .int .i64 (followGo c [] P).2]) := by
 obtain ⟨A, c0, rfl, hA, hc, hm⟩ := hv
 obtain ⟨B, c1, rfl, hB, hc1, hm1⟩ := hw
 have hml : (P.map Pkd.rep).length = P.length := List.length_map _
 obtain ⟨Z, cz, rfl, hZ, hcz, hmz⟩ := hz
 refine enter Tryz.func30 Tryz.call30 rfl Tryz.ntmps30 rfl (fun w0 => ?_)
 refine go 3 ?_
 refine o_box _ rfl rfl rfl (fun g4 => ?_)
 refine go 7 ?_
 refine o_alloc he rfl (fun g10 => ?_)
 refine go 9 ?_
 refine bring1 ?_
 refine c_loop4 (0) ([]) (.slice none 0 0) (I) (fun i st v10 J => J)
  (fun i st v10 J => [(1, .slice A l.length c0), (2, .slice B ch.length c1), (3, .slice Z (P.map Pkd.rep).length cz), (4, .pointer (some ⟨g4, 0, none⟩)), (10, .pointer (some ⟨g10, 0, none⟩)), (11, .int .i64 ((i : Nat) : Int))])
  (fun i st v10 J => [.blk g4 24 [vc], .blk g10 69 [v10]])
  (fun i st v10 J => i ≤ P.length ∧ ILe I J ∧ RdS J v10 st ∧ SmF st ∧ followGo c [] P = followGo c st (P.drop i))
  (fun i st v10 J => P.length - i) ⟨Nat.zero_le _, ILe.refl _, RdS.nil', SmF.nil, rfl⟩ rfl sb rfl ?_
 intro i st v10 J ⟨hi, hJ, hv10, hsf, hgo⟩
 have hvc := hvc.le hJ
 have hA := hA.le hJ
 have hB := hB.le hJ
 have hZ := hZ.le hJ
 refine go 9 ?_
 refine cb rfl (fun h18 p18 => ?_) (fun h18 p18 => ?_)
 ·have hlt : i < P.length := by omega
  obtain ⟨q, hq1, hq2, hq3, hq0, hq4, hq5⟩ := hP _ (List.getElem_mem hlt)
  have hse : SmE P[i].e := hq4 ▸ hsl _ (List.getElem_mem hq1) _ (List.getElem_mem hq3)
  refine go 8 ?_
  obtain ⟨b23, o23, w23, e23, c23, r23⟩ := RdA.at_ hZ (i := i) (by rw [List.length_map]; exact hlt)
  obtain rfl := r23
  refine o_v rfl (v_idx he rfl rfl e23 (i) (by omega) (by rw [List.length_map]; exact hlt)) ?_
  refine o_v rfl (OV.cast (u := .int .i64 ((q : Nat) : Int)) (v_ldI he rfl (c23 0 _ rfl)) (congrArg (Value.int .i64) (by rw [List.getElem_map]; exact hq5))) ?_
  refine go 4 ?_
  refine sx_knowI (fun hE6 hf6 => ?_)
  refine d_startH T.mixed ?_
  refine d_tv 0 rfl rfl (by kernel_rfl) rfl (.refl _) rfl (v_ldw m0 he rfl rfl) ?_
  refine d_tv 1 rfl rfl (by kernel_rfl) rfl (.refl _) rfl (v_ldw m1 he rfl rfl) ?_
  refine d_tv 2 rfl rfl (by kernel_rfl) rfl (.refl _) rfl (v_move rfl) ?_
  refine d_tv 3 rfl rfl (by kernel_rfl) rfl (.refl _) rfl (v_move rfl) ?_
  obtain ⟨b30, o30, w30, e30, c30, r30⟩ := RdA.at_ hA (i := q) (by omega)
  obtain ⟨q30, rfl, S30, d30, rfl, hS30, hd30, hm30⟩ := r30
  refine d_tv 4 rfl rfl (by kernel_rfl) rfl (.refl _) rfl (v_idx he rfl rfl e30 (q) (by omega) (by omega)) ?_
  refine d_tv 5 rfl rfl (by kernel_rfl) rfl (.refl _) rfl (v_fieldAddr he rfl) ?_
  refine d_tv 6 rfl rfl (by kernel_rfl) rfl (.refl _) rfl (v_ldI he rfl (c30 0 _ rfl)) ?_
  refine d_tv 7 rfl rfl (by kernel_rfl) rfl (.refl _) rfl (v_move rfl) ?_
  refine d_tv 8 rfl rfl (by kernel_rfl) rfl (.refl _) rfl (v_move rfl) ?_
  obtain ⟨b35, o35, w35, e35, c35, r35⟩ := RdA.at_ hB (i := q) (by omega)
  obtain rfl := r35
  refine d_tv 9 rfl rfl (by kernel_rfl) rfl (.refl _) rfl (v_idx he rfl rfl e35 (q) (by omega) (by omega)) ?_
  refine d_tv 10 rfl rfl (by kernel_rfl) rfl (.refl _) rfl (v_ldI he rfl (c35 0 _ rfl)) ?_
  obtain ⟨b37, o37, w37, e37, c37, r37⟩ := RdA.at_ hS30 (i := ch[q].toNat) hq3
  obtain rfl := r37
  refine d_tv 11 rfl rfl (by kernel_rfl) rfl (.refl _) rfl (v_idx he rfl rfl e37 (ch[q].toNat) (by omega) hq3) ?_
  refine d_tv 12 rfl rfl (by kernel_rfl) rfl (.refl _) rfl (OV.cast (u := .agg (P[i].e).cells.toArray) (v_ldIa he rfl c37 rfl) (congrArg (fun e => Value.agg (Evt.cells e).toArray) hq4)) ?_
  refine d_two 13 17 (by kernel_rfl) rfl rfl ?_ ?_
  ·refine o_call (ref10Apply _ vc c hvc hsc v10 st hv10 hsf P[i].e hse) rfl rfl (fun v39 I39 j39 q39 => ?_)
   obtain ⟨w39, rfl, hw39⟩ := q39
   refine d_on (fun _ m => m.keepsI (.refl _) (j39) hE6 hf6) ?_
   refine d_t 14 rfl rfl (by kernel_rfl) rfl (fun _ m => m.keepsI (.refl _) (j39) hE6 hf6) (y_v rfl (v_move rfl)) ?_
   refine d_t 15 rfl rfl (by kernel_rfl) rfl (fun _ m => m.keepsI (.refl _) (j39) hE6 hf6) (y_v rfl (v_extract rfl rfl)) ?_
   refine d_t 16 rfl rfl (by kernel_rfl) rfl (fun _ m => m.keepsI (.refl _) (j39) hE6 hf6) (y_v rfl (v_extract rfl rfl)) ?_
   refine d_one 17 (by kernel_rfl) rfl ?_
   refine o_alloc he rfl (fun g13 => ?_)
   refine d_on (fun _ m => m.keepsI (.cons _ (.refl _)) (j39) hE6 hf6) ?_
   refine d_one 18 (by kernel_rfl) rfl ?_
   refine o_stw _ he rfl rfl rfl rfl rfl (by simp [hw39.one]) ?_
   refine d_on (fun _ m => m.keepsI (.cons _ (.refl _)) (j39) hE6 hf6) ?_
   refine d_t 19 rfl rfl (by kernel_rfl) rfl (fun _ m => m.keepsI (.cons _ (.refl _)) (j39) hE6 hf6) (y_v rfl (v_assign rfl)) ?_
   refine d_done (by kernel_rfl) ?_
   refine go 8 ?_
   refine cb rfl (fun h43 p43 => ?_) (fun h43 p43 => ?_)
   ·have hok : ¬ (applyF c st P[i].e).2 = 0 := by simpa using h43
    refine go 15 ?_
    refine fin2 rfl rfl rfl ?_
    exact q_i (by rw [hgo, follow_step hlt, if_neg hok, hq5]; rfl)
   ·have hok : (applyF c st P[i].e).2 = 0 := by simpa using h43
    refine go 5 ?_
    refine bring2 ?_
    refine o_stw _ he rfl rfl rfl rfl rfl (by simp [hw39.one]) ?_
    refine go 9 ?_
    refine bring1 ?_
    refine sx_drop ?_
    refine bring1 ?_
    exact q_next4 (i + 1) (_) (_) (_) ⟨by omega, hJ.trans j39, hw39, applyF_sm hsf hse, by rw [hgo, follow_step hlt, if_pos hok]⟩ (by omega) rfl sb rfl
  ·refine o_alloc he rfl (fun g13 => ?_)
   refine d_on (fun _ m => m.keeps (.cons _ (.refl _))) ?_
   refine d_one 13 (by kernel_rfl) rfl ?_
   refine o_call (ref10Apply _ vc c hvc hsc v10 st hv10 hsf P[i].e hse) rfl rfl (fun v39 I39 j39 q39 => ?_)
   obtain ⟨w39, rfl, hw39⟩ := q39
   refine d_on (fun _ m => m.keepsI (.cons _ (.refl _)) (j39) hE6 hf6) ?_
   refine d_t 14 rfl rfl (by kernel_rfl) rfl (fun _ m => m.keepsI (.cons _ (.refl _)) (j39) hE6 hf6) (y_v rfl (v_move rfl)) ?_
   refine d_t 15 rfl rfl (by kernel_rfl) rfl (fun _ m => m.keepsI (.cons _ (.refl _)) (j39) hE6 hf6) (y_v rfl (v_extract rfl rfl)) ?_
   refine d_t 16 rfl rfl (by kernel_rfl) rfl (fun _ m => m.keepsI (.cons _ (.refl _)) (j39) hE6 hf6) (y_v rfl (v_extract rfl rfl)) ?_
   refine d_one 18 (by kernel_rfl) rfl ?_
   refine o_stw _ he rfl rfl rfl rfl rfl (by simp [hw39.one]) ?_
   refine d_on (fun _ m => m.keepsI (.cons _ (.refl _)) (j39) hE6 hf6) ?_
   refine d_t 19 rfl rfl (by kernel_rfl) rfl (fun _ m => m.keepsI (.cons _ (.refl _)) (j39) hE6 hf6) (y_v rfl (v_assign rfl)) ?_
   refine d_done (by kernel_rfl) ?_
   refine go 8 ?_
   refine cb rfl (fun h43 p43 => ?_) (fun h43 p43 => ?_)
   ·have hok : ¬ (applyF c st P[i].e).2 = 0 := by simpa using h43
    refine go 15 ?_
    refine fin2 rfl rfl rfl ?_
    exact q_i (by rw [hgo, follow_step hlt, if_neg hok, hq5]; rfl)
   ·have hok : (applyF c st P[i].e).2 = 0 := by simpa using h43
    refine go 5 ?_
    refine bring2 ?_
    refine o_stw _ he rfl rfl rfl rfl rfl (by simp [hw39.one]) ?_
    refine go 9 ?_
    refine bring1 ?_
    refine sx_drop ?_
    refine bring1 ?_
    exact q_next4 (i + 1) (_) (_) (_) ⟨by omega, hJ.trans j39, hw39, applyF_sm hsf hse, by rw [hgo, follow_step hlt, if_pos hok]⟩ (by omega) rfl sb rfl
 ·refine go 12 ?_
  refine fin2 rfl rfl rfl ?_
  exact q_i (by rw [hgo, List.drop_eq_nil_of_le (by omega)]; rfl)

theorem ref15Fails (I : IMap) (vc : Value) (c : List Kind) (hvc : RdS I vc c) (hsc : SmC c) (v : Value) (l : List Rep) (hv : RdS I v l) (hl : l.length ≤ 1000000) (hsl : ∀ r ∈ l, ∀ e ∈ r.options, SmE e) (w : Value) (ch : List Int) (hw : RdS I w ch) :
    FnI Tryz.prog 12 #[.agg #[vc], v, w] I (fun u J => u = .tuple #[.int .i64 (failsF c l ch).1, .int .i64 (failsF c l ch).2]) := by
 refine enter Tryz.func12 Tryz.call12 rfl Tryz.ntmps12 rfl (fun w0 => ?_)
 refine go 3 ?_
 refine o_box _ rfl rfl rfl (fun g3 => ?_)
 refine go 10 ?_
 refine o_callV (ref15Given _ vc c hvc hsc v l hv hsl) rfl rfl ?_
 refine go 2 ?_
 refine sxb 12 rfl (fun h12 p12 => ?_) (fun h12 p12 => ?_)
 ·refine go 7 ?_
  refine c_true rfl ?_
  refine go 8 ?_
  refine fin2 rfl rfl rfl ?_
  exact q_i (by rw [ref_fails_no (by simp_all)])
 ·refine go 3 ?_
  refine o_yes rfl rfl h12 (o_callV (ref13Are _ v l hv hl hsl w ch hw) rfl rfl ?_)
  refine go 4 ?_
  refine cb rfl (fun h17 p17 => ?_) (fun h17 p17 => ?_)
  ·refine go 8 ?_
   refine fin2 rfl rfl rfl ?_
   exact q_i (by rw [ref_fails_no (by simp_all)])
  ·have hg : givF c l = true := by simpa using h12
   have ha : areF l ch = true := by simpa using h17
   refine go 3 ?_
   refine sx_knowI (fun hE3 hf3 => ?_)
   refine d_startH T.mixed ?_
   refine d_tv 0 rfl rfl (by kernel_rfl) rfl (.refl _) rfl (v_ldw m0 he rfl rfl) ?_
   refine d_tv 1 rfl rfl (by kernel_rfl) rfl (.refl _) rfl (v_move rfl) ?_
   refine d_tv 2 rfl rfl (by kernel_rfl) rfl (.refl _) rfl (v_move rfl) ?_
   refine d_tv 3 rfl rfl (by kernel_rfl) rfl (.refl _) rfl (v_move rfl) ?_
   refine d_tv 4 rfl rfl (by kernel_rfl) rfl (.refl _) rfl (v_move rfl) ?_
   refine d_one 5 (by kernel_rfl) rfl ?_
   refine o_call (ref15Order _ v l hv hl hsl (giv_at hg).2 w ch hw (are_len ha) 50000) rfl rfl (fun v23 I23 j23 q23 => ?_)
   have hvc := hvc.le j23
   have hv := hv.le j23
   have hw := hw.le j23
   refine d_on (fun _ m => m.keepsI (.refl _) (j23) hE3 hf3) ?_
   refine d_one 6 (by kernel_rfl) rfl ?_
   refine o_call (ref15fails _ vc c hvc hsc v l hv hl hsl w ch hw (sortF (pickF (50000) l ch l.length)) (fun p hp => pick_inv (day := 50000) hp) (by rw [sortF_len]; exact Nat.le_trans (pick_len _ _ _ _) hl) _ q23) rfl rfl (fun v24 I24 j24 q24 => ?_)
   obtain rfl := q24
   refine d_on (fun _ m => m.keepsI (.refl _) ((j23).trans j24) hE3 hf3) ?_
   refine d_t 7 rfl rfl (by kernel_rfl) rfl (fun _ m => m.keepsI (.refl _) ((j23).trans j24) hE3 hf3) (y_v rfl (v_extract rfl rfl)) ?_
   refine d_t 8 rfl rfl (by kernel_rfl) rfl (fun _ m => m.keepsI (.refl _) ((j23).trans j24) hE3 hf3) (y_v rfl (v_extract rfl rfl)) ?_
   refine d_t 9 rfl rfl (by kernel_rfl) rfl (fun _ m => m.keepsI (.refl _) ((j23).trans j24) hE3 hf3) (y_v rfl (v_assign rfl)) ?_
   refine d_t 10 rfl rfl (by kernel_rfl) rfl (fun _ m => m.keepsI (.refl _) ((j23).trans j24) hE3 hf3) (y_v rfl (v_assign rfl)) ?_
   refine d_done (by kernel_rfl) ?_
   refine go 2 ?_
   refine fin2 rfl rfl rfl ?_
   exact q_i (by rw [← ref_fails hg ha]; rfl)

theorem ref15Is (I : IMap) (vc : Value) (c : List Kind) (hvc : RdS I vc c) (hsc : SmC c) (v : Value) (l : List Rep) (hv : RdS I v l) (hl : l.length ≤ 1000000) (hsl : ∀ r ∈ l, ∀ e ∈ r.options, SmE e) (w : Value) (ch : List Int) (hw : RdS I w ch) :
    FnI Tryz.prog 14 #[.agg #[vc], v, w] I (fun u J => u = .bool (isF c l ch)) := by
 refine enter Tryz.func14 Tryz.call14 rfl Tryz.ntmps14 rfl (fun w0 => ?_)
 refine go 3 ?_
 refine o_box _ rfl rfl rfl (fun g3 => ?_)
 refine go 9 ?_
 refine o_callV (ref15Given _ vc c hvc hsc v l hv hsl) rfl rfl ?_
 refine go 3 ?_
 refine cb rfl (fun h15 p15 => ?_) (fun h15 p15 => ?_)
 ·refine go 7 ?_
  refine fin1 rfl rfl ?_
  exact q_i (by rw [ref_is_no (by simp_all)])
 ·have hg : givF c l = true := by simpa using h15
  refine go 7 ?_
  refine o_call (ref13Picked _ v l hv hl hsl w ch hw) rfl rfl (fun v19 I19 j19 q19 => ?_)
  have hvc := hvc.le j19
  obtain ⟨w19, rfl, hw19⟩ := q19
  refine go 14 ?_
  refine cb rfl (fun h23 p23 => ?_) (fun h23 p23 => ?_)
  ·refine go 7 ?_
   refine fin1 rfl rfl ?_
   have hn : ¬ areF l ch = true := fun ha => by rw [picked_are, if_pos ha] at h23; simp at h23
   exact q_i (by rw [ref_is_no (by simp [hn])])
  ·have ha : areF l ch = true := by
     cases ha : areF l ch with
     | true => rfl
     | false => rw [picked_are, if_neg (by rw [ha]; decide)] at h23; simp at h23
   refine go 7 ?_
   refine o_call (ref11Run _ vc c hvc hsc _ _ hw19 (by rw [picked_are, if_pos ha]; exact Nat.le_trans (evs_len _ _ _) hl) (fun e he => by rw [picked_are, if_pos ha] at he; exact evs_sm hsl he)) rfl rfl (fun v27 I27 j27 q27 => ?_)
   obtain ⟨w27, rfl, hw27⟩ := q27
   refine go 5 ?_
   refine o_alloc he rfl (fun g9 => ?_)
   refine go 1 ?_
   refine o_stw _ he rfl rfl rfl rfl rfl (by simp [hw27.one]) ?_
   refine go 12 ?_
   refine fin1 rfl rfl ?_
   exact q_i (congrArg Value.bool (ref_is hg ha))

theorem ref15Least (I : IMap) (v : Value) (l : List Rep) (hv : RdS I v l) (hl : l.length ≤ 1000000) (hsl : ∀ r ∈ l, ∀ e ∈ r.options, SmE e) (w : Value) (ch : List Int) (hw : RdS I w ch) (hlc : ch.length = l.length) :
    FnV Tryz.prog 36 #[v, w] I (.int .i64 (leastR (openDays l ch l.length))) := by
 obtain ⟨A, c0, rfl, hA, hc, hm⟩ := hv
 obtain ⟨B, c1, rfl, hB, hc1, hm1⟩ := hw
 refine enter Tryz.func36 Tryz.call36 rfl Tryz.ntmps36 rfl (fun w0 => ?_)
 refine go 17 ?_
 refine c_loop (α := Nat) 0 (fun i => I)
  (fun i => [(0, .slice A l.length c0), (1, .slice B ch.length c1), (5, .int .i64 (leastR (openDays l ch i))), (6, .int .i64 ((i : Nat) : Int))])
  (fun i => [])
  (fun i => i ≤ l.length)
  (fun i => l.length - i) (Nat.zero_le _) rfl sb rfl ?_
 intro i hi
 refine go 9 ?_
 refine cb rfl (fun h11 p11 => ?_) (fun h11 p11 => ?_)
 ·have hlt : i < l.length := by omega
  have hlt2 : i < ch.length := by omega
  refine go 10 ?_
  refine c_loop (α := Nat) 0 (fun k => I)
   (fun k => [(0, .slice A l.length c0), (1, .slice B ch.length c1), (5, .int .i64 (leastR (openTo l ch i k))), (6, .int .i64 ((i : Nat) : Int)), (7, .int .i64 ((k : Nat) : Int))])
   (fun k => [])
   (fun k => k ≤ l[i].options.length)
   (fun k => l[i].options.length - k) (Nat.zero_le _) rfl ⟨rfl, rfl, (congrArg (fun z => some (Value.int .i64 (leastR z))) openTo_zero.symm), rfl, rfl, trivial⟩ rfl ?_
  intro k hk
  refine go 6 ?_
  obtain ⟨b17, o17, w17, e17, c17, r17⟩ := RdA.at_ hA (i := i) (by omega)
  obtain ⟨q17, rfl, S17, d17, rfl, hS17, hd17, hm17⟩ := r17
  refine o_v rfl (v_idx he rfl rfl e17 (i) (by omega) (by omega)) ?_
  refine go 1 ?_
  refine o_v rfl (v_ldI he rfl (c17 0 _ rfl)) ?_
  refine go 3 ?_
  refine sxb 22 rfl (fun h22 p22 => ?_) (fun h22 p22 => ?_)
  ·have hlk : k < l[i].options.length := by omega
   refine go 2 ?_
   obtain ⟨b25, o25, w25, e25, c25, r25⟩ := RdA.at_ hB (i := i) (by omega)
   obtain rfl := r25
   refine o_cons (o_yes rfl rfl h22 (o_val rfl (v_idx he rfl rfl e25 (i) (by omega) (by omega)) ?_))
   refine o_cons (o_yes rfl rfl h22 (o_val rfl (v_ldI he rfl (c25 0 _ rfl)) ?_))
   refine go 4 ?_
   refine cb rfl (fun h28 p28 => ?_) (fun h28 p28 => ?_)
   ·refine go 8 ?_
    obtain ⟨b34, o34, w34, e34, c34, r34⟩ := RdA.at_ hA (i := i) (by omega)
    obtain ⟨q34, rfl, S34, d34, rfl, hS34, hd34, hm34⟩ := r34
    refine o_v rfl (v_idx he rfl rfl e34 (i) (by omega) (by omega)) ?_
    refine go 1 ?_
    refine o_v rfl (v_ldI he rfl (c34 0 _ rfl)) ?_
    refine go 1 ?_
    obtain ⟨b38, o38, w38, e38, c38, r38⟩ := RdA.at_ hS34 (i := k) hlk
    obtain rfl := r38
    refine o_v rfl (v_idx he rfl rfl e38 (k) (by omega) hlk) ?_
    refine go 1 ?_
    refine o_v rfl (v_ldI he rfl (c38 1 _ rfl)) ?_
    refine o_v rfl (v_imin rfl rfl) ?_
    refine go 10 ?_
    exact q_next (k + 1) (by omega) (by omega) rfl ⟨rfl, rfl, (congrArg (fun z => some (Value.int .i64 z)) (by rw [openTo_step hlt hlt2 (by omega) hlk, leastR_snoc])), rfl, rfl, trivial⟩ rfl
   ·refine go 12 ?_
    exact q_next (i + 1) (by omega) (by omega) rfl ⟨rfl, rfl, (congrArg (fun z => some (Value.int .i64 z)) (by first | rw [← openTo_all hlt hlt2, show k = l[i].options.length by omega] | (rw [← openTo_all hlt hlt2]; exact congrArg leastR (openTo_skip hlt hlt2 (by omega) _)))), rfl, trivial⟩ rfl
  ·refine go 8 ?_
   refine c_false rfl ?_
   refine go 12 ?_
   exact q_next (i + 1) (by omega) (by omega) rfl ⟨rfl, rfl, (congrArg (fun z => some (Value.int .i64 z)) (by first | rw [← openTo_all hlt hlt2, show k = l[i].options.length by omega] | (rw [← openTo_all hlt hlt2]; exact congrArg leastR (openTo_skip hlt hlt2 (by omega) _)))), rfl, trivial⟩ rfl
 ·refine go 12 ?_
  refine fin1 rfl rfl ?_
  have e : i = l.length := by omega
  subst e
  exact q_v rfl

theorem ref15False (I : IMap) (vc : Value) (c : List Kind) (hvc : RdS I vc c) (hsc : SmC c) (v : Value) (l : List Rep) (hv : RdS I v l) (hl : l.length ≤ 1000000) (hsl : ∀ r ∈ l, ∀ e ∈ r.options, SmE e) (w : Value) (ch : List Int) (hw : RdS I w ch) :
    FnI Tryz.prog 16 #[.agg #[vc], v, w] I (fun u J => u = .bool (falseF c l ch)) := by
 refine enter Tryz.func16 Tryz.call16 rfl Tryz.ntmps16 rfl (fun w0 => ?_)
 refine go 3 ?_
 refine o_box _ rfl rfl rfl (fun g3 => ?_)
 refine go 9 ?_
 refine o_callV (ref15Given _ vc c hvc hsc v l hv hsl) rfl rfl ?_
 refine go 2 ?_
 refine sxb 13 rfl (fun h13 p13 => ?_) (fun h13 p13 => ?_)
 ·refine go 7 ?_
  refine c_true rfl ?_
  refine go 7 ?_
  refine fin1 rfl rfl ?_
  exact q_i (by rw [ref_false_no (by simp_all)])
 ·refine go 3 ?_
  refine o_yes rfl rfl h13 (o_callV (ref15Open _ v l hv hl hsl w ch hw) rfl rfl ?_)
  refine go 4 ?_
  refine cb rfl (fun h18 p18 => ?_) (fun h18 p18 => ?_)
  ·refine go 7 ?_
   refine fin1 rfl rfl ?_
   exact q_i (by rw [ref_false_no (by simp_all)])
  ·have hg : givF c l = true := by simpa using h13
   have ha : openTF l ch = true := by simpa using h18
   have hlc : ch.length = l.length := by simp only [openTF, Bool.and_eq_true, decide_eq_true_eq] at ha; omega
   refine go 3 ?_
   refine sx_knowI (fun hE3 hf3 => ?_)
   refine d_startH T.mixed ?_
   refine d_tv 0 rfl rfl (by kernel_rfl) rfl (.refl _) rfl (v_ldw m0 he rfl rfl) ?_
   refine d_tv 1 rfl rfl (by kernel_rfl) rfl (.refl _) rfl (v_move rfl) ?_
   refine d_tv 2 rfl rfl (by kernel_rfl) rfl (.refl _) rfl (v_move rfl) ?_
   refine d_tv 3 rfl rfl (by kernel_rfl) rfl (.refl _) rfl (v_move rfl) ?_
   refine d_tv 4 rfl rfl (by kernel_rfl) rfl (.refl _) rfl (v_move rfl) ?_
   refine d_tv 5 rfl rfl (by kernel_rfl) rfl (.refl _) rfl (v_move rfl) ?_
   refine d_tv 6 rfl rfl (by kernel_rfl) rfl (.refl _) rfl (v_move rfl) ?_
   refine d_one 7 (by kernel_rfl) rfl ?_
   refine o_callV (ref15Least _ v l hv hl hsl w ch hw hlc) rfl rfl ?_
   refine d_on (fun _ m => m.keeps (.refl _)) ?_
   refine d_one 8 (by kernel_rfl) rfl ?_
   refine o_call (ref15Order _ v l hv hl hsl (giv_at hg).2 w ch hw hlc (leastR (openDays l ch l.length))) rfl rfl (fun v28 I28 j28 q28 => ?_)
   have hvc := hvc.le j28
   have hv := hv.le j28
   have hw := hw.le j28
   refine d_on (fun _ m => m.keepsI (.refl _) (j28) hE3 hf3) ?_
   refine d_one 9 (by kernel_rfl) rfl ?_
   refine o_call (ref15fails _ vc c hvc hsc v l hv hl hsl w ch hw (sortF (pickF (leastR (openDays l ch l.length)) l ch l.length)) (fun p hp => pick_inv (day := leastR (openDays l ch l.length)) hp) (by rw [sortF_len]; exact Nat.le_trans (pick_len _ _ _ _) hl) _ q28) rfl rfl (fun v29 I29 j29 q29 => ?_)
   obtain rfl := q29
   refine d_on (fun _ m => m.keepsI (.refl _) ((j28).trans j29) hE3 hf3) ?_
   refine d_t 10 rfl rfl (by kernel_rfl) rfl (fun _ m => m.keepsI (.refl _) ((j28).trans j29) hE3 hf3) (y_v rfl (v_move rfl)) ?_
   refine d_t 11 rfl rfl (by kernel_rfl) rfl (fun _ m => m.keepsI (.refl _) ((j28).trans j29) hE3 hf3) (y_v rfl (v_extract rfl rfl)) ?_
   refine d_t 12 rfl rfl (by kernel_rfl) rfl (fun _ m => m.keepsI (.refl _) ((j28).trans j29) hE3 hf3) (y_v rfl (v_extract rfl rfl)) ?_
   refine d_t 13 rfl rfl (by kernel_rfl) rfl (fun _ m => m.keepsI (.refl _) ((j28).trans j29) hE3 hf3) (y_v rfl (v_assign rfl)) ?_
   refine d_t 14 rfl rfl (by kernel_rfl) rfl (fun _ m => m.keepsI (.refl _) ((j28).trans j29) hE3 hf3) (y_v rfl (v_assign rfl)) ?_
   refine d_done (by kernel_rfl) ?_
   refine go 9 ?_
   refine fin1 rfl rfl ?_
   exact q_i (congrArg Value.bool (ref_false hg ha))

theorem lawHMatches (I : IMap) (vc : Value) (c : List Kind) (hvc : RdS I vc c) (hoc : ∀ x ∈ c, OkKd x) (v : Value) (l : List Rep) (hv : RdS I v l) (hok : ∀ x ∈ l, OkRp x) (w : Value) (ch : List Int) (hw : RdS I w ch) (hok2 : ∀ x ∈ ch, I64 x)  :
    FnV Tryz.prog 3 #[.agg #[vc], v, w] I (.bool true) := by
 refine enter Tryz.func3 Tryz.call3 rfl Tryz.ntmps3 rfl (fun w0 => ?_)
 refine go 3 ?_
 refine o_box _ rfl rfl rfl (fun g3 => ?_)
 refine go 6 ?_
 refine o_callV (head15 _) rfl rfl ?_
 refine go 9 ?_
 refine o_callV (law15few _ vc c hvc v l hv) rfl rfl ?_
 refine go 2 ?_
 refine sxb 17 rfl (fun h17 p17 => ?_) (fun h17 p17 => ?_)
 ·refine go 6 ?_
  refine c_true rfl ?_
  refine go 8 ?_
  refine fin1 rfl rfl ?_
  exact q_vI rfl
 ·have hf : fewC c = true ∧ fewR l 10 = true := by simpa using h17
  obtain ⟨hsl, hl⟩ := fewR_sm hf.2
  have hsc := fewC_sm hf.1
  have hl6 : l.length ≤ 1000000 := by omega
  refine go 1 ?_
  refine o_cons (o_yes rfl rfl h17 (o_val rfl (OV.cast (u := .int .i64 ((ch.length : Nat) : Int)) (by obtain ⟨_, _, rfl, _⟩ := id hw; exact v_len_slice he rfl) rfl) ?_))
  refine go 4 ?_
  refine cb rfl (fun h21 p21 => ?_) (fun h21 p21 => ?_)
  ·refine go 8 ?_
   refine fin1 rfl rfl ?_
   exact q_vI rfl
  ·refine go 8 ?_
   refine o_call (hiFails _ vc c hvc hsc v l hv hl6 hsl w ch hw) rfl rfl (fun v27 I27 j27 q27 => ?_)
   try have hvc := hvc.le j27
   try have hv := hv.le j27
   try have hw := hw.le j27
   obtain rfl := q27
   refine go 13 ?_
   refine o_call (ref15Fails _ vc c hvc hsc v l hv hl6 hsl w ch hw) rfl rfl (fun v34 I34 j34 q34 => ?_)
   try have hvc := hvc.le j34
   try have hv := hv.le j34
   try have hw := hw.le j34
   obtain rfl := q34
   refine go 8 ?_
   refine sx_knowI (fun hE6 hf6 => ?_)
   refine d_startH T.mixed ?_
   refine d_tv 0 rfl rfl (by kernel_rfl) rfl (.refl _) rfl (v_move rfl) ?_
   refine d_tv 1 rfl rfl (by kernel_rfl) rfl (.refl _) rfl (v_move rfl) ?_
   refine d_t 2 rfl rfl (by kernel_rfl) rfl (fun _ m => m.keeps (.refl _)) (y_yes rfl rfl rfl (v_ldw m0 he rfl rfl)) ?_
   refine d_t 3 rfl rfl (by kernel_rfl) rfl (fun _ m => m.keeps (.refl _)) (y_yes rfl rfl rfl (v_move rfl)) ?_
   refine d_t 4 rfl rfl (by kernel_rfl) rfl (fun _ m => m.keeps (.refl _)) (y_yes rfl rfl rfl (v_move rfl)) ?_
   refine d_t 6 rfl rfl (by kernel_rfl) rfl (fun _ m => m.keeps (.refl _)) (y_yes rfl rfl rfl (v_ldw m0 he rfl rfl)) ?_
   refine d_t 7 rfl rfl (by kernel_rfl) rfl (fun _ m => m.keeps (.refl _)) (y_yes rfl rfl rfl (v_move rfl)) ?_
   refine d_t 8 rfl rfl (by kernel_rfl) rfl (fun _ m => m.keeps (.refl _)) (y_yes rfl rfl rfl (v_move rfl)) ?_
   refine d_one 5 (by kernel_rfl) rfl ?_
   refine o_yes rfl rfl rfl (o_call (hiIs _ vc c hvc hsc v l hv hl6 hsl w ch hw) rfl rfl (fun v42 I42 j42 q42 => ?_))
   try have hvc := hvc.le j42
   try have hv := hv.le j42
   try have hw := hw.le j42
   obtain rfl := q42
   refine d_on (fun _ m => m.keepsI (.refl _) (j42) hE6 hf6) ?_
   refine d_one 9 (by kernel_rfl) rfl ?_
   refine o_yes rfl rfl rfl (o_call (ref15Is _ vc c hvc hsc v l hv hl6 hsl w ch hw) rfl rfl (fun v46 I46 j46 q46 => ?_))
   try have hvc := hvc.le j46
   try have hv := hv.le j46
   try have hw := hw.le j46
   obtain rfl := q46
   refine d_on (fun _ m => m.keepsI (.refl _) ((j42).trans j46) hE6 hf6) ?_
   refine d_t 10 rfl rfl (by kernel_rfl) rfl (fun _ m => m.keepsI (.refl _) ((j42).trans j46) hE6 hf6) (y_yes rfl rfl rfl (OV.cast (u := .bool true) (v_beql he rfl rfl) (congrArg Value.bool (by simp)))) ?_
   refine d_t 11 rfl rfl (by kernel_rfl) rfl (fun _ m => m.keepsI (.refl _) ((j42).trans j46) hE6 hf6) (y_v rfl (v_and_t rfl rfl rfl)) ?_
   refine d_t 12 rfl rfl (by kernel_rfl) rfl (fun _ m => m.keepsI (.refl _) ((j42).trans j46) hE6 hf6) (y_v rfl (v_move rfl)) ?_
   refine d_t 13 rfl rfl (by kernel_rfl) rfl (fun _ m => m.keepsI (.refl _) ((j42).trans j46) hE6 hf6) (y_yes rfl rfl rfl (v_move rfl)) ?_
   refine d_t 14 rfl rfl (by kernel_rfl) rfl (fun _ m => m.keepsI (.refl _) ((j42).trans j46) hE6 hf6) (y_yes rfl rfl rfl (v_move rfl)) ?_
   refine d_t 15 rfl rfl (by kernel_rfl) rfl (fun _ m => m.keepsI (.refl _) ((j42).trans j46) hE6 hf6) (y_yes rfl rfl rfl (OV.cast (u := .bool true) (v_eql rfl rfl) (congrArg Value.bool (by simp)))) ?_
   refine d_t 16 rfl rfl (by kernel_rfl) rfl (fun _ m => m.keepsI (.refl _) ((j42).trans j46) hE6 hf6) (y_v rfl (v_and_t rfl rfl rfl)) ?_
   refine d_t 17 rfl rfl (by kernel_rfl) rfl (fun _ m => m.keepsI (.refl _) ((j42).trans j46) hE6 hf6) (y_v rfl (v_move rfl)) ?_
   refine d_t 18 rfl rfl (by kernel_rfl) rfl (fun _ m => m.keepsI (.refl _) ((j42).trans j46) hE6 hf6) (y_yes rfl rfl rfl (v_move rfl)) ?_
   refine d_t 19 rfl rfl (by kernel_rfl) rfl (fun _ m => m.keepsI (.refl _) ((j42).trans j46) hE6 hf6) (y_yes rfl rfl rfl (v_move rfl)) ?_
   refine d_t 20 rfl rfl (by kernel_rfl) rfl (fun _ m => m.keepsI (.refl _) ((j42).trans j46) hE6 hf6) (y_yes rfl rfl rfl (OV.cast (u := .bool true) (v_eql rfl rfl) (congrArg Value.bool (by simp)))) ?_
   refine d_t 21 rfl rfl (by kernel_rfl) rfl (fun _ m => m.keepsI (.refl _) ((j42).trans j46) hE6 hf6) (y_v rfl (v_and_t rfl rfl rfl)) ?_
   refine d_t 22 rfl rfl (by kernel_rfl) rfl (fun _ m => m.keepsI (.refl _) ((j42).trans j46) hE6 hf6) (y_v rfl (v_move rfl)) ?_
   refine d_t 23 rfl rfl (by kernel_rfl) rfl (fun _ m => m.keepsI (.refl _) ((j42).trans j46) hE6 hf6) (y_yes rfl rfl rfl (v_ldw m0 he rfl rfl)) ?_
   refine d_t 24 rfl rfl (by kernel_rfl) rfl (fun _ m => m.keepsI (.refl _) ((j42).trans j46) hE6 hf6) (y_yes rfl rfl rfl (v_move rfl)) ?_
   refine d_t 25 rfl rfl (by kernel_rfl) rfl (fun _ m => m.keepsI (.refl _) ((j42).trans j46) hE6 hf6) (y_yes rfl rfl rfl (v_move rfl)) ?_
   refine d_t 27 rfl rfl (by kernel_rfl) rfl (fun _ m => m.keepsI (.refl _) ((j42).trans j46) hE6 hf6) (y_yes rfl rfl rfl (v_ldw m0 he rfl rfl)) ?_
   refine d_t 28 rfl rfl (by kernel_rfl) rfl (fun _ m => m.keepsI (.refl _) ((j42).trans j46) hE6 hf6) (y_yes rfl rfl rfl (v_move rfl)) ?_
   refine d_t 29 rfl rfl (by kernel_rfl) rfl (fun _ m => m.keepsI (.refl _) ((j42).trans j46) hE6 hf6) (y_yes rfl rfl rfl (v_move rfl)) ?_
   refine d_one 26 (by kernel_rfl) rfl ?_
   refine o_yes rfl rfl rfl (o_call (hiFalse _ vc c hvc hsc v l hv hl6 hsl w ch hw) rfl rfl (fun v63 I63 j63 q63 => ?_))
   try have hvc := hvc.le j63
   try have hv := hv.le j63
   try have hw := hw.le j63
   obtain rfl := q63
   refine d_on (fun _ m => m.keepsI (.refl _) (((j42).trans j46).trans j63) hE6 hf6) ?_
   refine d_one 30 (by kernel_rfl) rfl ?_
   refine o_yes rfl rfl rfl (o_call (ref15False _ vc c hvc hsc v l hv hl6 hsl w ch hw) rfl rfl (fun v67 I67 j67 q67 => ?_))
   try have hvc := hvc.le j67
   try have hv := hv.le j67
   try have hw := hw.le j67
   obtain rfl := q67
   refine d_on (fun _ m => m.keepsI (.refl _) ((((j42).trans j46).trans j63).trans j67) hE6 hf6) ?_
   refine d_t 31 rfl rfl (by kernel_rfl) rfl (fun _ m => m.keepsI (.refl _) ((((j42).trans j46).trans j63).trans j67) hE6 hf6) (y_yes rfl rfl rfl (OV.cast (u := .bool true) (v_beql he rfl rfl) (congrArg Value.bool (by simp)))) ?_
   refine d_t 32 rfl rfl (by kernel_rfl) rfl (fun _ m => m.keepsI (.refl _) ((((j42).trans j46).trans j63).trans j67) hE6 hf6) (y_v rfl (v_and_t rfl rfl rfl)) ?_
   refine d_t 33 rfl rfl (by kernel_rfl) rfl (fun _ m => m.keepsI (.refl _) ((((j42).trans j46).trans j63).trans j67) hE6 hf6) (y_v rfl (v_assign rfl)) ?_
   refine d_done (by kernel_rfl) ?_
   refine go 2 ?_
   refine fin1 rfl rfl ?_
   exact q_vI rfl

end Go.Proofs.YtkmdojpfccjnoaaGreat

/- The law HistoryMatchesReference holds of the given program, for every input. No condition. -/
namespace Go.Proofs.YtkmdojpfccjnoaaGreat
open Go Go.Sx
set_option linter.all false
theorem T.cel_103 : Tryz.prog.cellsOf 103 = 3 := by kernel_rfl
theorem T.cel_24 : Tryz.prog.cellsOf 24 = 1 := by kernel_rfl
theorem T.cel_3 : Tryz.prog.cellsOf 3 = 1 := by kernel_rfl
theorem T.cel_37 : Tryz.prog.cellsOf 37 = 2 := by kernel_rfl
theorem T.cel_49 : Tryz.prog.cellsOf 49 = 2 := by kernel_rfl
theorem T.cel_51 : Tryz.prog.cellsOf 51 = 6 := by kernel_rfl
theorem T.cel_53 : Tryz.prog.cellsOf 53 = 14 := by kernel_rfl
theorem T.cel_87 : Tryz.prog.cellsOf 87 = 3 := by kernel_rfl
theorem T.cel_9 : Tryz.prog.cellsOf 9 = 1 := by kernel_rfl
instance T.fds_103 : Has (fieldsK Tryz.prog 103) [(9, 0, 1), (57, 1, 1), (3, 2, 1)] := ⟨by kernel_rfl⟩
instance T.fds_24 : Has (fieldsK Tryz.prog 24) [(22, 0, 1)] := ⟨by kernel_rfl⟩
instance T.fds_37 : Has (fieldsK Tryz.prog 37) [(35, 0, 1), (4, 1, 1)] := ⟨by kernel_rfl⟩
instance T.fds_49 : Has (fieldsK Tryz.prog 49) [(3, 0, 1), (3, 1, 1)] := ⟨by kernel_rfl⟩
instance T.fds_51 : Has (fieldsK Tryz.prog 51) [(49, 0, 2), (49, 2, 2), (49, 4, 2)] := ⟨by kernel_rfl⟩
instance T.fds_53 : Has (fieldsK Tryz.prog 53) [(3, 0, 1), (3, 1, 1), (9, 2, 1), (9, 3, 1), (9, 4, 1), (9, 5, 1), (9, 6, 1), (9, 7, 1), (51, 8, 6)] := ⟨by kernel_rfl⟩
instance T.fds_87 : Has (fieldsK Tryz.prog 87) [(9, 0, 1), (4, 1, 1), (85, 2, 1)] := ⟨by kernel_rfl⟩
namespace lawHistoryMatchesReference
open Go.ChangeShapes Go.WideShapes Go.ChangeAt Go.RowKit
theorem own : ownKnob Tryz.prog.godebug = none := by kernel_rfl
set_option maxRecDepth 100000 in
theorem lifted (os : Os) (started : os.Started) (H : Type) (enc : TypeId × Value → H) :
    ReturnsInHanded {} Tryz.checked os 3 .any (Rows.historyMatchesReferenceSpec.pre6 enc Tryz.prog Tryz.f3 Rows.historyMatchesReferenceRow.domain false) (Rows.historyMatchesReferenceSpec.post enc Tryz.prog Tryz.f3 false true false false) := by
  refine returnsInHanded_of_change (C := Tryz.checked) own started (by kernel_rfl) Tryz.func3
    (ChangeSpec.witness6 (enc := enc) (C := Tryz.checked) false ⟨#[], #[.agg #[.slice none 0 0], .slice none 0 0, .slice none 0 0], []⟩ 8 (by kernel_rfl) (by kernel_rfl) (by kernel_rfl) (by kernel_rfl)) ?_
  intro W base args ds gs before hval0 hW hcnd _
  have hval : ∀ (j : Nat) t v, Tryz.f3.params[j]? = some t → args[j]? = some v → Value.okWide Tryz.prog W .any base t v := hval0
  have hW' := hW
  obtain ⟨p, q, hA0, hV, rfl, hfz, hnd⟩ := hW
  have hA : DataW.TrodAll enc Tryz.prog W 0 (fun _ => true) true Tryz.f3.params.toList args.toList ds p := hA0
  rw [Tryz.params3] at hA hval
  obtain ⟨v0, vs0, d0, ds0, p0, q0, hargs, rfl, rfl, h0, r0⟩ := trodAll_cons hA
  obtain ⟨v1, vs1, d1, ds1, p1, q1, rfl, rfl, rfl, h1, r1⟩ := trodAll_cons r0
  obtain ⟨v2, vs2, d2, ds2, p2, q2, rfl, rfl, rfl, h2, r2⟩ := trodAll_cons r1
  obtain ⟨rfl, rfl, rfl⟩ := trodAll_nil r2
  obtain rfl : args = #[v0, v1, v2] := by cases args; simp_all
  obtain ⟨rfl, rfl⟩ := trodVars_none hV
  clear hA0 hval0
  obtain ⟨cs0, rfl, hz0⟩ := okWide_agg T.fds_24.eq (hval 0 24 v0 rfl rfl)
  obtain ⟨fu0, hf0⟩ := h0
  obtain ⟨l0, ⟨u0, e0, R0⟩, G0⟩ := (opens_wrap T.fds_24.eq T.cel_24 (opens_slice T.und_22.eq T.cel_87 rfl (opens_kind T.fds_87.eq T.cel_87 (opens_string T.und_9.eq) (opens_bool T.und_4.eq) (opens_slice T.und_85.eq T.cel_103 rfl (opens_slot T.fds_103.eq T.cel_103 (opens_string T.und_9.eq) (opens_slice T.und_57.eq T.cel_9 rfl (opens_string T.und_9.eq)) (opens_int T.und_3.eq)))))) enc W 0 _ true fu0 _ _ hf0
  obtain rfl : cs0 = #[u0] := Array.toList_inj.1 e0
  obtain ⟨s1, n1, c1, rfl⟩ := okWide_slice T.und_25.eq (hval 1 25 v1 rfl rfl)
  obtain ⟨fu1, hf1⟩ := h1
  obtain ⟨l1, ⟨u1, e1, R1⟩, G1⟩ := (opens_slice T.und_25.eq T.cel_37 rfl (opens_rep T.fds_37.eq T.cel_37 (opens_slice T.und_35.eq T.cel_53 rfl (opens_evt T.fds_53.eq T.cel_53 (opens_int T.und_3.eq) (opens_string T.und_9.eq) (opens_use T.fds_51.eq T.cel_51 (opens_ivl T.fds_49.eq T.cel_49 (opens_int T.und_3.eq))))) (opens_bool T.und_4.eq))) enc W 0 _ true fu1 _ _ hf1
  cases e1
  obtain ⟨s2, n2, c2, rfl⟩ := okWide_slice T.und_26.eq (hval 2 26 v2 rfl rfl)
  obtain ⟨fu2, hf2⟩ := h2
  obtain ⟨l2, ⟨u2, e2, R2⟩, G2⟩ := (opens_slice T.und_26.eq T.cel_3 rfl (opens_int T.und_3.eq)) enc W 0 _ true fu2 _ _ hf2
  cases e2
  exact law_calls (s := Rows.historyMatchesReferenceSpec) Tryz.call3 (lawHMatches (Iw W) _ l0 R0 G0 _ l1 R1 G1 _ l2 R2 G2) hW' (by kernel_rfl) (by kernel_rfl) rfl T.und_4.eq rfl rfl
theorem over : Rows.historyMatchesReferenceRow.holds Tryz.pinned (OpenSpec.ofChange Rows.historyMatchesReferenceSpec) :=
  OpenClaim.holds_of_wide 3 Tryz.f3 rfl rfl rfl rfl rfl rfl rfl ⟨rfl, rfl, rfl, rfl, rfl⟩ rfl rfl rfl rfl rfl (by kernel_rfl) Tryz.func3 (by kernel_rfl)
    (of_decide_eq_true (by kernel_rfl)) (by unfold Func.isWrapper; first | (rw [if_pos (by decide +kernel)]; kernel_rfl) | (rw [if_neg (by decide +kernel)]; exact ⟨rfl, rfl⟩))
    (fun os started H enc _ => lifted os started H enc)
/-- the statement -/
theorem proved : Rows.HistoryMatchesReferenceSaid := over
end lawHistoryMatchesReference
end Go.Proofs.YtkmdojpfccjnoaaGreat

