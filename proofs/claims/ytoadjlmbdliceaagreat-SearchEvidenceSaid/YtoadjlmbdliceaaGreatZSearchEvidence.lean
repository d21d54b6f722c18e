/- The law SearchEvidence holds of the given program, for every input. No condition. -/
import Derived.Test.YtoadjlmbdliceaaGreatYc
import Derived.Carry
import Derived.ChangeArms
import Derived.Deep.Slices
import Derived.OpenShut
import Derived.ProofKit
import Derived.Test.YtoadjlmbdliceaaGreatRows
/- How what comes in is read: out of the row's reading into the data of the walks; how a law's row is closed. -/
set_option linter.all false
namespace Go.Sx
open Go

def Iw (w : World) : IMap := fun b => w.heap[b]?
theorem Iw_mem (w : World) : Mem ⟨foots [], Iw w, w⟩ (Iw w) [] w :=
  ⟨Upd.refl _ _, fun _ _ h => h, ILe.refl _, fun _ h => .inl h, fun _ h => (by cases h), fun _ h => (by cases h), List.nodup_nil⟩
theorem cell_I {w : World} {b off : Nat} {v : Value} (h : w.cell? ⟨b, off, none⟩ = some v) : ICell (Iw w) b off v := by
  unfold World.cell? at h
  split at h
  · rename_i c t fz hb
    exact ⟨c, t, fz, hb, by simpa using h⟩
  · cases h
/-- whatever reads as this type reads as this -/
def Opens (P : Program) (t : TypeId) (α : Type) [Enc α] (G : α → Prop) : Prop :=
  ∀ {H : Type} (enc : TypeId × Value → H) (w : World) (base : Nat) (spare : Nat → Bool) (held : Bool) (fuel : Nat) (cs : List Value) (x : DataW H × List MemPlace),
    DataW.trod enc P w base spare held fuel t cs = some x → ∃ y : α, Enc.rd (Iw w) cs y ∧ G y
abbrev SmB (s : ByteArray) : Prop := s.size ≤ maxLen
theorem wf_i64 {n : Int} (h : (Lit.int .i64 n).wf = true) : I64 n := by
  simp only [Lit.wf, Bool.and_eq_true, decide_eq_true_eq] at h
  unfold I64; simpa [IntKind.min, IntKind.max, IntKind.signed, IntKind.bits] using h
section
variable {P : Program} {t e : TypeId}
theorem opens_string (ht : P.underlying t = some .string) : Opens P t ByteArray SmB := by
  intro H enc w base spare held fuel cs x h
  obtain ⟨s, rfl, _, h2⟩ := DataW.trod_string ht h
  exact ⟨s, rfl, h2⟩
theorem opens_int (ht : P.underlying t = some (.int .i64)) : Opens P t Int I64 := by
  intro H enc w base spare held fuel cs x h
  obtain ⟨s, rfl, _, h2⟩ := DataW.trod_int ht h
  exact ⟨s, rfl, wf_i64 h2⟩
theorem opens_bool (ht : P.underlying t = some .bool) : Opens P t Bool (fun _ => True) := by
  intro H enc w base spare held fuel cs x h
  obtain ⟨b, rfl, _⟩ := DataW.trod_bool ht h
  exact ⟨b, rfl, trivial⟩
theorem choose_list {α : Type} {p : Nat → α → Prop} : ∀ n : Nat, (∀ i, i < n → ∃ x, p i x) → ∃ l : List α, l.length = n ∧ ∀ i x, l[i]? = some x → p i x
  | 0, _ => ⟨[], rfl, fun i x h => by simp at h⟩
  | n + 1, h => by
    obtain ⟨l, h1, h2⟩ := choose_list n (fun i hi => h i (by omega))
    obtain ⟨x, hx⟩ := h n (by omega)
    refine ⟨l ++ [x], by simp [h1], fun i y hy => ?_⟩
    rcases Nat.lt_or_ge i l.length with hi | hi
    · rw [List.getElem?_append_left hi] at hy; exact h2 i y hy
    · rw [List.getElem?_append_right hi] at hy
      have h3 : i - l.length = 0 := by
        rcases Nat.eq_zero_or_pos (i - l.length) with h | h
        · exact h
        · rw [List.getElem?_eq_none (by simp; omega)] at hy; cases hy
      rw [h3] at hy
      simp at hy
      subst hy
      obtain rfl : i = n := by omega
      exact hx
theorem opens_slice {α : Type} [Enc α] {G : α → Prop} (ht : P.underlying t = some (.slice e)) (hc : P.cellsOf e = Enc.k α) (hk : Nat.blt 0 (Enc.k α) = true) (he : Opens P e α G) : Opens P t (List α) (fun l => ∀ x ∈ l, G x) := by
  intro H enc w base spare held fuel cs x h
  rcases Deep.open_slice ht h with ⟨rfl, _⟩ | ⟨a, len, cap, m, n, D, Pl, rfl, hb, hl, hm, hmm, _, hx⟩
  · exact ⟨[], ⟨_, rfl, RdS.nil'⟩, fun _ h => by cases h⟩
  have hlm : len ≤ m := by rw [hmm]; split <;> omega
  obtain ⟨l, h1, h2⟩ := choose_list (p := fun i y => ∃ vs, (∀ j u, vs[j]? = some u → w.cell? ((a.add (i * P.cellsOf e)).add j) = some u) ∧ vs.length = Enc.k α ∧ Enc.rd (Iw w) vs y ∧ G y) len (fun i hi => by
    obtain ⟨cs', h3, h4⟩ := hx i (by omega)
    obtain ⟨y, h5, h6⟩ := he enc w base spare held n cs' _ h4
    obtain ⟨_, h7, h8⟩ := World.cells?_some h3
    refine ⟨y, cs', fun j u hu => ?_, Enc.len h5, h5, h6⟩
    have hj : j < cs'.length := (List.getElem?_eq_some_iff.1 hu).1
    rw [h8 j (by omega), hu])
  subst h1
  refine ⟨l, ⟨_, rfl, some a, cap, rfl, fun hp => ?_, hl, by unfold maxLen at hm; exact hm⟩, fun x hx => ?_⟩
  · have hk' : 0 < Enc.k α := by simpa [Nat.blt_eq] using hk
    have hsp : a.spot = none := by
      obtain ⟨vs, h3, h4, _⟩ := h2 0 l[0] (List.getElem?_eq_getElem hp)
      have h5 := h3 0 vs[0] (List.getElem?_eq_getElem (by omega))
      unfold World.cell? at h5
      split at h5
      · split at h5
        · cases h5
        · rename_i hn; simpa [Addr.add] using hn
      · cases h5
    obtain ⟨b, o, sp⟩ := a
    simp only at hsp
    subst hsp
    refine ⟨b, o, rfl, fun i x hi => ?_⟩
    obtain ⟨vs, h3, h4, h5, _⟩ := h2 i x hi
    refine ⟨vs, fun j u hu => cell_I ?_, h5⟩
    have h6 := h3 j u hu
    rw [add_lit, add_lit, hc] at h6
    exact h6
  · obtain ⟨i, hi, rfl⟩ := List.getElem_of_mem hx
    obtain ⟨_, _, _, _, h3⟩ := h2 i _ (List.getElem?_eq_getElem hi)
    exact h3
def fieldsK (P : Program) (t : TypeId) : Option (List (TypeId × Nat × Nat)) :=
  match P.underlying t with
  | some (.struct fs) => some (fs.toList.map fun f => (f.type, f.offset, P.cellsOf f.type))
  | _ => none
theorem trod_fields {H : Type} {enc : TypeId × Value → H} {w : World} {base : Nat} {spare : Nat → Bool} {held : Bool} {fuel : Nat} {cs : List Value} {x : DataW H × List MemPlace} {l : List (TypeId × Nat × Nat)}
    (hf : fieldsK P t = some l) (h : DataW.trod enc P w base spare held fuel t cs = some x) :
    cs.length = P.cellsOf t ∧ ∀ q ∈ l, ∃ n y, DataW.trod enc P w base spare held n q.1 ((cs.drop q.2.1).take q.2.2) = some y := by
  unfold fieldsK at hf
  split at hf
  · rename_i fs ht
    simp only [Option.some.injEq] at hf
    subst hf
    obtain ⟨xs, n, _, _, h1, h2, h3⟩ := DataW.trod_struct ht h
    refine ⟨h1, fun q hq => ?_⟩
    obtain ⟨f, hf, rfl⟩ := List.mem_map.1 hq
    obtain ⟨i, hi, rfl⟩ := List.getElem_of_mem hf
    have hi' : i < fs.size := by simpa using hi
    have h4 := h3 i fs[i] (by simp [hi'])
    rw [List.getElem?_eq_getElem (by omega)] at h4
    exact ⟨n, _, by simpa using h4⟩
  · cases hf
theorem okWide_agg {l : List (TypeId × Nat × Nat)} {w : World} {r : Reach} {base : Nat} {v : Value} (hf : fieldsK P t = some l) (h : Value.okWide P w r base t v) : ∃ cs, v = .agg cs ∧ cs.size = P.cellsOf t := by
  unfold fieldsK at hf
  split at hf
  · rename_i fs ht; exact WideShapes.okWide_struct ht h
  · cases hf
theorem len_cons {cs : List Value} {n : Nat} (h : cs.length = n + 1) : ∃ a r, cs = a :: r ∧ r.length = n := by
  cases cs with
  | nil => simp at h
  | cons a r => exact ⟨a, r, rfl, by simpa using h⟩
theorem len_nil {cs : List Value} (h : cs.length = 0) : cs = [] := List.eq_nil_of_length_eq_zero h
/-- a struct of one field -/
theorem opens_wrap {α : Type} [Enc α] {G : α → Prop} {t0 : TypeId} {k : Nat} (hf : fieldsK P t = some [(t0, 0, k)]) (hc : P.cellsOf t = k) (h0 : Opens P t0 α G) : Opens P t α G := by
  intro H enc w base spare held fuel cs x h
  obtain ⟨hl, hall⟩ := trod_fields hf h
  obtain ⟨n, y, h1⟩ := hall (t0, 0, k) (by simp)
  have e : (cs.drop 0).take k = cs := by rw [List.drop_zero]; exact List.take_of_length_le (by omega)
  rw [show ((t0, 0, k) : TypeId × Nat × Nat).2.1 = 0 from rfl, show ((t0, 0, k) : TypeId × Nat × Nat).2.2 = k from rfl, e] at h1
  exact h0 enc w base spare held n cs y h1
/-! the types of this program -/
def OkIvl (x : Ivl) : Prop := I64 x.low ∧ I64 x.high
def OkUse (x : Use) : Prop := OkIvl x.km ∧ OkIvl x.cycles ∧ OkIvl x.load
structure OkE (e : Evt) : Prop where
  op : I64 e.op
  day : I64 e.day
  part : SmB e.part
  kind : SmB e.kind
  into : SmB e.into
  slot : SmB e.slot
  key : SmB e.key
  value : SmB e.value
  use : OkUse e.use
def OkSl (s : Slot) : Prop := SmB s.name ∧ (∀ k ∈ s.kinds, SmB k) ∧ I64 s.normal
def OkKd (k : Kind) : Prop := SmB k.name ∧ ∀ s ∈ k.slots, OkSl s
theorem opens_ivl {t0 : TypeId} (hf : fieldsK P t = some [(t0, 0, 1), (t0, 1, 1)]) (hc : P.cellsOf t = 2) (h0 : Opens P t0 Int I64) : Opens P t Ivl OkIvl := by
  intro H enc w base spare held fuel cs x h
  obtain ⟨hl, hall⟩ := trod_fields hf h
  rw [hc] at hl
  obtain ⟨a, r0_, rfl, l0_⟩ := len_cons hl
  obtain ⟨b, r1_, rfl, l1_⟩ := len_cons l0_
  obtain rfl := len_nil l1_
  obtain ⟨n0, y0, h1⟩ := hall (t0, 0, 1) (by simp)
  obtain ⟨n1, y1, h2⟩ := hall (t0, 1, 1) (by simp)
  obtain ⟨x0, e0, g0⟩ := h0 enc w base spare held n0 _ y0 h1
  obtain ⟨x1, e1, g1⟩ := h0 enc w base spare held n1 _ y1 h2
  have e0 : [a] = [.int .i64 x0] := e0
  have e1 : [b] = [.int .i64 x1] := e1
  cases e0
  cases e1
  exact ⟨⟨x0, x1⟩, rfl, g0, g1⟩
theorem opens_three {t0 : TypeId} {w : World} {H : Type} {enc : TypeId × Value → H} {base : Nat} {spare : Nat → Bool} {held : Bool} {fuel : Nat} {cs : List Value} {x : DataW H × List MemPlace} (hf : fieldsK P t = some [(t0, 0, 2), (t0, 2, 2), (t0, 4, 2)]) (hc : P.cellsOf t = 6) (h0 : Opens P t0 Ivl OkIvl)
    (h : DataW.trod enc P w base spare held fuel t cs = some x) : ∃ a b c : Ivl, cs = a.cells ++ (b.cells ++ c.cells) ∧ OkIvl a ∧ OkIvl b ∧ OkIvl c := by
  obtain ⟨hl, hall⟩ := trod_fields hf h
  rw [hc] at hl
  obtain ⟨a, r0_, rfl, l0_⟩ := len_cons hl
  obtain ⟨b, r1_, rfl, l1_⟩ := len_cons l0_
  obtain ⟨c, r2_, rfl, l2_⟩ := len_cons l1_
  obtain ⟨d, r3_, rfl, l3_⟩ := len_cons l2_
  obtain ⟨e, r4_, rfl, l4_⟩ := len_cons l3_
  obtain ⟨f, r5_, rfl, l5_⟩ := len_cons l4_
  obtain rfl := len_nil l5_
  obtain ⟨n0, y0, h1⟩ := hall (t0, 0, 2) (by simp)
  obtain ⟨n1, y1, h2⟩ := hall (t0, 2, 2) (by simp)
  obtain ⟨n2, y2, h3⟩ := hall (t0, 4, 2) (by simp)
  obtain ⟨x0, e0, g0⟩ := h0 enc w base spare held n0 _ y0 h1
  obtain ⟨x1, e1, g1⟩ := h0 enc w base spare held n1 _ y1 h2
  obtain ⟨x2, e2, g2⟩ := h0 enc w base spare held n2 _ y2 h3
  have e0 : [a, b] = x0.cells := e0
  have e1 : [c, d] = x1.cells := e1
  have e2 : [e, f] = x2.cells := e2
  exact ⟨x0, x1, x2, by rw [← e0, ← e1, ← e2]; rfl, g0, g1, g2⟩
theorem opens_use {t0 : TypeId} (hf : fieldsK P t = some [(t0, 0, 2), (t0, 2, 2), (t0, 4, 2)]) (hc : P.cellsOf t = 6) (h0 : Opens P t0 Ivl OkIvl) : Opens P t Use OkUse := by
  intro H enc w base spare held fuel cs x h
  obtain ⟨a, b, c, rfl, h1, h2, h3⟩ := opens_three hf hc h0 h
  exact ⟨⟨a, b, c⟩, rfl, h1, h2, h3⟩
theorem opens_evt {ti ts tu : TypeId} (hf : fieldsK P t = some [(ti, 0, 1), (ti, 1, 1), (ts, 2, 1), (ts, 3, 1), (ts, 4, 1), (ts, 5, 1), (ts, 6, 1), (ts, 7, 1), (tu, 8, 6)]) (hc : P.cellsOf t = 14) (hi : Opens P ti Int I64) (hs : Opens P ts ByteArray SmB) (hu : Opens P tu Use OkUse) : Opens P t Evt OkE := by
  intro H enc w base spare held fuel cs x h
  obtain ⟨hl, hall⟩ := trod_fields hf h
  rw [hc] at hl
  obtain ⟨a0, r0_, rfl, l0_⟩ := len_cons hl
  obtain ⟨a1, r1_, rfl, l1_⟩ := len_cons l0_
  obtain ⟨a2, r2_, rfl, l2_⟩ := len_cons l1_
  obtain ⟨a3, r3_, rfl, l3_⟩ := len_cons l2_
  obtain ⟨a4, r4_, rfl, l4_⟩ := len_cons l3_
  obtain ⟨a5, r5_, rfl, l5_⟩ := len_cons l4_
  obtain ⟨a6, r6_, rfl, l6_⟩ := len_cons l5_
  obtain ⟨a7, r7_, rfl, l7_⟩ := len_cons l6_
  obtain ⟨a8, r8_, rfl, l8_⟩ := len_cons l7_
  obtain ⟨a9, r9_, rfl, l9_⟩ := len_cons l8_
  obtain ⟨a10, r10_, rfl, l10_⟩ := len_cons l9_
  obtain ⟨a11, r11_, rfl, l11_⟩ := len_cons l10_
  obtain ⟨a12, r12_, rfl, l12_⟩ := len_cons l11_
  obtain ⟨a13, r13_, rfl, l13_⟩ := len_cons l12_
  obtain rfl := len_nil l13_
  obtain ⟨n0, y0, h0⟩ := hall (ti, 0, 1) (by simp)
  obtain ⟨x0, e0, g0⟩ := hi enc w base spare held n0 _ y0 h0
  have e0 : [a0] = [.int .i64 x0] := e0
  cases e0
  obtain ⟨n1, y1, h1⟩ := hall (ti, 1, 1) (by simp)
  obtain ⟨x1, e1, g1⟩ := hi enc w base spare held n1 _ y1 h1
  have e1 : [a1] = [.int .i64 x1] := e1
  cases e1
  obtain ⟨n2, y2, h2⟩ := hall (ts, 2, 1) (by simp)
  obtain ⟨x2, e2, g2⟩ := hs enc w base spare held n2 _ y2 h2
  have e2 : [a2] = [.string x2] := e2
  cases e2
  obtain ⟨n3, y3, h3⟩ := hall (ts, 3, 1) (by simp)
  obtain ⟨x3, e3, g3⟩ := hs enc w base spare held n3 _ y3 h3
  have e3 : [a3] = [.string x3] := e3
  cases e3
  obtain ⟨n4, y4, h4⟩ := hall (ts, 4, 1) (by simp)
  obtain ⟨x4, e4, g4⟩ := hs enc w base spare held n4 _ y4 h4
  have e4 : [a4] = [.string x4] := e4
  cases e4
  obtain ⟨n5, y5, h5⟩ := hall (ts, 5, 1) (by simp)
  obtain ⟨x5, e5, g5⟩ := hs enc w base spare held n5 _ y5 h5
  have e5 : [a5] = [.string x5] := e5
  cases e5
  obtain ⟨n6, y6, h6⟩ := hall (ts, 6, 1) (by simp)
  obtain ⟨x6, e6, g6⟩ := hs enc w base spare held n6 _ y6 h6
  have e6 : [a6] = [.string x6] := e6
  cases e6
  obtain ⟨n7, y7, h7⟩ := hall (ts, 7, 1) (by simp)
  obtain ⟨x7, e7, g7⟩ := hs enc w base spare held n7 _ y7 h7
  have e7 : [a7] = [.string x7] := e7
  cases e7
  obtain ⟨n8, y8, h8⟩ := hall (tu, 8, 6) (by simp)
  obtain ⟨x8, e8, g8⟩ := hu enc w base spare held n8 _ y8 h8
  have e8 : [a8, a9, a10, a11, a12, a13] = x8.cells := e8
  cases e8
  exact ⟨⟨x0, x1, x2, x3, x4, x5, x6, x7, x8⟩, rfl, ⟨g0, g1, g2, g3, g4, g5, g6, g7, g8⟩⟩
theorem opens_slot {ti tk ts : TypeId} (hf : fieldsK P t = some [(ts, 0, 1), (tk, 1, 1), (ti, 2, 1)]) (hc : P.cellsOf t = 3) (hs : Opens P ts ByteArray SmB) (hk : Opens P tk (List ByteArray) (fun l => ∀ x ∈ l, SmB x)) (hi : Opens P ti Int I64) : Opens P t Slot OkSl := by
  intro H enc w base spare held fuel cs x h
  obtain ⟨hl, hall⟩ := trod_fields hf h
  rw [hc] at hl
  obtain ⟨a0, r0_, rfl, l0_⟩ := len_cons hl
  obtain ⟨a1, r1_, rfl, l1_⟩ := len_cons l0_
  obtain ⟨a2, r2_, rfl, l2_⟩ := len_cons l1_
  obtain rfl := len_nil l2_
  obtain ⟨n0, y0, h0⟩ := hall (ts, 0, 1) (by simp)
  obtain ⟨x0, e0, g0⟩ := hs enc w base spare held n0 _ y0 h0
  have e0 : [a0] = [.string x0] := e0
  cases e0
  obtain ⟨n1, y1, h1⟩ := hall (tk, 1, 1) (by simp)
  obtain ⟨x1, e1, g1⟩ := hk enc w base spare held n1 _ y1 h1
  obtain ⟨v1, e1, r1⟩ := e1
  have e1 : [a1] = [v1] := e1
  cases e1
  obtain ⟨n2, y2, h2⟩ := hall (ti, 2, 1) (by simp)
  obtain ⟨x2, e2, g2⟩ := hi enc w base spare held n2 _ y2 h2
  have e2 : [a2] = [.int .i64 x2] := e2
  cases e2
  exact ⟨⟨x0, x1, x2⟩, ⟨_, rfl, r1⟩, g0, g1, g2⟩
theorem opens_kind {tb tk ts : TypeId} (hf : fieldsK P t = some [(ts, 0, 1), (tb, 1, 1), (tk, 2, 1)]) (hc : P.cellsOf t = 3) (hs : Opens P ts ByteArray SmB) (hb : Opens P tb Bool (fun _ => True)) (hk : Opens P tk (List Slot) (fun l => ∀ x ∈ l, OkSl x)) : Opens P t Kind OkKd := by
  intro H enc w base spare held fuel cs x h
  obtain ⟨hl, hall⟩ := trod_fields hf h
  rw [hc] at hl
  obtain ⟨a0, r0_, rfl, l0_⟩ := len_cons hl
  obtain ⟨a1, r1_, rfl, l1_⟩ := len_cons l0_
  obtain ⟨a2, r2_, rfl, l2_⟩ := len_cons l1_
  obtain rfl := len_nil l2_
  obtain ⟨n0, y0, h0⟩ := hall (ts, 0, 1) (by simp)
  obtain ⟨x0, e0, g0⟩ := hs enc w base spare held n0 _ y0 h0
  have e0 : [a0] = [.string x0] := e0
  cases e0
  obtain ⟨n1, y1, h1⟩ := hall (tb, 1, 1) (by simp)
  obtain ⟨x1, e1, g1⟩ := hb enc w base spare held n1 _ y1 h1
  have e1 : [a1] = [.bool x1] := e1
  cases e1
  obtain ⟨n2, y2, h2⟩ := hall (tk, 2, 1) (by simp)
  obtain ⟨x2, e2, g2⟩ := hk enc w base spare held n2 _ y2 h2
  obtain ⟨v2, e2, r2⟩ := e2
  have e2 : [a2] = [v2] := e2
  cases e2
  exact ⟨⟨x0, x1, x2⟩, ⟨_, rfl, r2⟩, g0, g2⟩
/-! a law's row -/
open Go.ChangeShapes Go.WideShapes Go.RowKit
variable {H : Type} {enc : TypeId × Value → H}
theorem trodAll_later {W W' : World} (hl : laidOutB P = true) (hb : Below W.heap.size W W') : ∀ (ts : List TypeId) (vs : List Value) (ds : List (DataW H)) (ps : List MemPlace), ts.all (fun t => P.readableRec t && decide (t < P.types.size)) = true → (∀ x ∈ ps, x.block < W.heap.size) →
    DataW.TrodAll enc P W 0 (fun _ => true) true ts vs ds ps → DataW.TrodAll enc P W' 0 (fun b => decide (b < W.heap.size)) true ts vs ds ps
  | [], vs, ds, ps, _, _, h => by
    obtain ⟨rfl, rfl, rfl⟩ := trodAll_nil h
    exact trodAll_mk0
  | t :: ts, vs, ds, ps, ht, hp, h => by
    obtain ⟨v, vs', d, ds', p, q, rfl, rfl, rfl, h1, h2⟩ := trodAll_cons h
    simp only [List.all_cons, Bool.and_eq_true, decide_eq_true_eq] at ht
    exact trodAll_cons_mk (Below.trod hl ht.1.1 ht.1.2 h1 hb fun x hx => hp x (by simp [hx])) (trodAll_later hl hb ts vs' ds' q (by simpa using ht.2) (fun x hx => hp x (by simp [hx])) h2)
theorem law_calls {f : FuncId} {fn : Func} {args : Array Value} {W : World} {s : ChangeSpec} {ds gs : List (DataW H)} {before : List MemPlace} {tb : TypeId}
    (hcall : ∀ (args : Array Value) (w : World), (callFunc f args).run P w = .ok (.enter f args) w) (hc : FnV P f args (Iw W) (.bool true)) (hW : DataW.Whole enc P fn.params.toList s.vars false W args.toList ds gs before)
    (hlaid : laidOutB P = true) (hts : fn.params.toList.all (fun t => P.readableRec t && decide (t < P.types.size)) = true) (hres : fn.resultTypes = #[tb]) (htb : P.underlying tb = some .bool)
    (hfn : s.fn H (ds ++ gs) = { results := [.lit (.bool true)], args := ds }) (hvars : s.vars = []) :
    Calls P f args W fun e W' => ∃ v, e = .returned v ∧ s.post enc P fn false true false false W args v W' := by
  have h := hc.go W (Iw_mem W)
  unfold After at h
  rw [hcall] at h
  refine Calls.mono h ?_
  rintro e W' ⟨v, I', H', rfl, hm, rfl, rfl, rfl⟩
  refine ⟨_, rfl, ?_⟩
  have hlt := hW.lt
  have hb : Below W.heap.size W W' := ⟨hm.upd.os, hm.upd.tape, hm.upd.output, hm.upd.size, fun k hk => hm.upd.block k hk (by simp [foots])⟩
  obtain ⟨p, q, hA, hV, hpq, hfz, hnd⟩ := id hW
  rw [hvars] at hV
  obtain ⟨rfl, rfl⟩ := trodVars_none hV
  refine ⟨ds, [], before, [], p, [], hW, ?_, ?_, ?_, ?_, fun h => by cases h⟩
  · rw [hfn, hres]
    exact trodAll_cons_mk (shut_bool htb _) trodAll_mk0
  · rw [hfn]
    exact trodAll_later hlaid hb _ _ _ _ hts (fun x hx => by simpa using hlt x (by rw [hpq]; simp [hx])) hA
  · rw [hfn, hvars]
    rfl
  · refine ⟨hm.upd.os, hm.upd.output, fun i hi => ?_⟩
    rw [hb.block i hi]
    cases W.heap[i]? with
    | none => rfl
    | some o => cases o <;> simp
end
end Go.Sx

/- How reports and bytes that come in are read. -/
set_option linter.all false
namespace Go.Sx
open Go
def OkRp (r : Rep) : Prop := ∀ e ∈ r.options, OkE e
section
variable {P : Program} {t : TypeId}
theorem opens_rep {tb tk : TypeId} (hf : fieldsK P t = some [(tk, 0, 1), (tb, 1, 1)]) (hc : P.cellsOf t = 2) (hk : Opens P tk (List Evt) (fun l => ∀ x ∈ l, OkE x)) (hb : Opens P tb Bool (fun _ => True)) : Opens P t Rep OkRp := by
  intro H enc w base spare held fuel cs x h
  obtain ⟨hl, hall⟩ := trod_fields hf h
  rw [hc] at hl
  obtain ⟨a0, r0_, rfl, l0_⟩ := len_cons hl
  obtain ⟨a1, r1_, rfl, l1_⟩ := len_cons l0_
  obtain rfl := len_nil l1_
  obtain ⟨n0, y0, h0⟩ := hall (tk, 0, 1) (by simp)
  obtain ⟨x0, e0, g0⟩ := hk enc w base spare held n0 _ y0 h0
  obtain ⟨v0, e0, r0⟩ := e0
  have e0 : [a0] = [v0] := e0
  cases e0
  obtain ⟨n1, y1, h1⟩ := hall (tb, 1, 1) (by simp)
  obtain ⟨x1, e1, g1⟩ := hb enc w base spare held n1 _ y1 h1
  have e1 : [a1] = [.bool x1] := e1
  cases e1
  exact ⟨⟨x0, x1⟩, ⟨_, rfl, r0⟩, g0⟩
theorem opens_u8 (ht : P.underlying t = some (.int .u8)) : Opens P t UInt8 (fun _ => True) := by
  intro H enc w base spare held fuel cs x h
  obtain ⟨s, rfl, _, h2⟩ := DataW.trod_int ht h
  have hs : 0 ≤ s ∧ s ≤ 255 := by
    simp only [Lit.wf, Bool.and_eq_true, decide_eq_true_eq] at h2
    simpa [IntKind.min, IntKind.max, IntKind.signed, IntKind.bits] using h2
  refine ⟨UInt8.ofNat s.toNat, ?_, trivial⟩
  show [Value.int .u8 s] = [.int .u8 ((UInt8.ofNat s.toNat).toNat : Int)]
  rw [UInt8.toNat_ofNat']
  congr 2
  omega
theorem u8_nat {n : Int} (h : (Lit.int .u8 n).wf = true) : ∃ a : Nat, n = (a : Int) ∧ a < 256 := by
  have h2 : 0 ≤ n ∧ n ≤ 255 := by
    simp only [Lit.wf, Bool.and_eq_true, decide_eq_true_eq] at h
    simpa [IntKind.min, IntKind.max, IntKind.signed, IntKind.bits] using h
  exact ⟨n.toNat, by omega, by omega⟩
theorem u16_nat {n : Int} (h : (Lit.int .u16 n).wf = true) : ∃ a : Nat, n = (a : Int) ∧ a < 65536 := by
  have h2 : 0 ≤ n ∧ n ≤ 65535 := by
    simp only [Lit.wf, Bool.and_eq_true, decide_eq_true_eq] at h
    simpa [IntKind.min, IntKind.max, IntKind.signed, IntKind.bits] using h
  exact ⟨n.toNat, by omega, by omega⟩
end
end Go.Sx

/- The plain law of SearchEvidence: a report with one option alone, or without one. -/
set_option linter.all false
namespace Go.Sx
open Go
/-! valid reports -/
theorem allP_opt (l : List Evt) : ∀ n, n ≤ l.length → (allP optFine l n = true ↔ (l.take n).Nodup ∧ ∀ e ∈ l.take n, validE e = true) := by
  intro n
  induction n with
  | zero => intro _; simp [allP]
  | succ n ih =>
    intro hn
    have hlt : n < l.length := by omega
    have e1 : allP optFine l (n + 1) = (allP optFine l n && optFine (l.take n) l[n]) := by
      simp only [allP, List.range_succ, List.all_append, List.all_cons, List.all_nil, Bool.and_true, List.getElem?_eq_getElem hlt]
    rw [e1, Bool.and_eq_true, ih (by omega), ← take_succ_of hlt]
    have e2 : optFine (l.take n) l[n] = true ↔ ¬ l[n] ∈ l.take n ∧ validE l[n] = true := by
      simp only [optFine, Bool.not_eq_true', Bool.or_eq_false_iff, Bool.not_eq_false', hit_eq]
      rw [List.any_eq_false]
      constructor
      · rintro ⟨h1, h2⟩
        exact ⟨fun h => h1 _ h (by simp), h2⟩
      · rintro ⟨h1, h2⟩
        exact ⟨fun x hx hh => h1 (by have : x = l[n] := by simpa using hh
                                     exact this ▸ hx), h2⟩
    rw [e2, List.nodup_append]
    constructor
    · rintro ⟨⟨h1, h2⟩, h3, h4⟩
      refine ⟨⟨h1, by simp, fun a ha b hb => ?_⟩, fun e he => ?_⟩
      · rw [List.mem_singleton] at hb; rintro rfl; exact h3 (hb ▸ ha)
      · rcases List.mem_append.1 he with he | he
        · exact h2 e he
        · rw [List.mem_singleton] at he; rw [he]; exact h4
    · rintro ⟨⟨h1, _, h3⟩, h4⟩
      exact ⟨⟨h1, fun e he => h4 e (List.mem_append_left _ he)⟩, fun h => h3 _ h _ (List.mem_singleton.2 rfl) rfl, h4 _ (List.mem_append_right _ (List.mem_singleton.2 rfl))⟩
theorem validRep_iff {r : Rep} : validRep r = true ↔ 1 ≤ r.options.length ∧ r.options.length ≤ 4 ∧ r.options.Nodup ∧ ∀ e ∈ r.options, validE e = true := by
  have := allP_opt r.options r.options.length (Nat.le_refl _)
  rw [List.take_length] at this
  unfold validRep
  rw [Bool.and_eq_true, this]
  simp only [Bool.not_eq_true', Bool.or_eq_false_iff, decide_eq_false_iff_not]
  constructor
  · rintro ⟨⟨h1, h2⟩, h3⟩
    exact ⟨by omega, by omega, h3⟩
  · rintro ⟨h1, h2, h3⟩
    exact ⟨⟨by omega, by omega⟩, h3⟩
theorem validRep_sub {r q : Rep} (h : validRep r = true) (hs : q.options.Sublist r.options) (h1 : 1 ≤ q.options.length) : validRep q = true := by
  obtain ⟨_, h3, h4, h5⟩ := validRep_iff.1 h
  exact validRep_iff.2 ⟨h1, Nat.le_trans hs.length_le h3, h4.sublist hs, fun e he => h5 e (hs.mem he)⟩
/-- the report with one of its options alone -/
def oneOf (r : Rep) (j : Nat) : Rep := ⟨r.options[j]?.toList, false⟩
/-- the report without one of its options -/
def lessOf (r : Rep) (j : Nat) : Rep := ⟨cutAt r.options j, r.doubtful⟩
section
variable {r : Rep} {j : Nat}
theorem one_opts (h : j < r.options.length) : (oneOf r j).options = [r.options[j]] := by simp [oneOf, h]
theorem one_valid (hv : validRep r = true) (h : j < r.options.length) : validRep (oneOf r j) = true := by
  refine validRep_sub hv ?_ (by rw [one_opts h]; simp)
  rw [one_opts h]; exact List.singleton_sublist.2 (List.getElem_mem h)
theorem one_chs (hv : validRep r = true) (h : j < r.options.length) : chs (oneOf r j) = 1 := by
  simp [chs, one_valid hv h, one_opts h]; simp [oneOf]
theorem less_len (h : j < r.options.length) : (lessOf r j).options.length + 1 = r.options.length := cutAt_len h
theorem less_valid (hv : validRep r = true) (h : j < r.options.length) (h2 : 2 ≤ r.options.length) : validRep (lessOf r j) = true := by
  refine validRep_sub hv ?_ (by have := less_len h; omega)
  show (r.options.take j ++ r.options.drop (j + 1)).Sublist r.options
  have : r.options = r.options.take j ++ r.options.drop j := (List.take_append_drop _ _).symm
  conv => rhs; rw [this]
  exact (List.Sublist.refl _).append (List.drop_sublist_drop_left _ (by omega))
theorem less_bad (h : j < r.options.length) (h2 : r.options.length < 2) : validRep (lessOf r j) = false := by
  cases hv : validRep (lessOf r j) with
  | false => rfl
  | true => have := (validRep_iff.1 hv).1; have := less_len h; omega
theorem less_chs (hv : validRep r = true) (h : j < r.options.length) (h2 : 2 ≤ r.options.length) : chs (lessOf r j) = chs r - 1 := by
  have h3 := less_len h
  have h4 : ((lessOf r j).options.length : Int) = (r.options.length : Int) - 1 := by omega
  simp only [chs, less_valid hv h h2, hv, Bool.true_eq_false, if_false, h4]
  show (if r.doubtful = true then _ else _) = _
  split <;> omega
theorem one_opt (h : j < r.options.length) (d : Int) : optAt d (oneOf r j) 0 = optAt d r (j : Nat) := by
  simp [optAt, one_opts h, h]
theorem less_opt {x : Nat} (h : j < r.options.length) (hx : x ≠ j) (d : Int) : optAt d (lessOf r j) (if (j : Int) < (x : Nat) then (x : Nat) - 1 else (x : Nat)) = optAt d r (x : Nat) := by
  have e : (cutAt r.options j)[((if (j : Int) < (x : Nat) then ((x : Nat) : Int) - 1 else (x : Nat)) : Int).toNat]? = r.options[x]? := by
    unfold cutAt
    split
    · have hl : (r.options.take j).length = j := by rw [List.length_take]; omega
      rw [List.getElem?_append_right (by omega), hl, List.getElem?_drop]
      congr 1; omega
    · rw [List.getElem?_append_left (by rw [List.length_take]; omega), List.getElem?_take_of_lt (by omega)]
      congr 1
  unfold optAt
  have h0 : (0 : Int) ≤ (if (j : Int) < (x : Nat) then ((x : Nat) : Int) - 1 else (x : Nat)) := by split <;> omega
  rw [if_pos h0, if_pos (show (0 : Int) ≤ (x : Nat) by omega), Int.toNat_natCast]
  rw [show (lessOf r j).options = cutAt r.options j from rfl, e]
end
/-! all choices, where one report is another one -/
theorem all_mid (A B : List Rep) (r : Rep) : allCh (A ++ r :: B) = (allCh A).flatMap fun a => ((List.range (chs r).toNat).map fun (k : Nat) => (k : Int)).flatMap fun x => (allCh B).map fun b => a ++ x :: b := by
  induction A with
  | nil =>
    simp only [List.nil_append, allCh, List.flatMap_cons, List.flatMap_nil, List.append_nil, List.flatMap_map]
  | cons q A ih =>
    simp only [List.cons_append, allCh, ih, List.flatMap_assoc, List.map_flatMap, List.flatMap_map, List.map_map]
    congr 1
/-- choices whose one at an index is another one -/
def chAt (k : Nat) (f : Int → Int) (t : List Int) : List Int := t.set k (f (t.getD k 0))
theorem at_app {a b : List Int} {x : Int} {k : Nat} {f : Int → Int} (h : a.length = k) : chAt k f (a ++ x :: b) = a ++ f x :: b := by
  subst h
  simp [chAt, List.getD]
theorem getD_app {a b : List Int} {x : Int} {k : Nat} (h : a.length = k) : (a ++ x :: b).getD k 0 = x := by
  subst h
  simp [List.getD]
theorem flat_pick {a : List Int} {k : Nat} (h : a.length = k) (P : Int → Bool) (f : Int → Int) (ys : List (List Int)) : ∀ xs : List Int, (((xs.flatMap fun x => ys.map fun b => a ++ x :: b).filter fun t => P (t.getD k 0)).map (chAt k f)) = ((xs.filter P).map f).flatMap fun x => ys.map fun b => a ++ x :: b
  | [] => rfl
  | x :: xs => by
    rw [List.flatMap_cons, List.filter_append, List.map_append, flat_pick h P f ys xs, List.filter_map, List.filter_cons]
    have e : ((fun t => P (t.getD k 0)) ∘ fun b => a ++ x :: b) = fun _ => P x := by
      funext b; simp only [Function.comp_apply]; rw [getD_app h]
    rw [e]
    by_cases hp : P x = true
    · rw [if_pos hp, List.map_cons, List.flatMap_cons, show ys.filter (fun _ => P x) = ys from List.filter_eq_self.2 fun _ _ => hp]
      congr 1
      rw [List.map_map]
      refine List.map_congr_left fun b _ => ?_
      simp only [Function.comp_apply]; rw [at_app h]
    · rw [if_neg hp]
      have : ys.filter (fun _ => P x) = [] := by rw [List.filter_eq_nil_iff]; intro _ _; exact hp
      rw [this]; rfl
section
variable {c : List Kind} {A B : List Rep} {r r' : Rep} {P : Int → Bool} {f : Int → Int} {k : Nat}
theorem flat_congr {α β : Type} {f g : α → List β} : ∀ {l : List α}, (∀ x ∈ l, f x = g x) → l.flatMap f = l.flatMap g
  | [], _ => rfl
  | x :: l, h => by rw [List.flatMap_cons, List.flatMap_cons, h x (by simp), flat_congr fun y hy => h y (by simp [hy])]
theorem all_swap (hk : A.length = k) (h : (((List.range (chs r).toNat).map fun (k : Nat) => (k : Int)).filter P).map f = (List.range (chs r').toNat).map fun (k : Nat) => (k : Int)) :
    allCh (A ++ r' :: B) = ((allCh (A ++ r :: B)).filter fun t => P (t.getD k 0)).map (chAt k f) := by
  rw [all_mid, all_mid, List.filter_flatMap, List.map_flatMap]
  refine flat_congr fun a ha => ?_
  rw [flat_pick ((all_mem.1 ha).1.trans hk) P f, h]
theorem mid_mem {t : List Int} (h : t ∈ allCh (A ++ r :: B)) : ∃ a x b, t = a ++ x :: b ∧ a.length = A.length ∧ b.length = B.length ∧ 0 ≤ x ∧ x < chs r := by
  rw [all_mid] at h
  obtain ⟨a, ha, h⟩ := List.mem_flatMap.1 h
  obtain ⟨x, hx, h⟩ := List.mem_flatMap.1 h
  obtain ⟨b, hb, rfl⟩ := List.mem_map.1 h
  obtain ⟨q, hq, rfl⟩ := List.mem_map.1 hx
  have := List.mem_range.1 hq
  exact ⟨a, _, b, rfl, (all_mem.1 ha).1, (all_mem.1 hb).1, by omega, by omega⟩
theorem is_pick {l l' : List Rep} {ch ch' : List Int} (h1 : givenF c l ch 0 = true) (h2 : givenF c l' ch' 0 = true) (h : pickE 40001 l ch = pickE 40001 l' ch') : isF c l ch = isF c l' ch' := by rw [is_ev h1, is_ev h2, h]
theorem pick_mid {a b : List Int} {x : Int} (h : a.length = A.length) (d : Int) : pickE d (A ++ r :: B) (a ++ x :: b) = pickE d A a ++ (optAt d r x).toList ++ pickE d B b := by
  unfold pickE
  rw [List.zip_append h.symm, List.filterMap_append, List.zip_cons_cons, List.filterMap_cons]
  cases hq : optAt d r x <;> simp [hq]
theorem hist_swap (hc : validC c = true) (hl : ∀ q ∈ A ++ r :: B, chs q ≠ 0) (hr : chs r' ≠ 0) (hk : A.length = k) (h : (((List.range (chs r).toNat).map fun (k : Nat) => (k : Int)).filter P).map f = (List.range (chs r').toNat).map fun (k : Nat) => (k : Int))
    (ho : ∀ x : Int, 0 ≤ x → x < chs r → P x = true → optAt 40001 r' (f x) = optAt 40001 r x) : histF c (A ++ r' :: B) = ((histF c (A ++ r :: B)).filter fun t => P (t.getD k 0)).map (chAt k f) := by
  have hl' : ∀ q ∈ A ++ r' :: B, chs q ≠ 0 := fun q hq => by
    rcases List.mem_append.1 hq with hq | hq
    · exact hl q (List.mem_append_left _ hq)
    · rcases List.mem_cons.1 hq with rfl | hq
      · exact hr
      · exact hl q (List.mem_append_right _ (List.mem_cons_of_mem _ hq))
  unfold histF
  rw [List.filter_filter]
  have e1 : allCh (A ++ r' :: B) = ((allCh (A ++ r :: B)).filter fun t => P (t.getD k 0)).map (chAt k f) := all_swap hk h
  have e2 : ∀ t ∈ allCh (A ++ r :: B), P (t.getD k 0) = true → isF c (A ++ r' :: B) (chAt k f t) = isF c (A ++ r :: B) t := fun t ht hp => by
    have g1 := (all_given hc hl t).2 ht
    have g2 := (all_given hc hl' (chAt k f t)).2 (by rw [e1]; exact List.mem_map.2 ⟨t, List.mem_filter.2 ⟨ht, hp⟩, rfl⟩)
    refine is_pick g2 g1 ?_
    obtain ⟨a, x, b, rfl, ha, hb, h0, h1⟩ := mid_mem ht
    rw [getD_app (ha.trans hk)] at hp
    rw [at_app (ha.trans hk), pick_mid ha, pick_mid ha, ho x h0 h1 hp]
  rw [e1, List.filter_map, List.filter_filter]
  congr 1
  refine List.filter_congr fun t ht => ?_
  simp only [Function.comp_apply]
  cases hp : P (t.getD k 0) with
  | false => simp
  | true => simp only [Bool.and_true, Bool.true_and]; exact e2 t ht hp
end
theorem range_split {n j : Nat} (h : j < n) : List.range n = List.range j ++ j :: (List.range (n - (j + 1))).map (j + 1 + ·) := by
  have e2 : List.range n = List.range (j + 1) ++ (List.range (n - (j + 1))).map (j + 1 + ·) := by
    rw [← List.range_add]; congr 1; omega
  rw [e2, List.range_succ, List.append_assoc]; rfl
theorem range_one {n j : Nat} (h : j < n) : ((((List.range n).map fun (k : Nat) => (k : Int)).filter fun x : Int => decide (x = (j : Int))).map fun _ => (0 : Int)) = [0] := by
  rw [range_split h, List.map_append, List.map_cons, List.filter_append, List.filter_cons, if_pos (by simp), List.map_append, List.map_cons]
  have h1 : ((List.range j).map fun (k : Nat) => (k : Int)).filter (fun x : Int => decide (x = (j : Int))) = [] := by
    rw [List.filter_eq_nil_iff]
    intro x hx
    obtain ⟨q, hq, rfl⟩ := List.mem_map.1 hx
    have := List.mem_range.1 hq
    simp; omega
  have h2 : (((List.range (n - (j + 1))).map (j + 1 + ·)).map fun (k : Nat) => (k : Int)).filter (fun x : Int => decide (x = (j : Int))) = [] := by
    rw [List.filter_eq_nil_iff]
    intro x hx
    obtain ⟨q, hq, rfl⟩ := List.mem_map.1 hx
    obtain ⟨p, hp, rfl⟩ := List.mem_map.1 hq
    simp; omega
  rw [h1, h2]; rfl
theorem range_less {n j : Nat} (h : j < n) : ((((List.range n).map fun (k : Nat) => (k : Int)).filter fun x : Int => !decide (x = (j : Int))).map fun x : Int => if (j : Int) < x then x - 1 else x) = (List.range (n - 1)).map fun (k : Nat) => (k : Int) := by
  have e3 : n - 1 = j + (n - (j + 1)) := by omega
  rw [range_split h, List.map_append, List.map_cons, List.filter_append, List.filter_cons, if_neg (by simp), List.map_append, e3, List.range_add, List.map_append]
  have h1 : ((List.range j).map fun (k : Nat) => (k : Int)).filter (fun x : Int => !decide (x = (j : Int))) = (List.range j).map fun (k : Nat) => (k : Int) := by
    rw [List.filter_eq_self]
    intro x hx
    obtain ⟨q, hq, rfl⟩ := List.mem_map.1 hx
    have := List.mem_range.1 hq
    simp; omega
  have h2 : (((List.range (n - (j + 1))).map (j + 1 + ·)).map fun (k : Nat) => (k : Int)).filter (fun x : Int => !decide (x = (j : Int))) = ((List.range (n - (j + 1))).map (j + 1 + ·)).map fun (k : Nat) => (k : Int) := by
    rw [List.filter_eq_self]
    intro x hx
    obtain ⟨q, hq, rfl⟩ := List.mem_map.1 hx
    obtain ⟨p, hp, rfl⟩ := List.mem_map.1 hq
    simp; omega
  rw [h1, h2]
  congr 1
  · rw [List.map_map]
    refine List.map_congr_left fun x hx => ?_
    have := List.mem_range.1 hx
    simp only [Function.comp_apply]
    rw [if_neg (by omega)]
  · rw [List.map_map, List.map_map, List.map_map]
    refine List.map_congr_left fun x hx => ?_
    simp only [Function.comp_apply]
    rw [if_pos (by omega)]; omega
/-- those that choose an option, as if it were the only one -/
def selF (k j : Nat) (all : List (List Int)) : List (List Int) := (all.filter fun t => decide (t.getD k 0 = (j : Int))).map (chAt k fun _ => 0)
/-- those that do not choose an option, as if it were not there -/
def unselF (k j : Nat) (all : List (List Int)) : List (List Int) := (all.filter fun t => !decide (t.getD k 0 = (j : Int))).map (chAt k fun x : Int => if (j : Int) < x then x - 1 else x)
section
variable {c : List Kind} {l : List Rep} {k j : Nat}
theorem set_mid {α : Type} {l : List α} {k : Nat} (h : k < l.length) (x : α) : l.set k x = l.take k ++ x :: l.drop (k + 1) := by
  conv => lhs; rw [cut_whole h]
  have e : (l.take k).length = k := by rw [List.length_take]; omega
  rw [List.set_append_right _ _ (by omega), e, Nat.sub_self]; rfl
theorem opt_chs {r : Rep} (hv : validRep r = true) : (r.options.length : Int) ≤ chs r := by
  simp only [chs, hv, Bool.true_eq_false, if_false]; split <;> omega
theorem hist_one (he : errF c l = 0) (hk : k < l.length) (hj : j < l[k].options.length) : histF c (l.set k (oneOf l[k] j)) = selF k j (histF c l) := by
  obtain ⟨hc, hp⟩ := err_zero he
  have hv : validRep l[k] = true := by
    cases hv : validRep l[k] with
    | true => rfl
    | false => exact absurd (by simp [chs, hv]) (hp _ (List.getElem_mem hk))
  have hb := opt_chs hv
  have h1 := one_chs hv hj
  rw [set_mid hk, selF]
  conv => rhs; rw [cut_whole hk]
  refine hist_swap (P := fun x : Int => decide (x = (j : Int))) hc (by rw [← cut_whole hk]; exact hp) (by rw [h1]; decide) (by rw [List.length_take]; omega) ?_ fun x h0 hx hq => ?_
  · rw [h1, range_one (by omega)]; rfl
  · obtain rfl : x = (j : Int) := by simpa using hq
    exact one_opt hj _
theorem hist_less (he : errF c l = 0) (hk : k < l.length) (hj : j < l[k].options.length) (h2 : 2 ≤ l[k].options.length) : histF c (l.set k (lessOf l[k] j)) = unselF k j (histF c l) := by
  obtain ⟨hc, hp⟩ := err_zero he
  have hv : validRep l[k] = true := by
    cases hv : validRep l[k] with
    | true => rfl
    | false => exact absurd (by simp [chs, hv]) (hp _ (List.getElem_mem hk))
  have hb := opt_chs hv
  have h1 := less_chs hv hj h2
  rw [set_mid hk, unselF]
  conv => rhs; rw [cut_whole hk]
  refine hist_swap (P := fun x : Int => !decide (x = (j : Int))) hc (by rw [← cut_whole hk]; exact hp) (by omega) (by rw [List.length_take]; omega) ?_ fun x h0 hx hq => ?_
  · rw [h1, range_less (by omega)]; congr 2; omega
  · obtain ⟨q, rfl⟩ := Int.eq_ofNat_of_zero_le h0
    have h9 : ¬ (q : Int) = (j : Int) := by simpa using hq
    exact less_opt hj (by omega) _
theorem err_few0 {q : List Rep} (hq : q.length ≤ 30) (hc : validC c = true) (hp : ∀ r ∈ q, chs r ≠ 0) : errF c q = 0 := by
  have : dbtF q ≤ q.length := List.length_filter_le _ _
  rw [err_end hc hp, if_neg (by omega)]
theorem all_few {q : List Rep} (he : errF c q = 0) (hn : (histF c q).length ≤ 4096) : (allF c q 4096).1 = histF c q ∧ ((allF c q 4096).2 = 0 ↔ histF c q ≠ []) := by
  refine ⟨by rw [all_list (by decide) (by decide) he]; exact take_all hn, ?_⟩
  rw [all_code (by decide) (by decide), if_neg (show ¬ (errF c q ≠ 0) by simp [he])]
  by_cases hh : histF c q = []
  · simp [hh]
  · simp [hh]
theorem set_pos {x : Rep} (hp : ∀ r ∈ l, chs r ≠ 0) (hx : chs x ≠ 0) : ∀ r ∈ l.set k x, chs r ≠ 0 := fun r hr => by
  rcases List.mem_or_eq_of_mem_set hr with h | rfl
  · exact hp r h
  · exact hx
/-- the law -/
theorem law_ev (hl : l.length ≤ 30) (hw : waysN l ≤ 4096) (hk : k < l.length) (hj : j < l[k].options.length) (hE : (allF c l 4096).2 = 0 ∨ (allF c l 4096).2 = 21) :
    ((allF c (l.set k (oneOf l[k] j)) 4096).1 = selF k j (allF c l 4096).1 ∧ ((allF c (l.set k (oneOf l[k] j)) 4096).2 = 0 ↔ selF k j (allF c l 4096).1 ≠ [])) ∧ (l[k].options.length < 2 → (allF c (l.set k (lessOf l[k] j)) 4096).2 = 1) ∧
    (2 ≤ l[k].options.length → (allF c (l.set k (lessOf l[k] j)) 4096).1 = unselF k j (allF c l 4096).1 ∧ ((allF c (l.set k (lessOf l[k] j)) 4096).2 = 0 ↔ unselF k j (allF c l 4096).1 ≠ [])) := by
  have he : errF c l = 0 := by
    rw [all_code (by decide) (by decide)] at hE
    rcases err_cases c l with h | h | h
    · exact h
    · rw [h] at hE; simp at hE
    · rw [h] at hE; simp at hE
  obtain ⟨hc, hp⟩ := err_zero he
  have hv : validRep l[k] = true := by
    cases hv : validRep l[k] with
    | true => rfl
    | false => exact absurd (by simp [chs, hv]) (hp _ (List.getElem_mem hk))
  have hn := Nat.le_trans (hist_len c l) hw
  have e0 := (all_few he hn).1
  rw [e0]
  refine ⟨?_, fun h2 => ?_, fun h2 => ?_⟩
  · have e1 := hist_one he hk hj
    rw [← e1]
    exact all_few (err_few0 (by rw [List.length_set]; exact hl) hc (set_pos hp (by rw [one_chs hv hj]; decide))) (by rw [e1, selF, List.length_map]; exact Nat.le_trans (List.length_filter_le _ _) hn)
  · have e1 : errF c (l.set k (lessOf l[k] j)) = 1 := by
      refine err_any (i := k) hc (by rw [List.length_set]; exact hk) ?_
      rw [List.getElem_set_self]; simp [chs, less_bad hj h2]
    rw [all_err (by decide) (by decide) (by rw [e1]; decide), e1]
  · have e1 := hist_less he hk hj h2
    rw [← e1]
    have := less_chs hv hj h2
    have hb := opt_chs hv
    exact all_few (err_few0 (by rw [List.length_set]; exact hl) hc (set_pos hp (by omega))) (by rw [e1, unselF, List.length_map]; exact Nat.le_trans (List.length_filter_le _ _) hn)
end
end Go.Sx

/- Searching: too many doubtful reports; reports without a doubt. -/
set_option linter.all false
namespace Go.Sx
open Go
/-- doubtful reports -/
def manyF (n : Nat) : List Rep := (List.range n).map fun (i : Nat) => ⟨[sxRem sA i], true⟩
theorem many_len (n : Nat) : (manyF n).length = n := by simp [manyF]
theorem many_succ (n : Nat) : manyF (n + 1) = manyF n ++ [⟨[sxRem sA (n : Int)], true⟩] := by simp [manyF, List.range_succ]
theorem many_chs : ∀ i < 36, chs ⟨[sxRem sA ((i : Nat) : Int)], true⟩ = 2 := by decide +kernel
theorem many_sm (n : Nat) : ∀ r ∈ manyF n, ∀ e ∈ r.options, SmE e := by
  intro r hr e he
  obtain ⟨i, _, rfl⟩ := List.mem_map.1 hr
  obtain rfl := List.mem_singleton.1 he
  have hn : Sm nil8 := by decide
  exact ⟨(show Sm sA by decide), hn, hn, hn, hn, hn⟩
theorem many_err {n : Nat} (h : 31 ≤ n) (h2 : n < 36) : errF sxC (manyF n) = 7 := by
  refine err_many (by decide +kernel) (fun r hr => ?_) (by rw [many_len]; omega)
  obtain ⟨i, hi, rfl⟩ := List.mem_map.1 hr
  exact many_chs i (by have := List.mem_range.1 hi; omega)
theorem many_first {n : Nat} (h : 31 ≤ n) (h2 : n < 36) : (firstF sxC (manyF n)).2 = 7 := by
  have := many_err h h2
  rw [first_code, all_err (by decide) (by decide) (by rw [this]; decide), this]
theorem many_count {n : Nat} (h : 31 ≤ n) (h2 : n < 36) : (countF sxC (manyF n) 1).2 = 7 := by
  have := many_err h h2
  have h3 : allF sxC (manyF n) 1 = ([], 7) := by rw [all_err (by decide) (by decide) (by rw [this]; decide), this]
  unfold countF
  rw [h3]; rfl
theorem one_take {l : List Rep} {i : Nat} (hlt : i < l.length) (h : ∀ r ∈ l.take i, chs r = 1) (h2 : chs l[i] = 1) : ∀ r ∈ l.take (i + 1), chs r = 1 := fun r hr => by
  rw [← take_succ_of hlt] at hr
  rcases List.mem_append.1 hr with hr | hr
  · exact h r hr
  · rw [List.mem_singleton.1 hr]; exact h2
section
variable {c : List Kind} {l : List Rep} {most : Int}
theorem all_sub (t : List Int) (h : t ∈ (allF c l most).1) : t ∈ histF c l := by
  unfold allF at h
  split at h
  · cases h
  · split at h
    · cases h
    · split at h
      · cases h
      · exact List.mem_of_mem_take h
theorem all_lens {t : List Int} (h : t ∈ (allF c l most).1) : t.length = l.length := (given_all (is_given ((hist_mem t).1 (all_sub t h)))).1
theorem all_at {t : List Int} (h : t ∈ (allF c l most).1) {k : Nat} (hk : k < l.length) (h2 : k < t.length) : 0 ≤ t[k] ∧ t[k] < chs l[k] := by
  have := given_at (is_given ((hist_mem t).1 (all_sub t h))) hk h2
  omega
theorem all_le : (allF c l most).1.length ≤ waysN l := by
  unfold allF
  split
  · exact Nat.zero_le _
  · split
    · exact Nat.zero_le _
    · split
      · exact Nat.zero_le _
      · exact Nat.le_trans (by rw [List.length_take]; omega) (hist_len c l)
end
end Go.Sx

/- Loops with six to eight things that turn; meetings of ways with four to six. -/
set_option linter.all false
namespace Go.Sx
open Go
section
variable {P : Program} {ρ : Option Nat} {n : Sz} {E : Ent} {I I' : IMap} {L : LL} {H : List Res} {K : Act → World → Prop} {Q : Exit → Act → World → Prop} {N : Act → World → Prop}
variable {α β γ δ ε ζ η θ : Type}
def NextS6 (n : Sz) (E : Ent) (Ix : α → β → γ → δ → ε → ζ → IMap) (Lx : α → β → γ → δ → ε → ζ → LL) (Hx : α → β → γ → δ → ε → ζ → List Res) (p : α → β → γ → δ → ε → ζ → Prop) (μ : α → β → γ → δ → ε → ζ → Nat) (x0 : α) (x1 : β) (x2 : γ) (x3 : δ) (x4 : ε) (x5 : ζ) : Act → World → Prop :=
  fun a w => ∃ y0 y1 y2 y3 y4 y5, p y0 y1 y2 y3 y4 y5 ∧ μ y0 y1 y2 y3 y4 y5 < μ x0 x1 x2 x3 x4 x5 ∧ St n a (Lx y0 y1 y2 y3 y4 y5) ∧ Mem E (Ix y0 y1 y2 y3 y4 y5) (Hx y0 y1 y2 y3 y4 y5) w
theorem c_loop6 (a0 : α) (a1 : β) (a2 : γ) (a3 : δ) (a4 : ε) (a5 : ζ) (Ix : α → β → γ → δ → ε → ζ → IMap) (Lx : α → β → γ → δ → ε → ζ → LL) (Hx : α → β → γ → δ → ε → ζ → List Res) (p : α → β → γ → δ → ε → ζ → Prop) (μ : α → β → γ → δ → ε → ζ → Nat) {c : Code}
    (h0 : p a0 a1 a2 a3 a4 a5) (hI : Ix a0 a1 a2 a3 a4 a5 = I) (hL : Sub (Lx a0 a1 a2 a3 a4 a5) L) (hH : Hx a0 a1 a2 a3 a4 a5 = H)
    (round : ∀ x0 x1 x2 x3 x4 x5, p x0 x1 x2 x3 x4 x5 → SX n E (Ix x0 x1 x2 x3 x4 x5) (Lx x0 x1 x2 x3 x4 x5) (Hx x0 x1 x2 x3 x4 x5) (c.wq ρ P (Exit.then (NextS6 n E Ix Lx Hx p μ x0 x1 x2 x3 x4 x5) Q))) : SX n E I L H ((Code.loop c).wq ρ P Q) :=
  c_loop (α := α × β × γ × δ × ε × ζ) (a0, a1, a2, a3, a4, a5) (fun q => Ix q.1 q.2.1 q.2.2.1 q.2.2.2.1 q.2.2.2.2.1 q.2.2.2.2.2) (fun q => Lx q.1 q.2.1 q.2.2.1 q.2.2.2.1 q.2.2.2.2.1 q.2.2.2.2.2) (fun q => Hx q.1 q.2.1 q.2.2.1 q.2.2.2.1 q.2.2.2.2.1 q.2.2.2.2.2) (fun q => p q.1 q.2.1 q.2.2.1 q.2.2.2.1 q.2.2.2.2.1 q.2.2.2.2.2) (fun q => μ q.1 q.2.1 q.2.2.1 q.2.2.2.1 q.2.2.2.2.1 q.2.2.2.2.2) h0 hI hL hH
    fun ⟨x0, x1, x2, x3, x4, x5⟩ hp => sx_mono (round x0 x1 x2 x3 x4 x5 hp) fun a w h => cwq_mono (fun e a w q => by
      cases e with
      | normal => obtain ⟨y0, y1, y2, y3, y4, y5, h1, h2, h3, h4⟩ := q; exact ⟨(y0, y1, y2, y3, y4, y5), h1, h2, h3, h4⟩
      | _ => exact q) h
theorem q_next6 {Ix : α → β → γ → δ → ε → ζ → IMap} {Lx : α → β → γ → δ → ε → ζ → LL} {Hx : α → β → γ → δ → ε → ζ → List Res} {p : α → β → γ → δ → ε → ζ → Prop} {μ : α → β → γ → δ → ε → ζ → Nat} {x0 : α} {x1 : β} {x2 : γ} {x3 : δ} {x4 : ε} {x5 : ζ} (y0 : α) (y1 : β) (y2 : γ) (y3 : δ) (y4 : ε) (y5 : ζ) (hp : p y0 y1 y2 y3 y4 y5) (hμ : μ y0 y1 y2 y3 y4 y5 < μ x0 x1 x2 x3 x4 x5)
    (hI : Ix y0 y1 y2 y3 y4 y5 = I) (hL : Sub (Lx y0 y1 y2 y3 y4 y5) L) (hH : Hx y0 y1 y2 y3 y4 y5 = H) : SX n E I L H (NextS6 n E Ix Lx Hx p μ x0 x1 x2 x3 x4 x5) :=
  fun a w s m => ⟨y0, y1, y2, y3, y4, y5, hp, hμ, s.sub hL, by rw [hI, hH]; exact m⟩
def NextS7 (n : Sz) (E : Ent) (Ix : α → β → γ → δ → ε → ζ → η → IMap) (Lx : α → β → γ → δ → ε → ζ → η → LL) (Hx : α → β → γ → δ → ε → ζ → η → List Res) (p : α → β → γ → δ → ε → ζ → η → Prop) (μ : α → β → γ → δ → ε → ζ → η → Nat) (x0 : α) (x1 : β) (x2 : γ) (x3 : δ) (x4 : ε) (x5 : ζ) (x6 : η) : Act → World → Prop :=
  fun a w => ∃ y0 y1 y2 y3 y4 y5 y6, p y0 y1 y2 y3 y4 y5 y6 ∧ μ y0 y1 y2 y3 y4 y5 y6 < μ x0 x1 x2 x3 x4 x5 x6 ∧ St n a (Lx y0 y1 y2 y3 y4 y5 y6) ∧ Mem E (Ix y0 y1 y2 y3 y4 y5 y6) (Hx y0 y1 y2 y3 y4 y5 y6) w
theorem c_loop7 (a0 : α) (a1 : β) (a2 : γ) (a3 : δ) (a4 : ε) (a5 : ζ) (a6 : η) (Ix : α → β → γ → δ → ε → ζ → η → IMap) (Lx : α → β → γ → δ → ε → ζ → η → LL) (Hx : α → β → γ → δ → ε → ζ → η → List Res) (p : α → β → γ → δ → ε → ζ → η → Prop) (μ : α → β → γ → δ → ε → ζ → η → Nat) {c : Code}
    (h0 : p a0 a1 a2 a3 a4 a5 a6) (hI : Ix a0 a1 a2 a3 a4 a5 a6 = I) (hL : Sub (Lx a0 a1 a2 a3 a4 a5 a6) L) (hH : Hx a0 a1 a2 a3 a4 a5 a6 = H)
    (round : ∀ x0 x1 x2 x3 x4 x5 x6, p x0 x1 x2 x3 x4 x5 x6 → SX n E (Ix x0 x1 x2 x3 x4 x5 x6) (Lx x0 x1 x2 x3 x4 x5 x6) (Hx x0 x1 x2 x3 x4 x5 x6) (c.wq ρ P (Exit.then (NextS7 n E Ix Lx Hx p μ x0 x1 x2 x3 x4 x5 x6) Q))) : SX n E I L H ((Code.loop c).wq ρ P Q) :=
  c_loop (α := α × β × γ × δ × ε × ζ × η) (a0, a1, a2, a3, a4, a5, a6) (fun q => Ix q.1 q.2.1 q.2.2.1 q.2.2.2.1 q.2.2.2.2.1 q.2.2.2.2.2.1 q.2.2.2.2.2.2) (fun q => Lx q.1 q.2.1 q.2.2.1 q.2.2.2.1 q.2.2.2.2.1 q.2.2.2.2.2.1 q.2.2.2.2.2.2) (fun q => Hx q.1 q.2.1 q.2.2.1 q.2.2.2.1 q.2.2.2.2.1 q.2.2.2.2.2.1 q.2.2.2.2.2.2) (fun q => p q.1 q.2.1 q.2.2.1 q.2.2.2.1 q.2.2.2.2.1 q.2.2.2.2.2.1 q.2.2.2.2.2.2) (fun q => μ q.1 q.2.1 q.2.2.1 q.2.2.2.1 q.2.2.2.2.1 q.2.2.2.2.2.1 q.2.2.2.2.2.2) h0 hI hL hH
    fun ⟨x0, x1, x2, x3, x4, x5, x6⟩ hp => sx_mono (round x0 x1 x2 x3 x4 x5 x6 hp) fun a w h => cwq_mono (fun e a w q => by
      cases e with
      | normal => obtain ⟨y0, y1, y2, y3, y4, y5, y6, h1, h2, h3, h4⟩ := q; exact ⟨(y0, y1, y2, y3, y4, y5, y6), h1, h2, h3, h4⟩
      | _ => exact q) h
theorem q_next7 {Ix : α → β → γ → δ → ε → ζ → η → IMap} {Lx : α → β → γ → δ → ε → ζ → η → LL} {Hx : α → β → γ → δ → ε → ζ → η → List Res} {p : α → β → γ → δ → ε → ζ → η → Prop} {μ : α → β → γ → δ → ε → ζ → η → Nat} {x0 : α} {x1 : β} {x2 : γ} {x3 : δ} {x4 : ε} {x5 : ζ} {x6 : η} (y0 : α) (y1 : β) (y2 : γ) (y3 : δ) (y4 : ε) (y5 : ζ) (y6 : η) (hp : p y0 y1 y2 y3 y4 y5 y6) (hμ : μ y0 y1 y2 y3 y4 y5 y6 < μ x0 x1 x2 x3 x4 x5 x6)
    (hI : Ix y0 y1 y2 y3 y4 y5 y6 = I) (hL : Sub (Lx y0 y1 y2 y3 y4 y5 y6) L) (hH : Hx y0 y1 y2 y3 y4 y5 y6 = H) : SX n E I L H (NextS7 n E Ix Lx Hx p μ x0 x1 x2 x3 x4 x5 x6) :=
  fun a w s m => ⟨y0, y1, y2, y3, y4, y5, y6, hp, hμ, s.sub hL, by rw [hI, hH]; exact m⟩
def NextS8 (n : Sz) (E : Ent) (Ix : α → β → γ → δ → ε → ζ → η → θ → IMap) (Lx : α → β → γ → δ → ε → ζ → η → θ → LL) (Hx : α → β → γ → δ → ε → ζ → η → θ → List Res) (p : α → β → γ → δ → ε → ζ → η → θ → Prop) (μ : α → β → γ → δ → ε → ζ → η → θ → Nat) (x0 : α) (x1 : β) (x2 : γ) (x3 : δ) (x4 : ε) (x5 : ζ) (x6 : η) (x7 : θ) : Act → World → Prop :=
  fun a w => ∃ y0 y1 y2 y3 y4 y5 y6 y7, p y0 y1 y2 y3 y4 y5 y6 y7 ∧ μ y0 y1 y2 y3 y4 y5 y6 y7 < μ x0 x1 x2 x3 x4 x5 x6 x7 ∧ St n a (Lx y0 y1 y2 y3 y4 y5 y6 y7) ∧ Mem E (Ix y0 y1 y2 y3 y4 y5 y6 y7) (Hx y0 y1 y2 y3 y4 y5 y6 y7) w
theorem c_loop8 (a0 : α) (a1 : β) (a2 : γ) (a3 : δ) (a4 : ε) (a5 : ζ) (a6 : η) (a7 : θ) (Ix : α → β → γ → δ → ε → ζ → η → θ → IMap) (Lx : α → β → γ → δ → ε → ζ → η → θ → LL) (Hx : α → β → γ → δ → ε → ζ → η → θ → List Res) (p : α → β → γ → δ → ε → ζ → η → θ → Prop) (μ : α → β → γ → δ → ε → ζ → η → θ → Nat) {c : Code}
    (h0 : p a0 a1 a2 a3 a4 a5 a6 a7) (hI : Ix a0 a1 a2 a3 a4 a5 a6 a7 = I) (hL : Sub (Lx a0 a1 a2 a3 a4 a5 a6 a7) L) (hH : Hx a0 a1 a2 a3 a4 a5 a6 a7 = H)
    (round : ∀ x0 x1 x2 x3 x4 x5 x6 x7, p x0 x1 x2 x3 x4 x5 x6 x7 → SX n E (Ix x0 x1 x2 x3 x4 x5 x6 x7) (Lx x0 x1 x2 x3 x4 x5 x6 x7) (Hx x0 x1 x2 x3 x4 x5 x6 x7) (c.wq ρ P (Exit.then (NextS8 n E Ix Lx Hx p μ x0 x1 x2 x3 x4 x5 x6 x7) Q))) : SX n E I L H ((Code.loop c).wq ρ P Q) :=
  c_loop (α := α × β × γ × δ × ε × ζ × η × θ) (a0, a1, a2, a3, a4, a5, a6, a7) (fun q => Ix q.1 q.2.1 q.2.2.1 q.2.2.2.1 q.2.2.2.2.1 q.2.2.2.2.2.1 q.2.2.2.2.2.2.1 q.2.2.2.2.2.2.2) (fun q => Lx q.1 q.2.1 q.2.2.1 q.2.2.2.1 q.2.2.2.2.1 q.2.2.2.2.2.1 q.2.2.2.2.2.2.1 q.2.2.2.2.2.2.2) (fun q => Hx q.1 q.2.1 q.2.2.1 q.2.2.2.1 q.2.2.2.2.1 q.2.2.2.2.2.1 q.2.2.2.2.2.2.1 q.2.2.2.2.2.2.2) (fun q => p q.1 q.2.1 q.2.2.1 q.2.2.2.1 q.2.2.2.2.1 q.2.2.2.2.2.1 q.2.2.2.2.2.2.1 q.2.2.2.2.2.2.2) (fun q => μ q.1 q.2.1 q.2.2.1 q.2.2.2.1 q.2.2.2.2.1 q.2.2.2.2.2.1 q.2.2.2.2.2.2.1 q.2.2.2.2.2.2.2) h0 hI hL hH
    fun ⟨x0, x1, x2, x3, x4, x5, x6, x7⟩ hp => sx_mono (round x0 x1 x2 x3 x4 x5 x6 x7 hp) fun a w h => cwq_mono (fun e a w q => by
      cases e with
      | normal => obtain ⟨y0, y1, y2, y3, y4, y5, y6, y7, h1, h2, h3, h4⟩ := q; exact ⟨(y0, y1, y2, y3, y4, y5, y6, y7), h1, h2, h3, h4⟩
      | _ => exact q) h
theorem q_next8 {Ix : α → β → γ → δ → ε → ζ → η → θ → IMap} {Lx : α → β → γ → δ → ε → ζ → η → θ → LL} {Hx : α → β → γ → δ → ε → ζ → η → θ → List Res} {p : α → β → γ → δ → ε → ζ → η → θ → Prop} {μ : α → β → γ → δ → ε → ζ → η → θ → Nat} {x0 : α} {x1 : β} {x2 : γ} {x3 : δ} {x4 : ε} {x5 : ζ} {x6 : η} {x7 : θ} (y0 : α) (y1 : β) (y2 : γ) (y3 : δ) (y4 : ε) (y5 : ζ) (y6 : η) (y7 : θ) (hp : p y0 y1 y2 y3 y4 y5 y6 y7) (hμ : μ y0 y1 y2 y3 y4 y5 y6 y7 < μ x0 x1 x2 x3 x4 x5 x6 x7)
    (hI : Ix y0 y1 y2 y3 y4 y5 y6 y7 = I) (hL : Sub (Lx y0 y1 y2 y3 y4 y5 y6 y7) L) (hH : Hx y0 y1 y2 y3 y4 y5 y6 y7 = H) : SX n E I L H (NextS8 n E Ix Lx Hx p μ x0 x1 x2 x3 x4 x5 x6 x7) :=
  fun a w s m => ⟨y0, y1, y2, y3, y4, y5, y6, y7, hp, hμ, s.sub hL, by rw [hI, hH]; exact m⟩
def CutS4 (n : Sz) (E : Ent) (Ix : α → β → γ → δ → IMap) (Lx : α → β → γ → δ → LL) (Hx : α → β → γ → δ → List Res) (p : α → β → γ → δ → Prop) (a : Act) (w : World) : Prop := ∃ x0 x1 x2 x3, p x0 x1 x2 x3 ∧ St n a (Lx x0 x1 x2 x3) ∧ Mem E (Ix x0 x1 x2 x3) (Hx x0 x1 x2 x3) w
theorem c_cutx4 {Ix : α → β → γ → δ → IMap} {Lx : α → β → γ → δ → LL} {Hx : α → β → γ → δ → List Res} {p : α → β → γ → δ → Prop} {c : Code}
    (h1 : SX n E I L H (c.wq ρ P (Exit.then (CutS4 n E Ix Lx Hx p) Q))) (h2 : ∀ x0 x1 x2 x3, p x0 x1 x2 x3 → SX n E (Ix x0 x1 x2 x3) (Lx x0 x1 x2 x3) (Hx x0 x1 x2 x3) N) : SX n E I L H (c.wq ρ P (Exit.then N Q)) := fun a w s m =>
  cwq_mono (fun e a w q => by cases e <;> first | exact q | (obtain ⟨x0, x1, x2, x3, hp, hs, hm⟩ := q; exact h2 x0 x1 x2 x3 hp a w hs hm)) (h1 a w s m)
theorem q_cutx4 {Ix : α → β → γ → δ → IMap} {Lx : α → β → γ → δ → LL} {Hx : α → β → γ → δ → List Res} {p : α → β → γ → δ → Prop} (x0 : α) (x1 : β) (x2 : γ) (x3 : δ) (hp : p x0 x1 x2 x3) (hL : Sub (Lx x0 x1 x2 x3) L) (hH : Hx x0 x1 x2 x3 = H) (hI : Ix x0 x1 x2 x3 = I) :
    SX n E I L H (CutS4 n E Ix Lx Hx p) := fun _ _ s m => ⟨x0, x1, x2, x3, hp, s.sub hL, by rw [hH, hI]; exact m⟩
def CutS5 (n : Sz) (E : Ent) (Ix : α → β → γ → δ → ε → IMap) (Lx : α → β → γ → δ → ε → LL) (Hx : α → β → γ → δ → ε → List Res) (p : α → β → γ → δ → ε → Prop) (a : Act) (w : World) : Prop := ∃ x0 x1 x2 x3 x4, p x0 x1 x2 x3 x4 ∧ St n a (Lx x0 x1 x2 x3 x4) ∧ Mem E (Ix x0 x1 x2 x3 x4) (Hx x0 x1 x2 x3 x4) w
theorem c_cutx5 {Ix : α → β → γ → δ → ε → IMap} {Lx : α → β → γ → δ → ε → LL} {Hx : α → β → γ → δ → ε → List Res} {p : α → β → γ → δ → ε → Prop} {c : Code}
    (h1 : SX n E I L H (c.wq ρ P (Exit.then (CutS5 n E Ix Lx Hx p) Q))) (h2 : ∀ x0 x1 x2 x3 x4, p x0 x1 x2 x3 x4 → SX n E (Ix x0 x1 x2 x3 x4) (Lx x0 x1 x2 x3 x4) (Hx x0 x1 x2 x3 x4) N) : SX n E I L H (c.wq ρ P (Exit.then N Q)) := fun a w s m =>
  cwq_mono (fun e a w q => by cases e <;> first | exact q | (obtain ⟨x0, x1, x2, x3, x4, hp, hs, hm⟩ := q; exact h2 x0 x1 x2 x3 x4 hp a w hs hm)) (h1 a w s m)
theorem q_cutx5 {Ix : α → β → γ → δ → ε → IMap} {Lx : α → β → γ → δ → ε → LL} {Hx : α → β → γ → δ → ε → List Res} {p : α → β → γ → δ → ε → Prop} (x0 : α) (x1 : β) (x2 : γ) (x3 : δ) (x4 : ε) (hp : p x0 x1 x2 x3 x4) (hL : Sub (Lx x0 x1 x2 x3 x4) L) (hH : Hx x0 x1 x2 x3 x4 = H) (hI : Ix x0 x1 x2 x3 x4 = I) :
    SX n E I L H (CutS5 n E Ix Lx Hx p) := fun _ _ s m => ⟨x0, x1, x2, x3, x4, hp, s.sub hL, by rw [hH, hI]; exact m⟩
def CutS6 (n : Sz) (E : Ent) (Ix : α → β → γ → δ → ε → ζ → IMap) (Lx : α → β → γ → δ → ε → ζ → LL) (Hx : α → β → γ → δ → ε → ζ → List Res) (p : α → β → γ → δ → ε → ζ → Prop) (a : Act) (w : World) : Prop := ∃ x0 x1 x2 x3 x4 x5, p x0 x1 x2 x3 x4 x5 ∧ St n a (Lx x0 x1 x2 x3 x4 x5) ∧ Mem E (Ix x0 x1 x2 x3 x4 x5) (Hx x0 x1 x2 x3 x4 x5) w
theorem c_cutx6 {Ix : α → β → γ → δ → ε → ζ → IMap} {Lx : α → β → γ → δ → ε → ζ → LL} {Hx : α → β → γ → δ → ε → ζ → List Res} {p : α → β → γ → δ → ε → ζ → Prop} {c : Code}
    (h1 : SX n E I L H (c.wq ρ P (Exit.then (CutS6 n E Ix Lx Hx p) Q))) (h2 : ∀ x0 x1 x2 x3 x4 x5, p x0 x1 x2 x3 x4 x5 → SX n E (Ix x0 x1 x2 x3 x4 x5) (Lx x0 x1 x2 x3 x4 x5) (Hx x0 x1 x2 x3 x4 x5) N) : SX n E I L H (c.wq ρ P (Exit.then N Q)) := fun a w s m =>
  cwq_mono (fun e a w q => by cases e <;> first | exact q | (obtain ⟨x0, x1, x2, x3, x4, x5, hp, hs, hm⟩ := q; exact h2 x0 x1 x2 x3 x4 x5 hp a w hs hm)) (h1 a w s m)
theorem q_cutx6 {Ix : α → β → γ → δ → ε → ζ → IMap} {Lx : α → β → γ → δ → ε → ζ → LL} {Hx : α → β → γ → δ → ε → ζ → List Res} {p : α → β → γ → δ → ε → ζ → Prop} (x0 : α) (x1 : β) (x2 : γ) (x3 : δ) (x4 : ε) (x5 : ζ) (hp : p x0 x1 x2 x3 x4 x5) (hL : Sub (Lx x0 x1 x2 x3 x4 x5) L) (hH : Hx x0 x1 x2 x3 x4 x5 = H) (hI : Ix x0 x1 x2 x3 x4 x5 = I) :
    SX n E I L H (CutS6 n E Ix Lx Hx p) := fun _ _ s m => ⟨x0, x1, x2, x3, x4, x5, hp, s.sub hL, by rw [hH, hI]; exact m⟩
end
end Go.Sx

/- SearchEvidence: steps of its loop. -/
set_option linter.all false
namespace Go.Sx
open Go
theorem fc_at {I : IMap} {xss rest : List (List Value)} {l : List Int} (h : FlatC I xss l) {i : Nat} (hi : i < l.length) : (xss ++ rest)[i]? = some [ci l[i]] := by
  obtain ⟨c, h1, h2⟩ := h.at_ hi
  obtain ⟨h3, h4⟩ := List.getElem?_eq_some_iff.1 h1
  rw [List.getElem?_append_left h3, h1, show c = [ci l[i]] from h2]
section
variable {X : List (List Int)} {i k j : Nat}
theorem getD_at {t : List Int} (hk : k < t.length) : t.getD k 0 = t[k] := by simp [List.getD, hk]
theorem sel_yes (hi : i < X.length) (hk : k < X[i].length) (h : X[i][k] = (j : Int)) : selF k j (X.take (i + 1)) = selF k j (X.take i) ++ [X[i].set k 0] ∧ unselF k j (X.take (i + 1)) = unselF k j (X.take i) := by
  unfold selF unselF
  rw [← take_succ_of hi, List.filter_append, List.filter_append, List.map_append, List.map_append]
  simp [List.filter_cons, List.getElem?_eq_getElem hk, h, chAt]
theorem sel_big (hi : i < X.length) (hk : k < X[i].length) (h : (j : Int) < X[i][k]) : selF k j (X.take (i + 1)) = selF k j (X.take i) ∧ unselF k j (X.take (i + 1)) = unselF k j (X.take i) ++ [X[i].set k (X[i][k] - 1)] := by
  have h2 : ¬ X[i][k] = (j : Int) := by omega
  unfold selF unselF
  rw [← take_succ_of hi, List.filter_append, List.filter_append, List.map_append, List.map_append]
  simp [List.filter_cons, List.getElem?_eq_getElem hk, h, h2, chAt]
theorem sel_less (hi : i < X.length) (hk : k < X[i].length) (h2 : ¬ X[i][k] = (j : Int)) (h : ¬ (j : Int) < X[i][k]) : selF k j (X.take (i + 1)) = selF k j (X.take i) ∧ unselF k j (X.take (i + 1)) = unselF k j (X.take i) ++ [X[i]] := by
  unfold selF unselF
  rw [← take_succ_of hi, List.filter_append, List.filter_append, List.map_append, List.map_append]
  simp [List.filter_cons, List.getElem?_eq_getElem hk, h, h2, chAt]
theorem sel_le : (selF k j X).length ≤ X.length := by unfold selF; rw [List.length_map]; exact List.length_filter_le _ _
theorem unsel_le : (unselF k j X).length ≤ X.length := by unfold unselF; rw [List.length_map]; exact List.length_filter_le _ _
end
/-- valid, and of a moderate size, with another report at an index -/
theorem set_sm {l : List Rep} {k : Nat} {x : Rep} (h : ∀ r ∈ l, ∀ e ∈ r.options, SmE e) (hx : ∀ e ∈ x.options, SmE e) : ∀ r ∈ l.set k x, ∀ e ∈ r.options, SmE e := fun r hr e he => by
  rcases List.mem_or_eq_of_mem_set hr with h1 | rfl
  · exact h r h1 e he
  · exact hx e he
theorem one_sm {r : Rep} {j : Nat} (h : ∀ e ∈ r.options, SmE e) (hj : j < r.options.length) : ∀ e ∈ (oneOf r j).options, SmE e := fun e he => by
  rw [one_opts hj] at he
  rw [List.mem_singleton.1 he]; exact h _ (List.getElem_mem hj)
theorem less_sm {r : Rep} {j : Nat} (h : ∀ e ∈ r.options, SmE e) : ∀ e ∈ (lessOf r j).options, SmE e := fun e he => h e (cutAt_mem he)
theorem opt_mid {r : Rep} {j : Nat} (hj : j < r.options.length) : (r.options.take (j + 1)).drop j = (oneOf r j).options := by
  rw [one_opts hj, ← take_succ_of hj, List.drop_left' (by rw [List.length_take]; omega)]
theorem dec_pos {X : List (List Int)} : decide ((0 : Int) < (X.length : Nat)) = decide (X ≠ []) := by
  rw [decide_eq_decide]
  constructor
  · rintro h rfl; simp at h
  · intro h; have := List.length_pos_iff.2 h; omega
theorem code_pos {X : List (List Int)} {z : Int} (h : z = 0 ↔ X ≠ []) : (decide (z = 0) == decide ((0 : Int) < (X.length : Nat))) = true := by
  rw [dec_pos, beq_iff_eq, decide_eq_decide]; exact h
end Go.Sx

/- Walks, printed by a program out of the code of the functions: each theorem is a contract of one function. -/
namespace Go.Proofs.YtoadjlmbdliceaaGreat
open Go Go.Sx
set_option linter.all false
set_option maxRecDepth 20000
set_option maxHeartbeats 4000000
instance T.und_42 : Has (Tryz.prog.underlying 42) (.int .u16) := ⟨by kernel_rfl⟩
theorem lawSEvidence (I : IMap) (vc : Value) (c : List Kind) (hvc : RdS I vc c) (hoc : ∀ x ∈ c, OkKd x) (v : Value) (l : List Rep) (hv : RdS I v l) (hok : ∀ x ∈ l, OkRp x) (a0 : Int) (wa0 : (Lit.int .u8 a0).wf = true) (b0 : Int) (wb0 : (Lit.int .u8 b0).wf = true)  :
    FnV Tryz.prog 6 #[.agg #[vc], v, .int .u8 a0, .int .u8 b0] I (.bool true) := by
 obtain ⟨a, rfl, ha⟩ := u8_nat wa0
 obtain ⟨b, rfl, hb⟩ := u8_nat wb0
 have hv0 := hv
 obtain ⟨A, c0, rfl, hA, hc, hm⟩ := hv
 refine enter Tryz.func6 Tryz.call6 rfl Tryz.ntmps6 rfl (fun w0 => ?_)
 refine go 3 ?_
 refine o_box _ rfl rfl rfl (fun g4 => ?_)
 refine go 6 ?_
 refine o_callV (head16 _) rfl rfl ?_
 refine go 9 ?_
 refine o_callV (law16few _ vc c hvc _ l hv0) rfl rfl ?_
 refine go 2 ?_
 refine sxb 30 rfl (fun h30 p30 => ?_) (fun h30 p30 => ?_)
 ·refine go 6 ?_
  refine c_true rfl ?_
  refine go 8 ?_
  refine fin1 rfl rfl ?_
  exact q_vI rfl
 ·refine go 6 ?_
  refine cb rfl (fun h34 p34 => ?_) (fun h34 p34 => ?_)
  ·refine go 8 ?_
   refine fin1 rfl rfl ?_
   exact q_vI rfl
  ·have hf : fewC c = true ∧ few16 l 200 = true := by simpa using h30
   obtain ⟨hf2, hwn⟩ := few16_sm hf.2
   obtain ⟨hsl, hl⟩ := fewR_sm hf2
   have hsc := fewC_sm hf.1
   have hl6 : l.length ≤ 1000000 := by omega
   have hl0 : 0 < l.length := by omega
   obtain ⟨k, hkk⟩ : ∃ k, a % l.length = k := ⟨_, rfl⟩
   have hk : k < l.length := by rw [← hkk]; exact Nat.mod_lt _ hl0
   refine go 5 ?_
   refine o_v rfl (v_conv he he rfl (m := ((a : Nat) : Int)) (by rw [IntKind.wrap_i64]; omega)) ?_
   refine go 2 ?_
   refine o_v rfl (OV.cast (u := .int .i64 ((k : Nat) : Int)) (v_rem rfl rfl (by omega) (by omega)) (by rw [hkk])) ?_
   refine go 8 ?_
   refine o_call (seAll _ vc c hvc hsc _ l hv0 (by omega) (hsl) 4096) rfl rfl (fun v44 I44 j44 q44 => ?_)
   try have hvc := hvc.le j44
   try have hv0 := hv0.le j44
   try have hA := hA.le j44
   try have hX := hX.le j44
   try have R87 := R87.le j44
   try have hC117 := hC117.le j44
   try have R115 := R115.le j44
   try have R117 := R117.le j44
   try have hF17 := hF17.le j44
   try have hF18 := hF18.le j44
   try have R168 := R168.le j44
   try have R174 := R174.le j44
   try have hw170 := hw170.le j44
   try have hw176 := hw176.le j44
   obtain ⟨w44, rfl, hw44⟩ := q44
   obtain ⟨X, hXe⟩ : ∃ q, q = (allF c l 4096).1 := ⟨_, rfl⟩
   rw [← hXe] at hw44
   obtain ⟨XA, xc, rfl, hX, _, _⟩ := hw44
   refine go 9 ?_
   refine c_cut (I' := I44) (L' := [(1, .slice A l.length c0), (3, .int .u8 (b : Int)), (4, .pointer (some ⟨g4, 0, none⟩)), (9, .bool true), (10, .int .i64 ((k : Nat) : Int)), (11, .slice XA X.length xc), (12, .int .i64 (allF c l 4096).2), (60, .bool ((!decide ((allF c l 4096).2 = 0) && !decide ((allF c l 4096).2 = 21)) || !validRep l[k]))]) (H' := [.blk g4 24 [vc]]) ?_ ?_
   ·refine go 4 ?_
    refine sxb 49 rfl (fun h49 p49 => ?_) (fun h49 p49 => ?_)
    ·refine go 4 ?_
     refine sxb 53 rfl (fun h53 p53 => ?_) (fun h53 p53 => ?_)
     ·refine go 9 ?_
      exact q_cut ⟨rfl, rfl, rfl, rfl, rfl, rfl, rfl, (congrArg (fun b => some (Value.bool b)) (by simp only [h30, h34, h49, h53, bS])), trivial⟩ rfl rfl
     ·refine go 2 ?_
      obtain ⟨b56, o56, w56, e56, c56, r56⟩ := RdA.at_ hA (i := k) (by omega)
      obtain ⟨q56, rfl, S56, d56, rfl, hS56, hd56, hm56⟩ := r56
      refine o_cons (o_yes rfl rfl h53 (o_val rfl (v_idx he rfl rfl e56 (k) (by omega) (by omega)) ?_))
      refine o_cons (o_yes rfl rfl h53 (o_val rfl (v_ldIa he rfl c56 rfl) ?_))
      refine go 1 ?_
      refine o_yes rfl rfl h53 (o_callV (repValid _ l[k] S56 d56 ⟨_, _, rfl, hS56, hd56, hm56⟩ (hsl _ (List.getElem_mem hk))) rfl rfl ?_)
      refine go 4 ?_
      exact q_cut ⟨rfl, rfl, rfl, rfl, rfl, rfl, rfl, (congrArg (fun b => some (Value.bool b)) (by simp only [h30, h34, h49, h53, bS])), trivial⟩ rfl rfl
    ·refine go 6 ?_
     obtain ⟨b56, o56, w56, e56, c56, r56⟩ := RdA.at_ hA (i := k) (by omega)
     obtain ⟨q56, rfl, S56, d56, rfl, hS56, hd56, hm56⟩ := r56
     refine o_cons (o_yes rfl rfl rfl (o_val rfl (v_idx he rfl rfl e56 (k) (by omega) (by omega)) ?_))
     refine o_cons (o_yes rfl rfl rfl (o_val rfl (v_ldIa he rfl c56 rfl) ?_))
     refine go 1 ?_
     refine o_yes rfl rfl rfl (o_callV (repValid _ l[k] S56 d56 ⟨_, _, rfl, hS56, hd56, hm56⟩ (hsl _ (List.getElem_mem hk))) rfl rfl ?_)
     refine go 4 ?_
     exact q_cut ⟨rfl, rfl, rfl, rfl, rfl, rfl, rfl, (congrArg (fun b => some (Value.bool b)) (by simp only [h30, h34, h49, bS])), trivial⟩ rfl rfl
   ·refine cb rfl (fun h60 p60 => ?_) (fun h60 p60 => ?_)
    ·refine go 8 ?_
     refine fin1 rfl rfl ?_
     exact q_vI rfl
    ·simp only [Bool.or_eq_false_iff, Bool.and_eq_false_iff, Bool.not_eq_false', decide_eq_true_eq] at h60
     obtain ⟨hE, hvk⟩ := h60
     have hol := validRep_len hvk
     obtain ⟨j, hjj⟩ : ∃ j, b % l[k].options.length = j := ⟨_, rfl⟩
     have hj : j < l[k].options.length := by rw [← hjj]; exact Nat.mod_lt _ (by omega)
     have hlaw := law_ev (by omega) (by omega) hk hj hE
     have hX2 := all_le (c := c) (l := l) (most := 4096)
     have hXl := fun t (h : t ∈ (allF c l 4096).1) => all_lens h
     have hXk := fun t (h : t ∈ (allF c l 4096).1) (h2 : k < t.length) => all_at h hk h2
     have hc5 := chs_five l[k]
     rw [← hXe] at hlaw hX2 hXl hXk
     clear hXe
     have hX2 : X.length ≤ 200 := by omega
     refine go 6 ?_
     obtain ⟨b64, o64, w64, e64, c64, r64⟩ := RdA.at_ hA (i := k) (by omega)
     obtain ⟨q64, rfl, S64, d64, rfl, hS64, hd64, hm64⟩ := r64
     refine o_v rfl (v_idx he rfl rfl e64 (k) (by omega) (by omega)) ?_
     refine go 1 ?_
     refine o_v rfl (v_ldI he rfl (c64 0 _ rfl)) ?_
     refine go 7 ?_
     refine o_v rfl (v_conv he he rfl (m := ((b : Nat) : Int)) (by rw [IntKind.wrap_i64]; omega)) ?_
     refine go 1 ?_
     refine o_v rfl (OV.cast (u := .int .i64 ((j : Nat) : Int)) (v_rem rfl rfl (by omega) (by omega)) (by rw [hjj])) ?_
     refine go 6 ?_
     refine o_buildSlice he he rfl rfl rfl rfl rfl rfl rfl (fun v72 => ?_)
     refine go 2 ?_
     refine o_appendR (hv0) rfl he he rfl rfl rfl rfl (by omega) (by omega) rfl (fun v74 x74 f74 => ?_)
     refine go 9 ?_
     obtain ⟨b79, o79, w79, e79, c79, r79⟩ := RdA.at_ hA (i := k) (by omega)
     obtain ⟨q79, rfl, S79, d79, rfl, hS79, hd79, hm79⟩ := r79
     refine o_v rfl (v_idx he rfl rfl e79 (k) (by omega) (by omega)) ?_
     refine go 1 ?_
     refine o_v rfl (v_ldI he rfl (c79 0 _ rfl)) ?_
     refine go 3 ?_
     refine o_v rfl (v_slice_lohi he rfl rfl rfl j (j + 1) (by omega) (by omega) (by omega) (by omega)) ?_
     refine go 1 ?_
     refine o_val rfl (v_build (pl := [(0, 1), (1, 1)]) he he rfl rfl) ?_
     refine sx_rowF f74 rfl (Nat.zero_add _) (by omega) (fun g87 cap87 rest87 xss87 hv87 hC87 hR87 hc87 hl87 => ?_)
     subst hv87
     refine o_v rfl (v_idx he rfl rfl rfl (k) (by omega) (by omega)) ?_
     refine go 1 ?_
     refine o_stc _ (k) (Uk.append (show Uk 2 xss87 from hC87.uk) hR87) he rfl rfl rfl rfl rfl (by omega) (by rw [List.length_append, hC87.len]; omega) ?_
     refine sx_unrowF (l := l) (oneOf l[k] j) hC87 hR87 rfl (Nat.zero_add _) (by omega) hc87 hl87 ⟨_, rfl, opt_mid hj ▸ RdS.midM (l := l[k].options) ⟨_, _, rfl, hS79, hd79, hm79⟩ j (j + 1) (by omega) (by omega)⟩ (fun ws87 hF87 => ?_)
     refine sx_pubrow (l := (l.set k (oneOf l[k] j))) rfl (by simp) (hF87) (fun I87 j87 R87 => ?_)
     try have hvc := hvc.le j87
     try have hv0 := hv0.le j87
     try have hA := hA.le j87
     try have hX := hX.le j87
     try have R87 := R87.le j87
     try have hC117 := hC117.le j87
     try have R115 := R115.le j87
     try have R117 := R117.le j87
     try have hF17 := hF17.le j87
     try have hF18 := hF18.le j87
     try have R168 := R168.le j87
     try have R174 := R174.le j87
     try have hw170 := hw170.le j87
     try have hw176 := hw176.le j87
     refine go 5 ?_
     refine o_buildSlice he he rfl rfl rfl rfl rfl rfl rfl (fun v88 => ?_)
     refine go 2 ?_
     refine o_appendR (hv0) rfl he he rfl rfl rfl rfl (by omega) (by omega) rfl (fun v90 x90 f90 => ?_)
     refine go 4 ?_
     refine sx_rowF f90 rfl (Nat.zero_add _) (by omega) (fun g117 cap117 rest117 xss117 hv117 hC117 hR117 hc117 hl117 => ?_)
     subst hv117
     refine sx_knowI (fun hE13 hf13 => ?_)
     refine d_start1 T.mixed ?_
     refine d_tv 0 rfl rfl (by kernel_rfl) rfl (.cons _ (.refl _)) rfl (v_move rfl) ?_
     refine d_tv 1 rfl rfl (by kernel_rfl) rfl (.cons _ (.refl _)) rfl (v_move rfl) ?_
     refine d_tv 2 rfl rfl (by kernel_rfl) rfl (.cons _ (.refl _)) rfl (v_move rfl) ?_
     refine d_tv 3 rfl rfl (by kernel_rfl) rfl (.cons _ (.refl _)) rfl (v_move rfl) ?_
     obtain ⟨b95, o95, w95, e95, c95, r95⟩ := RdA.at_ hA (i := k) (by omega)
     obtain ⟨q95, rfl, S95, d95, rfl, hS95, hd95, hm95⟩ := r95
     refine d_tv 4 rfl rfl (by kernel_rfl) rfl (.cons _ (.refl _)) rfl (v_idx he rfl rfl e95 (k) (by omega) (by omega)) ?_
     refine d_tv 5 rfl rfl (by kernel_rfl) rfl (.cons _ (.refl _)) rfl (v_fieldAddr he rfl) ?_
     refine d_tv 6 rfl rfl (by kernel_rfl) rfl (.cons _ (.refl _)) rfl (v_ldI he rfl (c95 1 _ rfl)) ?_
     refine d_tv 8 rfl rfl (by kernel_rfl) rfl (.cons _ (.refl _)) rfl (v_move rfl) ?_
     refine d_tv 9 rfl rfl (by kernel_rfl) rfl (.cons _ (.refl _)) rfl (v_move rfl) ?_
     obtain ⟨b101, o101, w101, e101, c101, r101⟩ := RdA.at_ hA (i := k) (by omega)
     obtain ⟨q101, rfl, S101, d101, rfl, hS101, hd101, hm101⟩ := r101
     refine d_tv 10 rfl rfl (by kernel_rfl) rfl (.cons _ (.refl _)) rfl (v_idx he rfl rfl e101 (k) (by omega) (by omega)) ?_
     refine d_tv 11 rfl rfl (by kernel_rfl) rfl (.cons _ (.refl _)) rfl (v_fieldAddr he rfl) ?_
     refine d_tv 12 rfl rfl (by kernel_rfl) rfl (.cons _ (.refl _)) rfl (v_ldI he rfl (c101 0 _ rfl)) ?_
     refine d_tv 13 rfl rfl (by kernel_rfl) rfl (.cons _ (.refl _)) rfl (v_move rfl) ?_
     refine d_tv 14 rfl rfl (by kernel_rfl) rfl (.cons _ (.refl _)) rfl (v_slice_hi he rfl rfl j (by omega) (by omega)) ?_
     refine d_tv 16 rfl rfl (by kernel_rfl) rfl (.cons _ (.refl _)) rfl (v_move rfl) ?_
     refine d_tv 17 rfl rfl (by kernel_rfl) rfl (.cons _ (.refl _)) rfl (v_move rfl) ?_
     obtain ⟨b109, o109, w109, e109, c109, r109⟩ := RdA.at_ hA (i := k) (by omega)
     obtain ⟨q109, rfl, S109, d109, rfl, hS109, hd109, hm109⟩ := r109
     refine d_tv 18 rfl rfl (by kernel_rfl) rfl (.cons _ (.refl _)) rfl (v_idx he rfl rfl e109 (k) (by omega) (by omega)) ?_
     refine d_tv 19 rfl rfl (by kernel_rfl) rfl (.cons _ (.refl _)) rfl (v_fieldAddr he rfl) ?_
     refine d_tv 20 rfl rfl (by kernel_rfl) rfl (.cons _ (.refl _)) rfl (v_ldI he rfl (c109 0 _ rfl)) ?_
     refine d_tv 21 rfl rfl (by kernel_rfl) rfl (.cons _ (.refl _)) rfl (v_move rfl) ?_
     refine d_tv 22 rfl rfl (by kernel_rfl) rfl (.cons _ (.refl _)) rfl (v_add rfl rfl ⟨by omega, by omega⟩) ?_
     refine d_tv 23 rfl rfl (by kernel_rfl) rfl (.cons _ (.refl _)) rfl (v_slice_lo he rfl rfl (j + 1) (by omega) (by omega)) ?_
     refine d_one 7 (by kernel_rfl) rfl ?_
     refine o_buildSlice he he rfl rfl rfl rfl rfl rfl rfl (fun v98 => ?_)
     refine d_on (fun _ m => m.keeps (.cons _ (.cons _ (.refl _)))) ?_
     refine d_one 15 (by kernel_rfl) rfl ?_
     refine o_appendR ((RdS.takeM (l := l[k].options) ⟨_, _, rfl, hS101, hd101, hm101⟩ j (by omega))) rfl he he rfl rfl rfl rfl (by simp only [List.length_take, List.length_drop]; omega) (by simp only [List.length_take, List.length_drop]; omega) rfl (fun v106 x106 f106 => ?_)
     refine d_on (fun _ m => m.keeps (.cons _ (.cons _ (.refl _)))) ?_
     refine d_one 24 (by kernel_rfl) rfl ?_
     refine o_appendR ((RdS.dropM (l := l[k].options) ⟨_, _, rfl, hS109, hd109, hm109⟩ (j + 1) (by omega))) rfl he he rfl rfl rfl rfl (by simp only [List.length_take, List.length_drop]; omega) (by simp only [List.length_take, List.length_drop]; omega) rfl (fun v115 x115 f115 => ?_)
     refine sx_pubrow (l := cutAt l[k].options j) rfl (by rw [cutAt, List.length_append, Nat.zero_add]) ((f106.append f115)) (fun I115 j115 R115 => ?_)
     try have hvc := hvc.le j115
     try have hv0 := hv0.le j115
     try have hA := hA.le j115
     try have hX := hX.le j115
     try have R87 := R87.le j115
     try have hC117 := hC117.le j115
     try have R115 := R115.le j115
     try have R117 := R117.le j115
     try have hF17 := hF17.le j115
     try have hF18 := hF18.le j115
     try have R168 := R168.le j115
     try have R174 := R174.le j115
     try have hw170 := hw170.le j115
     try have hw176 := hw176.le j115
     have R115s := R115
     obtain ⟨A115, c115, rfl, _⟩ := R115s
     refine d_on (fun _ m => m.keepsI (.cons _ (.refl _)) (j115) hE13 hf13) ?_
     refine d_t 25 rfl rfl (by kernel_rfl) rfl (fun _ m => m.keepsI (.cons _ (.refl _)) (j115) hE13 hf13) (y_v rfl (v_build (pl := [(0, 1), (1, 1)]) he he rfl rfl)) ?_
     refine d_t 26 rfl rfl (by kernel_rfl) rfl (fun _ m => m.keepsI (.cons _ (.refl _)) (j115) hE13 hf13) (y_v rfl (v_idx he rfl rfl rfl (k) (by omega) (by omega))) ?_
     refine d_one 27 (by kernel_rfl) rfl ?_
     refine o_stc _ (k) (Uk.append (show Uk 2 xss117 from hC117.uk) hR117) he rfl rfl rfl rfl rfl (by omega) (by rw [List.length_append, hC117.len]; omega) ?_
     refine sx_unrowF (l := l) (lessOf l[k] j) hC117 hR117 rfl (Nat.zero_add _) (by omega) hc117 hl117 ⟨_, rfl, R115⟩ (fun ws117 hF117 => ?_)
     refine sx_pubrow (l := (l.set k (lessOf l[k] j))) rfl (by simp) (hF117) (fun I117 j117 R117 => ?_)
     try have hvc := hvc.le j117
     try have hv0 := hv0.le j117
     try have hA := hA.le j117
     try have hX := hX.le j117
     try have R87 := R87.le j117
     try have hC117 := hC117.le j117
     try have R115 := R115.le j117
     try have R117 := R117.le j117
     try have hF17 := hF17.le j117
     try have hF18 := hF18.le j117
     try have R168 := R168.le j117
     try have R174 := R174.le j117
     try have hw170 := hw170.le j117
     try have hw176 := hw176.le j117
     refine d_on (fun _ m => m.keepsI (.refl _) ((j115).trans j117) hE13 hf13) ?_
     refine d_done (by kernel_rfl) ?_
     refine go 3 ?_
     refine sx_nilrow 28 1 ?_
     refine go 1 ?_
     refine sx_nilrow 28 1 ?_
     refine go 10 ?_
     refine bring2 ?_
     refine bring1 ?_
     refine bring2 ?_
     refine c_loop8 ((0 : Nat)) (_) ([]) ([]) (_) ([]) ([]) (I117) (fun i v17 xs17 o17 v18 xs18 o18 J => J)
      (fun i v17 xs17 o17 v18 xs18 o18 J => [(1, .slice A l.length c0), (4, .pointer (some ⟨g4, 0, none⟩)), (9, .bool true), (10, .int .i64 ((k : Nat) : Int)), (11, .slice XA X.length xc), (13, .int .i64 ((l[k].options.length : Nat) : Int)), (14, .int .i64 ((j : Nat) : Int)), (15, .slice (some ⟨g87, 0, none⟩) (0 + l.length) cap87), (16, .slice (some ⟨g117, 0, none⟩) (0 + l.length) cap117), (17, v17), (18, v18), (19, .int .i64 ((i : Nat) : Int))])
      (fun i v17 xs17 o17 v18 xs18 o18 J => [.row v17 28 1 o17.length xs17, .row v18 28 1 o18.length xs18, .blk g4 24 [vc]])
      (fun i v17 xs17 o17 v18 xs18 o18 J => i ≤ X.length ∧ ILe I117 J ∧ selF k j (X.take i) = o17 ∧ unselF k j (X.take i) = o18 ∧ Flat J xs17 o17 ∧ Flat J xs18 o18)
      (fun i v17 xs17 o17 v18 xs18 o18 J => X.length - i) ⟨Nat.zero_le _, ILe.refl _, rfl, rfl, .nil, .nil⟩ rfl sb rfl ?_
     intro i v17 xs17 o17 v18 xs18 o18 J ⟨hi, hJ, e17, e18, hF17, hF18⟩
     have h17 : o17.length ≤ i := by rw [← e17]; exact Nat.le_trans sel_le (by rw [List.length_take]; omega)
     have h18 : o18.length ≤ i := by rw [← e18]; exact Nat.le_trans unsel_le (by rw [List.length_take]; omega)
     have hvc := hvc.le hJ
     have hv0 := hv0.le hJ
     have hA := hA.le hJ
     have hX := hX.le hJ
     have R87 := R87.le hJ
     have R117 := R117.le hJ
     refine go 9 ?_
     refine cb rfl (fun h121 p121 => ?_) (fun h121 p121 => ?_)
     ·have hlt : i < X.length := by omega
      have hxl := hXl _ (List.getElem_mem hlt)
      have hxk : k < X[i].length := by omega
      have hxb := hXk _ (List.getElem_mem hlt) hxk
      refine go 9 ?_
      obtain ⟨b126, o126, w126, e126, c126, r126⟩ := RdA.at_ hX (i := i) (by omega)
      obtain ⟨q126, rfl, S126, d126, rfl, hS126, hd126, hm126⟩ := r126
      refine o_v rfl (v_idx he rfl rfl e126 (i) (by omega) (by omega)) ?_
      refine o_v rfl (v_ldI he rfl (c126 0 _ rfl)) ?_
      refine go 3 ?_
      refine o_v rfl (OV.cast (u := .bool false) (v_neq rfl rfl) (congrArg Value.bool (by simp [hxl]))) ?_
      refine go 2 ?_
      refine c_false rfl ?_
      refine go 5 ?_
      refine o_buildSlice he he rfl rfl rfl rfl rfl rfl rfl (fun v132 => ?_)
      refine go 2 ?_
      obtain ⟨b135, o135, w135, e135, c135, r135⟩ := RdA.at_ hX (i := i) (by omega)
      obtain ⟨q135, rfl, S135, d135, rfl, hS135, hd135, hm135⟩ := r135
      refine o_v rfl (v_idx he rfl rfl e135 (i) (by omega) (by omega)) ?_
      refine o_v rfl (v_ldI he rfl (c135 0 _ rfl)) ?_
      refine go 1 ?_
      refine o_appendR (⟨_, _, rfl, hS135, hd135, hm135⟩) rfl he he rfl rfl rfl rfl (by omega) (by omega) rfl (fun v137 x137 f137 => ?_)
      refine go 6 ?_
      refine sx_rowF f137 rfl (Nat.zero_add _) (by omega) (fun g138 cap138 rest138 xss138 hv138 hC138 hR138 hc138 hl138 => ?_)
      subst hv138
      refine go 2 ?_
      refine o_v rfl (v_idx he rfl rfl rfl (k) (by omega) (by omega)) ?_
      refine o_v rfl (v_lds m0 (Uk.append (show Uk 1 xss138 from hC138.uk) hR138) he rfl (k) (by omega) (fc_at hC138 (by omega))) ?_
      refine go 4 ?_
      refine cb rfl (fun h143 p143 => ?_) (fun h143 p143 => ?_)
      ·refine go 4 ?_
       refine o_v rfl (v_idx he rfl rfl rfl (k) (by omega) (by omega)) ?_
       refine go 1 ?_
       refine o_stc _ (k) (Uk.append (show Uk 1 xss138 from hC138.uk) hR138) he rfl rfl rfl rfl rfl (by omega) (by rw [List.length_append, hC138.len]; omega) ?_
       refine sx_unrowF (l := X[i]) (0) hC138 hR138 rfl (Nat.zero_add _) (by omega) hc138 hl138 rfl (fun ws146 hF146 => ?_)
       refine sx_pubrow (l := (X[i].set k (0))) rfl (by simp) (hF146) (fun I146 j146 R146 => ?_)
       try have hvc := hvc.le j146
       try have hv0 := hv0.le j146
       try have hA := hA.le j146
       try have hX := hX.le j146
       try have R87 := R87.le j146
       try have hC117 := hC117.le j146
       try have R115 := R115.le j146
       try have R117 := R117.le j146
       try have hF17 := hF17.le j146
       try have hF18 := hF18.le j146
       try have R168 := R168.le j146
       try have R174 := R174.le j146
       try have hw170 := hw170.le j146
       try have hw176 := hw176.le j146
       refine go 7 ?_
       refine o_buildSlice he he rfl rfl rfl rfl rfl rfl rfl (fun v149 => ?_)
       refine go 1 ?_
       refine bring1 ?_
       refine o_appendO he he rfl rfl rfl rfl rfl (by omega) (by omega) rfl (fun v150 => ?_)
       refine go 13 ?_
       refine bring1 ?_
       refine sx_drop ?_
       exact q_next8 (i + 1) (_) (_) (o17 ++ [X[i].set k 0]) (_) (_) (o18) (_) ⟨by omega, hJ.trans j146, by rw [(sel_yes hlt hxk (by simpa using h143)).1, e17], by rw [(sel_yes hlt hxk (by simpa using h143)).2, e18], hF17.append (.one ⟨_, rfl, R146⟩), hF18⟩ (by omega) rfl sb (by simp only [List.length_append]; rfl)
      ·refine go 7 ?_
       refine o_v rfl (v_idx he rfl rfl rfl (k) (by omega) (by omega)) ?_
       refine o_v rfl (v_lds m0 (Uk.append (show Uk 1 xss138 from hC138.uk) hR138) he rfl (k) (by omega) (fc_at hC138 (by omega))) ?_
       refine go 4 ?_
       refine cb rfl (fun h156 p156 => ?_) (fun h156 p156 => ?_)
       ·refine go 3 ?_
        refine o_v rfl (v_idx he rfl rfl rfl (k) (by omega) (by omega)) ?_
        refine o_v rfl (v_lds m0 (Uk.append (show Uk 1 xss138 from hC138.uk) hR138) he rfl (k) (by omega) (fc_at hC138 (by omega))) ?_
        refine go 1 ?_
        refine o_v rfl (v_idx he rfl rfl rfl (k) (by omega) (by omega)) ?_
        refine go 1 ?_
        refine o_stc _ (k) (Uk.append (show Uk 1 xss138 from hC138.uk) hR138) he rfl rfl rfl rfl rfl (by omega) (by rw [List.length_append, hC138.len]; omega) ?_
        refine sx_unrowF (l := X[i]) (X[i][k] - 1) hC138 hR138 rfl (Nat.zero_add _) (by omega) hc138 hl138 rfl (fun ws162 hF162 => ?_)
        refine sx_pubrow (l := (X[i].set k (X[i][k] - 1))) rfl (by simp) (hF162) (fun I162 j162 R162 => ?_)
        try have hvc := hvc.le j162
        try have hv0 := hv0.le j162
        try have hA := hA.le j162
        try have hX := hX.le j162
        try have R87 := R87.le j162
        try have hC117 := hC117.le j162
        try have R115 := R115.le j162
        try have R117 := R117.le j162
        try have hF17 := hF17.le j162
        try have hF18 := hF18.le j162
        try have R168 := R168.le j162
        try have R174 := R174.le j162
        try have hw170 := hw170.le j162
        try have hw176 := hw176.le j162
        refine go 6 ?_
        refine o_buildSlice he he rfl rfl rfl rfl rfl rfl rfl (fun v165 => ?_)
        refine go 1 ?_
        refine bring2 ?_
        refine o_appendO he he rfl rfl rfl rfl rfl (by omega) (by omega) rfl (fun v166 => ?_)
        refine go 10 ?_
        refine bring1 ?_
        refine sx_drop ?_
        refine bring2 ?_
        refine bring1 ?_
        refine bring2 ?_
        exact q_next8 (i + 1) (_) (_) (o17) (_) (_) (o18 ++ [X[i].set k (X[i][k] - 1)]) (_) ⟨by omega, hJ.trans j162, by rw [(sel_big hlt hxk (by simpa using h156)).1, e17], by rw [(sel_big hlt hxk (by simpa using h156)).2, e18], hF17, hF18.append (.one ⟨_, rfl, R162⟩)⟩ (by omega) rfl sb (by simp only [List.length_append]; rfl)
       ·refine go 3 ?_
        refine sx_unrow (show Uk 1 xss138 from hC138.uk) hR138 (by rw [hC138.len]; omega) hc138 hl138 ?_
        refine sx_pubrow (l := X[i]) rfl (Nat.zero_add _) (hC138.flat) (fun I163 j163 R163 => ?_)
        try have hvc := hvc.le j163
        try have hv0 := hv0.le j163
        try have hA := hA.le j163
        try have hX := hX.le j163
        try have R87 := R87.le j163
        try have hC117 := hC117.le j163
        try have R115 := R115.le j163
        try have R117 := R117.le j163
        try have hF17 := hF17.le j163
        try have hF18 := hF18.le j163
        try have R168 := R168.le j163
        try have R174 := R174.le j163
        try have hw170 := hw170.le j163
        try have hw176 := hw176.le j163
        refine go 3 ?_
        refine o_buildSlice he he rfl rfl rfl rfl rfl rfl rfl (fun v165 => ?_)
        refine go 1 ?_
        refine bring2 ?_
        refine o_appendO he he rfl rfl rfl rfl rfl (by omega) (by omega) rfl (fun v166 => ?_)
        refine go 10 ?_
        refine bring1 ?_
        refine sx_drop ?_
        refine bring2 ?_
        refine bring1 ?_
        refine bring2 ?_
        exact q_next8 (i + 1) (_) (_) (o17) (_) (_) (o18 ++ [X[i]]) (_) ⟨by omega, hJ.trans j163, by rw [(sel_less hlt hxk (by simpa using h143) (by simpa using h156)).1, e17], by rw [(sel_less hlt hxk (by simpa using h143) (by simpa using h156)).2, e18], hF17, hF18.append (.one ⟨_, rfl, R163⟩)⟩ (by omega) rfl sb (by simp only [List.length_append]; rfl)
     ·obtain rfl : i = X.length := by omega
      rw [List.take_length] at e17 e18
      subst e17 e18
      refine go 7 ?_
      refine sx_pubrow (l := (selF k j X)) rfl rfl (hF17) (fun I168 j168 R168 => ?_)
      try have hvc := hvc.le j168
      try have hv0 := hv0.le j168
      try have hA := hA.le j168
      try have hX := hX.le j168
      try have R87 := R87.le j168
      try have hC117 := hC117.le j168
      try have R115 := R115.le j168
      try have R117 := R117.le j168
      try have hF17 := hF17.le j168
      try have hF18 := hF18.le j168
      try have R168 := R168.le j168
      try have R174 := R174.le j168
      try have hw170 := hw170.le j168
      try have hw176 := hw176.le j168
      refine go 3 ?_
      refine o_call (seAll _ vc c hvc hsc _ (l.set k (oneOf l[k] j)) R87 (by simp; omega) (set_sm hsl (one_sm (hsl _ (List.getElem_mem hk)) hj)) 4096) rfl rfl (fun v170 I170 j170 q170 => ?_)
      try have hvc := hvc.le j170
      try have hv0 := hv0.le j170
      try have hA := hA.le j170
      try have hX := hX.le j170
      try have R87 := R87.le j170
      try have hC117 := hC117.le j170
      try have R115 := R115.le j170
      try have R117 := R117.le j170
      try have hF17 := hF17.le j170
      try have hF18 := hF18.le j170
      try have R168 := R168.le j170
      try have R174 := R174.le j170
      try have hw170 := hw170.le j170
      try have hw176 := hw176.le j170
      obtain ⟨w170, rfl, hw170⟩ := q170
      refine go 9 ?_
      refine sx_pubrow (l := (unselF k j X)) rfl rfl (hF18) (fun I174 j174 R174 => ?_)
      try have hvc := hvc.le j174
      try have hv0 := hv0.le j174
      try have hA := hA.le j174
      try have hX := hX.le j174
      try have R87 := R87.le j174
      try have hC117 := hC117.le j174
      try have R115 := R115.le j174
      try have R117 := R117.le j174
      try have hF17 := hF17.le j174
      try have hF18 := hF18.le j174
      try have R168 := R168.le j174
      try have R174 := R174.le j174
      try have hw170 := hw170.le j174
      try have hw176 := hw176.le j174
      refine go 3 ?_
      refine o_call (seAll _ vc c hvc hsc _ (l.set k (lessOf l[k] j)) R117 (by simp; omega) (set_sm hsl (less_sm (hsl _ (List.getElem_mem hk)))) 4096) rfl rfl (fun v176 I176 j176 q176 => ?_)
      try have hvc := hvc.le j176
      try have hv0 := hv0.le j176
      try have hA := hA.le j176
      try have hX := hX.le j176
      try have R87 := R87.le j176
      try have hC117 := hC117.le j176
      try have R115 := R115.le j176
      try have R117 := R117.le j176
      try have hF17 := hF17.le j176
      try have hF18 := hF18.le j176
      try have R168 := R168.le j176
      try have R174 := R174.le j176
      try have hw170 := hw170.le j176
      try have hw176 := hw176.le j176
      obtain ⟨w176, rfl, hw176⟩ := q176
      refine go 10 ?_
      have R168s := R168
      obtain ⟨A17, c17, rfl, _, _, _⟩ := R168s
      have R174s := R174
      obtain ⟨A18, c18, rfl, _, _, _⟩ := R174s
      refine go 5 ?_
      refine o_v rfl (OV.cast (u := .bool false) (v_bneq he rfl rfl) (congrArg Value.bool (by rw [code_pos hlaw.1.2]; rfl))) ?_
      refine go 4 ?_
      refine o_yes rfl rfl rfl (o_callV (eqLists16 _ _ _ (hlaw.1.1 ▸ hw170) _ R168) rfl rfl ?_)
      refine go 4 ?_
      refine c_false rfl ?_
      refine go 9 ?_
      refine sxb 195 rfl (fun h195 p195 => ?_) (fun h195 p195 => ?_)
      ·refine go 1 ?_
       refine o_cons (o_yes rfl rfl h195 (o_val rfl (OV.cast (u := .bool true) (v_eql rfl rfl) (congrArg Value.bool (decide_eq_true (hlaw.2.1 (by omega))))) ?_))
       refine go 19 ?_
       refine fin1 rfl rfl ?_
       exact q_vI rfl
      ·refine go 9 ?_
       refine o_cons (o_yes rfl rfl rfl (o_val rfl (OV.cast (u := .bool true) (v_beql he rfl rfl) (congrArg Value.bool (code_pos (hlaw.2.2 (by omega)).2))) ?_))
       refine go 4 ?_
       refine o_yes rfl rfl rfl (o_callV (eqLists16 _ _ _ ((hlaw.2.2 (by omega)).1 ▸ hw176) _ R174) rfl rfl ?_)
       refine go 7 ?_
       refine fin1 rfl rfl ?_
       exact q_vI rfl

end Go.Proofs.YtoadjlmbdliceaaGreat

/- The law SearchEvidence holds of the given program, for every input. No condition. -/
namespace Go.Proofs.YtoadjlmbdliceaaGreat
open Go Go.Sx
set_option linter.all false
theorem T.cel_24 : Tryz.prog.cellsOf 24 = 1 := by kernel_rfl
theorem T.cel_47 : Tryz.prog.cellsOf 47 = 2 := by kernel_rfl
theorem T.cel_52 : Tryz.prog.cellsOf 52 = 2 := by kernel_rfl
theorem T.cel_54 : Tryz.prog.cellsOf 54 = 6 := by kernel_rfl
theorem T.cel_56 : Tryz.prog.cellsOf 56 = 14 := by kernel_rfl
theorem T.cel_82 : Tryz.prog.cellsOf 82 = 3 := by kernel_rfl
theorem T.cel_84 : Tryz.prog.cellsOf 84 = 3 := by kernel_rfl
theorem T.cel_9 : Tryz.prog.cellsOf 9 = 1 := by kernel_rfl
instance T.fds_24 : Has (fieldsK Tryz.prog 24) [(22, 0, 1)] := ⟨by kernel_rfl⟩
instance T.fds_47 : Has (fieldsK Tryz.prog 47) [(45, 0, 1), (4, 1, 1)] := ⟨by kernel_rfl⟩
instance T.fds_52 : Has (fieldsK Tryz.prog 52) [(3, 0, 1), (3, 1, 1)] := ⟨by kernel_rfl⟩
instance T.fds_54 : Has (fieldsK Tryz.prog 54) [(52, 0, 2), (52, 2, 2), (52, 4, 2)] := ⟨by kernel_rfl⟩
instance T.fds_56 : Has (fieldsK Tryz.prog 56) [(3, 0, 1), (3, 1, 1), (9, 2, 1), (9, 3, 1), (9, 4, 1), (9, 5, 1), (9, 6, 1), (9, 7, 1), (54, 8, 6)] := ⟨by kernel_rfl⟩
instance T.fds_82 : Has (fieldsK Tryz.prog 82) [(9, 0, 1), (4, 1, 1), (80, 2, 1)] := ⟨by kernel_rfl⟩
instance T.fds_84 : Has (fieldsK Tryz.prog 84) [(9, 0, 1), (61, 1, 1), (3, 2, 1)] := ⟨by kernel_rfl⟩
namespace lawSearchEvidence
open Go.ChangeShapes Go.WideShapes Go.ChangeAt Go.RowKit
theorem own : ownKnob Tryz.prog.godebug = none := by kernel_rfl
set_option maxRecDepth 100000 in
theorem lifted (os : Os) (started : os.Started) (H : Type) (enc : TypeId × Value → H) :
    ReturnsInHanded {} Tryz.checked os 6 .any (Rows.searchEvidenceSpec.pre6 enc Tryz.prog Tryz.f6 Rows.searchEvidenceRow.domain false) (Rows.searchEvidenceSpec.post enc Tryz.prog Tryz.f6 false true false false) := by
  refine returnsInHanded_of_change (C := Tryz.checked) own started (by kernel_rfl) Tryz.func6
    (ChangeSpec.witness6 (enc := enc) (C := Tryz.checked) false ⟨#[], #[.agg #[.slice none 0 0], .slice none 0 0, .int .u8 0, .int .u8 0], []⟩ 8 (by kernel_rfl) (by kernel_rfl) (by kernel_rfl) (by kernel_rfl)) ?_
  intro W base args ds gs before hval0 hW hcnd _
  have hval : ∀ (j : Nat) t v, Tryz.f6.params[j]? = some t → args[j]? = some v → Value.okWide Tryz.prog W .any base t v := hval0
  have hW' := hW
  obtain ⟨p, q, hA0, hV, rfl, hfz, hnd⟩ := hW
  have hA : DataW.TrodAll enc Tryz.prog W 0 (fun _ => true) true Tryz.f6.params.toList args.toList ds p := hA0
  rw [Tryz.params6] at hA hval
  obtain ⟨v0, vs0, d0, ds0, p0, q0, hargs, rfl, rfl, h0, r0⟩ := trodAll_cons hA
  obtain ⟨v1, vs1, d1, ds1, p1, q1, rfl, rfl, rfl, h1, r1⟩ := trodAll_cons r0
  obtain ⟨v2, vs2, d2, ds2, p2, q2, rfl, rfl, rfl, h2, r2⟩ := trodAll_cons r1
  obtain ⟨v3, vs3, d3, ds3, p3, q3, rfl, rfl, rfl, h3, r3⟩ := trodAll_cons r2
  obtain ⟨rfl, rfl, rfl⟩ := trodAll_nil r3
  obtain rfl : args = #[v0, v1, v2, v3] := by cases args; simp_all
  obtain ⟨rfl, rfl⟩ := trodVars_none hV
  clear hA0 hval0
  obtain ⟨cs0, rfl, hz0⟩ := okWide_agg T.fds_24.eq (hval 0 24 v0 rfl rfl)
  obtain ⟨fu0, hf0⟩ := h0
  obtain ⟨l0, ⟨u0, e0, R0⟩, G0⟩ := (opens_wrap T.fds_24.eq T.cel_24 (opens_slice T.und_22.eq T.cel_82 rfl (opens_kind T.fds_82.eq T.cel_82 (opens_string T.und_9.eq) (opens_bool T.und_4.eq) (opens_slice T.und_80.eq T.cel_84 rfl (opens_slot T.fds_84.eq T.cel_84 (opens_string T.und_9.eq) (opens_slice T.und_61.eq T.cel_9 rfl (opens_string T.und_9.eq)) (opens_int T.und_3.eq)))))) enc W 0 _ true fu0 _ _ hf0
  obtain rfl : cs0 = #[u0] := Array.toList_inj.1 e0
  obtain ⟨s1, n1, c1, rfl⟩ := okWide_slice T.und_25.eq (hval 1 25 v1 rfl rfl)
  obtain ⟨fu1, hf1⟩ := h1
  obtain ⟨l1, ⟨u1, e1, R1⟩, G1⟩ := (opens_slice T.und_25.eq T.cel_47 rfl (opens_rep T.fds_47.eq T.cel_47 (opens_slice T.und_45.eq T.cel_56 rfl (opens_evt T.fds_56.eq T.cel_56 (opens_int T.und_3.eq) (opens_string T.und_9.eq) (opens_use T.fds_54.eq T.cel_54 (opens_ivl T.fds_52.eq T.cel_52 (opens_int T.und_3.eq))))) (opens_bool T.und_4.eq))) enc W 0 _ true fu1 _ _ hf1
  cases e1
  obtain ⟨a2, rfl, rfl, rfl, w2⟩ := open_int T.und_5.eq (hval 2 5 v2 rfl rfl) h2
  obtain ⟨a3, rfl, rfl, rfl, w3⟩ := open_int T.und_5.eq (hval 3 5 v3 rfl rfl) h3
  exact law_calls (s := Rows.searchEvidenceSpec) Tryz.call6 (lawSEvidence (Iw W) _ l0 R0 G0 _ l1 R1 G1 a2 w2 a3 w3) hW' (by kernel_rfl) (by kernel_rfl) rfl T.und_4.eq rfl rfl
theorem over : Rows.searchEvidenceRow.holds Tryz.pinned (OpenSpec.ofChange Rows.searchEvidenceSpec) :=
  OpenClaim.holds_of_wide 6 Tryz.f6 rfl rfl rfl rfl rfl rfl rfl ⟨rfl, rfl, rfl, rfl, rfl⟩ rfl rfl rfl rfl rfl (by kernel_rfl) Tryz.func6 (by kernel_rfl)
    (of_decide_eq_true (by kernel_rfl)) (by unfold Func.isWrapper; first | (rw [if_pos (by decide +kernel)]; kernel_rfl) | (rw [if_neg (by decide +kernel)]; exact ⟨rfl, rfl⟩))
    (fun os started H enc _ => lifted os started H enc)
/-- the statement -/
theorem proved : Rows.SearchEvidenceSaid := over
end lawSearchEvidence
end Go.Proofs.YtoadjlmbdliceaaGreat

