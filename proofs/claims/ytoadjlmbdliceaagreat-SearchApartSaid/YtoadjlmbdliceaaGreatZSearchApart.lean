/- The law SearchApart holds of the given program, for every input. No condition. -/
import Derived.Test.YtoadjlmbdliceaaGreatYc
import Derived.Carry
import Derived.ChangeArms
import Derived.Deep.Slices
import Derived.OpenShut
import Derived.ProofKit
import Derived.Test.YtoadjlmbdliceaaGreatRows
/- How what comes in is read: out of the row's reading into the data of the walks; how a law's row is closed. -/
set_option linter.all false
namespace Go.Sx
open Go

def Iw (w : World) : IMap := fun b => w.heap[b]?
theorem Iw_mem (w : World) : Mem ⟨foots [], Iw w, w⟩ (Iw w) [] w :=
  ⟨Upd.refl _ _, fun _ _ h => h, ILe.refl _, fun _ h => .inl h, fun _ h => (by cases h), fun _ h => (by cases h), List.nodup_nil⟩
theorem cell_I {w : World} {b off : Nat} {v : Value} (h : w.cell? ⟨b, off, none⟩ = some v) : ICell (Iw w) b off v := by
  unfold World.cell? at h
  split at h
  · rename_i c t fz hb
    exact ⟨c, t, fz, hb, by simpa using h⟩
  · cases h
/-- whatever reads as this type reads as this -/
def Opens (P : Program) (t : TypeId) (α : Type) [Enc α] (G : α → Prop) : Prop :=
  ∀ {H : Type} (enc : TypeId × Value → H) (w : World) (base : Nat) (spare : Nat → Bool) (held : Bool) (fuel : Nat) (cs : List Value) (x : DataW H × List MemPlace),
    DataW.trod enc P w base spare held fuel t cs = some x → ∃ y : α, Enc.rd (Iw w) cs y ∧ G y
abbrev SmB (s : ByteArray) : Prop := s.size ≤ maxLen
theorem wf_i64 {n : Int} (h : (Lit.int .i64 n).wf = true) : I64 n := by
  simp only [Lit.wf, Bool.and_eq_true, decide_eq_true_eq] at h
  unfold I64; simpa [IntKind.min, IntKind.max, IntKind.signed, IntKind.bits] using h
section
variable {P : Program} {t e : TypeId}
theorem opens_string (ht : P.underlying t = some .string) : Opens P t ByteArray SmB := by
  intro H enc w base spare held fuel cs x h
  obtain ⟨s, rfl, _, h2⟩ := DataW.trod_string ht h
  exact ⟨s, rfl, h2⟩
theorem opens_int (ht : P.underlying t = some (.int .i64)) : Opens P t Int I64 := by
  intro H enc w base spare held fuel cs x h
  obtain ⟨s, rfl, _, h2⟩ := DataW.trod_int ht h
  exact ⟨s, rfl, wf_i64 h2⟩
theorem opens_bool (ht : P.underlying t = some .bool) : Opens P t Bool (fun _ => True) := by
  intro H enc w base spare held fuel cs x h
  obtain ⟨b, rfl, _⟩ := DataW.trod_bool ht h
  exact ⟨b, rfl, trivial⟩
theorem choose_list {α : Type} {p : Nat → α → Prop} : ∀ n : Nat, (∀ i, i < n → ∃ x, p i x) → ∃ l : List α, l.length = n ∧ ∀ i x, l[i]? = some x → p i x
  | 0, _ => ⟨[], rfl, fun i x h => by simp at h⟩
  | n + 1, h => by
    obtain ⟨l, h1, h2⟩ := choose_list n (fun i hi => h i (by omega))
    obtain ⟨x, hx⟩ := h n (by omega)
    refine ⟨l ++ [x], by simp [h1], fun i y hy => ?_⟩
    rcases Nat.lt_or_ge i l.length with hi | hi
    · rw [List.getElem?_append_left hi] at hy; exact h2 i y hy
    · rw [List.getElem?_append_right hi] at hy
      have h3 : i - l.length = 0 := by
        rcases Nat.eq_zero_or_pos (i - l.length) with h | h
        · exact h
        · rw [List.getElem?_eq_none (by simp; omega)] at hy; cases hy
      rw [h3] at hy
      simp at hy
      subst hy
      obtain rfl : i = n := by omega
      exact hx
theorem opens_slice {α : Type} [Enc α] {G : α → Prop} (ht : P.underlying t = some (.slice e)) (hc : P.cellsOf e = Enc.k α) (hk : Nat.blt 0 (Enc.k α) = true) (he : Opens P e α G) : Opens P t (List α) (fun l => ∀ x ∈ l, G x) := by
  intro H enc w base spare held fuel cs x h
  rcases Deep.open_slice ht h with ⟨rfl, _⟩ | ⟨a, len, cap, m, n, D, Pl, rfl, hb, hl, hm, hmm, _, hx⟩
  · exact ⟨[], ⟨_, rfl, RdS.nil'⟩, fun _ h => by cases h⟩
  have hlm : len ≤ m := by rw [hmm]; split <;> omega
  obtain ⟨l, h1, h2⟩ := choose_list (p := fun i y => ∃ vs, (∀ j u, vs[j]? = some u → w.cell? ((a.add (i * P.cellsOf e)).add j) = some u) ∧ vs.length = Enc.k α ∧ Enc.rd (Iw w) vs y ∧ G y) len (fun i hi => by
    obtain ⟨cs', h3, h4⟩ := hx i (by omega)
    obtain ⟨y, h5, h6⟩ := he enc w base spare held n cs' _ h4
    obtain ⟨_, h7, h8⟩ := World.cells?_some h3
    refine ⟨y, cs', fun j u hu => ?_, Enc.len h5, h5, h6⟩
    have hj : j < cs'.length := (List.getElem?_eq_some_iff.1 hu).1
    rw [h8 j (by omega), hu])
  subst h1
  refine ⟨l, ⟨_, rfl, some a, cap, rfl, fun hp => ?_, hl, by unfold maxLen at hm; exact hm⟩, fun x hx => ?_⟩
  · have hk' : 0 < Enc.k α := by simpa [Nat.blt_eq] using hk
    have hsp : a.spot = none := by
      obtain ⟨vs, h3, h4, _⟩ := h2 0 l[0] (List.getElem?_eq_getElem hp)
      have h5 := h3 0 vs[0] (List.getElem?_eq_getElem (by omega))
      unfold World.cell? at h5
      split at h5
      · split at h5
        · cases h5
        · rename_i hn; simpa [Addr.add] using hn
      · cases h5
    obtain ⟨b, o, sp⟩ := a
    simp only at hsp
    subst hsp
    refine ⟨b, o, rfl, fun i x hi => ?_⟩
    obtain ⟨vs, h3, h4, h5, _⟩ := h2 i x hi
    refine ⟨vs, fun j u hu => cell_I ?_, h5⟩
    have h6 := h3 j u hu
    rw [add_lit, add_lit, hc] at h6
    exact h6
  · obtain ⟨i, hi, rfl⟩ := List.getElem_of_mem hx
    obtain ⟨_, _, _, _, h3⟩ := h2 i _ (List.getElem?_eq_getElem hi)
    exact h3
def fieldsK (P : Program) (t : TypeId) : Option (List (TypeId × Nat × Nat)) :=
  match P.underlying t with
  | some (.struct fs) => some (fs.toList.map fun f => (f.type, f.offset, P.cellsOf f.type))
  | _ => none
theorem trod_fields {H : Type} {enc : TypeId × Value → H} {w : World} {base : Nat} {spare : Nat → Bool} {held : Bool} {fuel : Nat} {cs : List Value} {x : DataW H × List MemPlace} {l : List (TypeId × Nat × Nat)}
    (hf : fieldsK P t = some l) (h : DataW.trod enc P w base spare held fuel t cs = some x) :
    cs.length = P.cellsOf t ∧ ∀ q ∈ l, ∃ n y, DataW.trod enc P w base spare held n q.1 ((cs.drop q.2.1).take q.2.2) = some y := by
  unfold fieldsK at hf
  split at hf
  · rename_i fs ht
    simp only [Option.some.injEq] at hf
    subst hf
    obtain ⟨xs, n, _, _, h1, h2, h3⟩ := DataW.trod_struct ht h
    refine ⟨h1, fun q hq => ?_⟩
    obtain ⟨f, hf, rfl⟩ := List.mem_map.1 hq
    obtain ⟨i, hi, rfl⟩ := List.getElem_of_mem hf
    have hi' : i < fs.size := by simpa using hi
    have h4 := h3 i fs[i] (by simp [hi'])
    rw [List.getElem?_eq_getElem (by omega)] at h4
    exact ⟨n, _, by simpa using h4⟩
  · cases hf
theorem okWide_agg {l : List (TypeId × Nat × Nat)} {w : World} {r : Reach} {base : Nat} {v : Value} (hf : fieldsK P t = some l) (h : Value.okWide P w r base t v) : ∃ cs, v = .agg cs ∧ cs.size = P.cellsOf t := by
  unfold fieldsK at hf
  split at hf
  · rename_i fs ht; exact WideShapes.okWide_struct ht h
  · cases hf
theorem len_cons {cs : List Value} {n : Nat} (h : cs.length = n + 1) : ∃ a r, cs = a :: r ∧ r.length = n := by
  cases cs with
  | nil => simp at h
  | cons a r => exact ⟨a, r, rfl, by simpa using h⟩
theorem len_nil {cs : List Value} (h : cs.length = 0) : cs = [] := List.eq_nil_of_length_eq_zero h
/-- a struct of one field -/
theorem opens_wrap {α : Type} [Enc α] {G : α → Prop} {t0 : TypeId} {k : Nat} (hf : fieldsK P t = some [(t0, 0, k)]) (hc : P.cellsOf t = k) (h0 : Opens P t0 α G) : Opens P t α G := by
  intro H enc w base spare held fuel cs x h
  obtain ⟨hl, hall⟩ := trod_fields hf h
  obtain ⟨n, y, h1⟩ := hall (t0, 0, k) (by simp)
  have e : (cs.drop 0).take k = cs := by rw [List.drop_zero]; exact List.take_of_length_le (by omega)
  rw [show ((t0, 0, k) : TypeId × Nat × Nat).2.1 = 0 from rfl, show ((t0, 0, k) : TypeId × Nat × Nat).2.2 = k from rfl, e] at h1
  exact h0 enc w base spare held n cs y h1
/-! the types of this program -/
def OkIvl (x : Ivl) : Prop := I64 x.low ∧ I64 x.high
def OkUse (x : Use) : Prop := OkIvl x.km ∧ OkIvl x.cycles ∧ OkIvl x.load
structure OkE (e : Evt) : Prop where
  op : I64 e.op
  day : I64 e.day
  part : SmB e.part
  kind : SmB e.kind
  into : SmB e.into
  slot : SmB e.slot
  key : SmB e.key
  value : SmB e.value
  use : OkUse e.use
def OkSl (s : Slot) : Prop := SmB s.name ∧ (∀ k ∈ s.kinds, SmB k) ∧ I64 s.normal
def OkKd (k : Kind) : Prop := SmB k.name ∧ ∀ s ∈ k.slots, OkSl s
theorem opens_ivl {t0 : TypeId} (hf : fieldsK P t = some [(t0, 0, 1), (t0, 1, 1)]) (hc : P.cellsOf t = 2) (h0 : Opens P t0 Int I64) : Opens P t Ivl OkIvl := by
  intro H enc w base spare held fuel cs x h
  obtain ⟨hl, hall⟩ := trod_fields hf h
  rw [hc] at hl
  obtain ⟨a, r0_, rfl, l0_⟩ := len_cons hl
  obtain ⟨b, r1_, rfl, l1_⟩ := len_cons l0_
  obtain rfl := len_nil l1_
  obtain ⟨n0, y0, h1⟩ := hall (t0, 0, 1) (by simp)
  obtain ⟨n1, y1, h2⟩ := hall (t0, 1, 1) (by simp)
  obtain ⟨x0, e0, g0⟩ := h0 enc w base spare held n0 _ y0 h1
  obtain ⟨x1, e1, g1⟩ := h0 enc w base spare held n1 _ y1 h2
  have e0 : [a] = [.int .i64 x0] := e0
  have e1 : [b] = [.int .i64 x1] := e1
  cases e0
  cases e1
  exact ⟨⟨x0, x1⟩, rfl, g0, g1⟩
theorem opens_three {t0 : TypeId} {w : World} {H : Type} {enc : TypeId × Value → H} {base : Nat} {spare : Nat → Bool} {held : Bool} {fuel : Nat} {cs : List Value} {x : DataW H × List MemPlace} (hf : fieldsK P t = some [(t0, 0, 2), (t0, 2, 2), (t0, 4, 2)]) (hc : P.cellsOf t = 6) (h0 : Opens P t0 Ivl OkIvl)
    (h : DataW.trod enc P w base spare held fuel t cs = some x) : ∃ a b c : Ivl, cs = a.cells ++ (b.cells ++ c.cells) ∧ OkIvl a ∧ OkIvl b ∧ OkIvl c := by
  obtain ⟨hl, hall⟩ := trod_fields hf h
  rw [hc] at hl
  obtain ⟨a, r0_, rfl, l0_⟩ := len_cons hl
  obtain ⟨b, r1_, rfl, l1_⟩ := len_cons l0_
  obtain ⟨c, r2_, rfl, l2_⟩ := len_cons l1_
  obtain ⟨d, r3_, rfl, l3_⟩ := len_cons l2_
  obtain ⟨e, r4_, rfl, l4_⟩ := len_cons l3_
  obtain ⟨f, r5_, rfl, l5_⟩ := len_cons l4_
  obtain rfl := len_nil l5_
  obtain ⟨n0, y0, h1⟩ := hall (t0, 0, 2) (by simp)
  obtain ⟨n1, y1, h2⟩ := hall (t0, 2, 2) (by simp)
  obtain ⟨n2, y2, h3⟩ := hall (t0, 4, 2) (by simp)
  obtain ⟨x0, e0, g0⟩ := h0 enc w base spare held n0 _ y0 h1
  obtain ⟨x1, e1, g1⟩ := h0 enc w base spare held n1 _ y1 h2
  obtain ⟨x2, e2, g2⟩ := h0 enc w base spare held n2 _ y2 h3
  have e0 : [a, b] = x0.cells := e0
  have e1 : [c, d] = x1.cells := e1
  have e2 : [e, f] = x2.cells := e2
  exact ⟨x0, x1, x2, by rw [← e0, ← e1, ← e2]; rfl, g0, g1, g2⟩
theorem opens_use {t0 : TypeId} (hf : fieldsK P t = some [(t0, 0, 2), (t0, 2, 2), (t0, 4, 2)]) (hc : P.cellsOf t = 6) (h0 : Opens P t0 Ivl OkIvl) : Opens P t Use OkUse := by
  intro H enc w base spare held fuel cs x h
  obtain ⟨a, b, c, rfl, h1, h2, h3⟩ := opens_three hf hc h0 h
  exact ⟨⟨a, b, c⟩, rfl, h1, h2, h3⟩
theorem opens_evt {ti ts tu : TypeId} (hf : fieldsK P t = some [(ti, 0, 1), (ti, 1, 1), (ts, 2, 1), (ts, 3, 1), (ts, 4, 1), (ts, 5, 1), (ts, 6, 1), (ts, 7, 1), (tu, 8, 6)]) (hc : P.cellsOf t = 14) (hi : Opens P ti Int I64) (hs : Opens P ts ByteArray SmB) (hu : Opens P tu Use OkUse) : Opens P t Evt OkE := by
  intro H enc w base spare held fuel cs x h
  obtain ⟨hl, hall⟩ := trod_fields hf h
  rw [hc] at hl
  obtain ⟨a0, r0_, rfl, l0_⟩ := len_cons hl
  obtain ⟨a1, r1_, rfl, l1_⟩ := len_cons l0_
  obtain ⟨a2, r2_, rfl, l2_⟩ := len_cons l1_
  obtain ⟨a3, r3_, rfl, l3_⟩ := len_cons l2_
  obtain ⟨a4, r4_, rfl, l4_⟩ := len_cons l3_
  obtain ⟨a5, r5_, rfl, l5_⟩ := len_cons l4_
  obtain ⟨a6, r6_, rfl, l6_⟩ := len_cons l5_
  obtain ⟨a7, r7_, rfl, l7_⟩ := len_cons l6_
  obtain ⟨a8, r8_, rfl, l8_⟩ := len_cons l7_
  obtain ⟨a9, r9_, rfl, l9_⟩ := len_cons l8_
  obtain ⟨a10, r10_, rfl, l10_⟩ := len_cons l9_
  obtain ⟨a11, r11_, rfl, l11_⟩ := len_cons l10_
  obtain ⟨a12, r12_, rfl, l12_⟩ := len_cons l11_
  obtain ⟨a13, r13_, rfl, l13_⟩ := len_cons l12_
  obtain rfl := len_nil l13_
  obtain ⟨n0, y0, h0⟩ := hall (ti, 0, 1) (by simp)
  obtain ⟨x0, e0, g0⟩ := hi enc w base spare held n0 _ y0 h0
  have e0 : [a0] = [.int .i64 x0] := e0
  cases e0
  obtain ⟨n1, y1, h1⟩ := hall (ti, 1, 1) (by simp)
  obtain ⟨x1, e1, g1⟩ := hi enc w base spare held n1 _ y1 h1
  have e1 : [a1] = [.int .i64 x1] := e1
  cases e1
  obtain ⟨n2, y2, h2⟩ := hall (ts, 2, 1) (by simp)
  obtain ⟨x2, e2, g2⟩ := hs enc w base spare held n2 _ y2 h2
  have e2 : [a2] = [.string x2] := e2
  cases e2
  obtain ⟨n3, y3, h3⟩ := hall (ts, 3, 1) (by simp)
  obtain ⟨x3, e3, g3⟩ := hs enc w base spare held n3 _ y3 h3
  have e3 : [a3] = [.string x3] := e3
  cases e3
  obtain ⟨n4, y4, h4⟩ := hall (ts, 4, 1) (by simp)
  obtain ⟨x4, e4, g4⟩ := hs enc w base spare held n4 _ y4 h4
  have e4 : [a4] = [.string x4] := e4
  cases e4
  obtain ⟨n5, y5, h5⟩ := hall (ts, 5, 1) (by simp)
  obtain ⟨x5, e5, g5⟩ := hs enc w base spare held n5 _ y5 h5
  have e5 : [a5] = [.string x5] := e5
  cases e5
  obtain ⟨n6, y6, h6⟩ := hall (ts, 6, 1) (by simp)
  obtain ⟨x6, e6, g6⟩ := hs enc w base spare held n6 _ y6 h6
  have e6 : [a6] = [.string x6] := e6
  cases e6
  obtain ⟨n7, y7, h7⟩ := hall (ts, 7, 1) (by simp)
  obtain ⟨x7, e7, g7⟩ := hs enc w base spare held n7 _ y7 h7
  have e7 : [a7] = [.string x7] := e7
  cases e7
  obtain ⟨n8, y8, h8⟩ := hall (tu, 8, 6) (by simp)
  obtain ⟨x8, e8, g8⟩ := hu enc w base spare held n8 _ y8 h8
  have e8 : [a8, a9, a10, a11, a12, a13] = x8.cells := e8
  cases e8
  exact ⟨⟨x0, x1, x2, x3, x4, x5, x6, x7, x8⟩, rfl, ⟨g0, g1, g2, g3, g4, g5, g6, g7, g8⟩⟩
theorem opens_slot {ti tk ts : TypeId} (hf : fieldsK P t = some [(ts, 0, 1), (tk, 1, 1), (ti, 2, 1)]) (hc : P.cellsOf t = 3) (hs : Opens P ts ByteArray SmB) (hk : Opens P tk (List ByteArray) (fun l => ∀ x ∈ l, SmB x)) (hi : Opens P ti Int I64) : Opens P t Slot OkSl := by
  intro H enc w base spare held fuel cs x h
  obtain ⟨hl, hall⟩ := trod_fields hf h
  rw [hc] at hl
  obtain ⟨a0, r0_, rfl, l0_⟩ := len_cons hl
  obtain ⟨a1, r1_, rfl, l1_⟩ := len_cons l0_
  obtain ⟨a2, r2_, rfl, l2_⟩ := len_cons l1_
  obtain rfl := len_nil l2_
  obtain ⟨n0, y0, h0⟩ := hall (ts, 0, 1) (by simp)
  obtain ⟨x0, e0, g0⟩ := hs enc w base spare held n0 _ y0 h0
  have e0 : [a0] = [.string x0] := e0
  cases e0
  obtain ⟨n1, y1, h1⟩ := hall (tk, 1, 1) (by simp)
  obtain ⟨x1, e1, g1⟩ := hk enc w base spare held n1 _ y1 h1
  obtain ⟨v1, e1, r1⟩ := e1
  have e1 : [a1] = [v1] := e1
  cases e1
  obtain ⟨n2, y2, h2⟩ := hall (ti, 2, 1) (by simp)
  obtain ⟨x2, e2, g2⟩ := hi enc w base spare held n2 _ y2 h2
  have e2 : [a2] = [.int .i64 x2] := e2
  cases e2
  exact ⟨⟨x0, x1, x2⟩, ⟨_, rfl, r1⟩, g0, g1, g2⟩
theorem opens_kind {tb tk ts : TypeId} (hf : fieldsK P t = some [(ts, 0, 1), (tb, 1, 1), (tk, 2, 1)]) (hc : P.cellsOf t = 3) (hs : Opens P ts ByteArray SmB) (hb : Opens P tb Bool (fun _ => True)) (hk : Opens P tk (List Slot) (fun l => ∀ x ∈ l, OkSl x)) : Opens P t Kind OkKd := by
  intro H enc w base spare held fuel cs x h
  obtain ⟨hl, hall⟩ := trod_fields hf h
  rw [hc] at hl
  obtain ⟨a0, r0_, rfl, l0_⟩ := len_cons hl
  obtain ⟨a1, r1_, rfl, l1_⟩ := len_cons l0_
  obtain ⟨a2, r2_, rfl, l2_⟩ := len_cons l1_
  obtain rfl := len_nil l2_
  obtain ⟨n0, y0, h0⟩ := hall (ts, 0, 1) (by simp)
  obtain ⟨x0, e0, g0⟩ := hs enc w base spare held n0 _ y0 h0
  have e0 : [a0] = [.string x0] := e0
  cases e0
  obtain ⟨n1, y1, h1⟩ := hall (tb, 1, 1) (by simp)
  obtain ⟨x1, e1, g1⟩ := hb enc w base spare held n1 _ y1 h1
  have e1 : [a1] = [.bool x1] := e1
  cases e1
  obtain ⟨n2, y2, h2⟩ := hall (tk, 2, 1) (by simp)
  obtain ⟨x2, e2, g2⟩ := hk enc w base spare held n2 _ y2 h2
  obtain ⟨v2, e2, r2⟩ := e2
  have e2 : [a2] = [v2] := e2
  cases e2
  exact ⟨⟨x0, x1, x2⟩, ⟨_, rfl, r2⟩, g0, g2⟩
/-! a law's row -/
open Go.ChangeShapes Go.WideShapes Go.RowKit
variable {H : Type} {enc : TypeId × Value → H}
theorem trodAll_later {W W' : World} (hl : laidOutB P = true) (hb : Below W.heap.size W W') : ∀ (ts : List TypeId) (vs : List Value) (ds : List (DataW H)) (ps : List MemPlace), ts.all (fun t => P.readableRec t && decide (t < P.types.size)) = true → (∀ x ∈ ps, x.block < W.heap.size) →
    DataW.TrodAll enc P W 0 (fun _ => true) true ts vs ds ps → DataW.TrodAll enc P W' 0 (fun b => decide (b < W.heap.size)) true ts vs ds ps
  | [], vs, ds, ps, _, _, h => by
    obtain ⟨rfl, rfl, rfl⟩ := trodAll_nil h
    exact trodAll_mk0
  | t :: ts, vs, ds, ps, ht, hp, h => by
    obtain ⟨v, vs', d, ds', p, q, rfl, rfl, rfl, h1, h2⟩ := trodAll_cons h
    simp only [List.all_cons, Bool.and_eq_true, decide_eq_true_eq] at ht
    exact trodAll_cons_mk (Below.trod hl ht.1.1 ht.1.2 h1 hb fun x hx => hp x (by simp [hx])) (trodAll_later hl hb ts vs' ds' q (by simpa using ht.2) (fun x hx => hp x (by simp [hx])) h2)
theorem law_calls {f : FuncId} {fn : Func} {args : Array Value} {W : World} {s : ChangeSpec} {ds gs : List (DataW H)} {before : List MemPlace} {tb : TypeId}
    (hcall : ∀ (args : Array Value) (w : World), (callFunc f args).run P w = .ok (.enter f args) w) (hc : FnV P f args (Iw W) (.bool true)) (hW : DataW.Whole enc P fn.params.toList s.vars false W args.toList ds gs before)
    (hlaid : laidOutB P = true) (hts : fn.params.toList.all (fun t => P.readableRec t && decide (t < P.types.size)) = true) (hres : fn.resultTypes = #[tb]) (htb : P.underlying tb = some .bool)
    (hfn : s.fn H (ds ++ gs) = { results := [.lit (.bool true)], args := ds }) (hvars : s.vars = []) :
    Calls P f args W fun e W' => ∃ v, e = .returned v ∧ s.post enc P fn false true false false W args v W' := by
  have h := hc.go W (Iw_mem W)
  unfold After at h
  rw [hcall] at h
  refine Calls.mono h ?_
  rintro e W' ⟨v, I', H', rfl, hm, rfl, rfl, rfl⟩
  refine ⟨_, rfl, ?_⟩
  have hlt := hW.lt
  have hb : Below W.heap.size W W' := ⟨hm.upd.os, hm.upd.tape, hm.upd.output, hm.upd.size, fun k hk => hm.upd.block k hk (by simp [foots])⟩
  obtain ⟨p, q, hA, hV, hpq, hfz, hnd⟩ := id hW
  rw [hvars] at hV
  obtain ⟨rfl, rfl⟩ := trodVars_none hV
  refine ⟨ds, [], before, [], p, [], hW, ?_, ?_, ?_, ?_, fun h => by cases h⟩
  · rw [hfn, hres]
    exact trodAll_cons_mk (shut_bool htb _) trodAll_mk0
  · rw [hfn]
    exact trodAll_later hlaid hb _ _ _ _ hts (fun x hx => by simpa using hlt x (by rw [hpq]; simp [hx])) hA
  · rw [hfn, hvars]
    rfl
  · refine ⟨hm.upd.os, hm.upd.output, fun i hi => ?_⟩
    rw [hb.block i hi]
    cases W.heap[i]? with
    | none => rfl
    | some o => cases o <;> simp
end
end Go.Sx

/- How reports and bytes that come in are read. -/
set_option linter.all false
namespace Go.Sx
open Go
def OkRp (r : Rep) : Prop := ∀ e ∈ r.options, OkE e
section
variable {P : Program} {t : TypeId}
theorem opens_rep {tb tk : TypeId} (hf : fieldsK P t = some [(tk, 0, 1), (tb, 1, 1)]) (hc : P.cellsOf t = 2) (hk : Opens P tk (List Evt) (fun l => ∀ x ∈ l, OkE x)) (hb : Opens P tb Bool (fun _ => True)) : Opens P t Rep OkRp := by
  intro H enc w base spare held fuel cs x h
  obtain ⟨hl, hall⟩ := trod_fields hf h
  rw [hc] at hl
  obtain ⟨a0, r0_, rfl, l0_⟩ := len_cons hl
  obtain ⟨a1, r1_, rfl, l1_⟩ := len_cons l0_
  obtain rfl := len_nil l1_
  obtain ⟨n0, y0, h0⟩ := hall (tk, 0, 1) (by simp)
  obtain ⟨x0, e0, g0⟩ := hk enc w base spare held n0 _ y0 h0
  obtain ⟨v0, e0, r0⟩ := e0
  have e0 : [a0] = [v0] := e0
  cases e0
  obtain ⟨n1, y1, h1⟩ := hall (tb, 1, 1) (by simp)
  obtain ⟨x1, e1, g1⟩ := hb enc w base spare held n1 _ y1 h1
  have e1 : [a1] = [.bool x1] := e1
  cases e1
  exact ⟨⟨x0, x1⟩, ⟨_, rfl, r0⟩, g0⟩
theorem opens_u8 (ht : P.underlying t = some (.int .u8)) : Opens P t UInt8 (fun _ => True) := by
  intro H enc w base spare held fuel cs x h
  obtain ⟨s, rfl, _, h2⟩ := DataW.trod_int ht h
  have hs : 0 ≤ s ∧ s ≤ 255 := by
    simp only [Lit.wf, Bool.and_eq_true, decide_eq_true_eq] at h2
    simpa [IntKind.min, IntKind.max, IntKind.signed, IntKind.bits] using h2
  refine ⟨UInt8.ofNat s.toNat, ?_, trivial⟩
  show [Value.int .u8 s] = [.int .u8 ((UInt8.ofNat s.toNat).toNat : Int)]
  rw [UInt8.toNat_ofNat']
  congr 2
  omega
theorem u8_nat {n : Int} (h : (Lit.int .u8 n).wf = true) : ∃ a : Nat, n = (a : Int) ∧ a < 256 := by
  have h2 : 0 ≤ n ∧ n ≤ 255 := by
    simp only [Lit.wf, Bool.and_eq_true, decide_eq_true_eq] at h
    simpa [IntKind.min, IntKind.max, IntKind.signed, IntKind.bits] using h
  exact ⟨n.toNat, by omega, by omega⟩
theorem u16_nat {n : Int} (h : (Lit.int .u16 n).wf = true) : ∃ a : Nat, n = (a : Int) ∧ a < 65536 := by
  have h2 : 0 ≤ n ∧ n ≤ 65535 := by
    simp only [Lit.wf, Bool.and_eq_true, decide_eq_true_eq] at h
    simpa [IntKind.min, IntKind.max, IntKind.signed, IntKind.bits] using h
  exact ⟨n.toNat, by omega, by omega⟩
end
end Go.Sx

/- What a valid state is, part by part; an event that happens keeps it. -/
set_option linter.all false
namespace Go.Sx
open Go
theorem allP_iff {α : Type} {f : List α → α → Bool} {l : List α} : allP f l l.length = true ↔ ∀ (i : Nat) (h : i < l.length), f (l.take i) l[i] = true := by
  rw [allP, List.all_eq_true]
  constructor
  · intro h i hi
    have := h i (List.mem_range.2 hi)
    simpa only [List.getElem?_eq_getElem hi] using this
  · intro h i hi
    have hi := List.mem_range.1 hi
    simp only [List.getElem?_eq_getElem hi]
    exact h i hi
theorem allP_all {α : Type} {f : α → Bool} {l : List α} : allP (fun _ x => f x) l l.length = true ↔ ∀ x ∈ l, f x = true := by
  rw [allP_iff]
  constructor
  · intro h x hx; obtain ⟨i, hi, rfl⟩ := List.getElem_of_mem hx; exact h i hi
  · intro h i hi; exact h _ (List.getElem_mem hi)
theorem ord_iff {α : Type} {nm : α → ByteArray} {l : List α} : ordF nm l = true ↔ Inc nm l := by
  constructor
  · exact fun h => inc_of (Srt.of_ord h)
  · intro h
    unfold ordF
    rw [allP_iff]
    intro i hi
    unfold ordAt
    cases i with
    | zero => simp
    | succ i =>
      have : (l.take (i + 1)).getLast? = some l[i] := by
        rw [List.getLast?_eq_getElem?, List.length_take, Nat.min_eq_left (by omega), List.getElem?_take, if_pos (by omega)]
        simp
      rw [this]
      exact (List.pairwise_iff_getElem.1 h) i (i + 1) (by omega) hi (by omega)
/-- a part in its place -/
structure Sits (c : List Kind) (st : List Part) (p : Part) : Prop where
  alive : p.scrapped = false
  host : ∃ q, q ∈ st ∧ q.name = p.into ∧ q.scrapped = false ∧ takesF c q.kind p.slot p.kind = true
structure VS (c : List Kind) (st : List Part) : Prop where
  cat : validC c = true
  len : st.length ≤ 20000
  inc : Inc Part.name st
  right : ∀ p ∈ st, rightP c p = true
  both : ∀ p ∈ st, (p.into = nil8 ↔ p.slot = nil8)
  sits : ∀ p ∈ st, p.into ≠ nil8 → Sits c st p
  apart : ∀ p ∈ st, ∀ q ∈ st, p.into ≠ nil8 → p.into = q.into → p.slot = q.slot → p = q
theorem seated_hit {pre : List Part} {x : ByteArray × ByteArray} : hit seatOf (seated pre) x = true ↔ ∃ q ∈ pre, q.into ≠ nil8 ∧ seatOf q = x := by
  rw [hit_eq, List.any_eq_true]
  constructor
  · rintro ⟨q, hq, he⟩
    rw [seated, List.mem_filter] at hq
    exact ⟨q, hq.1, by simpa using hq.2, by simpa using he⟩
  · rintro ⟨q, h1, h2, h3⟩
    exact ⟨q, by rw [seated, List.mem_filter]; exact ⟨h1, by simpa using h2⟩, by simpa using h3⟩
theorem inc_idx {l : List Part} (h : Inc Part.name l) {i j : Nat} {hi : i < l.length} {hj : j < l.length} (he : l[i] = l[j]) : i = j := by
  rw [Inc, List.pairwise_iff_getElem] at h
  rcases Nat.lt_trichotomy i j with hij | hij | hij
  · have := h i j hi hj hij; rw [he, sLt_irrefl] at this; cases this
  · exact hij
  · have := h j i hj hi hij; rw [he, sLt_irrefl] at this; cases this
theorem validS_iff {c : List Kind} {st : List Part} : validS c st = true ↔ VS c st := by
  unfold validS bad0S
  simp only [Bool.and_eq_true, Bool.not_eq_true', Bool.or_eq_false_iff, Bool.not_eq_false', decide_eq_false_iff_not]
  rw [ord_iff, allP_iff]
  constructor
  · rintro ⟨⟨⟨h1, h2⟩, h3⟩, h4⟩
    have key : ∀ (i : Nat) (hi : i < st.length), rightP c st[i] = true ∧ (st[i].into = nil8 ↔ st[i].slot = nil8) ∧ (st[i].into ≠ nil8 → Sits c st st[i] ∧ ∀ q ∈ st.take i, q.into ≠ nil8 → seatOf q ≠ seatOf st[i]) := by
      intro i hi
      have h5 := h4 i hi
      simp only [partFine, bad1P, Bool.and_eq_true, Bool.not_eq_true', Bool.or_eq_false_iff, Bool.not_eq_false', Bool.or_eq_true, decide_eq_true_eq] at h5
      obtain ⟨⟨h6, h7⟩, h8⟩ := h5
      refine ⟨h6, ?_, fun hne => ?_⟩
      · have h7 : decide (st[i].into = nil8) = decide (st[i].slot = nil8) := by simpa using h7
        by_cases ha : st[i].into = nil8 <;> by_cases hb : st[i].slot = nil8 <;> simp [ha, hb] at h7 ⊢
      · rcases h8 with h8 | h8
        · exact absurd h8 hne
        · simp only [bad2P, Bool.or_eq_false_iff, Bool.not_eq_false'] at h8
          obtain ⟨⟨⟨⟨h9, h10⟩, h11⟩, h12⟩, h13⟩ := h8
          obtain ⟨q, hq⟩ := Option.isSome_iff_exists.1 h9
          rw [hq] at h11 h13
          have hq' := (find_iff h3).1 hq
          refine ⟨⟨h10, q, hq'.1, hq'.2, h11, h13⟩, fun q' hq' hn he => ?_⟩
          have : hit seatOf (seated (st.take i)) (seatOf st[i]) = true := seated_hit.2 ⟨q', hq', hn, he⟩
          rw [h12] at this; cases this
    refine ⟨h1, by omega, h3, fun p hp => ?_, fun p hp => ?_, fun p hp => ?_, fun p hp q hq hn he hs => ?_⟩
    · obtain ⟨i, hi, rfl⟩ := List.getElem_of_mem hp; exact (key i hi).1
    · obtain ⟨i, hi, rfl⟩ := List.getElem_of_mem hp; exact (key i hi).2.1
    · obtain ⟨i, hi, rfl⟩ := List.getElem_of_mem hp; exact fun h => ((key i hi).2.2 h).1
    · obtain ⟨i, hi, rfl⟩ := List.getElem_of_mem hp
      obtain ⟨j, hj, rfl⟩ := List.getElem_of_mem hq
      have hse : seatOf st[i] = seatOf st[j] := by simp [seatOf, he, hs]
      rcases Nat.lt_trichotomy i j with hij | rfl | hij
      · exact absurd hse (((key j hj).2.2 (by rw [← he]; exact hn)).2 st[i] (by rw [List.mem_iff_getElem?]; exact ⟨i, by rw [List.getElem?_take, if_pos hij]; simp⟩) hn)
      · rfl
      · exact absurd hse.symm (((key i hi).2.2 hn).2 st[j] (by rw [List.mem_iff_getElem?]; exact ⟨j, by rw [List.getElem?_take, if_pos hij]; simp⟩) (by rw [← he]; exact hn))
  · intro h
    refine ⟨⟨⟨h.cat, by have := h.len; omega⟩, h.inc⟩, fun i hi => ?_⟩
    have hm := List.getElem_mem hi
    have hb := h.both _ hm
    simp only [partFine, bad1P, Bool.and_eq_true, Bool.not_eq_true', Bool.or_eq_false_iff, Bool.not_eq_false', Bool.or_eq_true, decide_eq_true_eq]
    refine ⟨⟨h.right _ hm, ?_⟩, ?_⟩
    · by_cases ha : st[i].into = nil8
      · simp [ha, hb.1 ha]
      · have : ¬ st[i].slot = nil8 := fun hs => ha (hb.2 hs)
        simp [ha, this]
    · by_cases ha : st[i].into = nil8
      · exact .inl ha
      · right
        obtain ⟨h1, q, h2, h3, h4, h5⟩ := h.sits _ hm ha
        have hf : findP st st[i].into = some q := (find_iff h.inc).2 ⟨h2, h3⟩
        simp only [bad2P, Bool.or_eq_false_iff, Bool.not_eq_false']
        rw [hf]
        refine ⟨⟨⟨⟨rfl, h1⟩, h4⟩, ?_⟩, h5⟩
        rw [Bool.eq_false_iff]
        intro hh
        obtain ⟨q', h6, h7, h8⟩ := seated_hit.1 hh
        have h9 : q' ∈ st := List.mem_of_mem_take h6
        have h10 : q' = st[i] := h.apart _ h9 _ hm h7 (congrArg (·.1) h8) (congrArg (·.2) h8)
        obtain ⟨j, hj, hje⟩ := List.getElem_of_mem h6
        rw [List.length_take] at hj
        rw [List.getElem_take, h10] at hje
        have := inc_idx h.inc hje
        omega
/-! what an event does -/
/-- the part that an event leaves behind, if it is possible -/
structure Step (c : List Kind) (st : List Part) (e : Evt) (p' : Part) : Prop where
  vs : VS c st
  ve : validE e = true
  how : (e.op = 1 ∧ findP st e.part = none ∧ (findK c e.kind).isSome = true ∧ st.length ≠ 20000 ∧ p' = newP e) ∨
    ∃ p, findP st e.part = some p ∧ p.scrapped = false ∧
      ((e.op = 2 ∧ ∃ q, findP st e.into = some q ∧ q.scrapped = false ∧ ((findK c p.kind).getD zKind).vehicle = false ∧ takesF c q.kind e.slot p.kind = true ∧ p.into = nil8 ∧ seatTaken st e = false ∧ p' = { p with into := e.into, slot := e.slot }) ∨
       (e.op = 3 ∧ p.into ≠ nil8 ∧ p' = { p with into := nil8, slot := nil8 }) ∨
       (e.op = 4 ∧ ((findK c p.kind).getD zKind).vehicle = true ∧ p' = p) ∨
       (e.op = 5 ∧ p' = overhauled e p) ∨
       (e.op = 6 ∧ (noted e p).props.length ≤ 60 ∧ p' = noted e p) ∨
       (e.op = 7 ∧ p.into = nil8 ∧ holdsAny st p.name = false ∧ p' = { p with scrapped := true }))
theorem validE_op {e : Evt} (h : validE e = true) : 1 ≤ e.op ∧ e.op < 8 := by
  simp only [validE, evBad, Bool.and_eq_true, Bool.not_eq_true', Bool.or_eq_false_iff, decide_eq_false_iff_not] at h
  have := h.1.1.1.1.1.1
  rw [wordOf_empty] at this
  omega
theorem apply_of {c : List Kind} {st : List Part} {e : Evt} {p' : Part} (h : Step c st e p') : applyF c st e = putR st p' := by
  have hv := validS_iff.2 h.vs
  unfold applyF
  rw [if_neg (by simp [hv, h.ve])]
  rcases h.how with ⟨h1, h2, h3, h4, rfl⟩ | ⟨p, h1, h2, h3⟩
  · rw [if_pos h1]
    unfold applyMake
    rw [if_neg (by simp [h2]), if_neg (by simp [h3]), if_neg (by omega)]
  · have hpp : partP st e = p := by simp [partP, h1]
    have h5 := validE_op h.ve
    rcases h3 with ⟨h3, q, h4, h6, h7, h8, h9, h10, rfl⟩ | ⟨h3, h4, rfl⟩ | ⟨h3, h4, rfl⟩ | ⟨h3, rfl⟩ | ⟨h3, h4, rfl⟩ | ⟨h3, h4, h6, rfl⟩
    · have ho : otherO st e = some q := by simp [otherO, h3, h4]
      simp only [applyRest, h3, ho, h1, hpp, otherP, kindP, h2, h6, applyOp, applyFit, h7, h8, h9, h10, Option.isSome_some, Option.getD_some]
      simp
    · have ho : otherO st e = some p := by simp [otherO, h3, h1]
      simp only [applyRest, h3, ho, h1, hpp, otherP, kindP, h2, applyOp, applyRemove, Option.isSome_some, Option.getD_some]
      simp [h4]
    · have ho : otherO st e = some p' := by simp [otherO, h3, h1]
      simp only [applyRest, h3, ho, h1, hpp, otherP, kindP, h2, applyOp, applyRun, h4, Option.isSome_some, Option.getD_some]
      simp
    · have ho : otherO st e = some p := by simp [otherO, h3, h1]
      simp only [applyRest, h3, ho, h1, hpp, otherP, kindP, h2, applyOp, Option.isSome_some, Option.getD_some]
      simp
    · have ho : otherO st e = some p := by simp [otherO, h3, h1]
      simp only [applyRest, h3, ho, h1, hpp, otherP, kindP, h2, applyOp, applyNote, Option.isSome_some, Option.getD_some]
      simp; omega
    · have ho : otherO st e = some p := by simp [otherO, h3, h1]
      simp only [applyRest, h3, ho, h1, hpp, otherP, kindP, h2, applyOp, applyScrap, h4, h6, Option.isSome_some, Option.getD_some]
      simp
theorem of_apply {c : List Kind} {st : List Part} {e : Evt} (h : (applyF c st e).2 = 0) : ∃ p', Step c st e p' := by
  unfold applyF at h
  split at h
  · cases h
  · rename_i hv
    have hv : validS c st = true ∧ validE e = true := by simpa using hv
    have hop := validE_op hv.2
    split at h
    · rename_i h1
      unfold applyMake at h
      split at h
      · cases h
      · rename_i h2
        split at h
        · cases h
        · rename_i h3
          split at h
          · cases h
          · rename_i h4
            exact ⟨_, validS_iff.1 hv.1, hv.2, .inl ⟨h1, by simpa using h2, by rw [Option.isSome_iff_ne_none]; simpa using h3, by omega, rfl⟩⟩
    · rename_i h1
      unfold applyRest at h
      split at h
      · cases h
      · rename_i h2
        split at h
        · cases h
        · rename_i h3
          have h2 : (findP st e.part).isSome = true ∧ (otherO st e).isSome = true := by rw [Option.isSome_iff_ne_none, Option.isSome_iff_ne_none]; simpa using h2
          obtain ⟨p, hp⟩ := Option.isSome_iff_exists.1 h2.1
          obtain ⟨q, hq⟩ := Option.isSome_iff_exists.1 h2.2
          have hpp : partP st e = p := by simp [partP, hp]
          have hqq : otherP st e = q := by simp [otherP, hq]
          have hkk : kindP c st e = (findK c p.kind).getD zKind := by simp [kindP, hpp]
          rw [hpp, hqq] at h3
          have h3 : p.scrapped = false ∧ q.scrapped = false := by simpa using h3
          rw [hpp, hqq, hkk] at h
          unfold applyOp at h
          split at h
          · rename_i h4
            unfold applyFit at h
            split at h
            · cases h
            · rename_i h5
              split at h
              · cases h
              · rename_i h6
                split at h
                · cases h
                · rename_i h7
                  have h5 : ((findK c p.kind).getD zKind).vehicle = false ∧ takesF c q.kind e.slot p.kind = true := by simpa using h5
                  exact ⟨_, validS_iff.1 hv.1, hv.2, .inr ⟨p, hp, h3.1, .inl ⟨h4, q, by simpa [otherO, h4] using hq, h3.2, h5.1, h5.2, by simpa using h6, by simpa using h7, rfl⟩⟩⟩
          · rename_i h4
            split at h
            · rename_i h5
              unfold applyRemove at h
              split at h
              · cases h
              · rename_i h6; exact ⟨_, validS_iff.1 hv.1, hv.2, .inr ⟨p, hp, h3.1, .inr (.inl ⟨h5, h6, rfl⟩)⟩⟩
            · rename_i h5
              split at h
              · rename_i h6
                unfold applyRun at h
                split at h
                · cases h
                · rename_i h7; exact ⟨_, validS_iff.1 hv.1, hv.2, .inr ⟨p, hp, h3.1, .inr (.inr (.inl ⟨h6, by simpa using h7, rfl⟩))⟩⟩
              · rename_i h6
                split at h
                · rename_i h7; exact ⟨_, validS_iff.1 hv.1, hv.2, .inr ⟨p, hp, h3.1, .inr (.inr (.inr (.inl ⟨h7, rfl⟩)))⟩⟩
                · rename_i h7
                  split at h
                  · rename_i h8
                    unfold applyNote at h
                    split at h
                    · cases h
                    · rename_i h9; exact ⟨_, validS_iff.1 hv.1, hv.2, .inr ⟨p, hp, h3.1, .inr (.inr (.inr (.inr (.inl ⟨h8, by omega, rfl⟩))))⟩⟩
                  · rename_i h8
                    split at h
                    · rename_i h9
                      unfold applyScrap at h
                      split at h
                      · cases h
                      · rename_i h10
                        have h10 : p.into = nil8 ∧ holdsAny st p.name = false := by simpa using h10
                        exact ⟨_, validS_iff.1 hv.1, hv.2, .inr ⟨p, hp, h3.1, .inr (.inr (.inr (.inr (.inr ⟨h9, h10.1, h10.2, rfl⟩))))⟩⟩
                    · exfalso; omega
theorem validE_parts {e : Evt} (h : validE e = true) : nameOk e.part = true ∧ 0 ≤ e.day ∧ e.day ≤ 40000 ∧ (e.op = 2 → nameOk e.into = true ∧ nameOk e.slot = true ∧ e.into ≠ e.part) ∧ (e.op = 6 → nameOk e.key = true ∧ e.value ≠ nil8 ∧ ((e.value.size : Nat) : Int) ≤ 200) := by
  simp only [validE, evBad, Bool.and_eq_true, Bool.not_eq_true', Bool.or_eq_false_iff, decide_eq_false_iff_not, Bool.not_eq_false'] at h
  obtain ⟨⟨⟨⟨⟨⟨h1, h2⟩, h3⟩, h4⟩, h5⟩, h6⟩, h7⟩ := h
  refine ⟨h4, by omega, by omega, fun h8 => ?_, fun h8 => ?_⟩
  · have h9 : namesOf e = [e.into, e.slot] := by simp [namesOf, h8]
    rw [h9] at h7
    simp only [List.any_cons, List.any_nil, Bool.or_eq_false_iff, Bool.not_eq_false'] at h7
    have h10 : opBad e = decide (e.into = e.part) := by simp [opBad, h8]
    rw [h10, decide_eq_false_iff_not] at h5
    exact ⟨h7.1, h7.2.1, h5⟩
  · have h9 : namesOf e = [e.key] := by simp [namesOf, h8]
    rw [h9] at h7
    simp only [List.any_cons, List.any_nil, Bool.or_eq_false_iff, Bool.not_eq_false'] at h7
    have h10 : opBad e = (decide (e.value = nil8) || decide ((200 : Int) < (e.value.size : Nat))) := by simp [opBad, h8]
    rw [h10, Bool.or_eq_false_iff, decide_eq_false_iff_not, decide_eq_false_iff_not] at h5
    exact ⟨h7.1, h5.1, by omega⟩
theorem name_ne {s : ByteArray} (h : nameOk s = true) : s ≠ nil8 := by
  rintro rfl
  simp [nameOk] at h
/-- what is right of a part alone -/
structure RP (c : List Kind) (p : Part) : Prop where
  kind : (findK c p.kind).isSome = true
  name : nameOk p.name = true
  made : 0 ≤ p.made
  since : p.made ≤ p.since
  since2 : p.since ≤ 40000
  few : p.props.length ≤ 60
  props : ∀ q ∈ p.props, propOk q = true
  inc : Inc Prp.key p.props
  km : lifeOk p.life.km = true
  cycles : lifeOk p.life.cycles = true
  damage : lifeOk p.life.damage = true
theorem right_iff {c : List Kind} {p : Part} : rightP c p = true ↔ RP c p := by
  unfold rightP partBad
  simp only [Bool.and_eq_true, Bool.not_eq_true', Bool.or_eq_false_iff, Bool.not_eq_false', decide_eq_false_iff_not]
  rw [ord_iff, allP_all]
  constructor
  · rintro ⟨⟨⟨⟨⟨⟨⟨h1, h2⟩, h3⟩, h4⟩, h5⟩, h6⟩, h7⟩, ⟨⟨h8, h9⟩, h10⟩, h11⟩
    exact ⟨h1, h2, by omega, by omega, by omega, by omega, h7, h8, h9, h10, h11⟩
  · rintro ⟨h1, h2, h3, h4, h5, h6, h7, h8, h9, h10, h11⟩
    exact ⟨⟨⟨⟨⟨⟨⟨h1, h2⟩, by omega⟩, by omega⟩, by omega⟩, by omega⟩, h7⟩, ⟨⟨h8, h9⟩, h10⟩, h11⟩
theorem Step.name {c : List Kind} {st : List Part} {e : Evt} {p' : Part} (h : Step c st e p') : p'.name = e.part := by
  rcases h.how with ⟨_, _, _, _, rfl⟩ | ⟨p, h1, _, h3⟩
  · rfl
  · have hn : p.name = e.part := ((find_iff h.vs.inc).1 h1).2
    rcases h3 with ⟨_, q, _, _, _, _, _, _, rfl⟩ | ⟨_, _, rfl⟩ | ⟨_, _, rfl⟩ | ⟨_, rfl⟩ | ⟨_, _, rfl⟩ | ⟨_, _, _, rfl⟩ <;> exact hn
theorem Step.kind {c : List Kind} {st : List Part} {e : Evt} {p' p : Part} (h : Step c st e p') (hp : findP st e.part = some p) : p'.kind = p.kind := by
  rcases h.how with ⟨_, h2, _, _, rfl⟩ | ⟨p0, h1, _, h3⟩
  · rw [hp] at h2; cases h2
  · rw [hp] at h1; cases h1
    rcases h3 with ⟨_, q, _, _, _, _, _, _, rfl⟩ | ⟨_, _, rfl⟩ | ⟨_, _, rfl⟩ | ⟨_, rfl⟩ | ⟨_, _, rfl⟩ | ⟨_, _, _, rfl⟩ <;> rfl
theorem Step.right {c : List Kind} {st : List Part} {e : Evt} {p' : Part} (h : Step c st e p') : RP c p' := by
  obtain ⟨v1, v2, v3, v4, v5⟩ := validE_parts h.ve
  rcases h.how with ⟨_, _, h3, _, rfl⟩ | ⟨p, h1, _, h3⟩
  · exact ⟨h3, v1, v2, Int.le_refl _, v3, by simp [newP], fun _ h => by simp [newP] at h, by simp [newP, Inc], rfl, rfl, rfl⟩
  · have hr := right_iff.1 (h.vs.right p ((find_iff h.vs.inc).1 h1).1)
    rcases h3 with ⟨_, q, _, _, _, _, _, _, rfl⟩ | ⟨_, _, rfl⟩ | ⟨_, _, rfl⟩ | ⟨_, rfl⟩ | ⟨h6, h7, rfl⟩ | ⟨_, _, _, rfl⟩
    · exact ⟨hr.kind, hr.name, hr.made, hr.since, hr.since2, hr.few, hr.props, hr.inc, hr.km, hr.cycles, hr.damage⟩
    · exact ⟨hr.kind, hr.name, hr.made, hr.since, hr.since2, hr.few, hr.props, hr.inc, hr.km, hr.cycles, hr.damage⟩
    · exact hr
    · have hs := hr.since
      have hs2 := hr.since2
      refine ⟨hr.kind, hr.name, hr.made, ?_, ?_, hr.few, hr.props, hr.inc, rfl, rfl, rfl⟩
      · show p.made ≤ (if e.day > p.since then e.day else p.since); split <;> omega
      · show (if e.day > p.since then e.day else p.since) ≤ 40000; split <;> omega
    · obtain ⟨k1, k2, k3⟩ := v5 h6
      refine ⟨hr.kind, hr.name, hr.made, hr.since, hr.since2, h7, fun q hq => ?_, put_inc _ hr.inc, hr.km, hr.cycles, hr.damage⟩
      rcases (put_mem hr.inc).1 hq with rfl | ⟨hq, _⟩
      · simp only [propOk, k1, Bool.true_and, Bool.and_eq_true, Bool.not_eq_true', decide_eq_false_iff_not, decide_eq_true_eq]
        exact ⟨k2, k3⟩
      · exact hr.props q hq
    · exact ⟨hr.kind, hr.name, hr.made, hr.since, hr.since2, hr.few, hr.props, hr.inc, hr.km, hr.cycles, hr.damage⟩
theorem takes_known {c : List Kind} {k s p : ByteArray} (h : takesF c k s p = true) : (findK c k).isSome = true := by
  unfold takesF slotF at h
  cases hf : findK c k with
  | none => rw [hf] at h; simp [zKind] at h
  | some x => rfl
theorem taken_iff {st : List Part} {e : Evt} : seatTaken st e = false ↔ ∀ x ∈ st, ¬ (x.into = e.into ∧ x.slot = e.slot) := by
  unfold seatTaken
  rw [List.any_eq_false]
  simp
theorem holds_iff {st : List Part} {s : ByteArray} : holdsAny st s = false ↔ ∀ x ∈ st, x.into ≠ s := by
  unfold holdsAny
  rw [List.any_eq_false]
  simp
theorem Step.valid {c : List Kind} {st : List Part} {e : Evt} {p' : Part} (h : Step c st e p') : VS c (putL Part.name st p') := by
  have hv := h.vs
  have hi := hv.inc
  have hn := h.name
  obtain ⟨v1, v2, v3, v4, v5⟩ := validE_parts h.ve
  have hm : ∀ z, z ∈ putL Part.name st p' ↔ z = p' ∨ (z ∈ st ∧ z.name ≠ e.part) := fun z => by rw [put_mem hi, hn]
  -- the new part in its place
  have hpl : (p'.into = nil8 ↔ p'.slot = nil8) ∧ (p'.into ≠ nil8 → p'.scrapped = false ∧ ∃ q, q ∈ st ∧ q.name = p'.into ∧ q.scrapped = false ∧ takesF c q.kind p'.slot p'.kind = true) ∧
      (p'.into ≠ nil8 → ∀ z ∈ st, z.name ≠ e.part → ¬ (z.into = p'.into ∧ z.slot = p'.slot)) ∧ (p'.scrapped = true → ∀ z ∈ st, z.into ≠ e.part) := by
    rcases h.how with ⟨_, h2, _, _, rfl⟩ | ⟨p, h1, h2, h3⟩
    · exact ⟨⟨fun _ => rfl, fun _ => rfl⟩, fun h => absurd rfl h, fun h => absurd rfl h, fun h => by cases h⟩
    · have hp := (find_iff hi).1 h1
      have hb := hv.both p hp.1
      have hold : p.into ≠ nil8 → p.scrapped = false ∧ ∃ q, q ∈ st ∧ q.name = p.into ∧ q.scrapped = false ∧ takesF c q.kind p.slot p.kind = true := fun hne => by
        obtain ⟨s1, q, s2, s3, s4, s5⟩ := hv.sits p hp.1 hne
        exact ⟨s1, q, s2, s3, s4, s5⟩
      have hap : p.into ≠ nil8 → ∀ z ∈ st, z.name ≠ e.part → ¬ (z.into = p.into ∧ z.slot = p.slot) := fun hne z hz hzn ⟨e1, e2⟩ => by
        have := hv.apart p hp.1 z hz hne e1.symm e2.symm
        subst this
        exact hzn hp.2
      rcases h3 with ⟨o1, q, o2, o3, o4, o5, o6, o7, rfl⟩ | ⟨_, _, rfl⟩ | ⟨_, _, rfl⟩ | ⟨_, rfl⟩ | ⟨_, _, rfl⟩ | ⟨_, o2, o3, rfl⟩
      · obtain ⟨k1, k2, k3⟩ := v4 o1
        have hq := (find_iff hi).1 o2
        exact ⟨⟨fun hh => absurd hh (name_ne k1), fun hh => absurd hh (name_ne k2)⟩, fun _ => ⟨h2, q, hq.1, hq.2, o3, o5⟩, fun _ z hz _ => taken_iff.1 o7 z hz, fun hh => by
          have : p.scrapped = true := hh
          rw [h2] at this; cases this⟩
      · exact ⟨⟨fun _ => rfl, fun _ => rfl⟩, fun h => absurd rfl h, fun h => absurd rfl h, fun hh => by
          have : p.scrapped = true := hh
          rw [h2] at this; cases this⟩
      · exact ⟨hb, hold, hap, fun hh => by rw [h2] at hh; cases hh⟩
      · exact ⟨hb, hold, hap, fun hh => by
          have : p.scrapped = true := hh
          rw [h2] at this; cases this⟩
      · exact ⟨hb, hold, hap, fun hh => by
          have : p.scrapped = true := hh
          rw [h2] at this; cases this⟩
      · exact ⟨hb, fun hne => absurd o2 hne, fun hne => absurd o2 hne, fun _ z hz => by rw [← hp.2]; exact holds_iff.1 o3 z hz⟩
  obtain ⟨c1, c2, c3, c4⟩ := hpl
  have hk : ∀ q ∈ st, q.name = e.part → p'.kind = q.kind := fun q hq hqn => h.kind ((find_iff hi).2 ⟨hq, hqn⟩)
  refine ⟨hv.cat, ?_, put_inc _ hi, fun z hz => ?_, fun z hz => ?_, fun z hz hne => ?_, fun z hz w hw hne e1 e2 => ?_⟩
  · rw [put_len hi, at_find hi, hn]
    split
    · exact hv.len
    · rename_i hnf
      rcases h.how with ⟨_, _, _, h4, _⟩ | ⟨p, h1, _, _⟩
      · have := hv.len; omega
      · exact absurd (by rw [show st.find? (fun y => decide (y.name = e.part)) = some p from h1]; rfl) hnf
  · rcases (hm z).1 hz with rfl | ⟨hz, _⟩
    · exact right_iff.2 h.right
    · exact hv.right z hz
  · rcases (hm z).1 hz with rfl | ⟨hz, _⟩
    · exact c1
    · exact hv.both z hz
  · rcases (hm z).1 hz with rfl | ⟨hz, hzn⟩
    · obtain ⟨d1, q, d2, d3, d4, d5⟩ := c2 hne
      by_cases hq : q.name = e.part
      · exact ⟨d1, z, (hm z).2 (.inl rfl), by rw [hn, ← hq, d3], d1, by rw [hk q d2 hq]; rw [hk q d2 hq] at d5; exact d5⟩
      · exact ⟨d1, q, (hm q).2 (.inr ⟨d2, hq⟩), d3, d4, d5⟩
    · obtain ⟨d1, q, d2, d3, d4, d5⟩ := hv.sits z hz hne
      by_cases hq : q.name = e.part
      · have hsc : p'.scrapped = false := by
          cases hs : p'.scrapped with
          | false => rfl
          | true => exact absurd (by rw [← d3, hq]) (c4 hs z hz)
        exact ⟨d1, p', (hm p').2 (.inl rfl), by rw [hn, ← hq, d3], hsc, by rw [hk q d2 hq]; exact d5⟩
      · exact ⟨d1, q, (hm q).2 (.inr ⟨d2, hq⟩), d3, d4, d5⟩
  · rcases (hm z).1 hz with hz1 | ⟨hz1, hzn⟩ <;> rcases (hm w).1 hw with hw1 | ⟨hw1, hwn⟩
    · rw [hz1, hw1]
    · subst hz1; exact absurd ⟨e1.symm, e2.symm⟩ (c3 hne w hw1 hwn)
    · subst hw1; exact absurd ⟨e1, e2⟩ (c3 (by rw [← e1]; exact hne) z hz1 hzn)
    · exact hv.apart z hz1 w hw1 hne e1 e2
/-! two events, the one for the other -/
def mentions (e : Evt) : List ByteArray := if e.op = 2 then [e.part, e.into] else [e.part]
theorem Step.swap {c : List Kind} {st : List Part} {x y : Evt} {p1 p2 : Part} (hx : Step c st x p1) (hy : Step c (putL Part.name st p1) y p2) (h3 : x.op ≠ 3) (h3' : y.op ≠ 3) (hd : ∀ s ∈ mentions x, s ∉ mentions y) :
    Step c st y p2 ∧ Step c (putL Part.name st p2) x p1 := by
  have hi := hx.vs.inc
  have n1 := hx.name
  have n2 := hy.name
  have xp : x.part ∈ mentions x := by unfold mentions; split <;> simp
  have yp : y.part ∈ mentions y := by unfold mentions; split <;> simp
  have hne : x.part ≠ y.part := fun e => hd _ xp (by rw [e]; exact yp)
  have vx := validE_parts hx.ve
  have vy := validE_parts hy.ve
  have f1 : ∀ s, s ≠ x.part → findP (putL Part.name st p1) s = findP st s := fun s hs => by
    unfold findP; rw [put_find hi, n1, if_neg (fun e => hs e.symm)]
  have f2 : ∀ s, s ≠ y.part → findP (putL Part.name st p2) s = findP st s := fun s hs => by
    unfold findP; rw [put_find hi, n2, if_neg (fun e => hs e.symm)]
  have m1 : ∀ z, z ∈ putL Part.name st p1 ↔ z = p1 ∨ (z ∈ st ∧ z.name ≠ x.part) := fun z => by rw [put_mem hi, n1]
  have m2 : ∀ z, z ∈ putL Part.name st p2 ↔ z = p2 ∨ (z ∈ st ∧ z.name ≠ y.part) := fun z => by rw [put_mem hi, n2]
  -- where the part of x was, and is
  have wx : ∀ z ∈ st, z.name = x.part → z.into ≠ nil8 → p1.into = z.into ∧ p1.slot = z.slot := fun z hz hzn hzi => by
    rcases hx.how with ⟨_, h2, _, _, _⟩ | ⟨p, h1, _, h3x⟩
    · exact absurd hzn (find_none.1 h2 z hz)
    · have hp := (find_iff hi).1 h1
      have : z = p := inc_uniq hi hz hp.1 (by rw [hzn, hp.2])
      subst this
      rcases h3x with ⟨_, q, _, _, _, _, o6, _, rfl⟩ | ⟨o1, _, _⟩ | ⟨_, _, rfl⟩ | ⟨_, rfl⟩ | ⟨_, _, rfl⟩ | ⟨_, _, _, rfl⟩
      · exact absurd o6 hzi
      · exact absurd o1 h3
      all_goals exact ⟨rfl, rfl⟩
  have hyst : Step c st y p2 := by
    refine ⟨hx.vs, hy.ve, ?_⟩
    rcases hy.how with ⟨o1, o2, o3, o4, o5⟩ | ⟨p, h1, h2, h3y⟩
    · rw [f1 _ (Ne.symm hne)] at o2
      refine .inl ⟨o1, o2, o3, fun hl => o4 ?_, o5⟩
      have := hx.vs.len
      rw [put_len hi, at_find hi, n1]
      split
      · exact hl
      · rename_i hnf
        rcases hx.how with ⟨_, _, _, h4, _⟩ | ⟨p, h1, _, _⟩
        · exact absurd hl h4
        · exact absurd (by rw [show st.find? (fun y => decide (y.name = x.part)) = some p from h1]; rfl) hnf
    · rw [f1 _ (Ne.symm hne)] at h1
      refine .inr ⟨p, h1, h2, ?_⟩
      rcases h3y with ⟨o1, q, o2, o3, o4, o5, o6, o7, o8⟩ | ⟨o1, _, _⟩ | h | h | h | ⟨o1, o2, o3, o4⟩
      · have hyi : y.into ∈ mentions y := by simp [mentions, o1]
        have hni : y.into ≠ x.part := fun e => hd _ xp (by rw [← e]; exact hyi)
        rw [f1 _ hni] at o2
        refine .inl ⟨o1, q, o2, o3, o4, o5, o6, taken_iff.2 fun z hz ⟨e1, e2⟩ => ?_, o8⟩
        by_cases hzn : z.name = x.part
        · obtain ⟨w1, w2⟩ := wx z hz hzn (by rw [e1]; exact name_ne (vy.2.2.2.1 o1).1)
          exact taken_iff.1 o7 p1 ((m1 _).2 (.inl rfl)) ⟨by rw [w1, e1], by rw [w2, e2]⟩
        · exact taken_iff.1 o7 z ((m1 _).2 (.inr ⟨hz, hzn⟩)) ⟨e1, e2⟩
      · exact absurd o1 h3'
      · exact .inr (.inr (.inl h))
      · exact .inr (.inr (.inr (.inl h)))
      · exact .inr (.inr (.inr (.inr (.inl h))))
      · refine .inr (.inr (.inr (.inr (.inr ⟨o1, o2, holds_iff.2 fun z hz e1 => ?_, o4⟩))))
        have hp := (find_iff hi).1 h1
        by_cases hzn : z.name = x.part
        · obtain ⟨w1, w2⟩ := wx z hz hzn (by rw [e1, hp.2]; exact name_ne vy.1)
          exact holds_iff.1 o3 p1 ((m1 _).2 (.inl rfl)) (by rw [w1, e1])
        · exact holds_iff.1 o3 z ((m1 _).2 (.inr ⟨hz, hzn⟩)) e1
  refine ⟨hyst, hyst.valid, hx.ve, ?_⟩
  -- where the part of y is
  have wy : ∀ s, s ∈ mentions x → s ≠ nil8 → p2.into = s → ∃ z ∈ st, z.into = s ∧ z.slot = p2.slot ∧ z.name = y.part := fun s hs hsn he => by
    rcases hyst.how with ⟨_, h2, _, _, rfl⟩ | ⟨p, h1, _, h3y⟩
    · exact absurd he.symm hsn
    · have hp := (find_iff hi).1 h1
      rcases h3y with ⟨o1, q, _, _, _, _, o6, _, rfl⟩ | ⟨o1, _, _⟩ | ⟨_, _, rfl⟩ | ⟨_, rfl⟩ | ⟨_, _, rfl⟩ | ⟨_, _, _, rfl⟩
      · exact absurd (by rw [← he]; simp [mentions, o1]) (hd s hs)
      · exact absurd o1 h3'
      all_goals exact ⟨_, hp.1, he, rfl, hp.2⟩
  rcases hx.how with ⟨o1, o2, o3, o4, o5⟩ | ⟨p, h1, h2, h3x⟩
  · refine .inl ⟨o1, by rw [f2 _ hne]; exact o2, o3, fun hl => ?_, o5⟩
    rw [put_len hi, at_find hi, n2] at hl
    split at hl
    · exact o4 hl
    · rename_i hnf
      rcases hy.how with ⟨_, _, _, h4, _⟩ | ⟨p, h1, _, _⟩
      · apply h4
        rw [put_len hi, at_find hi, n1, if_neg]
        · exact hl
        · rw [show st.find? (fun y => decide (y.name = x.part)) = none from o2]; simp
      · rw [f1 _ (Ne.symm hne)] at h1
        exact hnf (by rw [show st.find? (fun z => decide (z.name = y.part)) = some p from h1]; rfl)
  · refine .inr ⟨p, by rw [f2 _ hne]; exact h1, h2, ?_⟩
    have hp := (find_iff hi).1 h1
    rcases h3x with ⟨o1, q, o2, o3, o4, o5, o6, o7, o8⟩ | ⟨o1, _, _⟩ | h | h | h | ⟨o1, o2, o3, o4⟩
    · have hxi : x.into ∈ mentions x := by simp [mentions, o1]
      have hni : x.into ≠ y.part := fun e => hd _ hxi (by rw [e]; exact yp)
      refine .inl ⟨o1, q, by rw [f2 _ hni]; exact o2, o3, o4, o5, o6, taken_iff.2 fun z hz ⟨e1, e2⟩ => ?_, o8⟩
      rcases (m2 z).1 hz with rfl | ⟨hz, _⟩
      · obtain ⟨w, hw, w1, w2, _⟩ := wy _ hxi (name_ne (vx.2.2.2.1 o1).1) e1
        exact taken_iff.1 o7 w hw ⟨w1, by rw [w2, e2]⟩
      · exact taken_iff.1 o7 z hz ⟨e1, e2⟩
    · exact absurd o1 h3
    · exact .inr (.inr (.inl h))
    · exact .inr (.inr (.inr (.inl h)))
    · exact .inr (.inr (.inr (.inr (.inl h))))
    · refine .inr (.inr (.inr (.inr (.inr ⟨o1, o2, holds_iff.2 fun z hz e1 => ?_, o4⟩))))
      rcases (m2 z).1 hz with rfl | ⟨hz, _⟩
      · obtain ⟨w, hw, w1, _, _⟩ := wy _ xp (name_ne vx.1) (by rw [e1, hp.2])
        exact holds_iff.1 o3 w hw (by rw [w1, hp.2])
      · exact holds_iff.1 o3 z hz e1
theorem apply_swap {c : List Kind} {st : List Part} {x y : Evt} (hx : (applyF c st x).2 = 0) (hy : (applyF c (applyF c st x).1 y).2 = 0) (h3 : x.op ≠ 3) (h3' : y.op ≠ 3) (hd : ∀ s ∈ mentions x, s ∉ mentions y) :
    (applyF c st y).2 = 0 ∧ (applyF c (applyF c st y).1 x).2 = 0 ∧ (applyF c (applyF c st y).1 x).1 = (applyF c (applyF c st x).1 y).1 := by
  obtain ⟨p1, s1⟩ := of_apply hx
  rw [apply_of s1] at hy ⊢
  obtain ⟨p2, s2⟩ := of_apply hy
  have s2 : Step c (putL Part.name st p1) y p2 := s2
  obtain ⟨t1, t2⟩ := s1.swap s2 h3 h3' hd
  rw [apply_of t1]
  have e1 : applyF c (putR st p2).1 x = putR (putL Part.name st p2) p1 := apply_of t2
  have e2 : applyF c (putR st p1).1 y = putR (putL Part.name st p1) p2 := apply_of s2
  rw [e1, e2]
  refine ⟨rfl, rfl, put_comm s1.vs.inc ?_⟩
  rw [s1.name, s2.name]
  intro e
  exact hd x.part (by unfold mentions; split <;> simp) (by rw [← e]; unfold mentions; split <;> simp)
end Go.Sx

/- The course with two events exchanged. -/
set_option linter.all false
namespace Go.Sx
open Go
theorem names_of {e : Evt} (hv : validE e = true) (s : ByteArray) : s ∈ namesE e ↔ s ∈ mentions e := by
  unfold namesE mentions
  rw [if_neg (by simp [hv])]
  split
  · unfold minS maxS
    cases h1 : sLt e.part e.into with
    | true => simp
    | false =>
      by_cases h2 : e.part = e.into
      · rw [h2]; simp
      · simp [h2]
        constructor
        · rintro (h | h)
          · exact .inr h
          · exact .inl h
        · rintro (h | h)
          · exact .inr h
          · exact .inl h
  · rfl
theorem go_ok_valid {c : List Kind} {s : List Part} {e : Evt} (h : (applyF c s e).2 = 0) : validE e = true := by
  obtain ⟨_, hs⟩ := of_apply h
  exact hs.ve
theorem go_swap {c : List Kind} {a b : List Evt} {x y : Evt} {s : List Part} {i : Int} (h : (runGo c s i (a ++ x :: y :: b)).2.2 = 0) (h3 : x.op ≠ 3) (h3' : y.op ≠ 3) (hd : ∀ z ∈ namesE x, z ∉ namesE y) :
    runGo c s i (a ++ y :: x :: b) = runGo c s i (a ++ x :: y :: b) := by
  have h0 : (runGo c s i a).2.2 = 0 := by
    by_cases h0 : (runGo c s i a).2.2 = 0
    · exact h0
    · rw [go_app_err a _ s i h0] at h; exact absurd h h0
  rw [go_app_ok a _ s i h0] at h ⊢
  rw [go_app_ok a _ s i h0]
  generalize (runGo c s i a).1 = st at *
  generalize i + (a.length : Nat) = k at *
  simp only [runGo] at h ⊢
  split at h
  · rename_i hx
    split at h
    · rename_i hy
      have hd' : ∀ z ∈ mentions x, z ∉ mentions y := fun z hz hz' => hd z ((names_of (go_ok_valid hx) z).2 hz) ((names_of (go_ok_valid hy) z).2 hz')
      obtain ⟨e1, e2, e3⟩ := apply_swap hx hy h3 h3' hd'
      rw [if_pos e1, if_pos e2, e3, if_pos hx, if_pos hy]
    · rename_i hy; exact absurd h hy
  · rename_i hx; exact absurd h hx
theorem list_at2 (m : List Evt) {k : Nat} (hk : k + 1 < m.length) : m = m.take k ++ m[k] :: m[k + 1] :: m.drop (k + 2) := by
  have := split2 m hk
  simpa using this
theorem swp_at2 (m : List Evt) {k : Nat} (hk : k + 1 < m.length) : swp m (k + 1) k = m.take k ++ m[k + 1] :: m[k] :: m.drop (k + 2) := by
  have := swp_adj m hk
  simpa using this
theorem exchange {c : List Kind} {l : List Evt} {k : Nat} (h : (runF c l).2.2 = 0) (hk : k + 1 < (sortF l).length) (hd : (sortF l)[k].day = (sortF l)[k + 1].day) (h3 : (sortF l)[k].op ≠ 3) (h3' : (sortF l)[k + 1].op ≠ 3)
    (hn : ∀ z ∈ namesE (sortF l)[k], z ∉ namesE (sortF l)[k + 1]) : runF c (swp (sortF l) (k + 1) k) = runF c l := by
  have hv := run_valid h
  have e1 := list_at2 (sortF l) hk
  have e2 := swp_at2 (sortF l) hk
  have hs : sortF (swp (sortF l) (k + 1) k) = swp (sortF l) (k + 1) k := by
    apply sortF_self
    have h1 := sortF_srt l
    unfold Srtd at h1 ⊢
    rw [e1] at h1
    rw [e2]
    rw [List.pairwise_append, List.pairwise_cons, List.pairwise_cons] at h1 ⊢
    obtain ⟨a1, ⟨a2, a3, a4⟩, a5⟩ := h1
    have hday : Day.day (sortF l)[k] = Day.day (sortF l)[k + 1] := hd
    refine ⟨a1, ⟨fun z hz => ?_, fun z hz => ?_, a4⟩, fun z hz w hw => ?_⟩
    · rcases List.mem_cons.1 hz with rfl | hz
      · exact Int.le_of_eq hday.symm
      · exact a3 z hz
    · exact a2 z (List.mem_cons_of_mem _ hz)
    · refine a5 z hz w ?_
      simp only [List.mem_cons] at hw ⊢
      rcases hw with h | h | h
      · exact .inr (.inl h)
      · exact .inl h
      · exact .inr (.inr h)
  rw [runF_eq hv] at h
  rw [runF_eq hv, runF_eq hv, hs, e2]
  conv => rhs; rw [e1]
  rw [e1] at h
  exact go_swap h h3 h3' hn
theorem swp_sub {l : List Evt} {i j : Nat} {x : Evt} (h : x ∈ swp l i j) : x ∈ l := by
  unfold swp at h
  split at h
  · rename_i a b ha hb
    rcases List.mem_or_eq_of_mem_set h with h | rfl
    · rcases List.mem_or_eq_of_mem_set h with h | rfl
      · exact h
      · exact List.mem_of_getElem? hb
    · exact List.mem_of_getElem? ha
  · exact h
theorem swp_rest2 {l : List Evt} {k : Nat} {rest : List (List Value)} (hk : k + 1 < l.length) : ((evCh l ++ rest).set k (Day.ch l[k + 1])).set (k + 1) (Day.ch l[k]) = evCh (swp l (k + 1) k) ++ rest := by
  rw [evCh_set' _ _ _ (by omega), evCh_set' _ _ _ (by simpa using hk), swp_eq hk (by omega), List.set_comm _ _ (by omega)]
theorem swp_rest2' {l : List Evt} {k : Nat} {rest : List (List Value)} (hk : k + 1 < l.length) : ((evCh l ++ rest).set (k + 1) (Day.ch l[k])).set k (Day.ch l[k + 1]) = evCh (swp l (k + 1) k) ++ rest := by
  rw [evCh_set' _ _ _ hk, evCh_set' _ _ _ (by simp; omega), swp_eq hk (by omega)]
end Go.Sx

/- The plain law of HistoryApart: events of parts that have nothing to do with each other. -/
set_option linter.all false
namespace Go.Sx
open Go
/-- a state in two parts: that of the names in D, and that of the others -/
structure Spl (D : ByteArray → Bool) (s a b : List Part) : Prop where
  is : Inc Part.name s
  ia : Inc Part.name a
  ib : Inc Part.name b
  mem : ∀ x, x ∈ s ↔ x ∈ a ∨ x ∈ b
  na : ∀ x ∈ a, D x.name = true ∧ (x.into = nil8 ∨ D x.into = true)
  nb : ∀ x ∈ b, D x.name = false ∧ (x.into = nil8 ∨ D x.into = false)
theorem Spl.nil (D : ByteArray → Bool) : Spl D [] [] [] := ⟨.nil, .nil, .nil, by simp, by simp, by simp⟩
theorem Spl.turn {D : ByteArray → Bool} {s a b : List Part} (h : Spl D s a b) : Spl (fun n => !D n) s b a :=
  ⟨h.is, h.ib, h.ia, fun x => by rw [h.mem x]; exact Or.comm, fun x hx => by simpa using h.nb x hx, fun x hx => by simpa using h.na x hx⟩
theorem Spl.find {D : ByteArray → Bool} {s a b : List Part} (h : Spl D s a b) {n : ByteArray} (hn : D n = true) : findP s n = findP a n := by
  refine Option.ext fun x => ?_
  show s.find? _ = some x ↔ a.find? _ = some x
  rw [find_iff h.is, find_iff h.ia, h.mem x]
  constructor
  · rintro ⟨h1 | h1, h2⟩
    · exact ⟨h1, h2⟩
    · have := (h.nb x h1).1
      rw [h2, hn] at this; cases this
  · rintro ⟨h1, h2⟩
    exact ⟨.inl h1, h2⟩
/-- an event of D alone -/
def Dev (D : ByteArray → Bool) (e : Evt) : Prop := ∀ z ∈ mentions e, D z = true
theorem Dev.part {D : ByteArray → Bool} {e : Evt} (h : Dev D e) : D e.part = true := h _ (by unfold mentions; split <;> simp)
theorem Dev.into {D : ByteArray → Bool} {e : Evt} (h : Dev D e) (ho : e.op = 2) : D e.into = true := h _ (by simp [mentions, ho])
theorem Spl.taken {D : ByteArray → Bool} {s a b : List Part} (h : Spl D s a b) {e : Evt} (hn : D e.into = true) (h0 : e.into ≠ nil8) : seatTaken s e = seatTaken a e := by
  unfold seatTaken
  rw [Bool.eq_iff_iff, List.any_eq_true, List.any_eq_true]
  constructor
  · rintro ⟨x, hx, hp⟩
    rcases (h.mem x).1 hx with h1 | h1
    · exact ⟨x, h1, hp⟩
    · have hi : x.into = e.into := by simp at hp; exact hp.1
      rcases (h.nb x h1).2 with h2 | h2
      · exact absurd (hi.symm.trans h2) h0
      · rw [hi, hn] at h2; cases h2
  · rintro ⟨x, hx, hp⟩
    exact ⟨x, (h.mem x).2 (.inl hx), hp⟩
theorem Spl.holds {D : ByteArray → Bool} {s a b : List Part} (h : Spl D s a b) {n : ByteArray} (hn : D n = true) (h0 : n ≠ nil8) : holdsAny s n = holdsAny a n := by
  unfold holdsAny
  rw [Bool.eq_iff_iff, List.any_eq_true, List.any_eq_true]
  constructor
  · rintro ⟨x, hx, hp⟩
    rcases (h.mem x).1 hx with h1 | h1
    · exact ⟨x, h1, hp⟩
    · have hi : x.into = n := by simpa using hp
      rcases (h.nb x h1).2 with h2 | h2
      · exact absurd (hi.symm.trans h2) h0
      · rw [hi, hn] at h2; cases h2
  · rintro ⟨x, hx, hp⟩
    exact ⟨x, (h.mem x).2 (.inl hx), hp⟩
theorem Spl.step {c : List Kind} {D : ByteArray → Bool} {s a b : List Part} (h : Spl D s a b) {e : Evt} (he : Dev D e) (vs : VS c s) (va : VS c a) (ls : s.length < 20000) (la : a.length < 20000) (p' : Part) : Step c s e p' ↔ Step c a e p' := by
  have f1 := h.find he.part
  constructor
  · intro hs
    obtain ⟨v1, v2, v3, v4, v5⟩ := validE_parts hs.ve
    refine ⟨va, hs.ve, ?_⟩
    rcases hs.how with ⟨h1, h2, h3, h4, h5⟩ | ⟨p, h1, h2, h3⟩
    · exact .inl ⟨h1, by rw [← f1]; exact h2, h3, by omega, h5⟩
    · refine .inr ⟨p, by rw [← f1]; exact h1, h2, ?_⟩
      have hpn : p.name = e.part := ((find_iff h.is).1 h1).2
      rcases h3 with ⟨o1, q, o2, o3, o4, o5, o6, o7, o8⟩ | h3 | h3 | h3 | h3 | ⟨o1, o2, o3, o4⟩
      · exact .inl ⟨o1, q, by rw [← h.find (he.into o1)]; exact o2, o3, o4, o5, o6, by rw [← h.taken (he.into o1) (name_ne (v4 o1).1)]; exact o7, o8⟩
      · exact .inr (.inl h3)
      · exact .inr (.inr (.inl h3))
      · exact .inr (.inr (.inr (.inl h3)))
      · exact .inr (.inr (.inr (.inr (.inl h3))))
      · exact .inr (.inr (.inr (.inr (.inr ⟨o1, o2, by rw [← h.holds (by rw [hpn]; exact he.part) (by rw [hpn]; exact name_ne v1)]; exact o3, o4⟩))))
  · intro hs
    obtain ⟨v1, v2, v3, v4, v5⟩ := validE_parts hs.ve
    refine ⟨vs, hs.ve, ?_⟩
    rcases hs.how with ⟨h1, h2, h3, h4, h5⟩ | ⟨p, h1, h2, h3⟩
    · exact .inl ⟨h1, by rw [f1]; exact h2, h3, by omega, h5⟩
    · refine .inr ⟨p, by rw [f1]; exact h1, h2, ?_⟩
      have hpn : p.name = e.part := ((find_iff h.ia).1 h1).2
      rcases h3 with ⟨o1, q, o2, o3, o4, o5, o6, o7, o8⟩ | h3 | h3 | h3 | h3 | ⟨o1, o2, o3, o4⟩
      · exact .inl ⟨o1, q, by rw [h.find (he.into o1)]; exact o2, o3, o4, o5, o6, by rw [h.taken (he.into o1) (name_ne (v4 o1).1)]; exact o7, o8⟩
      · exact .inr (.inl h3)
      · exact .inr (.inr (.inl h3))
      · exact .inr (.inr (.inr (.inl h3)))
      · exact .inr (.inr (.inr (.inr (.inl h3))))
      · exact .inr (.inr (.inr (.inr (.inr ⟨o1, o2, by rw [h.holds (by rw [hpn]; exact he.part) (by rw [hpn]; exact name_ne v1)]; exact o3, o4⟩))))
theorem Spl.put {c : List Kind} {D : ByteArray → Bool} {s a b : List Part} (h : Spl D s a b) {e : Evt} (he : Dev D e) {p' : Part} (hs : Step c a e p') : Spl D (putL Part.name s p') (putL Part.name a p') b := by
  have hn := hs.name
  refine ⟨put_inc _ h.is, put_inc _ h.ia, h.ib, fun x => ?_, fun x hx => ?_, h.nb⟩
  · rw [put_mem h.is, put_mem h.ia, h.mem x, hn]
    constructor
    · rintro (h1 | ⟨h1 | h1, h2⟩)
      · exact .inl (.inl h1)
      · exact .inl (.inr ⟨h1, h2⟩)
      · exact .inr h1
    · rintro ((h1 | ⟨h1, h2⟩) | h1)
      · exact .inl h1
      · exact .inr ⟨.inl h1, h2⟩
      · refine .inr ⟨.inr h1, fun h2 => ?_⟩
        have := (h.nb x h1).1
        rw [h2, he.part] at this; cases this
  · rcases (put_mem h.ia).1 hx with rfl | ⟨h1, _⟩
    · refine ⟨by rw [hn]; exact he.part, ?_⟩
      rcases hs.how with ⟨_, _, _, _, rfl⟩ | ⟨p, h1, h2, h3⟩
      · exact .inl rfl
      · have hp := h.na p ((find_iff h.ia).1 h1).1
        rcases h3 with ⟨o1, q, o2, o3, o4, o5, o6, o7, rfl⟩ | ⟨_, _, rfl⟩ | ⟨_, _, rfl⟩ | ⟨_, rfl⟩ | ⟨_, _, rfl⟩ | ⟨_, _, _, rfl⟩
        · exact .inr (he.into o1)
        · exact .inl rfl
        · exact hp.2
        · exact hp.2
        · exact hp.2
        · exact hp.2
    · exact h.na x h1
theorem put_le {l : List Part} {x : Part} (h : Inc Part.name l) : (putL Part.name l x).length ≤ l.length + 1 := by
  rw [put_len h]; split <;> omega
theorem step_or (c : List Kind) (s : List Part) (e : Evt) : (∃ p', Step c s e p' ∧ (applyF c s e).2 = 0 ∧ (applyF c s e).1 = putL Part.name s p') ∨ ((applyF c s e).2 ≠ 0 ∧ ∀ p', ¬ Step c s e p') := by
  by_cases h : (applyF c s e).2 = 0
  · obtain ⟨p', hp⟩ := of_apply h
    exact .inl ⟨p', hp, h, by rw [apply_of hp]; rfl⟩
  · exact .inr ⟨h, fun p' hp => h (by rw [apply_of hp]; rfl)⟩
theorem runs_split {c : List Kind} {D : ByteArray → Bool} : ∀ (Z : List Evt) (s a b : List Part), Spl D s a b → VS c s → VS c a → VS c b → s.length + Z.length < 20000 → a.length + Z.length < 20000 → b.length + Z.length < 20000 →
    (∀ e ∈ Z, Dev D e ∨ Dev (fun n => !D n) e) → (runsTo c s Z).isSome = ((runsTo c a (Z.filter fun e => D e.part)).isSome && (runsTo c b (Z.filter fun e => !D e.part)).isSome)
  | [], _, _, _, _, _, _, _, _, _, _, _ => rfl
  | e :: r, s, a, b, h, vs, va, vb, ls, la, lb, hd => by
    simp only [List.length_cons] at ls la lb
    rcases hd e (by simp) with he | he
    · have hp := he.part
      have hst := fun p' => h.step he vs va (by omega) (by omega) p'
      simp only [List.filter_cons, hp, Bool.not_true, if_true, Bool.false_eq_true, if_false]
      rcases step_or c a e with ⟨p', h1, h2, h3⟩ | ⟨h1, h2⟩
      · have h4 := (hst p').2 h1
        have e4 : applyF c s e = putR s p' := apply_of h4
        simp only [runsTo]
        rw [if_pos h2, h3, if_pos (by rw [e4]; rfl), e4]
        have l1 := put_le (x := p') h.is
        have l2 := put_le (x := p') h.ia
        exact runs_split r _ _ _ (h.put he h1) h4.valid h1.valid vb (by show (putL Part.name s p').length + r.length < 20000; omega) (by omega) (by omega) fun x hx => hd x (by simp [hx])
      · simp only [runsTo]
        rw [if_neg h1, if_neg (fun h0 => by obtain ⟨p', hp'⟩ := of_apply h0; exact h2 p' ((hst p').1 hp'))]
        rfl
    · have hp : D e.part = false := by simpa using he.part
      have hst := fun p' => h.turn.step he vs vb (by omega) (by omega) p'
      simp only [List.filter_cons, hp, Bool.not_false, if_true, Bool.false_eq_true, if_false]
      rcases step_or c b e with ⟨p', h1, h2, h3⟩ | ⟨h1, h2⟩
      · have h4 := (hst p').2 h1
        have e4 : applyF c s e = putR s p' := apply_of h4
        simp only [runsTo]
        rw [if_pos h2, h3, if_pos (by rw [e4]; rfl), e4]
        have l1 := put_le (x := p') h.is
        have l2 := put_le (x := p') h.ib
        have ht := (h.turn.put he h1).turn
        have ht : Spl D (putL Part.name s p') a (putL Part.name b p') := ⟨ht.is, ht.ia, ht.ib, ht.mem, fun x hx => by simpa using ht.na x hx, fun x hx => by simpa using ht.nb x hx⟩
        exact runs_split r _ _ _ ht h4.valid va h1.valid (by show (putL Part.name s p').length + r.length < 20000; omega) (by omega) (by omega) fun x hx => hd x (by simp [hx])
      · simp only [runsTo]
        rw [if_neg h1, if_neg (fun h0 => by obtain ⟨p', hp'⟩ := of_apply h0; exact h2 p' ((hst p').1 hp'))]
        simp
theorem vs_nil {c : List Kind} (h : validC c = true) : VS c [] := ⟨h, by simp, .nil, by simp, by simp, by simp, by simp⟩
/-! the law -/
theorem pickE_mem {day : Int} {l : List Rep} {ch : List Int} {e : Evt} (h : e ∈ pickE day l ch) : ∃ r ∈ l, e ∈ r.options := by
  rw [pickE, List.mem_filterMap] at h
  obtain ⟨p, hp, h⟩ := h
  exact ⟨p.1, (List.of_mem_zip hp).1, opt_some h⟩
theorem pickE_len (day : Int) (l : List Rep) (ch : List Int) : (pickE day l ch).length ≤ l.length := by
  unfold pickE
  refine Nat.le_trans (List.length_filterMap_le _ _) ?_
  rw [List.length_zip]; exact Nat.min_le_left _ _
theorem given_app {c : List Kind} {l m : List Rep} {a b : List Int} (ga : givenF c l a 0 = true) (gb : givenF c m b 0 = true) : givenF c (l ++ m) (a ++ b) 0 = true := by
  have la := (given_all ga).1
  have lb := (given_all gb).1
  refine given_mk (given_cat ga) (by simp [la, lb]) fun i h1 h2 => ?_
  by_cases hi : i < l.length
  · rw [List.getElem_append_left hi, List.getElem_append_left (by omega)]
    exact given_at ga hi (by omega)
  · rw [List.length_append] at h1 h2
    rw [List.getElem_append_right (by omega), List.getElem_append_right (by omega)]
    have := given_at gb (i := i - l.length) (by omega) (by omega)
    simpa [la] using this
/-- the names that reports mention -/
def names15 (l : List Rep) (n : ByteArray) : Bool := l.any fun r => r.options.any fun e => decide (n ∈ mentions e)
theorem names15_is {l : List Rep} {n : ByteArray} : names15 l n = true ↔ ∃ r ∈ l, ∃ e ∈ r.options, n ∈ mentions e := by
  simp [names15, List.any_eq_true]
theorem filt_all {α : Type} {p : α → Bool} {l : List α} (h : ∀ x ∈ l, p x = true) : l.filter p = l := List.filter_eq_self.2 h
theorem filt_no {α : Type} {p : α → Bool} {l : List α} (h : ∀ x ∈ l, p x = false) : l.filter p = [] := List.filter_eq_nil_iff.2 fun x hx => by rw [h x hx]; decide
theorem law_apart {c : List Kind} {l m : List Rep} {a b : List Int} (ga : givenF c l a 0 = true) (gb : givenF c m b 0 = true) (hl : l.length ≤ 1000) (hm : m.length ≤ 1000)
    (hd : ∀ s ∈ m, ∀ f ∈ s.options, ∀ z ∈ mentions f, names15 l z = false) : (isF c (l ++ m) (a ++ b) == (isF c l a && isF c m b)) = true := by
  rw [is_ev ga, is_ev gb, is_ev (given_app ga gb)]
  have la := (given_all ga).1
  have e0 : pickE 40001 (l ++ m) (a ++ b) = pickE 40001 l a ++ pickE 40001 m b := by
    unfold pickE; rw [List.zip_append (by omega), List.filterMap_append]
  have hx : ∀ e ∈ pickE 40001 l a, Dev (names15 l) e := fun e he z hz => by
    obtain ⟨r, hr, h1⟩ := pickE_mem he
    exact names15_is.2 ⟨r, hr, e, h1, hz⟩
  have hy : ∀ e ∈ pickE 40001 m b, Dev (fun n => !names15 l n) e := fun e he z hz => by
    obtain ⟨r, hr, h1⟩ := pickE_mem he
    simp [hd r hr e h1 z hz]
  have l1 := pickE_len 40001 l a
  have l2 := pickE_len 40001 m b
  have hlen : (sortF (pickE 40001 l a ++ pickE 40001 m b)).length < 20000 := by rw [sortF_len, List.length_append]; omega
  have hc := vs_nil (given_cat ga)
  rw [e0, runs_split (D := names15 l) _ [] [] [] (Spl.nil _) hc hc hc (by simpa using hlen) (by simpa using hlen) (by simpa using hlen) (fun e he => by
    rcases List.mem_append.1 (sortF_mem.1 he) with h | h
    · exact .inl (hx e h)
    · exact .inr (hy e h))]
  rw [sortF_filt (fun e : Evt => names15 l e.part), sortF_filt (fun e : Evt => !names15 l e.part), List.filter_append, List.filter_append,
    filt_all (l := pickE 40001 l a) (p := fun e => names15 l e.part) (fun e he => (hx e he).part), filt_no (l := pickE 40001 m b) (p := fun e => names15 l e.part) (fun e he => by simpa using (hy e he).part),
    filt_no (l := pickE 40001 l a) (p := fun e => !names15 l e.part) (fun e he => by simp [(hx e he).part]), filt_all (l := pickE 40001 m b) (p := fun e => !names15 l e.part) (fun e he => (hy e he).part)]
  simp
/-! the names that are seen -/
def Seen (kvs : List (ByteArray × Value)) (p : ByteArray → Bool) : Prop := ∀ s, (mget kvs s).getD (.bool false) = .bool (p s)
theorem Seen.nil {p : ByteArray → Bool} (h : ∀ s, p s = false) : Seen [] p := fun s => by rw [h s]; rfl
theorem Seen.put {kvs : List (ByteArray × Value)} {p q : ByteArray → Bool} (h : Seen kvs p) (k : ByteArray) (hq : ∀ s, q s = (p s || decide (k = s))) : Seen (mput kvs k (.bool true)) q := fun s => by
  rw [mget_mput, hq s]
  by_cases hk : k = s
  · simp [hk]
  · simp [hk, h s]
theorem Seen.congr {kvs : List (ByteArray × Value)} {p q : ByteArray → Bool} (h : Seen kvs p) (hq : ∀ s, q s = p s) : Seen kvs q := fun s => by rw [h s, hq s]
theorem mem_snoc {ns : List ByteArray} {j : Nat} (hj : j < ns.length) (b : Bool) (s : ByteArray) : (b || decide (s ∈ ns.take (j + 1))) = ((b || decide (s ∈ ns.take j)) || decide (ns[j] = s)) := by
  rw [Bool.eq_iff_iff, ← take_succ_of hj]
  simp only [Bool.or_eq_true, decide_eq_true_eq, List.mem_append, List.mem_singleton]
  constructor
  · rintro (h | h | h)
    · exact .inl (.inl h)
    · exact .inl (.inr h)
    · exact .inr h.symm
  · rintro ((h | h) | h)
    · exact .inl h
    · exact .inr (.inl h)
    · exact .inr (.inr h.symm)
theorem names15_mem {r : Rep} {ns : List ByteArray} (hv : validRep r = true) (hn : NamesOf r ns) (s : ByteArray) : s ∈ ns ↔ ∃ e ∈ r.options, s ∈ mentions e := by
  rw [hn.1 s]
  constructor
  · rintro ⟨_, e, he, h⟩; exact ⟨e, he, (names_of (validRep_e hv e he) s).1 h⟩
  · rintro ⟨e, he, h⟩; exact ⟨hv, e, he, (names_of (validRep_e hv e he) s).2 h⟩
theorem names15_succ {l : List Rep} {i : Nat} {ns : List ByteArray} (hi : i < l.length) (hv : validRep l[i] = true) (hn : NamesOf l[i] ns) (s : ByteArray) : names15 (l.take (i + 1)) s = (names15 (l.take i) s || decide (s ∈ ns)) := by
  rw [Bool.eq_iff_iff, ← take_succ_of hi, names15_is, Bool.or_eq_true, names15_is, decide_eq_true_eq, names15_mem hv hn]
  constructor
  · rintro ⟨r, hr, h⟩
    rcases List.mem_append.1 hr with hr | hr
    · exact .inl ⟨r, hr, h⟩
    · obtain rfl := List.mem_singleton.1 hr; exact .inr h
  · rintro (⟨r, hr, h⟩ | h)
    · exact ⟨r, List.mem_append_left _ hr, h⟩
    · exact ⟨_, List.mem_append_right _ (List.mem_singleton.2 rfl), h⟩
theorem free_succ {l m : List Rep} {i : Nat} {ns : List ByteArray} (hi : i < m.length) (hv : validRep m[i] = true) (hn : NamesOf m[i] ns) (h : ∀ r ∈ m.take i, ∀ e ∈ r.options, ∀ z ∈ mentions e, names15 l z = false) (h2 : ∀ z ∈ ns, names15 l z = false) :
    ∀ r ∈ m.take (i + 1), ∀ e ∈ r.options, ∀ z ∈ mentions e, names15 l z = false := by
  intro r hr e he z hz
  rw [← take_succ_of hi] at hr
  rcases List.mem_append.1 hr with hr | hr
  · exact h r hr e he z hz
  · obtain rfl := List.mem_singleton.1 hr
    exact h2 z ((names15_mem hv hn z).2 ⟨e, he, hz⟩)
theorem free_snoc {ns : List ByteArray} {p : ByteArray → Bool} {j : Nat} (hj : j < ns.length) (h : ∀ z ∈ ns.take j, p z = false) (h2 : p ns[j] = false) : ∀ z ∈ ns.take (j + 1), p z = false := by
  intro z hz
  rw [← take_succ_of hj] at hz
  rcases List.mem_append.1 hz with hz | hz
  · exact h z hz
  · obtain rfl := List.mem_singleton.1 hz; exact h2
theorem app_sm {l m : List Rep} (h1 : ∀ r ∈ l, ∀ e ∈ r.options, SmE e) (h2 : ∀ r ∈ m, ∀ e ∈ r.options, SmE e) : ∀ r ∈ l ++ m, ∀ e ∈ r.options, SmE e := fun r hr => (List.mem_append.1 hr).elim (h1 r) (h2 r)
theorem giv_valid {c : List Kind} {l : List Rep} (h : givF c l = true) : ∀ r ∈ l, validRep r = true := by
  simp only [givF, Bool.and_eq_true] at h
  exact fun r hr => by obtain ⟨_, h1⟩ := allP_mem h.2 hr; exact h1
end Go.Sx

/- The plain law of SearchApart: histories of reports that have nothing to do with each other are pairs. -/
set_option linter.all false
namespace Go.Sx
open Go
theorem all_app (l m : List Rep) : allCh (l ++ m) = (allCh l).flatMap fun a => (allCh m).map fun b => a ++ b := by
  induction l with
  | nil => simp [allCh]
  | cons r l ih =>
    simp only [List.cons_append, allCh, ih, List.flatMap_assoc, List.map_flatMap, List.flatMap_map, List.map_map]
    congr 1
theorem pairs_filter {f g : List Int → Bool} {h : List Int → Bool} {xs ys : List (List Int)} (hh : ∀ a ∈ xs, ∀ b ∈ ys, h (a ++ b) = (f a && g b)) : (xs.flatMap fun a => ys.map fun b => a ++ b).filter h = (xs.filter f).flatMap fun a => (ys.filter g).map fun b => a ++ b := by
  induction xs with
  | nil => rfl
  | cons a r ih =>
    rw [List.flatMap_cons, List.filter_append, ih fun x hx => hh x (by simp [hx]), List.filter_cons]
    have e : (ys.map fun b => a ++ b).filter h = if f a = true then (ys.filter g).map fun b => a ++ b else [] := by
      rw [List.filter_map]
      have h1 : ys.filter (h ∘ fun b => a ++ b) = ys.filter fun b => f a && g b := List.filter_congr fun b hb => hh a (by simp) b hb
      rw [h1]
      by_cases hf : f a = true
      · rw [if_pos hf]; simp [hf]
      · simp [hf]
    rw [e]
    by_cases hf : f a = true
    · rw [if_pos hf, if_pos hf, List.flatMap_cons]
    · rw [if_neg hf, if_neg hf]; simp
section
variable {c : List Kind} {l m : List Rep}
theorem hist_app (hl : errF c l = 0) (hm : errF c m = 0) (h1 : l.length ≤ 1000) (h2 : m.length ≤ 1000) (hd : ∀ s ∈ m, ∀ f ∈ s.options, ∀ z ∈ mentions f, names15 l z = false) :
    histF c (l ++ m) = (histF c l).flatMap fun a => (histF c m).map fun b => a ++ b := by
  obtain ⟨hc, p1⟩ := err_zero hl
  obtain ⟨_, p2⟩ := err_zero hm
  unfold histF
  rw [all_app]
  refine pairs_filter fun a ha b hb => ?_
  have := law_apart ((all_given hc p1 a).2 ha) ((all_given hc p2 b).2 hb) h1 h2 hd
  simpa using this
theorem dbt_app (l m : List Rep) : dbtF (l ++ m) = dbtF l + dbtF m := by simp [dbtF]
theorem err_app (h1 : l.length ≤ 15) (h2 : m.length ≤ 15) : errF c (l ++ m) = 0 ↔ errF c l = 0 ∧ errF c m = 0 := by
  have d1 : dbtF l ≤ l.length := List.length_filter_le _ _
  have d2 : dbtF m ≤ m.length := List.length_filter_le _ _
  have key : ∀ q : List Rep, dbtF q ≤ 30 → (errF c q = 0 ↔ validC c = true ∧ ∀ r ∈ q, chs r ≠ 0) := fun q hq => by
    constructor
    · exact err_zero
    · rintro ⟨hc, hp⟩
      unfold errF
      rw [if_neg (by rw [hc]; decide), if_neg (by
        rw [List.any_eq_true]; rintro ⟨r, hr, h0⟩; exact hp r hr (by simpa using h0)), if_neg (by omega)]
  rw [key _ (by rw [dbt_app]; omega), key l (by omega), key m (by omega)]
  constructor
  · rintro ⟨hc, hp⟩
    exact ⟨⟨hc, fun r hr => hp r (List.mem_append_left _ hr)⟩, hc, fun r hr => hp r (List.mem_append_right _ hr)⟩
  · rintro ⟨⟨hc, hp⟩, _, hq⟩
    exact ⟨hc, fun r hr => (List.mem_append.1 hr).elim (hp r) (hq r)⟩
theorem code_zero {q : List Rep} : (allF c q 4096).2 = 0 ↔ errF c q = 0 ∧ histF c q ≠ [] := by
  rw [all_code (by decide) (by decide)]
  by_cases he : errF c q = 0
  · rw [if_neg (show ¬ (errF c q ≠ 0) by simp [he])]
    by_cases hh : histF c q = []
    · simp [hh]
    · simp [hh, he]
  · rw [if_pos he]; simp [he]
theorem apart_code (h1 : l.length ≤ 15) (h2 : m.length ≤ 15) (hd : ∀ s ∈ m, ∀ f ∈ s.options, ∀ z ∈ mentions f, names15 l z = false) : (allF c (l ++ m) 4096).2 = 0 ↔ (allF c l 4096).2 = 0 ∧ (allF c m 4096).2 = 0 := by
  rw [code_zero, code_zero, code_zero, err_app h1 h2]
  constructor
  · rintro ⟨⟨e1, e2⟩, hn⟩
    rw [hist_app e1 e2 (by omega) (by omega) hd] at hn
    refine ⟨⟨e1, fun h => hn (by rw [h]; rfl)⟩, e2, fun h => hn (by rw [h]; simp)⟩
  · rintro ⟨⟨e1, n1⟩, e2, n2⟩
    refine ⟨⟨e1, e2⟩, ?_⟩
    rw [hist_app e1 e2 (by omega) (by omega) hd]
    intro h
    rw [List.flatMap_eq_nil_iff] at h
    cases hl : histF c l with
    | nil => exact n1 hl
    | cons a r =>
      have := h a (by rw [hl]; simp)
      rw [List.map_eq_nil_iff] at this
      exact n2 this
theorem apart_list (h1 : l.length ≤ 15) (h2 : m.length ≤ 15) (w1 : waysN l ≤ 14) (w2 : waysN m ≤ 14) (hd : ∀ s ∈ m, ∀ f ∈ s.options, ∀ z ∈ mentions f, names15 l z = false) (hl : (allF c l 4096).2 = 0) (hm : (allF c m 4096).2 = 0) :
    (allF c (l ++ m) 4096).1 = (allF c l 4096).1.flatMap fun a => (allF c m 4096).1.map fun b => a ++ b := by
  have hb := (apart_code h1 h2 hd).2 ⟨hl, hm⟩
  obtain ⟨e1, _, f1⟩ := all_ok (by decide) (by decide) hl
  obtain ⟨e2, _, f2⟩ := all_ok (by decide) (by decide) hm
  obtain ⟨_, _, f3⟩ := all_ok (by decide) (by decide) hb
  have k1 := hist_len c l
  have k2 := hist_len c m
  rw [f1, f2, f3, hist_app e1 e2 (by omega) (by omega) hd]
  rw [take_all (l := histF c l) (by show _ ≤ 4096; omega), take_all (l := histF c m) (by show _ ≤ 4096; omega), take_all]
  rw [List.length_flatMap]
  simp only [List.length_map]
  rw [List.map_const', List.sum_replicate_nat]
  have : (histF c l).length * (histF c m).length ≤ 14 * 14 := Nat.mul_le_mul (by omega) (by omega)
  show _ ≤ 4096
  omega
end
end Go.Sx

/- Searching: too many doubtful reports; reports without a doubt. -/
set_option linter.all false
namespace Go.Sx
open Go
/-- doubtful reports -/
def manyF (n : Nat) : List Rep := (List.range n).map fun (i : Nat) => ⟨[sxRem sA i], true⟩
theorem many_len (n : Nat) : (manyF n).length = n := by simp [manyF]
theorem many_succ (n : Nat) : manyF (n + 1) = manyF n ++ [⟨[sxRem sA (n : Int)], true⟩] := by simp [manyF, List.range_succ]
theorem many_chs : ∀ i < 36, chs ⟨[sxRem sA ((i : Nat) : Int)], true⟩ = 2 := by decide +kernel
theorem many_sm (n : Nat) : ∀ r ∈ manyF n, ∀ e ∈ r.options, SmE e := by
  intro r hr e he
  obtain ⟨i, _, rfl⟩ := List.mem_map.1 hr
  obtain rfl := List.mem_singleton.1 he
  have hn : Sm nil8 := by decide
  exact ⟨(show Sm sA by decide), hn, hn, hn, hn, hn⟩
theorem many_err {n : Nat} (h : 31 ≤ n) (h2 : n < 36) : errF sxC (manyF n) = 7 := by
  refine err_many (by decide +kernel) (fun r hr => ?_) (by rw [many_len]; omega)
  obtain ⟨i, hi, rfl⟩ := List.mem_map.1 hr
  exact many_chs i (by have := List.mem_range.1 hi; omega)
theorem many_first {n : Nat} (h : 31 ≤ n) (h2 : n < 36) : (firstF sxC (manyF n)).2 = 7 := by
  have := many_err h h2
  rw [first_code, all_err (by decide) (by decide) (by rw [this]; decide), this]
theorem many_count {n : Nat} (h : 31 ≤ n) (h2 : n < 36) : (countF sxC (manyF n) 1).2 = 7 := by
  have := many_err h h2
  have h3 : allF sxC (manyF n) 1 = ([], 7) := by rw [all_err (by decide) (by decide) (by rw [this]; decide), this]
  unfold countF
  rw [h3]; rfl
theorem one_take {l : List Rep} {i : Nat} (hlt : i < l.length) (h : ∀ r ∈ l.take i, chs r = 1) (h2 : chs l[i] = 1) : ∀ r ∈ l.take (i + 1), chs r = 1 := fun r hr => by
  rw [← take_succ_of hlt] at hr
  rcases List.mem_append.1 hr with hr | hr
  · exact h r hr
  · rw [List.mem_singleton.1 hr]; exact h2
section
variable {c : List Kind} {l : List Rep} {most : Int}
theorem all_sub (t : List Int) (h : t ∈ (allF c l most).1) : t ∈ histF c l := by
  unfold allF at h
  split at h
  · cases h
  · split at h
    · cases h
    · split at h
      · cases h
      · exact List.mem_of_mem_take h
theorem all_lens {t : List Int} (h : t ∈ (allF c l most).1) : t.length = l.length := (given_all (is_given ((hist_mem t).1 (all_sub t h)))).1
theorem all_at {t : List Int} (h : t ∈ (allF c l most).1) {k : Nat} (hk : k < l.length) (h2 : k < t.length) : 0 ≤ t[k] ∧ t[k] < chs l[k] := by
  have := given_at (is_given ((hist_mem t).1 (all_sub t h))) hk h2
  omega
theorem all_le : (allF c l most).1.length ≤ waysN l := by
  unfold allF
  split
  · exact Nat.zero_le _
  · split
    · exact Nat.zero_le _
    · split
      · exact Nat.zero_le _
      · exact Nat.le_trans (by rw [List.length_take]; omega) (hist_len c l)
end
end Go.Sx

/- SearchApart: reports of which some may not be valid. -/
set_option linter.all false
namespace Go.Sx
open Go
/-- reports that mention no common part, if they are valid -/
def Dis (r s : Rep) : Prop := validRep r = true → validRep s = true → ∀ z, (∃ e ∈ r.options, z ∈ mentions e) → (∃ f ∈ s.options, z ∈ mentions f) → False
theorem dis_of {r s : Rep} {a b : List ByteArray} (ha : NamesOf r a) (hb : NamesOf s b) (h : ∀ z ∈ a, z ∉ b) : Dis r s := fun hr hs z h1 h2 => h z ((names15_mem hr ha z).2 h1) ((names15_mem hs hb z).2 h2)
theorem take_all1 {α : Type} {l : List α} {p : α → Prop} {i : Nat} (hlt : i < l.length) (h : ∀ r ∈ l.take i, p r) (h2 : p l[i]) : ∀ r ∈ l.take (i + 1), p r := fun r hr => by
  rw [← take_succ_of hlt] at hr
  rcases List.mem_append.1 hr with hr | hr
  · exact h r hr
  · rw [List.mem_singleton.1 hr]; exact h2
section
variable {c : List Kind} {l m : List Rep}
theorem err_chs {q : List Rep} {r : Rep} (hr : r ∈ q) (h : validRep r = false) : errF c q ≠ 0 := fun he => (err_zero he).2 r hr (by simp [chs, h])
theorem apart_no (h1 : l.length ≤ 15) (h2 : m.length ≤ 15) (hD : ∀ r ∈ l, ∀ s ∈ m, Dis r s) : (allF c (l ++ m) 4096).2 = 0 ↔ (allF c l 4096).2 = 0 ∧ (allF c m 4096).2 = 0 := by
  by_cases hv : (∀ r ∈ l, validRep r = true) ∧ ∀ s ∈ m, validRep s = true
  · refine apart_code h1 h2 fun s hs f hf z hz => ?_
    cases hn : names15 l z with
    | false => rfl
    | true =>
      obtain ⟨r, hr, e, he, h3⟩ := names15_is.1 hn
      exact (hD r hr s hs (hv.1 r hr) (hv.2 s hs) z ⟨e, he, h3⟩ ⟨f, hf, hz⟩).elim
  · have h3 : ¬ (errF c l = 0 ∧ errF c m = 0) := by
      rintro ⟨e1, e2⟩
      refine hv ⟨fun r hr => ?_, fun s hs => ?_⟩
      · cases h : validRep r with
        | true => rfl
        | false => exact absurd e1 (err_chs hr h)
      · cases h : validRep s with
        | true => rfl
        | false => exact absurd e2 (err_chs hs h)
    rw [code_zero, code_zero, code_zero, err_app h1 h2]
    constructor
    · rintro ⟨h, _⟩; exact absurd h h3
    · rintro ⟨⟨e1, _⟩, e2, _⟩; exact absurd ⟨e1, e2⟩ h3
theorem apart_all (h1 : l.length ≤ 15) (h2 : m.length ≤ 15) (w1 : waysN l ≤ 14) (w2 : waysN m ≤ 14) (hD : ∀ r ∈ l, ∀ s ∈ m, Dis r s) (hl : (allF c l 4096).2 = 0) (hm : (allF c m 4096).2 = 0) :
    (allF c (l ++ m) 4096).1 = (allF c l 4096).1.flatMap fun a => (allF c m 4096).1.map fun b => a ++ b := by
  obtain ⟨e1, _⟩ := code_zero.1 hl
  obtain ⟨e2, _⟩ := code_zero.1 hm
  refine apart_list h1 h2 w1 w2 (fun s hs f hf z hz => ?_) hl hm
  cases hn : names15 l z with
  | false => rfl
  | true =>
    obtain ⟨r, hr, e, he, h3⟩ := names15_is.1 hn
    refine (hD r hr s hs ?_ ?_ z ⟨e, he, h3⟩ ⟨f, hf, hz⟩).elim
    · cases h : validRep r with
      | true => rfl
      | false => exact absurd e1 (err_chs hr h)
    · cases h : validRep s with
      | true => rfl
      | false => exact absurd e2 (err_chs hs h)
end
theorem flat_snoc2 {α : Type} [Enc α] {I : IMap} {ws vs : List Value} {a b : List α} {x : α} (h : Flat I ws (a ++ b)) (h' : Enc.rd I vs x) : Flat I (ws ++ vs) (a ++ (b ++ [x])) := by
  rw [← List.append_assoc]; exact h.append (.one h')
/-- pairs up to an index -/
theorem pair_next {X : List (List Int)} {Y : List (List Int)} {i : Nat} (hi : i < X.length) : ((X.take (i + 1)).flatMap fun a => Y.map fun b => a ++ b) = ((X.take i).flatMap fun a => Y.map fun b => a ++ b) ++ Y.map fun b => X[i] ++ b := by
  rw [← take_succ_of hi, List.flatMap_append]; simp
theorem pair_succ {Y : List (List Int)} {a : List Int} {j : Nat} (hj : j < Y.length) : ((Y.take (j + 1)).map fun b => a ++ b) = ((Y.take j).map fun b => a ++ b) ++ [a ++ Y[j]] := by
  rw [← take_succ_of hj, List.map_append]; rfl
end Go.Sx

/- Walks, printed by a program out of the code of the functions: each theorem is a contract of one function. -/
namespace Go.Proofs.YtoadjlmbdliceaaGreat
open Go Go.Sx
set_option linter.all false
set_option maxRecDepth 20000
set_option maxHeartbeats 4000000
instance T.und_42 : Has (Tryz.prog.underlying 42) (.int .u16) := ⟨by kernel_rfl⟩
theorem lawSApart (I : IMap) (vc : Value) (c : List Kind) (hvc : RdS I vc c) (hoc : ∀ x ∈ c, OkKd x) (v : Value) (l : List Rep) (hv : RdS I v l) (hok : ∀ x ∈ l, OkRp x) (v2 : Value) (m : List Rep) (hv2 : RdS I v2 m) (hok2 : ∀ x ∈ m, OkRp x)  :
    FnV Tryz.prog 8 #[.agg #[vc], v, v2] I (.bool true) := by
 have hv0 := hv
 obtain ⟨A, c0, rfl, hA, hc, hm_⟩ := hv
 have hm0 := hv2
 obtain ⟨B, c1, rfl, hB, hcb, hmb⟩ := hv2
 refine enter Tryz.func8 Tryz.call8 rfl Tryz.ntmps8 rfl (fun w0 => ?_)
 refine go 3 ?_
 refine o_box _ rfl rfl rfl (fun g3 => ?_)
 refine go 6 ?_
 refine o_callV (head16 _) rfl rfl ?_
 refine go 5 ?_
 refine c_cut (I' := I) (L' := [(1, .slice A l.length c0), (2, .slice B m.length c1), (3, .pointer (some ⟨g3, 0, none⟩)), (7, .bool true), (47, .bool ((((!fewC c || decide ((6 : Int) < (l.length : Nat))) || decide ((6 : Int) < (m.length : Nat))) || !few16 l 14) || !few16 m 14))]) (H' := [.blk g3 24 [vc]]) ?_ ?_
 ·refine go 3 ?_
  refine o_callV (refFew _ vc c hvc) rfl rfl ?_
  refine go 2 ?_
  refine sxb 28 rfl (fun h28 p28 => ?_) (fun h28 p28 => ?_)
  ·refine go 21 ?_
   exact q_cut ⟨rfl, rfl, rfl, rfl, (congrArg (fun b => some (Value.bool b)) (by simp only [h28, bS])), trivial⟩ rfl rfl
  ·refine go 5 ?_
   refine sxb 33 rfl (fun h33 p33 => ?_) (fun h33 p33 => ?_)
   ·refine go 16 ?_
    exact q_cut ⟨rfl, rfl, rfl, rfl, (congrArg (fun b => some (Value.bool b)) (by simp only [h28, h33, bS])), trivial⟩ rfl rfl
   ·refine go 5 ?_
    refine sxb 38 rfl (fun h38 p38 => ?_) (fun h38 p38 => ?_)
    ·refine go 11 ?_
     exact q_cut ⟨rfl, rfl, rfl, rfl, (congrArg (fun b => some (Value.bool b)) (by simp only [h28, h33, h38, bS])), trivial⟩ rfl rfl
    ·refine go 2 ?_
     refine o_yes rfl rfl h38 (o_callV (ref16Few _ _ l hv0 14 (by omega)) rfl rfl ?_)
     refine go 3 ?_
     refine sxb 43 rfl (fun h43 p43 => ?_) (fun h43 p43 => ?_)
     ·refine go 6 ?_
      exact q_cut ⟨rfl, rfl, rfl, rfl, (congrArg (fun b => some (Value.bool b)) (by simp only [h28, h33, h38, h43, bS])), trivial⟩ rfl rfl
     ·refine go 2 ?_
      refine o_yes rfl rfl h43 (o_callV (ref16Few _ _ m hm0 14 (by omega)) rfl rfl ?_)
      refine go 4 ?_
      exact q_cut ⟨rfl, rfl, rfl, rfl, (congrArg (fun b => some (Value.bool b)) (by simp only [h28, h33, h38, h43, bS])), trivial⟩ rfl rfl
 ·refine cb rfl (fun h47 p47 => ?_) (fun h47 p47 => ?_)
  ·refine go 8 ?_
   refine fin1 rfl rfl ?_
   exact q_vI rfl
  ·simp only [Bool.or_eq_false_iff, Bool.not_eq_false', decide_eq_false_iff_not] at h47
   obtain ⟨⟨⟨⟨hfc, h6a⟩, h6b⟩, hfa⟩, hfb⟩ := h47
   have hsc := fewC_sm hfc
   obtain ⟨ha12, hwa⟩ := few16_sm hfa
   obtain ⟨hb12, hwb⟩ := few16_sm hfb
   obtain ⟨hsa, _⟩ := fewR_sm ha12
   obtain ⟨hsb, _⟩ := fewR_sm hb12
   have hla : l.length ≤ 15 := by omega
   have hlb : m.length ≤ 15 := by omega
   have hwa : waysN l ≤ 14 := by omega
   have hwb : waysN m ≤ 14 := by omega
   refine go 9 ?_
   refine c_loop2 ((0 : Nat)) (I) (fun i J0 => J0)
    (fun i J0 => [(1, .slice A l.length c0), (2, .slice B m.length c1), (3, .pointer (some ⟨g3, 0, none⟩)), (7, .bool true), (8, .int .i64 ((i : Nat) : Int))])
    (fun i J0 => [.blk g3 24 [vc]])
    (fun i J0 => i ≤ l.length ∧ ILe I J0 ∧ ∀ r ∈ l.take i, ∀ s ∈ m, Dis r s)
    (fun i J0 => l.length - i) ⟨Nat.zero_le _, ILe.refl _, fun r hr => by simp at hr⟩ rfl sb rfl ?_
   intro i J0 ⟨hi, hJ0, hni⟩
   try have hvc := hvc.le hJ0
   try have hv0 := hv0.le hJ0
   try have hm0 := hm0.le hJ0
   try have hA := hA.le hJ0
   try have hB := hB.le hJ0
   refine go 9 ?_
   refine cb rfl (fun h52 p52 => ?_) (fun h52 p52 => ?_)
   ·have hli : i < l.length := by omega
    refine go 10 ?_
    refine c_loop2 ((0 : Nat)) (J0) (fun k J1 => J1)
     (fun k J1 => [(1, .slice A l.length c0), (2, .slice B m.length c1), (3, .pointer (some ⟨g3, 0, none⟩)), (7, .bool true), (8, .int .i64 ((i : Nat) : Int)), (9, .int .i64 ((k : Nat) : Int))])
     (fun k J1 => [.blk g3 24 [vc]])
     (fun k J1 => k ≤ m.length ∧ ILe J0 J1 ∧ ∀ s ∈ m.take k, Dis l[i] s)
     (fun k J1 => m.length - k) ⟨Nat.zero_le _, ILe.refl _, fun r hr => by simp at hr⟩ rfl sb rfl ?_
    intro k J1 ⟨hk, hJ1, hnk⟩
    try have hvc := hvc.le hJ1
    try have hv0 := hv0.le hJ1
    try have hm0 := hm0.le hJ1
    try have hA := hA.le hJ1
    try have hB := hB.le hJ1
    refine go 9 ?_
    refine cb rfl (fun h58 p58 => ?_) (fun h58 p58 => ?_)
    ·have hlk : k < m.length := by omega
     refine go 5 ?_
     refine c_cutx3 (Ix := (fun v10 v11 J2 => J2)) (Lx := (fun v10 v11 J2 => [(1, .slice A l.length c0), (2, .slice B m.length c1), (3, .pointer (some ⟨g3, 0, none⟩)), (7, .bool true), (8, .int .i64 ((i : Nat) : Int)), (9, .int .i64 ((k : Nat) : Int)), (10, v10), (11, v11)])) (Hx := (fun v10 v11 J2 => [.blk g3 24 [vc]])) (p := (fun v10 v11 J2 => ILe J1 J2 ∧ (∃ ns, RdS J2 v10 ns ∧ NamesOf l[i] ns) ∧ ∃ ns, RdS J2 v11 ns ∧ NamesOf m[k] ns)) ?_ ?_
     ·refine sx_knowI (fun hE10 hf10 => ?_)
      refine d_startH T.mixed ?_
      refine d_tv 0 rfl rfl (by kernel_rfl) rfl (.refl _) rfl (v_move rfl) ?_
      refine d_tv 1 rfl rfl (by kernel_rfl) rfl (.refl _) rfl (v_move rfl) ?_
      obtain ⟨b63, o63, w63, e63, c63, r63⟩ := RdA.at_ hA (i := i) (by omega)
      obtain ⟨q63, rfl, S63, d63, rfl, hS63, hd63, hm63⟩ := r63
      refine d_tv 2 rfl rfl (by kernel_rfl) rfl (.refl _) rfl (v_idx he rfl rfl e63 (i) (by omega) (by omega)) ?_
      refine d_tv 3 rfl rfl (by kernel_rfl) rfl (.refl _) rfl (v_ldIa he rfl c63 rfl) ?_
      refine d_tv 5 rfl rfl (by kernel_rfl) rfl (.refl _) rfl (v_move rfl) ?_
      refine d_tv 6 rfl rfl (by kernel_rfl) rfl (.refl _) rfl (v_move rfl) ?_
      obtain ⟨b68, o68, w68, e68, c68, r68⟩ := RdA.at_ hB (i := k) (by omega)
      obtain ⟨q68, rfl, S68, d68, rfl, hS68, hd68, hm68⟩ := r68
      refine d_tv 7 rfl rfl (by kernel_rfl) rfl (.refl _) rfl (v_idx he rfl rfl e68 (k) (by omega) (by omega)) ?_
      refine d_tv 8 rfl rfl (by kernel_rfl) rfl (.refl _) rfl (v_ldIa he rfl c68 rfl) ?_
      refine d_one 4 (by kernel_rfl) rfl ?_
      refine o_call (repNames _ l[i] S63 d63 ⟨_, _, rfl, hS63, hd63, hm63⟩ (hsa _ (List.getElem_mem hli))) rfl rfl (fun v65 I65 j65 q65 => ?_)
      try have hvc := hvc.le j65
      try have hv0 := hv0.le j65
      try have hm0 := hm0.le j65
      try have hA := hA.le j65
      try have hB := hB.le j65
      try have hS63 := hS63.le j65
      try have hS68 := hS68.le j65
      try have hns := hns.le j65
      try have hns2 := hns2.le j65
      try have R97 := R97.le j65
      try have R97s := R97s.le j65
      try have hw101 := hw101.le j65
      try have hw107 := hw107.le j65
      try have hw113 := hw113.le j65
      try have hX := hX.le j65
      try have hY := hY.le j65
      try have hF5 := hF5.le j65
      try have hw113s := hw113s.le j65
      obtain ⟨ns, hns, hno⟩ := q65
      refine d_on (fun _ m => m.keepsI (.refl _) (j65) hE10 hf10) ?_
      refine d_one 9 (by kernel_rfl) rfl ?_
      refine o_call (repNames _ m[k] S68 d68 ⟨_, _, rfl, hS68, hd68, hm68⟩ (hsb _ (List.getElem_mem hlk))) rfl rfl (fun v70 I70 j70 q70 => ?_)
      try have hvc := hvc.le j70
      try have hv0 := hv0.le j70
      try have hm0 := hm0.le j70
      try have hA := hA.le j70
      try have hB := hB.le j70
      try have hS63 := hS63.le j70
      try have hS68 := hS68.le j70
      try have hns := hns.le j70
      try have hns2 := hns2.le j70
      try have R97 := R97.le j70
      try have R97s := R97s.le j70
      try have hw101 := hw101.le j70
      try have hw107 := hw107.le j70
      try have hw113 := hw113.le j70
      try have hX := hX.le j70
      try have hY := hY.le j70
      try have hF5 := hF5.le j70
      try have hw113s := hw113s.le j70
      obtain ⟨ns2, hns2, hno2⟩ := q70
      refine d_on (fun _ m => m.keepsI (.refl _) ((j65).trans j70) hE10 hf10) ?_
      refine d_t 10 rfl rfl (by kernel_rfl) rfl (fun _ m => m.keepsI (.refl _) ((j65).trans j70) hE10 hf10) (y_v rfl (v_assign rfl)) ?_
      refine d_t 11 rfl rfl (by kernel_rfl) rfl (fun _ m => m.keepsI (.refl _) ((j65).trans j70) hE10 hf10) (y_v rfl (v_assign rfl)) ?_
      refine d_done (by kernel_rfl) ?_
      refine go 1 ?_
      exact q_cutx3 (_) (_) (_) ⟨(by first | exact j65.trans j70 | exact j70.trans j65), ⟨ns, hns, hno⟩, ns2, hns2, hno2⟩ sb rfl rfl
     ·intro v10 v11 J2 ⟨hJ2, ⟨ns, hns, hno⟩, ns2, hns2, hno2⟩
      obtain ⟨NA, nc, rfl, hNA, _, _⟩ := hns
      obtain ⟨NB, nd, rfl, hNB, _, _⟩ := hns2
      try have hvc := hvc.le hJ2
      try have hv0 := hv0.le hJ2
      try have hm0 := hm0.le hJ2
      try have hA := hA.le hJ2
      try have hB := hB.le hJ2
      refine go 6 ?_
      refine c_loop (α := Nat) 0 (fun x => J2)
       (fun x => [(1, .slice A l.length c0), (2, .slice B m.length c1), (3, .pointer (some ⟨g3, 0, none⟩)), (7, .bool true), (8, .int .i64 ((i : Nat) : Int)), (9, .int .i64 ((k : Nat) : Int)), (10, .slice NA ns.length nc), (11, .slice NB ns2.length nd), (12, .int .i64 ((x : Nat) : Int))])
       (fun x => [.blk g3 24 [vc]])
       (fun x => x ≤ ns.length ∧ ∀ z ∈ ns.take x, z ∉ ns2)
       (fun x => ns.length - x) ⟨Nat.zero_le _, fun z hz => by simp at hz⟩ rfl sb rfl ?_
      intro x ⟨hx, hnx⟩
      refine go 9 ?_
      refine cb rfl (fun h74 p74 => ?_) (fun h74 p74 => ?_)
      ·have hlx : x < ns.length := by omega
       refine go 10 ?_
       refine c_loop (α := Nat) 0 (fun y => J2)
        (fun y => [(1, .slice A l.length c0), (2, .slice B m.length c1), (3, .pointer (some ⟨g3, 0, none⟩)), (7, .bool true), (8, .int .i64 ((i : Nat) : Int)), (9, .int .i64 ((k : Nat) : Int)), (10, .slice NA ns.length nc), (11, .slice NB ns2.length nd), (12, .int .i64 ((x : Nat) : Int)), (13, .int .i64 ((y : Nat) : Int))])
        (fun y => [.blk g3 24 [vc]])
        (fun y => y ≤ ns2.length ∧ ∀ z ∈ ns2.take y, ns[x] ≠ z)
        (fun y => ns2.length - y) ⟨Nat.zero_le _, fun z hz => by simp at hz⟩ rfl sb rfl ?_
       intro y ⟨hy, hny⟩
       refine go 9 ?_
       refine cb rfl (fun h80 p80 => ?_) (fun h80 p80 => ?_)
       ·have hly : y < ns2.length := by omega
        refine go 5 ?_
        refine d_startH T.mixed ?_
        refine d_tv 0 rfl rfl (by kernel_rfl) rfl (.refl _) rfl (v_move rfl) ?_
        refine d_tv 1 rfl rfl (by kernel_rfl) rfl (.refl _) rfl (v_move rfl) ?_
        obtain ⟨b85, o85, w85, e85, c85, r85⟩ := RdA.at_ hNA (i := x) (by omega)
        obtain rfl := r85
        refine d_tv 2 rfl rfl (by kernel_rfl) rfl (.refl _) rfl (v_idx he rfl rfl e85 (x) (by omega) (by omega)) ?_
        refine d_tv 3 rfl rfl (by kernel_rfl) rfl (.refl _) rfl (v_ldI he rfl (c85 0 _ rfl)) ?_
        refine d_tv 4 rfl rfl (by kernel_rfl) rfl (.refl _) rfl (v_move rfl) ?_
        refine d_tv 5 rfl rfl (by kernel_rfl) rfl (.refl _) rfl (v_move rfl) ?_
        obtain ⟨b89, o89, w89, e89, c89, r89⟩ := RdA.at_ hNB (i := y) (by omega)
        obtain rfl := r89
        refine d_tv 6 rfl rfl (by kernel_rfl) rfl (.refl _) rfl (v_idx he rfl rfl e89 (y) (by omega) (by omega)) ?_
        refine d_tv 7 rfl rfl (by kernel_rfl) rfl (.refl _) rfl (v_ldI he rfl (c89 0 _ rfl)) ?_
        refine d_tv 8 rfl rfl (by kernel_rfl) rfl (.refl _) rfl (v_seql rfl rfl) ?_
        refine d_done (by kernel_rfl) ?_
        refine go 1 ?_
        refine cb rfl (fun h91 p91 => ?_) (fun h91 p91 => ?_)
        ·refine go 24 ?_
         refine fin1 rfl rfl ?_
         exact q_vI rfl
        ·refine go 9 ?_
         exact q_next (y + 1) ⟨by omega, take_all1 (p := fun z => ns[x] ≠ z) hly hny (by simpa using h91)⟩ (by omega) rfl sb rfl
       ·obtain rfl : y = ns2.length := by omega
        rw [List.take_length] at hny
        refine go 12 ?_
        exact q_next (x + 1) ⟨by omega, take_all1 hlx hnx fun hz => hny _ hz rfl⟩ (by omega) rfl sb rfl
      ·obtain rfl : x = ns.length := by omega
       rw [List.take_length] at hnx
       refine go 12 ?_
       exact q_next2 (k + 1) (_) ⟨by omega, hJ1.trans hJ2, take_all1 hlk hnk (dis_of hno hno2 hnx)⟩ (by omega) rfl sb rfl
    ·obtain rfl : k = m.length := by omega
     rw [List.take_length] at hnk
     refine go 12 ?_
     exact q_next2 (i + 1) (_) ⟨by omega, hJ0.trans hJ1, take_all1 hli hni hnk⟩ (by omega) rfl sb rfl
   ·obtain rfl : i = l.length := by omega
    rw [List.take_length] at hni
    have hno := apart_no (c := c) hla hlb hni
    refine go 8 ?_
    refine o_buildSlice he he rfl rfl rfl rfl rfl rfl rfl (fun v93 => ?_)
    refine go 2 ?_
    refine o_appendR (hv0) rfl he he rfl rfl rfl rfl (by omega) (by omega) rfl (fun v95 x95 f95 => ?_)
    refine go 2 ?_
    refine o_appendR (hm0) rfl he he rfl rfl rfl rfl (by omega) (by omega) rfl (fun v97 x97 f97 => ?_)
    refine sx_pubrow (l := (l ++ m)) rfl (by simp) ((f95.append f97)) (fun I97 j97 R97 => ?_)
    try have hvc := hvc.le j97
    try have hv0 := hv0.le j97
    try have hm0 := hm0.le j97
    try have hA := hA.le j97
    try have hB := hB.le j97
    try have hS63 := hS63.le j97
    try have hS68 := hS68.le j97
    try have hns := hns.le j97
    try have hns2 := hns2.le j97
    try have R97 := R97.le j97
    try have R97s := R97s.le j97
    try have hw101 := hw101.le j97
    try have hw107 := hw107.le j97
    try have hw113 := hw113.le j97
    try have hX := hX.le j97
    try have hY := hY.le j97
    try have hF5 := hF5.le j97
    try have hw113s := hw113s.le j97
    refine go 8 ?_
    refine o_call (seAll _ vc c hvc hsc _ l hv0 (by omega) (hsa) 4096) rfl rfl (fun v101 I101 j101 q101 => ?_)
    try have hvc := hvc.le j101
    try have hv0 := hv0.le j101
    try have hm0 := hm0.le j101
    try have hA := hA.le j101
    try have hB := hB.le j101
    try have hS63 := hS63.le j101
    try have hS68 := hS68.le j101
    try have hns := hns.le j101
    try have hns2 := hns2.le j101
    try have R97 := R97.le j101
    try have R97s := R97s.le j101
    try have hw101 := hw101.le j101
    try have hw107 := hw107.le j101
    try have hw113 := hw113.le j101
    try have hX := hX.le j101
    try have hY := hY.le j101
    try have hF5 := hF5.le j101
    try have hw113s := hw113s.le j101
    obtain ⟨w101, rfl, hw101⟩ := q101
    refine go 12 ?_
    refine o_call (seAll _ vc c hvc hsc _ m hm0 (by omega) (hsb) 4096) rfl rfl (fun v107 I107 j107 q107 => ?_)
    try have hvc := hvc.le j107
    try have hv0 := hv0.le j107
    try have hm0 := hm0.le j107
    try have hA := hA.le j107
    try have hB := hB.le j107
    try have hS63 := hS63.le j107
    try have hS68 := hS68.le j107
    try have hns := hns.le j107
    try have hns2 := hns2.le j107
    try have R97 := R97.le j107
    try have R97s := R97s.le j107
    try have hw101 := hw101.le j107
    try have hw107 := hw107.le j107
    try have hw113 := hw113.le j107
    try have hX := hX.le j107
    try have hY := hY.le j107
    try have hF5 := hF5.le j107
    try have hw113s := hw113s.le j107
    obtain ⟨w107, rfl, hw107⟩ := q107
    refine go 12 ?_
    refine o_call (seAll _ vc c hvc hsc _ (l ++ m) R97 (by rw [List.length_append]; omega) (app_sm hsa hsb) 4096) rfl rfl (fun v113 I113 j113 q113 => ?_)
    try have hvc := hvc.le j113
    try have hv0 := hv0.le j113
    try have hm0 := hm0.le j113
    try have hA := hA.le j113
    try have hB := hB.le j113
    try have hS63 := hS63.le j113
    try have hS68 := hS68.le j113
    try have hns := hns.le j113
    try have hns2 := hns2.le j113
    try have R97 := R97.le j113
    try have R97s := R97s.le j113
    try have hw101 := hw101.le j113
    try have hw107 := hw107.le j113
    try have hw113 := hw113.le j113
    try have hX := hX.le j113
    try have hY := hY.le j113
    try have hF5 := hF5.le j113
    try have hw113s := hw113s.le j113
    obtain ⟨w113, rfl, hw113⟩ := q113
    refine go 13 ?_
    refine sxb 118 rfl (fun h118 p118 => ?_) (fun h118 p118 => ?_)
    ·have hbad : ¬ ((allF c l 4096).2 = 0 ∧ (allF c m 4096).2 = 0) := fun h => by simp [h.1] at h118
     refine go 5 ?_
     refine c_true rfl ?_
     refine go 5 ?_
     refine o_cons (o_yes rfl rfl rfl (o_val rfl (OV.cast (u := .bool true) (v_neq rfl rfl) (congrArg Value.bool (by simpa using fun h => hbad (hno.1 h)))) ?_))
     refine go 6 ?_
     refine fin1 rfl rfl ?_
     exact q_vI rfl
    ·refine go 5 ?_
     refine cb rfl (fun h121 p121 => ?_) (fun h121 p121 => ?_)
     ·have hbad : ¬ ((allF c l 4096).2 = 0 ∧ (allF c m 4096).2 = 0) := fun h => by simp [h.2] at h121
      refine go 5 ?_
      refine o_cons (o_yes rfl rfl rfl (o_val rfl (OV.cast (u := .bool true) (v_neq rfl rfl) (congrArg Value.bool (by simpa using fun h => hbad (hno.1 h)))) ?_))
      refine go 6 ?_
      refine fin1 rfl rfl ?_
      exact q_vI rfl
     ·have h0l : (allF c l 4096).2 = 0 := by simpa using h118
      have h0m : (allF c m 4096).2 = 0 := by simpa using h121
      have hall := apart_all hla hlb hwa hwb hni h0l h0m
      have hcode := hno.2 ⟨h0l, h0m⟩
      have hX14 := all_le (c := c) (l := l) (most := 4096)
      have hY14 := all_le (c := c) (l := m) (most := 4096)
      have hXl := fun t (h : t ∈ (allF c l 4096).1) => all_lens h
      have hYl := fun t (h : t ∈ (allF c m 4096).1) => all_lens h
      have hw113s := hw113
      rw [hall] at hw113s
      generalize (allF c l 4096).1 = X at *
      generalize (allF c m 4096).1 = Y at *
      obtain ⟨XA, xc, rfl, hX, _, _⟩ := hw101
      obtain ⟨YA, yc, rfl, hY, _, _⟩ := hw107
      refine go 4 ?_
      refine sx_nilrow 28 1 ?_
      refine go 10 ?_
      refine bring1 ?_
      refine sx_drop ?_
      refine c_loop5 ((0 : Nat)) (_) (0) ([]) (I113) (fun i2 v21 n xs J4 => J4)
       (fun i2 v21 n xs J4 => [(7, .bool true), (15, .slice XA X.length xc), (17, .slice YA Y.length yc), (19, w113), (20, .int .i64 (allF c (l ++ m) 4096).2), (21, v21), (22, .int .i64 ((i2 : Nat) : Int))])
       (fun i2 v21 n xs J4 => [.row v21 28 1 n xs])
       (fun i2 v21 n xs J4 => i2 ≤ X.length ∧ n ≤ 14 * i2 ∧ ILe I113 J4 ∧ n = ((X.take i2).flatMap fun a => Y.map fun b => a ++ b).length ∧ Flat J4 xs ((X.take i2).flatMap fun a => Y.map fun b => a ++ b))
       (fun i2 v21 n xs J4 => X.length - i2) ⟨Nat.zero_le _, by omega, ILe.refl _, rfl, .nil⟩ rfl sb rfl ?_
      intro i2 v21 n xs J4 ⟨hi2, hn14, hJ4, hnl, hF4⟩
      try have hX := hX.le hJ4
      try have hY := hY.le hJ4
      try have hw113s := hw113s.le hJ4
      refine go 9 ?_
      refine cb rfl (fun h130 p130 => ?_) (fun h130 p130 => ?_)
      ·have hli2 : i2 < X.length := by omega
       have hlx := hXl _ (List.getElem_mem hli2)
       refine go 10 ?_
       refine c_loop5 ((0 : Nat)) (v21) (n) (xs) (J4) (fun j v21 n xs J5 => J5)
        (fun j v21 n xs J5 => [(7, .bool true), (15, .slice XA X.length xc), (17, .slice YA Y.length yc), (19, w113), (20, .int .i64 (allF c (l ++ m) 4096).2), (21, v21), (22, .int .i64 ((i2 : Nat) : Int)), (23, .int .i64 ((j : Nat) : Int))])
        (fun j v21 n xs J5 => [.row v21 28 1 n xs])
        (fun j v21 n xs J5 => j ≤ Y.length ∧ n ≤ 14 * i2 + j ∧ ILe J4 J5 ∧ n = (((X.take i2).flatMap fun a => Y.map fun b => a ++ b) ++ (Y.take j).map fun b => X[i2] ++ b).length ∧ Flat J5 xs (((X.take i2).flatMap fun a => Y.map fun b => a ++ b) ++ (Y.take j).map fun b => X[i2] ++ b))
        (fun j v21 n xs J5 => Y.length - j) ⟨Nat.zero_le _, by omega, ILe.refl _, by simpa using hnl, by simpa using hF4⟩ rfl sb rfl ?_
       intro j v21 n xs J5 ⟨hj, hn5, hJ5, hnl5, hF5⟩
       try have hX := hX.le hJ5
       try have hY := hY.le hJ5
       try have hw113s := hw113s.le hJ5
       refine go 9 ?_
       refine cb rfl (fun h136 p136 => ?_) (fun h136 p136 => ?_)
       ·have hlj : j < Y.length := by omega
        have hly := hYl _ (List.getElem_mem hlj)
        refine go 4 ?_
        refine sx_knowI (fun hE32 hf32 => ?_)
        refine d_start1 T.mixed ?_
        refine d_tv 0 rfl rfl (by kernel_rfl) rfl (.cons _ .slnil) rfl (v_move rfl) ?_
        refine d_tv 2 rfl rfl (by kernel_rfl) rfl (.cons _ .slnil) rfl (v_move rfl) ?_
        refine d_tv 3 rfl rfl (by kernel_rfl) rfl (.cons _ .slnil) rfl (v_move rfl) ?_
        obtain ⟨b143, o143, w143, e143, c143, r143⟩ := RdA.at_ hX (i := i2) (by omega)
        obtain ⟨q143, rfl, S143, d143, rfl, hS143, hd143, hm143⟩ := r143
        refine d_tv 4 rfl rfl (by kernel_rfl) rfl (.cons _ .slnil) rfl (v_idx he rfl rfl e143 (i2) (by omega) (by omega)) ?_
        refine d_tv 5 rfl rfl (by kernel_rfl) rfl (.cons _ .slnil) rfl (v_ldI he rfl (c143 0 _ rfl)) ?_
        refine d_tv 7 rfl rfl (by kernel_rfl) rfl (.cons _ .slnil) rfl (v_move rfl) ?_
        refine d_tv 8 rfl rfl (by kernel_rfl) rfl (.cons _ .slnil) rfl (v_move rfl) ?_
        obtain ⟨b148, o148, w148, e148, c148, r148⟩ := RdA.at_ hY (i := j) (by omega)
        obtain ⟨q148, rfl, S148, d148, rfl, hS148, hd148, hm148⟩ := r148
        refine d_tv 9 rfl rfl (by kernel_rfl) rfl (.cons _ .slnil) rfl (v_idx he rfl rfl e148 (j) (by omega) (by omega)) ?_
        refine d_tv 10 rfl rfl (by kernel_rfl) rfl (.cons _ .slnil) rfl (v_ldI he rfl (c148 0 _ rfl)) ?_
        refine d_one 1 (by kernel_rfl) rfl ?_
        refine o_buildSlice he he rfl rfl rfl rfl rfl rfl rfl (fun v140 => ?_)
        refine d_on (fun _ m => m.keeps (.cons _ (.cons _ .slnil))) ?_
        refine d_one 6 (by kernel_rfl) rfl ?_
        refine o_appendR (⟨_, _, rfl, hS143, hd143, hm143⟩) rfl he he rfl rfl rfl rfl (by omega) (by omega) rfl (fun v145 x145 f145 => ?_)
        refine d_on (fun _ m => m.keeps (.cons _ (.cons _ .slnil))) ?_
        refine d_one 11 (by kernel_rfl) rfl ?_
        refine o_appendR (⟨_, _, rfl, hS148, hd148, hm148⟩) rfl he he rfl rfl rfl rfl (by omega) (by omega) rfl (fun v150 x150 f150 => ?_)
        refine sx_pubrow (l := (X[i2] ++ Y[j])) rfl (by simp) ((f145.append f150)) (fun I150 j150 R150 => ?_)
        try have hvc := hvc.le j150
        try have hv0 := hv0.le j150
        try have hm0 := hm0.le j150
        try have hA := hA.le j150
        try have hB := hB.le j150
        try have hS63 := hS63.le j150
        try have hS68 := hS68.le j150
        try have hns := hns.le j150
        try have hns2 := hns2.le j150
        try have R97 := R97.le j150
        try have R97s := R97s.le j150
        try have hw101 := hw101.le j150
        try have hw107 := hw107.le j150
        try have hw113 := hw113.le j150
        try have hX := hX.le j150
        try have hY := hY.le j150
        try have hF5 := hF5.le j150
        try have hw113s := hw113s.le j150
        have R150s := R150
        obtain ⟨A150, c150, rfl, _⟩ := R150s
        refine d_on (fun _ m => m.keepsI (.cons _ .slnil) (j150) hE32 hf32) ?_
        refine d_one 12 (by kernel_rfl) rfl ?_
        refine o_buildSlice he he rfl rfl rfl rfl rfl rfl rfl (fun v151 => ?_)
        refine d_on (fun _ m => m.keepsI (.cons _ (.cons _ .slnil)) (j150) hE32 hf32) ?_
        refine d_one 13 (by kernel_rfl) rfl ?_
        refine bring1 ?_
        refine o_appendO he he rfl rfl rfl rfl rfl (by omega) (by omega) rfl (fun v152 => ?_)
        refine d_on (fun _ m => m.keepsI (.cons _ (.cons _ .slnil)) (j150) hE32 hf32) ?_
        refine d_t 14 rfl rfl (by kernel_rfl) rfl (fun _ m => m.keepsI (.cons _ (.cons _ .slnil)) (j150) hE32 hf32) (y_v rfl (v_assign rfl)) ?_
        refine d_done (by kernel_rfl) ?_
        refine go 8 ?_
        refine bring1 ?_
        refine sx_drop ?_
        exact q_next5 (j + 1) (_) (_) (_) (_) ⟨by omega, by omega, hJ5.trans j150, by rw [pair_succ hlj, ← List.append_assoc, List.length_append, ← hnl5]; rfl, by rw [pair_succ hlj]; exact flat_snoc2 hF5 ⟨_, rfl, R150⟩⟩ (by omega) rfl sb rfl
       ·obtain rfl : j = Y.length := by omega
        rw [List.take_length] at hnl5 hF5
        refine go 12 ?_
        exact q_next5 (i2 + 1) (_) (_) (_) (_) ⟨by omega, by omega, hJ4.trans hJ5, by rw [hnl5, pair_next hli2], by rw [pair_next hli2]; exact hF5⟩ (by omega) rfl sb rfl
      ·obtain rfl : i2 = X.length := by omega
       rw [List.take_length] at hnl hF4
       refine go 7 ?_
       refine sx_pubrow (l := (X.flatMap fun a => Y.map fun b => a ++ b)) rfl hnl (hF4) (fun I153 j153 R153 => ?_)
       try have hvc := hvc.le j153
       try have hv0 := hv0.le j153
       try have hm0 := hm0.le j153
       try have hA := hA.le j153
       try have hB := hB.le j153
       try have hS63 := hS63.le j153
       try have hS68 := hS68.le j153
       try have hns := hns.le j153
       try have hns2 := hns2.le j153
       try have R97 := R97.le j153
       try have R97s := R97s.le j153
       try have hw101 := hw101.le j153
       try have hw107 := hw107.le j153
       try have hw113 := hw113.le j153
       try have hX := hX.le j153
       try have hY := hY.le j153
       try have hF5 := hF5.le j153
       try have hw113s := hw113s.le j153
       refine go 3 ?_
       refine o_cons (o_yes rfl rfl rfl (o_val rfl (OV.cast (u := .bool true) (v_eql rfl rfl) (congrArg Value.bool (decide_eq_true (hcode)))) ?_))
       refine go 5 ?_
       refine o_yes rfl rfl rfl (o_callV (eqLists16 _ _ _ hw113s _ R153) rfl rfl ?_)
       refine go 5 ?_
       refine fin1 rfl rfl ?_
       exact q_vI rfl

end Go.Proofs.YtoadjlmbdliceaaGreat

/- The law SearchApart holds of the given program, for every input. No condition. -/
namespace Go.Proofs.YtoadjlmbdliceaaGreat
open Go Go.Sx
set_option linter.all false
theorem T.cel_24 : Tryz.prog.cellsOf 24 = 1 := by kernel_rfl
theorem T.cel_47 : Tryz.prog.cellsOf 47 = 2 := by kernel_rfl
theorem T.cel_52 : Tryz.prog.cellsOf 52 = 2 := by kernel_rfl
theorem T.cel_54 : Tryz.prog.cellsOf 54 = 6 := by kernel_rfl
theorem T.cel_56 : Tryz.prog.cellsOf 56 = 14 := by kernel_rfl
theorem T.cel_82 : Tryz.prog.cellsOf 82 = 3 := by kernel_rfl
theorem T.cel_84 : Tryz.prog.cellsOf 84 = 3 := by kernel_rfl
theorem T.cel_9 : Tryz.prog.cellsOf 9 = 1 := by kernel_rfl
instance T.fds_24 : Has (fieldsK Tryz.prog 24) [(22, 0, 1)] := ⟨by kernel_rfl⟩
instance T.fds_47 : Has (fieldsK Tryz.prog 47) [(45, 0, 1), (4, 1, 1)] := ⟨by kernel_rfl⟩
instance T.fds_52 : Has (fieldsK Tryz.prog 52) [(3, 0, 1), (3, 1, 1)] := ⟨by kernel_rfl⟩
instance T.fds_54 : Has (fieldsK Tryz.prog 54) [(52, 0, 2), (52, 2, 2), (52, 4, 2)] := ⟨by kernel_rfl⟩
instance T.fds_56 : Has (fieldsK Tryz.prog 56) [(3, 0, 1), (3, 1, 1), (9, 2, 1), (9, 3, 1), (9, 4, 1), (9, 5, 1), (9, 6, 1), (9, 7, 1), (54, 8, 6)] := ⟨by kernel_rfl⟩
instance T.fds_82 : Has (fieldsK Tryz.prog 82) [(9, 0, 1), (4, 1, 1), (80, 2, 1)] := ⟨by kernel_rfl⟩
instance T.fds_84 : Has (fieldsK Tryz.prog 84) [(9, 0, 1), (61, 1, 1), (3, 2, 1)] := ⟨by kernel_rfl⟩
namespace lawSearchApart
open Go.ChangeShapes Go.WideShapes Go.ChangeAt Go.RowKit
theorem own : ownKnob Tryz.prog.godebug = none := by kernel_rfl
set_option maxRecDepth 100000 in
theorem lifted (os : Os) (started : os.Started) (H : Type) (enc : TypeId × Value → H) :
    ReturnsInHanded {} Tryz.checked os 8 .any (Rows.searchApartSpec.pre6 enc Tryz.prog Tryz.f8 Rows.searchApartRow.domain false) (Rows.searchApartSpec.post enc Tryz.prog Tryz.f8 false true false false) := by
  refine returnsInHanded_of_change (C := Tryz.checked) own started (by kernel_rfl) Tryz.func8
    (ChangeSpec.witness6 (enc := enc) (C := Tryz.checked) false ⟨#[], #[.agg #[.slice none 0 0], .slice none 0 0, .slice none 0 0], []⟩ 8 (by kernel_rfl) (by kernel_rfl) (by kernel_rfl) (by kernel_rfl)) ?_
  intro W base args ds gs before hval0 hW hcnd _
  have hval : ∀ (j : Nat) t v, Tryz.f8.params[j]? = some t → args[j]? = some v → Value.okWide Tryz.prog W .any base t v := hval0
  have hW' := hW
  obtain ⟨p, q, hA0, hV, rfl, hfz, hnd⟩ := hW
  have hA : DataW.TrodAll enc Tryz.prog W 0 (fun _ => true) true Tryz.f8.params.toList args.toList ds p := hA0
  rw [Tryz.params8] at hA hval
  obtain ⟨v0, vs0, d0, ds0, p0, q0, hargs, rfl, rfl, h0, r0⟩ := trodAll_cons hA
  obtain ⟨v1, vs1, d1, ds1, p1, q1, rfl, rfl, rfl, h1, r1⟩ := trodAll_cons r0
  obtain ⟨v2, vs2, d2, ds2, p2, q2, rfl, rfl, rfl, h2, r2⟩ := trodAll_cons r1
  obtain ⟨rfl, rfl, rfl⟩ := trodAll_nil r2
  obtain rfl : args = #[v0, v1, v2] := by cases args; simp_all
  obtain ⟨rfl, rfl⟩ := trodVars_none hV
  clear hA0 hval0
  obtain ⟨cs0, rfl, hz0⟩ := okWide_agg T.fds_24.eq (hval 0 24 v0 rfl rfl)
  obtain ⟨fu0, hf0⟩ := h0
  obtain ⟨l0, ⟨u0, e0, R0⟩, G0⟩ := (opens_wrap T.fds_24.eq T.cel_24 (opens_slice T.und_22.eq T.cel_82 rfl (opens_kind T.fds_82.eq T.cel_82 (opens_string T.und_9.eq) (opens_bool T.und_4.eq) (opens_slice T.und_80.eq T.cel_84 rfl (opens_slot T.fds_84.eq T.cel_84 (opens_string T.und_9.eq) (opens_slice T.und_61.eq T.cel_9 rfl (opens_string T.und_9.eq)) (opens_int T.und_3.eq)))))) enc W 0 _ true fu0 _ _ hf0
  obtain rfl : cs0 = #[u0] := Array.toList_inj.1 e0
  obtain ⟨s1, n1, c1, rfl⟩ := okWide_slice T.und_25.eq (hval 1 25 v1 rfl rfl)
  obtain ⟨fu1, hf1⟩ := h1
  obtain ⟨l1, ⟨u1, e1, R1⟩, G1⟩ := (opens_slice T.und_25.eq T.cel_47 rfl (opens_rep T.fds_47.eq T.cel_47 (opens_slice T.und_45.eq T.cel_56 rfl (opens_evt T.fds_56.eq T.cel_56 (opens_int T.und_3.eq) (opens_string T.und_9.eq) (opens_use T.fds_54.eq T.cel_54 (opens_ivl T.fds_52.eq T.cel_52 (opens_int T.und_3.eq))))) (opens_bool T.und_4.eq))) enc W 0 _ true fu1 _ _ hf1
  cases e1
  obtain ⟨s2, n2, c2, rfl⟩ := okWide_slice T.und_25.eq (hval 2 25 v2 rfl rfl)
  obtain ⟨fu2, hf2⟩ := h2
  obtain ⟨l2, ⟨u2, e2, R2⟩, G2⟩ := (opens_slice T.und_25.eq T.cel_47 rfl (opens_rep T.fds_47.eq T.cel_47 (opens_slice T.und_45.eq T.cel_56 rfl (opens_evt T.fds_56.eq T.cel_56 (opens_int T.und_3.eq) (opens_string T.und_9.eq) (opens_use T.fds_54.eq T.cel_54 (opens_ivl T.fds_52.eq T.cel_52 (opens_int T.und_3.eq))))) (opens_bool T.und_4.eq))) enc W 0 _ true fu2 _ _ hf2
  cases e2
  exact law_calls (s := Rows.searchApartSpec) Tryz.call8 (lawSApart (Iw W) _ l0 R0 G0 _ l1 R1 G1 _ l2 R2 G2) hW' (by kernel_rfl) (by kernel_rfl) rfl T.und_4.eq rfl rfl
theorem over : Rows.searchApartRow.holds Tryz.pinned (OpenSpec.ofChange Rows.searchApartSpec) :=
  OpenClaim.holds_of_wide 8 Tryz.f8 rfl rfl rfl rfl rfl rfl rfl ⟨rfl, rfl, rfl, rfl, rfl⟩ rfl rfl rfl rfl rfl (by kernel_rfl) Tryz.func8 (by kernel_rfl)
    (of_decide_eq_true (by kernel_rfl)) (by unfold Func.isWrapper; first | (rw [if_pos (by decide +kernel)]; kernel_rfl) | (rw [if_neg (by decide +kernel)]; exact ⟨rfl, rfl⟩))
    (fun os started H enc _ => lifted os started H enc)
/-- the statement -/
theorem proved : Rows.SearchApartSaid := over
end lawSearchApart
end Go.Proofs.YtoadjlmbdliceaaGreat

