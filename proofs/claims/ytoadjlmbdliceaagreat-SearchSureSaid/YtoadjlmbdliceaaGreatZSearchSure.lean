/- The law SearchSure holds of the given program, for every input. No condition. -/
import Derived.Test.YtoadjlmbdliceaaGreatYc
import Derived.Carry
import Derived.ChangeArms
import Derived.Deep.Slices
import Derived.OpenShut
import Derived.ProofKit
import Derived.Test.YtoadjlmbdliceaaGreatRows
/- How what comes in is read: out of the row's reading into the data of the walks; how a law's row is closed. -/
set_option linter.all false
namespace Go.Sx
open Go

def Iw (w : World) : IMap := fun b => w.heap[b]?
theorem Iw_mem (w : World) : Mem ⟨foots [], Iw w, w⟩ (Iw w) [] w :=
  ⟨Upd.refl _ _, fun _ _ h => h, ILe.refl _, fun _ h => .inl h, fun _ h => (by cases h), fun _ h => (by cases h), List.nodup_nil⟩
theorem cell_I {w : World} {b off : Nat} {v : Value} (h : w.cell? ⟨b, off, none⟩ = some v) : ICell (Iw w) b off v := by
  unfold World.cell? at h
  split at h
  · rename_i c t fz hb
    exact ⟨c, t, fz, hb, by simpa using h⟩
  · cases h
/-- whatever reads as this type reads as this -/
def Opens (P : Program) (t : TypeId) (α : Type) [Enc α] (G : α → Prop) : Prop :=
  ∀ {H : Type} (enc : TypeId × Value → H) (w : World) (base : Nat) (spare : Nat → Bool) (held : Bool) (fuel : Nat) (cs : List Value) (x : DataW H × List MemPlace),
    DataW.trod enc P w base spare held fuel t cs = some x → ∃ y : α, Enc.rd (Iw w) cs y ∧ G y
abbrev SmB (s : ByteArray) : Prop := s.size ≤ maxLen
theorem wf_i64 {n : Int} (h : (Lit.int .i64 n).wf = true) : I64 n := by
  simp only [Lit.wf, Bool.and_eq_true, decide_eq_true_eq] at h
  unfold I64; simpa [IntKind.min, IntKind.max, IntKind.signed, IntKind.bits] using h
section
variable {P : Program} {t e : TypeId}
theorem opens_string (ht : P.underlying t = some .string) : Opens P t ByteArray SmB := by
  intro H enc w base spare held fuel cs x h
  obtain ⟨s, rfl, _, h2⟩ := DataW.trod_string ht h
  exact ⟨s, rfl, h2⟩
theorem opens_int (ht : P.underlying t = some (.int .i64)) : Opens P t Int I64 := by
  intro H enc w base spare held fuel cs x h
  obtain ⟨s, rfl, _, h2⟩ := DataW.trod_int ht h
  exact ⟨s, rfl, wf_i64 h2⟩
theorem opens_bool (ht : P.underlying t = some .bool) : Opens P t Bool (fun _ => True) := by
  intro H enc w base spare held fuel cs x h
  obtain ⟨b, rfl, _⟩ := DataW.trod_bool ht h
  exact ⟨b, rfl, trivial⟩
theorem choose_list {α : Type} {p : Nat → α → Prop} : ∀ n : Nat, (∀ i, i < n → ∃ x, p i x) → ∃ l : List α, l.length = n ∧ ∀ i x, l[i]? = some x → p i x
  | 0, _ => ⟨[], rfl, fun i x h => by simp at h⟩
  | n + 1, h => by
    obtain ⟨l, h1, h2⟩ := choose_list n (fun i hi => h i (by omega))
    obtain ⟨x, hx⟩ := h n (by omega)
    refine ⟨l ++ [x], by simp [h1], fun i y hy => ?_⟩
    rcases Nat.lt_or_ge i l.length with hi | hi
    · rw [List.getElem?_append_left hi] at hy; exact h2 i y hy
    · rw [List.getElem?_append_right hi] at hy
      have h3 : i - l.length = 0 := by
        rcases Nat.eq_zero_or_pos (i - l.length) with h | h
        · exact h
        · rw [List.getElem?_eq_none (by simp; omega)] at hy; cases hy
      rw [h3] at hy
      simp at hy
      subst hy
      obtain rfl : i = n := by omega
      exact hx
theorem opens_slice {α : Type} [Enc α] {G : α → Prop} (ht : P.underlying t = some (.slice e)) (hc : P.cellsOf e = Enc.k α) (hk : Nat.blt 0 (Enc.k α) = true) (he : Opens P e α G) : Opens P t (List α) (fun l => ∀ x ∈ l, G x) := by
  intro H enc w base spare held fuel cs x h
  rcases Deep.open_slice ht h with ⟨rfl, _⟩ | ⟨a, len, cap, m, n, D, Pl, rfl, hb, hl, hm, hmm, _, hx⟩
  · exact ⟨[], ⟨_, rfl, RdS.nil'⟩, fun _ h => by cases h⟩
  have hlm : len ≤ m := by rw [hmm]; split <;> omega
  obtain ⟨l, h1, h2⟩ := choose_list (p := fun i y => ∃ vs, (∀ j u, vs[j]? = some u → w.cell? ((a.add (i * P.cellsOf e)).add j) = some u) ∧ vs.length = Enc.k α ∧ Enc.rd (Iw w) vs y ∧ G y) len (fun i hi => by
    obtain ⟨cs', h3, h4⟩ := hx i (by omega)
    obtain ⟨y, h5, h6⟩ := he enc w base spare held n cs' _ h4
    obtain ⟨_, h7, h8⟩ := World.cells?_some h3
    refine ⟨y, cs', fun j u hu => ?_, Enc.len h5, h5, h6⟩
    have hj : j < cs'.length := (List.getElem?_eq_some_iff.1 hu).1
    rw [h8 j (by omega), hu])
  subst h1
  refine ⟨l, ⟨_, rfl, some a, cap, rfl, fun hp => ?_, hl, by unfold maxLen at hm; exact hm⟩, fun x hx => ?_⟩
  · have hk' : 0 < Enc.k α := by simpa [Nat.blt_eq] using hk
    have hsp : a.spot = none := by
      obtain ⟨vs, h3, h4, _⟩ := h2 0 l[0] (List.getElem?_eq_getElem hp)
      have h5 := h3 0 vs[0] (List.getElem?_eq_getElem (by omega))
      unfold World.cell? at h5
      split at h5
      · split at h5
        · cases h5
        · rename_i hn; simpa [Addr.add] using hn
      · cases h5
    obtain ⟨b, o, sp⟩ := a
    simp only at hsp
    subst hsp
    refine ⟨b, o, rfl, fun i x hi => ?_⟩
    obtain ⟨vs, h3, h4, h5, _⟩ := h2 i x hi
    refine ⟨vs, fun j u hu => cell_I ?_, h5⟩
    have h6 := h3 j u hu
    rw [add_lit, add_lit, hc] at h6
    exact h6
  · obtain ⟨i, hi, rfl⟩ := List.getElem_of_mem hx
    obtain ⟨_, _, _, _, h3⟩ := h2 i _ (List.getElem?_eq_getElem hi)
    exact h3
def fieldsK (P : Program) (t : TypeId) : Option (List (TypeId × Nat × Nat)) :=
  match P.underlying t with
  | some (.struct fs) => some (fs.toList.map fun f => (f.type, f.offset, P.cellsOf f.type))
  | _ => none
theorem trod_fields {H : Type} {enc : TypeId × Value → H} {w : World} {base : Nat} {spare : Nat → Bool} {held : Bool} {fuel : Nat} {cs : List Value} {x : DataW H × List MemPlace} {l : List (TypeId × Nat × Nat)}
    (hf : fieldsK P t = some l) (h : DataW.trod enc P w base spare held fuel t cs = some x) :
    cs.length = P.cellsOf t ∧ ∀ q ∈ l, ∃ n y, DataW.trod enc P w base spare held n q.1 ((cs.drop q.2.1).take q.2.2) = some y := by
  unfold fieldsK at hf
  split at hf
  · rename_i fs ht
    simp only [Option.some.injEq] at hf
    subst hf
    obtain ⟨xs, n, _, _, h1, h2, h3⟩ := DataW.trod_struct ht h
    refine ⟨h1, fun q hq => ?_⟩
    obtain ⟨f, hf, rfl⟩ := List.mem_map.1 hq
    obtain ⟨i, hi, rfl⟩ := List.getElem_of_mem hf
    have hi' : i < fs.size := by simpa using hi
    have h4 := h3 i fs[i] (by simp [hi'])
    rw [List.getElem?_eq_getElem (by omega)] at h4
    exact ⟨n, _, by simpa using h4⟩
  · cases hf
theorem okWide_agg {l : List (TypeId × Nat × Nat)} {w : World} {r : Reach} {base : Nat} {v : Value} (hf : fieldsK P t = some l) (h : Value.okWide P w r base t v) : ∃ cs, v = .agg cs ∧ cs.size = P.cellsOf t := by
  unfold fieldsK at hf
  split at hf
  · rename_i fs ht; exact WideShapes.okWide_struct ht h
  · cases hf
theorem len_cons {cs : List Value} {n : Nat} (h : cs.length = n + 1) : ∃ a r, cs = a :: r ∧ r.length = n := by
  cases cs with
  | nil => simp at h
  | cons a r => exact ⟨a, r, rfl, by simpa using h⟩
theorem len_nil {cs : List Value} (h : cs.length = 0) : cs = [] := List.eq_nil_of_length_eq_zero h
/-- a struct of one field -/
theorem opens_wrap {α : Type} [Enc α] {G : α → Prop} {t0 : TypeId} {k : Nat} (hf : fieldsK P t = some [(t0, 0, k)]) (hc : P.cellsOf t = k) (h0 : Opens P t0 α G) : Opens P t α G := by
  intro H enc w base spare held fuel cs x h
  obtain ⟨hl, hall⟩ := trod_fields hf h
  obtain ⟨n, y, h1⟩ := hall (t0, 0, k) (by simp)
  have e : (cs.drop 0).take k = cs := by rw [List.drop_zero]; exact List.take_of_length_le (by omega)
  rw [show ((t0, 0, k) : TypeId × Nat × Nat).2.1 = 0 from rfl, show ((t0, 0, k) : TypeId × Nat × Nat).2.2 = k from rfl, e] at h1
  exact h0 enc w base spare held n cs y h1
/-! the types of this program -/
def OkIvl (x : Ivl) : Prop := I64 x.low ∧ I64 x.high
def OkUse (x : Use) : Prop := OkIvl x.km ∧ OkIvl x.cycles ∧ OkIvl x.load
structure OkE (e : Evt) : Prop where
  op : I64 e.op
  day : I64 e.day
  part : SmB e.part
  kind : SmB e.kind
  into : SmB e.into
  slot : SmB e.slot
  key : SmB e.key
  value : SmB e.value
  use : OkUse e.use
def OkSl (s : Slot) : Prop := SmB s.name ∧ (∀ k ∈ s.kinds, SmB k) ∧ I64 s.normal
def OkKd (k : Kind) : Prop := SmB k.name ∧ ∀ s ∈ k.slots, OkSl s
theorem opens_ivl {t0 : TypeId} (hf : fieldsK P t = some [(t0, 0, 1), (t0, 1, 1)]) (hc : P.cellsOf t = 2) (h0 : Opens P t0 Int I64) : Opens P t Ivl OkIvl := by
  intro H enc w base spare held fuel cs x h
  obtain ⟨hl, hall⟩ := trod_fields hf h
  rw [hc] at hl
  obtain ⟨a, r0_, rfl, l0_⟩ := len_cons hl
  obtain ⟨b, r1_, rfl, l1_⟩ := len_cons l0_
  obtain rfl := len_nil l1_
  obtain ⟨n0, y0, h1⟩ := hall (t0, 0, 1) (by simp)
  obtain ⟨n1, y1, h2⟩ := hall (t0, 1, 1) (by simp)
  obtain ⟨x0, e0, g0⟩ := h0 enc w base spare held n0 _ y0 h1
  obtain ⟨x1, e1, g1⟩ := h0 enc w base spare held n1 _ y1 h2
  have e0 : [a] = [.int .i64 x0] := e0
  have e1 : [b] = [.int .i64 x1] := e1
  cases e0
  cases e1
  exact ⟨⟨x0, x1⟩, rfl, g0, g1⟩
theorem opens_three {t0 : TypeId} {w : World} {H : Type} {enc : TypeId × Value → H} {base : Nat} {spare : Nat → Bool} {held : Bool} {fuel : Nat} {cs : List Value} {x : DataW H × List MemPlace} (hf : fieldsK P t = some [(t0, 0, 2), (t0, 2, 2), (t0, 4, 2)]) (hc : P.cellsOf t = 6) (h0 : Opens P t0 Ivl OkIvl)
    (h : DataW.trod enc P w base spare held fuel t cs = some x) : ∃ a b c : Ivl, cs = a.cells ++ (b.cells ++ c.cells) ∧ OkIvl a ∧ OkIvl b ∧ OkIvl c := by
  obtain ⟨hl, hall⟩ := trod_fields hf h
  rw [hc] at hl
  obtain ⟨a, r0_, rfl, l0_⟩ := len_cons hl
  obtain ⟨b, r1_, rfl, l1_⟩ := len_cons l0_
  obtain ⟨c, r2_, rfl, l2_⟩ := len_cons l1_
  obtain ⟨d, r3_, rfl, l3_⟩ := len_cons l2_
  obtain ⟨e, r4_, rfl, l4_⟩ := len_cons l3_
  obtain ⟨f, r5_, rfl, l5_⟩ := len_cons l4_
  obtain rfl := len_nil l5_
  obtain ⟨n0, y0, h1⟩ := hall (t0, 0, 2) (by simp)
  obtain ⟨n1, y1, h2⟩ := hall (t0, 2, 2) (by simp)
  obtain ⟨n2, y2, h3⟩ := hall (t0, 4, 2) (by simp)
  obtain ⟨x0, e0, g0⟩ := h0 enc w base spare held n0 _ y0 h1
  obtain ⟨x1, e1, g1⟩ := h0 enc w base spare held n1 _ y1 h2
  obtain ⟨x2, e2, g2⟩ := h0 enc w base spare held n2 _ y2 h3
  have e0 : [a, b] = x0.cells := e0
  have e1 : [c, d] = x1.cells := e1
  have e2 : [e, f] = x2.cells := e2
  exact ⟨x0, x1, x2, by rw [← e0, ← e1, ← e2]; rfl, g0, g1, g2⟩
theorem opens_use {t0 : TypeId} (hf : fieldsK P t = some [(t0, 0, 2), (t0, 2, 2), (t0, 4, 2)]) (hc : P.cellsOf t = 6) (h0 : Opens P t0 Ivl OkIvl) : Opens P t Use OkUse := by
  intro H enc w base spare held fuel cs x h
  obtain ⟨a, b, c, rfl, h1, h2, h3⟩ := opens_three hf hc h0 h
  exact ⟨⟨a, b, c⟩, rfl, h1, h2, h3⟩
theorem opens_evt {ti ts tu : TypeId} (hf : fieldsK P t = some [(ti, 0, 1), (ti, 1, 1), (ts, 2, 1), (ts, 3, 1), (ts, 4, 1), (ts, 5, 1), (ts, 6, 1), (ts, 7, 1), (tu, 8, 6)]) (hc : P.cellsOf t = 14) (hi : Opens P ti Int I64) (hs : Opens P ts ByteArray SmB) (hu : Opens P tu Use OkUse) : Opens P t Evt OkE := by
  intro H enc w base spare held fuel cs x h
  obtain ⟨hl, hall⟩ := trod_fields hf h
  rw [hc] at hl
  obtain ⟨a0, r0_, rfl, l0_⟩ := len_cons hl
  obtain ⟨a1, r1_, rfl, l1_⟩ := len_cons l0_
  obtain ⟨a2, r2_, rfl, l2_⟩ := len_cons l1_
  obtain ⟨a3, r3_, rfl, l3_⟩ := len_cons l2_
  obtain ⟨a4, r4_, rfl, l4_⟩ := len_cons l3_
  obtain ⟨a5, r5_, rfl, l5_⟩ := len_cons l4_
  obtain ⟨a6, r6_, rfl, l6_⟩ := len_cons l5_
  obtain ⟨a7, r7_, rfl, l7_⟩ := len_cons l6_
  obtain ⟨a8, r8_, rfl, l8_⟩ := len_cons l7_
  obtain ⟨a9, r9_, rfl, l9_⟩ := len_cons l8_
  obtain ⟨a10, r10_, rfl, l10_⟩ := len_cons l9_
  obtain ⟨a11, r11_, rfl, l11_⟩ := len_cons l10_
  obtain ⟨a12, r12_, rfl, l12_⟩ := len_cons l11_
  obtain ⟨a13, r13_, rfl, l13_⟩ := len_cons l12_
  obtain rfl := len_nil l13_
  obtain ⟨n0, y0, h0⟩ := hall (ti, 0, 1) (by simp)
  obtain ⟨x0, e0, g0⟩ := hi enc w base spare held n0 _ y0 h0
  have e0 : [a0] = [.int .i64 x0] := e0
  cases e0
  obtain ⟨n1, y1, h1⟩ := hall (ti, 1, 1) (by simp)
  obtain ⟨x1, e1, g1⟩ := hi enc w base spare held n1 _ y1 h1
  have e1 : [a1] = [.int .i64 x1] := e1
  cases e1
  obtain ⟨n2, y2, h2⟩ := hall (ts, 2, 1) (by simp)
  obtain ⟨x2, e2, g2⟩ := hs enc w base spare held n2 _ y2 h2
  have e2 : [a2] = [.string x2] := e2
  cases e2
  obtain ⟨n3, y3, h3⟩ := hall (ts, 3, 1) (by simp)
  obtain ⟨x3, e3, g3⟩ := hs enc w base spare held n3 _ y3 h3
  have e3 : [a3] = [.string x3] := e3
  cases e3
  obtain ⟨n4, y4, h4⟩ := hall (ts, 4, 1) (by simp)
  obtain ⟨x4, e4, g4⟩ := hs enc w base spare held n4 _ y4 h4
  have e4 : [a4] = [.string x4] := e4
  cases e4
  obtain ⟨n5, y5, h5⟩ := hall (ts, 5, 1) (by simp)
  obtain ⟨x5, e5, g5⟩ := hs enc w base spare held n5 _ y5 h5
  have e5 : [a5] = [.string x5] := e5
  cases e5
  obtain ⟨n6, y6, h6⟩ := hall (ts, 6, 1) (by simp)
  obtain ⟨x6, e6, g6⟩ := hs enc w base spare held n6 _ y6 h6
  have e6 : [a6] = [.string x6] := e6
  cases e6
  obtain ⟨n7, y7, h7⟩ := hall (ts, 7, 1) (by simp)
  obtain ⟨x7, e7, g7⟩ := hs enc w base spare held n7 _ y7 h7
  have e7 : [a7] = [.string x7] := e7
  cases e7
  obtain ⟨n8, y8, h8⟩ := hall (tu, 8, 6) (by simp)
  obtain ⟨x8, e8, g8⟩ := hu enc w base spare held n8 _ y8 h8
  have e8 : [a8, a9, a10, a11, a12, a13] = x8.cells := e8
  cases e8
  exact ⟨⟨x0, x1, x2, x3, x4, x5, x6, x7, x8⟩, rfl, ⟨g0, g1, g2, g3, g4, g5, g6, g7, g8⟩⟩
theorem opens_slot {ti tk ts : TypeId} (hf : fieldsK P t = some [(ts, 0, 1), (tk, 1, 1), (ti, 2, 1)]) (hc : P.cellsOf t = 3) (hs : Opens P ts ByteArray SmB) (hk : Opens P tk (List ByteArray) (fun l => ∀ x ∈ l, SmB x)) (hi : Opens P ti Int I64) : Opens P t Slot OkSl := by
  intro H enc w base spare held fuel cs x h
  obtain ⟨hl, hall⟩ := trod_fields hf h
  rw [hc] at hl
  obtain ⟨a0, r0_, rfl, l0_⟩ := len_cons hl
  obtain ⟨a1, r1_, rfl, l1_⟩ := len_cons l0_
  obtain ⟨a2, r2_, rfl, l2_⟩ := len_cons l1_
  obtain rfl := len_nil l2_
  obtain ⟨n0, y0, h0⟩ := hall (ts, 0, 1) (by simp)
  obtain ⟨x0, e0, g0⟩ := hs enc w base spare held n0 _ y0 h0
  have e0 : [a0] = [.string x0] := e0
  cases e0
  obtain ⟨n1, y1, h1⟩ := hall (tk, 1, 1) (by simp)
  obtain ⟨x1, e1, g1⟩ := hk enc w base spare held n1 _ y1 h1
  obtain ⟨v1, e1, r1⟩ := e1
  have e1 : [a1] = [v1] := e1
  cases e1
  obtain ⟨n2, y2, h2⟩ := hall (ti, 2, 1) (by simp)
  obtain ⟨x2, e2, g2⟩ := hi enc w base spare held n2 _ y2 h2
  have e2 : [a2] = [.int .i64 x2] := e2
  cases e2
  exact ⟨⟨x0, x1, x2⟩, ⟨_, rfl, r1⟩, g0, g1, g2⟩
theorem opens_kind {tb tk ts : TypeId} (hf : fieldsK P t = some [(ts, 0, 1), (tb, 1, 1), (tk, 2, 1)]) (hc : P.cellsOf t = 3) (hs : Opens P ts ByteArray SmB) (hb : Opens P tb Bool (fun _ => True)) (hk : Opens P tk (List Slot) (fun l => ∀ x ∈ l, OkSl x)) : Opens P t Kind OkKd := by
  intro H enc w base spare held fuel cs x h
  obtain ⟨hl, hall⟩ := trod_fields hf h
  rw [hc] at hl
  obtain ⟨a0, r0_, rfl, l0_⟩ := len_cons hl
  obtain ⟨a1, r1_, rfl, l1_⟩ := len_cons l0_
  obtain ⟨a2, r2_, rfl, l2_⟩ := len_cons l1_
  obtain rfl := len_nil l2_
  obtain ⟨n0, y0, h0⟩ := hall (ts, 0, 1) (by simp)
  obtain ⟨x0, e0, g0⟩ := hs enc w base spare held n0 _ y0 h0
  have e0 : [a0] = [.string x0] := e0
  cases e0
  obtain ⟨n1, y1, h1⟩ := hall (tb, 1, 1) (by simp)
  obtain ⟨x1, e1, g1⟩ := hb enc w base spare held n1 _ y1 h1
  have e1 : [a1] = [.bool x1] := e1
  cases e1
  obtain ⟨n2, y2, h2⟩ := hall (tk, 2, 1) (by simp)
  obtain ⟨x2, e2, g2⟩ := hk enc w base spare held n2 _ y2 h2
  obtain ⟨v2, e2, r2⟩ := e2
  have e2 : [a2] = [v2] := e2
  cases e2
  exact ⟨⟨x0, x1, x2⟩, ⟨_, rfl, r2⟩, g0, g2⟩
/-! a law's row -/
open Go.ChangeShapes Go.WideShapes Go.RowKit
variable {H : Type} {enc : TypeId × Value → H}
theorem trodAll_later {W W' : World} (hl : laidOutB P = true) (hb : Below W.heap.size W W') : ∀ (ts : List TypeId) (vs : List Value) (ds : List (DataW H)) (ps : List MemPlace), ts.all (fun t => P.readableRec t && decide (t < P.types.size)) = true → (∀ x ∈ ps, x.block < W.heap.size) →
    DataW.TrodAll enc P W 0 (fun _ => true) true ts vs ds ps → DataW.TrodAll enc P W' 0 (fun b => decide (b < W.heap.size)) true ts vs ds ps
  | [], vs, ds, ps, _, _, h => by
    obtain ⟨rfl, rfl, rfl⟩ := trodAll_nil h
    exact trodAll_mk0
  | t :: ts, vs, ds, ps, ht, hp, h => by
    obtain ⟨v, vs', d, ds', p, q, rfl, rfl, rfl, h1, h2⟩ := trodAll_cons h
    simp only [List.all_cons, Bool.and_eq_true, decide_eq_true_eq] at ht
    exact trodAll_cons_mk (Below.trod hl ht.1.1 ht.1.2 h1 hb fun x hx => hp x (by simp [hx])) (trodAll_later hl hb ts vs' ds' q (by simpa using ht.2) (fun x hx => hp x (by simp [hx])) h2)
theorem law_calls {f : FuncId} {fn : Func} {args : Array Value} {W : World} {s : ChangeSpec} {ds gs : List (DataW H)} {before : List MemPlace} {tb : TypeId}
    (hcall : ∀ (args : Array Value) (w : World), (callFunc f args).run P w = .ok (.enter f args) w) (hc : FnV P f args (Iw W) (.bool true)) (hW : DataW.Whole enc P fn.params.toList s.vars false W args.toList ds gs before)
    (hlaid : laidOutB P = true) (hts : fn.params.toList.all (fun t => P.readableRec t && decide (t < P.types.size)) = true) (hres : fn.resultTypes = #[tb]) (htb : P.underlying tb = some .bool)
    (hfn : s.fn H (ds ++ gs) = { results := [.lit (.bool true)], args := ds }) (hvars : s.vars = []) :
    Calls P f args W fun e W' => ∃ v, e = .returned v ∧ s.post enc P fn false true false false W args v W' := by
  have h := hc.go W (Iw_mem W)
  unfold After at h
  rw [hcall] at h
  refine Calls.mono h ?_
  rintro e W' ⟨v, I', H', rfl, hm, rfl, rfl, rfl⟩
  refine ⟨_, rfl, ?_⟩
  have hlt := hW.lt
  have hb : Below W.heap.size W W' := ⟨hm.upd.os, hm.upd.tape, hm.upd.output, hm.upd.size, fun k hk => hm.upd.block k hk (by simp [foots])⟩
  obtain ⟨p, q, hA, hV, hpq, hfz, hnd⟩ := id hW
  rw [hvars] at hV
  obtain ⟨rfl, rfl⟩ := trodVars_none hV
  refine ⟨ds, [], before, [], p, [], hW, ?_, ?_, ?_, ?_, fun h => by cases h⟩
  · rw [hfn, hres]
    exact trodAll_cons_mk (shut_bool htb _) trodAll_mk0
  · rw [hfn]
    exact trodAll_later hlaid hb _ _ _ _ hts (fun x hx => by simpa using hlt x (by rw [hpq]; simp [hx])) hA
  · rw [hfn, hvars]
    rfl
  · refine ⟨hm.upd.os, hm.upd.output, fun i hi => ?_⟩
    rw [hb.block i hi]
    cases W.heap[i]? with
    | none => rfl
    | some o => cases o <;> simp
end
end Go.Sx

/- How reports and bytes that come in are read. -/
set_option linter.all false
namespace Go.Sx
open Go
def OkRp (r : Rep) : Prop := ∀ e ∈ r.options, OkE e
section
variable {P : Program} {t : TypeId}
theorem opens_rep {tb tk : TypeId} (hf : fieldsK P t = some [(tk, 0, 1), (tb, 1, 1)]) (hc : P.cellsOf t = 2) (hk : Opens P tk (List Evt) (fun l => ∀ x ∈ l, OkE x)) (hb : Opens P tb Bool (fun _ => True)) : Opens P t Rep OkRp := by
  intro H enc w base spare held fuel cs x h
  obtain ⟨hl, hall⟩ := trod_fields hf h
  rw [hc] at hl
  obtain ⟨a0, r0_, rfl, l0_⟩ := len_cons hl
  obtain ⟨a1, r1_, rfl, l1_⟩ := len_cons l0_
  obtain rfl := len_nil l1_
  obtain ⟨n0, y0, h0⟩ := hall (tk, 0, 1) (by simp)
  obtain ⟨x0, e0, g0⟩ := hk enc w base spare held n0 _ y0 h0
  obtain ⟨v0, e0, r0⟩ := e0
  have e0 : [a0] = [v0] := e0
  cases e0
  obtain ⟨n1, y1, h1⟩ := hall (tb, 1, 1) (by simp)
  obtain ⟨x1, e1, g1⟩ := hb enc w base spare held n1 _ y1 h1
  have e1 : [a1] = [.bool x1] := e1
  cases e1
  exact ⟨⟨x0, x1⟩, ⟨_, rfl, r0⟩, g0⟩
theorem opens_u8 (ht : P.underlying t = some (.int .u8)) : Opens P t UInt8 (fun _ => True) := by
  intro H enc w base spare held fuel cs x h
  obtain ⟨s, rfl, _, h2⟩ := DataW.trod_int ht h
  have hs : 0 ≤ s ∧ s ≤ 255 := by
    simp only [Lit.wf, Bool.and_eq_true, decide_eq_true_eq] at h2
    simpa [IntKind.min, IntKind.max, IntKind.signed, IntKind.bits] using h2
  refine ⟨UInt8.ofNat s.toNat, ?_, trivial⟩
  show [Value.int .u8 s] = [.int .u8 ((UInt8.ofNat s.toNat).toNat : Int)]
  rw [UInt8.toNat_ofNat']
  congr 2
  omega
theorem u8_nat {n : Int} (h : (Lit.int .u8 n).wf = true) : ∃ a : Nat, n = (a : Int) ∧ a < 256 := by
  have h2 : 0 ≤ n ∧ n ≤ 255 := by
    simp only [Lit.wf, Bool.and_eq_true, decide_eq_true_eq] at h
    simpa [IntKind.min, IntKind.max, IntKind.signed, IntKind.bits] using h
  exact ⟨n.toNat, by omega, by omega⟩
theorem u16_nat {n : Int} (h : (Lit.int .u16 n).wf = true) : ∃ a : Nat, n = (a : Int) ∧ a < 65536 := by
  have h2 : 0 ≤ n ∧ n ≤ 65535 := by
    simp only [Lit.wf, Bool.and_eq_true, decide_eq_true_eq] at h
    simpa [IntKind.min, IntKind.max, IntKind.signed, IntKind.bits] using h
  exact ⟨n.toNat, by omega, by omega⟩
end
end Go.Sx

/- Searching: too many doubtful reports; reports without a doubt. -/
set_option linter.all false
namespace Go.Sx
open Go
/-- doubtful reports -/
def manyF (n : Nat) : List Rep := (List.range n).map fun (i : Nat) => ⟨[sxRem sA i], true⟩
theorem many_len (n : Nat) : (manyF n).length = n := by simp [manyF]
theorem many_succ (n : Nat) : manyF (n + 1) = manyF n ++ [⟨[sxRem sA (n : Int)], true⟩] := by simp [manyF, List.range_succ]
theorem many_chs : ∀ i < 36, chs ⟨[sxRem sA ((i : Nat) : Int)], true⟩ = 2 := by decide +kernel
theorem many_sm (n : Nat) : ∀ r ∈ manyF n, ∀ e ∈ r.options, SmE e := by
  intro r hr e he
  obtain ⟨i, _, rfl⟩ := List.mem_map.1 hr
  obtain rfl := List.mem_singleton.1 he
  have hn : Sm nil8 := by decide
  exact ⟨(show Sm sA by decide), hn, hn, hn, hn, hn⟩
theorem many_err {n : Nat} (h : 31 ≤ n) (h2 : n < 36) : errF sxC (manyF n) = 7 := by
  refine err_many (by decide +kernel) (fun r hr => ?_) (by rw [many_len]; omega)
  obtain ⟨i, hi, rfl⟩ := List.mem_map.1 hr
  exact many_chs i (by have := List.mem_range.1 hi; omega)
theorem many_first {n : Nat} (h : 31 ≤ n) (h2 : n < 36) : (firstF sxC (manyF n)).2 = 7 := by
  have := many_err h h2
  rw [first_code, all_err (by decide) (by decide) (by rw [this]; decide), this]
theorem many_count {n : Nat} (h : 31 ≤ n) (h2 : n < 36) : (countF sxC (manyF n) 1).2 = 7 := by
  have := many_err h h2
  have h3 : allF sxC (manyF n) 1 = ([], 7) := by rw [all_err (by decide) (by decide) (by rw [this]; decide), this]
  unfold countF
  rw [h3]; rfl
theorem one_take {l : List Rep} {i : Nat} (hlt : i < l.length) (h : ∀ r ∈ l.take i, chs r = 1) (h2 : chs l[i] = 1) : ∀ r ∈ l.take (i + 1), chs r = 1 := fun r hr => by
  rw [← take_succ_of hlt] at hr
  rcases List.mem_append.1 hr with hr | hr
  · exact h r hr
  · rw [List.mem_singleton.1 hr]; exact h2
section
variable {c : List Kind} {l : List Rep} {most : Int}
theorem all_sub (t : List Int) (h : t ∈ (allF c l most).1) : t ∈ histF c l := by
  unfold allF at h
  split at h
  · cases h
  · split at h
    · cases h
    · split at h
      · cases h
      · exact List.mem_of_mem_take h
theorem all_lens {t : List Int} (h : t ∈ (allF c l most).1) : t.length = l.length := (given_all (is_given ((hist_mem t).1 (all_sub t h)))).1
theorem all_at {t : List Int} (h : t ∈ (allF c l most).1) {k : Nat} (hk : k < l.length) (h2 : k < t.length) : 0 ≤ t[k] ∧ t[k] < chs l[k] := by
  have := given_at (is_given ((hist_mem t).1 (all_sub t h))) hk h2
  omega
theorem all_le : (allF c l most).1.length ≤ waysN l := by
  unfold allF
  split
  · exact Nat.zero_le _
  · split
    · exact Nat.zero_le _
    · split
      · exact Nat.zero_le _
      · exact Nat.le_trans (by rw [List.length_take]; omega) (hist_len c l)
end
end Go.Sx

/- Walks, printed by a program out of the code of the functions: each theorem is a contract of one function. -/
namespace Go.Proofs.YtoadjlmbdliceaaGreat
open Go Go.Sx
set_option linter.all false
set_option maxRecDepth 20000
set_option maxHeartbeats 4000000
instance T.und_42 : Has (Tryz.prog.underlying 42) (.int .u16) := ⟨by kernel_rfl⟩
theorem lawSSure (I : IMap) (vc : Value) (c : List Kind) (hvc : RdS I vc c) (hoc : ∀ x ∈ c, OkKd x) (v : Value) (l : List Rep) (hv : RdS I v l) (hok : ∀ x ∈ l, OkRp x) (a0 : Int) (wa0 : (Lit.int .u8 a0).wf = true)  :
    FnV Tryz.prog 7 #[.agg #[vc], v, .int .u8 a0] I (.bool true) := by
 obtain ⟨a, rfl, ha⟩ := u8_nat wa0
 have hv0 := hv
 obtain ⟨A, c0, rfl, hA, hc, hm⟩ := hv0
 refine enter Tryz.func7 Tryz.call7 rfl Tryz.ntmps7 rfl (fun w0 => ?_)
 refine go 3 ?_
 refine o_box _ rfl rfl rfl (fun g3 => ?_)
 refine go 6 ?_
 refine o_callV (head16 _) rfl rfl ?_
 refine go 8 ?_
 refine o_callV (refFew _ vc c hvc) rfl rfl ?_
 refine go 2 ?_
 refine sxb 23 rfl (fun h23 p23 => ?_) (fun h23 p23 => ?_)
 ·refine go 6 ?_
  refine c_true rfl ?_
  refine go 8 ?_
  refine fin1 rfl rfl ?_
  exact q_vI rfl
 ·refine go 2 ?_
  refine o_yes rfl rfl h23 (o_callV (ref13Few _ _ l hv 12) rfl rfl ?_)
  refine go 4 ?_
  refine cb rfl (fun h27 p27 => ?_) (fun h27 p27 => ?_)
  ·refine go 8 ?_
   refine fin1 rfl rfl ?_
   exact q_vI rfl
  ·have hf : fewC c = true ∧ fewR l 12 = true := ⟨by simpa using h23, by simpa using h27⟩
   obtain ⟨hsl, hl⟩ := fewR_sm hf.2
   have hsc := fewC_sm hf.1
   have hl6 : l.length ≤ 1000000 := by omega
   refine go 4 ?_
   refine sx_nilrow 47 2 ?_
   refine go 10 ?_
   refine c_loop4 ((0 : Nat)) (_) ([]) (I) (fun i v8 xs J => J)
    (fun i v8 xs J => [(1, .slice A l.length c0), (2, .int .u8 (a : Int)), (3, .pointer (some ⟨g3, 0, none⟩)), (7, .bool true), (8, v8), (9, .int .i64 ((i : Nat) : Int))])
    (fun i v8 xs J => [.row v8 47 2 i xs, .blk g3 24 [vc]])
    (fun i v8 xs J => i ≤ (31 + a % 5) ∧ ILe I J ∧ Flat J xs (manyF i))
    (fun i v8 xs J => (31 + a % 5) - i) ⟨Nat.zero_le _, ILe.refl _, .nil⟩ rfl sb rfl ?_
   intro i v8 xs J ⟨hi, hJ, hF⟩
   have hvc := hvc.le hJ
   have hv := hv.le hJ
   have hA := hA.le hJ
   refine go 5 ?_
   refine o_v rfl (v_conv he he rfl (m := ((a : Nat) : Int)) (by rw [IntKind.wrap_i64]; omega)) ?_
   refine o_v rfl (v_rem (j := 5) rfl rfl (by omega) (by omega)) ?_
   refine o_v rfl (OV.cast (u := .int .i64 (((31 + a % 5) : Nat) : Int)) (v_add rfl rfl ⟨by omega, by omega⟩) (congrArg (Value.int .i64) (by omega))) ?_
   refine go 3 ?_
   refine cb rfl (fun h34 p34 => ?_) (fun h34 p34 => ?_)
   ·have hlt : i < (31 + a % 5) := by omega
    refine go 8 ?_
    refine o_val rfl (v_build (pl := [(0, 1), (1, 1), (2, 1), (3, 1), (4, 1), (5, 1), (6, 1), (7, 1), (8, 6)]) he he rfl rfl) ?_
    refine go 1 ?_
    refine o_buildSlice he he rfl rfl rfl rfl rfl rfl rfl (fun v40 => ?_)
    refine sx_pubrow (l := [sxRem sA (i : Int)]) rfl rfl (.one rfl) (fun I40 j40 R40 => ?_)
    try have hvc := hvc.le j40
    try have hv := hv.le j40
    try have hA := hA.le j40
    have R40s := R40
    obtain ⟨A40, c40, rfl, _, _, _⟩ := R40s
    refine go 1 ?_
    refine o_val rfl (v_build (pl := [(0, 1), (1, 1)]) he he rfl rfl) ?_
    refine go 1 ?_
    refine o_buildSlice he he rfl rfl rfl rfl rfl rfl rfl (fun v42 => ?_)
    refine go 1 ?_
    refine bring1 ?_
    refine o_appendO he he rfl rfl rfl rfl rfl (by omega) (by omega) rfl (fun v43 => ?_)
    refine go 10 ?_
    refine bring1 ?_
    refine sx_drop ?_
    exact q_next4 (i + 1) (_) (_) (_) ⟨by omega, hJ.trans j40, by rw [many_succ]; exact (hF.le j40).append (.one ⟨_, rfl, R40⟩)⟩ (by omega) rfl sb rfl
   ·obtain rfl : i = (31 + a % 5) := by omega
    refine go 8 ?_
    refine o_call (example16 _) rfl rfl (fun v45 I45 j45 q45 => ?_)
    try have hvc := hvc.le j45
    try have hv := hv.le j45
    try have hA := hA.le j45
    try have R50 := R50.le j45
    try have hvs := hvs.le j45
    try have hw82 := hw82.le j45
    obtain ⟨vcs, As, rfl, hvs, hAs⟩ := q45
    refine go 4 ?_
    refine o_alloc he rfl (fun g10 => ?_)
    refine go 1 ?_
    refine o_stw _ he rfl rfl rfl rfl rfl (by simp [hvs.one]) ?_
    refine go 6 ?_
    refine bring1 ?_
    refine sx_pubrow (l := manyF (31 + a % 5)) rfl (by rw [many_len]) (hF.le j45) (fun I50 j50 R50 => ?_)
    try have hvc := hvc.le j50
    try have hv := hv.le j50
    try have hA := hA.le j50
    try have R50 := R50.le j50
    try have hvs := hvs.le j50
    try have hw82 := hw82.le j50
    refine go 2 ?_
    refine o_call (seFirst _ vcs sxC hvs sx_smC _ _ R50 (by rw [many_len]; omega) (many_sm _)) rfl rfl (fun v51 I51 j51 q51 => ?_)
    try have hvc := hvc.le j51
    try have hv := hv.le j51
    try have hA := hA.le j51
    try have R50 := R50.le j51
    try have hvs := hvs.le j51
    try have hw82 := hw82.le j51
    obtain ⟨w51, rfl, hw51⟩ := q51
    refine go 12 ?_
    refine o_call (seCount _ vcs sxC hvs sx_smC _ _ R50 (by rw [many_len]; omega) (many_sm _) 1) rfl rfl (fun v57 I57 j57 q57 => ?_)
    try have hvc := hvc.le j57
    try have hv := hv.le j57
    try have hA := hA.le j57
    try have R50 := R50.le j57
    try have hvs := hvs.le j57
    try have hw82 := hw82.le j57
    obtain rfl := q57
    refine go 11 ?_
    refine o_v rfl (OV.cast (u := .bool false) (v_neq rfl rfl) (congrArg Value.bool (by rw [many_first (by omega) (by omega)]; rfl))) ?_
    refine go 2 ?_
    refine o_cons (o_yes rfl rfl rfl (o_val rfl (OV.cast (u := .bool false) (v_neq rfl rfl) (congrArg Value.bool (by rw [many_count (by omega) (by omega)]; rfl))) ?_))
    refine go 3 ?_
    refine c_false rfl ?_
    refine go 9 ?_
    refine sx_drop ?_
    refine c_loop2 ((0 : Nat)) (I57) (fun i J1 => J1)
     (fun i J1 => [(1, .slice A l.length c0), (2, .int .u8 (a : Int)), (3, .pointer (some ⟨g3, 0, none⟩)), (7, .bool true), (16, .int .i64 ((i : Nat) : Int))])
     (fun i J1 => [.blk g3 24 [vc]])
     (fun i J1 => i ≤ l.length ∧ ILe I57 J1 ∧ ∀ r ∈ l.take i, chs r = 1)
     (fun i J1 => l.length - i) ⟨Nat.zero_le _, ILe.refl _, fun r hr => by simp at hr⟩ rfl sb rfl ?_
    intro i J1 ⟨hi, hJ1, hn⟩
    have hvc := hvc.le hJ1
    have hv := hv.le hJ1
    have hA := hA.le hJ1
    refine go 9 ?_
    refine cb rfl (fun h69 p69 => ?_) (fun h69 p69 => ?_)
    ·have hlt : i < l.length := by omega
     refine go 8 ?_
     obtain ⟨b74, o74, w74, e74, c74, r74⟩ := RdA.at_ hA (i := i) (by omega)
     obtain ⟨q74, rfl, S74, d74, rfl, hS74, hd74, hm74⟩ := r74
     refine o_v rfl (v_idx he rfl rfl e74 (i) (by omega) (by omega)) ?_
     refine o_v rfl (v_ldIa he rfl c74 rfl) ?_
     refine go 1 ?_
     refine o_callV (repChoices _ l[i] S74 d74 ⟨_, _, rfl, hS74, hd74, hm74⟩ (hsl _ (List.getElem_mem hlt))) rfl rfl ?_
     refine go 3 ?_
     refine cb rfl (fun h77 p77 => ?_) (fun h77 p77 => ?_)
     ·refine go 12 ?_
      refine fin1 rfl rfl ?_
      exact q_vI rfl
     ·refine go 9 ?_
      exact q_next2 (i + 1) (_) ⟨by omega, hJ1, one_take hlt hn (by simpa using h77)⟩ (by omega) rfl sb rfl
    ·obtain rfl : i = l.length := by omega
     rw [List.take_length] at hn
     refine go 10 ?_
     refine o_call (seAll _ vc c hvc hsc _ l hv hl6 hsl 2) rfl rfl (fun v82 I82 j82 q82 => ?_)
     try have hvc := hvc.le j82
     try have hv := hv.le j82
     try have hA := hA.le j82
     try have R50 := R50.le j82
     try have hvs := hvs.le j82
     try have hw82 := hw82.le j82
     obtain ⟨w82, rfl, hw82⟩ := q82
     refine go 14 ?_
     refine cb rfl (fun h86 p86 => ?_) (fun h86 p86 => ?_)
     ·have hno := all_nil_of (c := c) (l := l) (most := 2) p86
      rw [hno] at hw82
      obtain ⟨A82, c82, rfl, _, _, _⟩ := hw82
      refine go 6 ?_
      refine o_cons (o_yes rfl rfl rfl (o_val rfl (OV.cast (u := .bool true) (v_eql rfl rfl) (congrArg Value.bool (decide_eq_true (rfl)))) ?_))
      refine go 6 ?_
      refine fin1 rfl rfl ?_
      exact q_vI rfl
     ·have h0 : (allF c l 2).2 = 0 := by simpa using h86
      rw [sure_one hn h0] at hw82
      obtain ⟨A82, c82, rfl, hA82, _, _⟩ := hw82
      have hA820 := hA82
      refine go 3 ?_
      refine sx_knowI (fun hE22 hf22 => ?_)
      refine d_startH T.mixed ?_
      refine d_tv 0 rfl rfl (by kernel_rfl) rfl (.refl _) rfl (v_move rfl) ?_
      refine d_tv 1 rfl rfl (by kernel_rfl) rfl (.refl _) rfl (v_move rfl) ?_
      refine d_t 2 rfl rfl (by kernel_rfl) rfl (fun _ m => m.keeps (.refl _)) (y_yes rfl rfl rfl (v_move rfl)) ?_
      refine d_t 3 rfl rfl (by kernel_rfl) rfl (fun _ m => m.keeps (.refl _)) (y_yes rfl rfl rfl (v_len_slice he rfl)) ?_
      refine d_t 4 rfl rfl (by kernel_rfl) rfl (fun _ m => m.keeps (.refl _)) (y_yes rfl rfl rfl (OV.cast (u := .bool true) (v_eql rfl rfl) (congrArg Value.bool (decide_eq_true (rfl))))) ?_
      refine d_tv 5 rfl rfl (by kernel_rfl) rfl (.refl _) rfl (v_and_t rfl rfl rfl) ?_
      refine d_tv 6 rfl rfl (by kernel_rfl) rfl (.refl _) rfl (v_move rfl) ?_
      refine d_t 7 rfl rfl (by kernel_rfl) rfl (fun _ m => m.keeps (.refl _)) (y_yes rfl rfl rfl (v_move rfl)) ?_
      obtain ⟨b101, o101, w101, e101, c101, r101⟩ := RdA.at_ hA820 (i := 0) (by simp)
      obtain ⟨q101, rfl, S101, d101, rfl, hS101, hd101, hm101⟩ := r101
      refine d_t 8 rfl rfl (by kernel_rfl) rfl (fun _ m => m.keeps (.refl _)) (y_yes rfl rfl rfl (v_idx he rfl rfl e101 (0) rfl (by simp))) ?_
      refine d_t 9 rfl rfl (by kernel_rfl) rfl (fun _ m => m.keeps (.refl _)) (y_yes rfl rfl rfl (v_ldI he rfl (c101 0 _ rfl))) ?_
      refine d_t 10 rfl rfl (by kernel_rfl) rfl (fun _ m => m.keeps (.refl _)) (y_yes rfl rfl rfl (v_move rfl)) ?_
      refine d_t 11 rfl rfl (by kernel_rfl) rfl (fun _ m => m.keeps (.refl _)) (y_yes rfl rfl rfl (v_len_slice he rfl)) ?_
      refine d_one 12 (by kernel_rfl) rfl ?_
      refine o_yes rfl rfl rfl (o_makeSlice he he rfl rfl rfl (by omega) (by omega) rfl (fun g105 => ?_))
      refine d_on (fun _ m => m.keeps (.cons _ (.refl _))) ?_
      refine d_one 13 (by kernel_rfl) rfl ?_
      refine sx_pub (fun Ig105 jg105 cg105 => ?_)
      refine o_yes rfl rfl rfl (o_callV (eqInts16 _ _ (List.replicate l.length 0) ⟨_, _, rfl, hS101.le jg105, hd101, hm101⟩ _ (intCs_rdn (intCs_rep l.length ▸ cg105) (by simp) hl6)) rfl rfl ?_)
      refine d_on (fun _ m => m.keepsI (.refl _) (jg105) hE22 hf22) ?_
      refine d_t 14 rfl rfl (by kernel_rfl) rfl (fun _ m => m.keepsI (.refl _) (jg105) hE22 hf22) (y_v rfl (v_and_t rfl rfl rfl)) ?_
      refine d_t 15 rfl rfl (by kernel_rfl) rfl (fun _ m => m.keepsI (.refl _) (jg105) hE22 hf22) (y_v rfl (v_assign rfl)) ?_
      refine d_done (by kernel_rfl) ?_
      refine go 2 ?_
      refine fin1 rfl rfl ?_
      exact q_vI rfl

end Go.Proofs.YtoadjlmbdliceaaGreat

/- The law SearchSure holds of the given program, for every input. No condition. -/
namespace Go.Proofs.YtoadjlmbdliceaaGreat
open Go Go.Sx
set_option linter.all false
theorem T.cel_24 : Tryz.prog.cellsOf 24 = 1 := by kernel_rfl
theorem T.cel_47 : Tryz.prog.cellsOf 47 = 2 := by kernel_rfl
theorem T.cel_52 : Tryz.prog.cellsOf 52 = 2 := by kernel_rfl
theorem T.cel_54 : Tryz.prog.cellsOf 54 = 6 := by kernel_rfl
theorem T.cel_56 : Tryz.prog.cellsOf 56 = 14 := by kernel_rfl
theorem T.cel_82 : Tryz.prog.cellsOf 82 = 3 := by kernel_rfl
theorem T.cel_84 : Tryz.prog.cellsOf 84 = 3 := by kernel_rfl
theorem T.cel_9 : Tryz.prog.cellsOf 9 = 1 := by kernel_rfl
instance T.fds_24 : Has (fieldsK Tryz.prog 24) [(22, 0, 1)] := ⟨by kernel_rfl⟩
instance T.fds_47 : Has (fieldsK Tryz.prog 47) [(45, 0, 1), (4, 1, 1)] := ⟨by kernel_rfl⟩
instance T.fds_52 : Has (fieldsK Tryz.prog 52) [(3, 0, 1), (3, 1, 1)] := ⟨by kernel_rfl⟩
instance T.fds_54 : Has (fieldsK Tryz.prog 54) [(52, 0, 2), (52, 2, 2), (52, 4, 2)] := ⟨by kernel_rfl⟩
instance T.fds_56 : Has (fieldsK Tryz.prog 56) [(3, 0, 1), (3, 1, 1), (9, 2, 1), (9, 3, 1), (9, 4, 1), (9, 5, 1), (9, 6, 1), (9, 7, 1), (54, 8, 6)] := ⟨by kernel_rfl⟩
instance T.fds_82 : Has (fieldsK Tryz.prog 82) [(9, 0, 1), (4, 1, 1), (80, 2, 1)] := ⟨by kernel_rfl⟩
instance T.fds_84 : Has (fieldsK Tryz.prog 84) [(9, 0, 1), (61, 1, 1), (3, 2, 1)] := ⟨by kernel_rfl⟩
namespace lawSearchSure
open Go.ChangeShapes Go.WideShapes Go.ChangeAt Go.RowKit
theorem own : ownKnob Tryz.prog.godebug = none := by kernel_rfl
set_option maxRecDepth 100000 in
theorem lifted (os : Os) (started : os.Started) (H : Type) (enc : TypeId × Value → H) :
    ReturnsInHanded {} Tryz.checked os 7 .any (Rows.searchSureSpec.pre6 enc Tryz.prog Tryz.f7 Rows.searchSureRow.domain false) (Rows.searchSureSpec.post enc Tryz.prog Tryz.f7 false true false false) := by
  refine returnsInHanded_of_change (C := Tryz.checked) own started (by kernel_rfl) Tryz.func7
    (ChangeSpec.witness6 (enc := enc) (C := Tryz.checked) false ⟨#[], #[.agg #[.slice none 0 0], .slice none 0 0, .int .u8 0], []⟩ 8 (by kernel_rfl) (by kernel_rfl) (by kernel_rfl) (by kernel_rfl)) ?_
  intro W base args ds gs before hval0 hW hcnd _
  have hval : ∀ (j : Nat) t v, Tryz.f7.params[j]? = some t → args[j]? = some v → Value.okWide Tryz.prog W .any base t v := hval0
  have hW' := hW
  obtain ⟨p, q, hA0, hV, rfl, hfz, hnd⟩ := hW
  have hA : DataW.TrodAll enc Tryz.prog W 0 (fun _ => true) true Tryz.f7.params.toList args.toList ds p := hA0
  rw [Tryz.params7] at hA hval
  obtain ⟨v0, vs0, d0, ds0, p0, q0, hargs, rfl, rfl, h0, r0⟩ := trodAll_cons hA
  obtain ⟨v1, vs1, d1, ds1, p1, q1, rfl, rfl, rfl, h1, r1⟩ := trodAll_cons r0
  obtain ⟨v2, vs2, d2, ds2, p2, q2, rfl, rfl, rfl, h2, r2⟩ := trodAll_cons r1
  obtain ⟨rfl, rfl, rfl⟩ := trodAll_nil r2
  obtain rfl : args = #[v0, v1, v2] := by cases args; simp_all
  obtain ⟨rfl, rfl⟩ := trodVars_none hV
  clear hA0 hval0
  obtain ⟨cs0, rfl, hz0⟩ := okWide_agg T.fds_24.eq (hval 0 24 v0 rfl rfl)
  obtain ⟨fu0, hf0⟩ := h0
  obtain ⟨l0, ⟨u0, e0, R0⟩, G0⟩ := (opens_wrap T.fds_24.eq T.cel_24 (opens_slice T.und_22.eq T.cel_82 rfl (opens_kind T.fds_82.eq T.cel_82 (opens_string T.und_9.eq) (opens_bool T.und_4.eq) (opens_slice T.und_80.eq T.cel_84 rfl (opens_slot T.fds_84.eq T.cel_84 (opens_string T.und_9.eq) (opens_slice T.und_61.eq T.cel_9 rfl (opens_string T.und_9.eq)) (opens_int T.und_3.eq)))))) enc W 0 _ true fu0 _ _ hf0
  obtain rfl : cs0 = #[u0] := Array.toList_inj.1 e0
  obtain ⟨s1, n1, c1, rfl⟩ := okWide_slice T.und_25.eq (hval 1 25 v1 rfl rfl)
  obtain ⟨fu1, hf1⟩ := h1
  obtain ⟨l1, ⟨u1, e1, R1⟩, G1⟩ := (opens_slice T.und_25.eq T.cel_47 rfl (opens_rep T.fds_47.eq T.cel_47 (opens_slice T.und_45.eq T.cel_56 rfl (opens_evt T.fds_56.eq T.cel_56 (opens_int T.und_3.eq) (opens_string T.und_9.eq) (opens_use T.fds_54.eq T.cel_54 (opens_ivl T.fds_52.eq T.cel_52 (opens_int T.und_3.eq))))) (opens_bool T.und_4.eq))) enc W 0 _ true fu1 _ _ hf1
  cases e1
  obtain ⟨a2, rfl, rfl, rfl, w2⟩ := open_int T.und_5.eq (hval 2 5 v2 rfl rfl) h2
  exact law_calls (s := Rows.searchSureSpec) Tryz.call7 (lawSSure (Iw W) _ l0 R0 G0 _ l1 R1 G1 a2 w2) hW' (by kernel_rfl) (by kernel_rfl) rfl T.und_4.eq rfl rfl
theorem over : Rows.searchSureRow.holds Tryz.pinned (OpenSpec.ofChange Rows.searchSureSpec) :=
  OpenClaim.holds_of_wide 7 Tryz.f7 rfl rfl rfl rfl rfl rfl rfl ⟨rfl, rfl, rfl, rfl, rfl⟩ rfl rfl rfl rfl rfl (by kernel_rfl) Tryz.func7 (by kernel_rfl)
    (of_decide_eq_true (by kernel_rfl)) (by unfold Func.isWrapper; first | (rw [if_pos (by decide +kernel)]; kernel_rfl) | (rw [if_neg (by decide +kernel)]; exact ⟨rfl, rfl⟩))
    (fun os started H enc _ => lifted os started H enc)
/-- the statement -/
theorem proved : Rows.SearchSureSaid := over
end lawSearchSure
end Go.Proofs.YtoadjlmbdliceaaGreat

