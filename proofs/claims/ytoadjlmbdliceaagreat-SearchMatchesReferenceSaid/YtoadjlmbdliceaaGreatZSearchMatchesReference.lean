/- The law SearchMatchesReference holds of the given program, for every input. No condition. -/
import Derived.Test.YtoadjlmbdliceaaGreatYc
import Derived.Carry
import Derived.ChangeArms
import Derived.Deep.Slices
import Derived.OpenShut
import Derived.ProofKit
import Derived.Test.YtoadjlmbdliceaaGreatRows
/- How what comes in is read: out of the row's reading into the data of the walks; how a law's row is closed. -/
set_option linter.all false
namespace Go.Sx
open Go

def Iw (w : World) : IMap := fun b => w.heap[b]?
theorem Iw_mem (w : World) : Mem ⟨foots [], Iw w, w⟩ (Iw w) [] w :=
  ⟨Upd.refl _ _, fun _ _ h => h, ILe.refl _, fun _ h => .inl h, fun _ h => (by cases h), fun _ h => (by cases h), List.nodup_nil⟩
theorem cell_I {w : World} {b off : Nat} {v : Value} (h : w.cell? ⟨b, off, none⟩ = some v) : ICell (Iw w) b off v := by
  unfold World.cell? at h
  split at h
  · rename_i c t fz hb
    exact ⟨c, t, fz, hb, by simpa using h⟩
  · cases h
/-- whatever reads as this type reads as this -/
def Opens (P : Program) (t : TypeId) (α : Type) [Enc α] (G : α → Prop) : Prop :=
  ∀ {H : Type} (enc : TypeId × Value → H) (w : World) (base : Nat) (spare : Nat → Bool) (held : Bool) (fuel : Nat) (cs : List Value) (x : DataW H × List MemPlace),
    DataW.trod enc P w base spare held fuel t cs = some x → ∃ y : α, Enc.rd (Iw w) cs y ∧ G y
abbrev SmB (s : ByteArray) : Prop := s.size ≤ maxLen
theorem wf_i64 {n : Int} (h : (Lit.int .i64 n).wf = true) : I64 n := by
  simp only [Lit.wf, Bool.and_eq_true, decide_eq_true_eq] at h
  unfold I64; simpa [IntKind.min, IntKind.max, IntKind.signed, IntKind.bits] using h
section
variable {P : Program} {t e : TypeId}
theorem opens_string (ht : P.underlying t = some .string) : Opens P t ByteArray SmB := by
  intro H enc w base spare held fuel cs x h
  obtain ⟨s, rfl, _, h2⟩ := DataW.trod_string ht h
  exact ⟨s, rfl, h2⟩
theorem opens_int (ht : P.underlying t = some (.int .i64)) : Opens P t Int I64 := by
  intro H enc w base spare held fuel cs x h
  obtain ⟨s, rfl, _, h2⟩ := DataW.trod_int ht h
  exact ⟨s, rfl, wf_i64 h2⟩
theorem opens_bool (ht : P.underlying t = some .bool) : Opens P t Bool (fun _ => True) := by
  intro H enc w base spare held fuel cs x h
  obtain ⟨b, rfl, _⟩ := DataW.trod_bool ht h
  exact ⟨b, rfl, trivial⟩
theorem choose_list {α : Type} {p : Nat → α → Prop} : ∀ n : Nat, (∀ i, i < n → ∃ x, p i x) → ∃ l : List α, l.length = n ∧ ∀ i x, l[i]? = some x → p i x
  | 0, _ => ⟨[], rfl, fun i x h => by simp at h⟩
  | n + 1, h => by
    obtain ⟨l, h1, h2⟩ := choose_list n (fun i hi => h i (by omega))
    obtain ⟨x, hx⟩ := h n (by omega)
    refine ⟨l ++ [x], by simp [h1], fun i y hy => ?_⟩
    rcases Nat.lt_or_ge i l.length with hi | hi
    · rw [List.getElem?_append_left hi] at hy; exact h2 i y hy
    · rw [List.getElem?_append_right hi] at hy
      have h3 : i - l.length = 0 := by
        rcases Nat.eq_zero_or_pos (i - l.length) with h | h
        · exact h
        · rw [List.getElem?_eq_none (by simp; omega)] at hy; cases hy
      rw [h3] at hy
      simp at hy
      subst hy
      obtain rfl : i = n := by omega
      exact hx
theorem opens_slice {α : Type} [Enc α] {G : α → Prop} (ht : P.underlying t = some (.slice e)) (hc : P.cellsOf e = Enc.k α) (hk : Nat.blt 0 (Enc.k α) = true) (he : Opens P e α G) : Opens P t (List α) (fun l => ∀ x ∈ l, G x) := by
  intro H enc w base spare held fuel cs x h
  rcases Deep.open_slice ht h with ⟨rfl, _⟩ | ⟨a, len, cap, m, n, D, Pl, rfl, hb, hl, hm, hmm, _, hx⟩
  · exact ⟨[], ⟨_, rfl, RdS.nil'⟩, fun _ h => by cases h⟩
  have hlm : len ≤ m := by rw [hmm]; split <;> omega
  obtain ⟨l, h1, h2⟩ := choose_list (p := fun i y => ∃ vs, (∀ j u, vs[j]? = some u → w.cell? ((a.add (i * P.cellsOf e)).add j) = some u) ∧ vs.length = Enc.k α ∧ Enc.rd (Iw w) vs y ∧ G y) len (fun i hi => by
    obtain ⟨cs', h3, h4⟩ := hx i (by omega)
    obtain ⟨y, h5, h6⟩ := he enc w base spare held n cs' _ h4
    obtain ⟨_, h7, h8⟩ := World.cells?_some h3
    refine ⟨y, cs', fun j u hu => ?_, Enc.len h5, h5, h6⟩
    have hj : j < cs'.length := (List.getElem?_eq_some_iff.1 hu).1
    rw [h8 j (by omega), hu])
  subst h1
  refine ⟨l, ⟨_, rfl, some a, cap, rfl, fun hp => ?_, hl, by unfold maxLen at hm; exact hm⟩, fun x hx => ?_⟩
  · have hk' : 0 < Enc.k α := by simpa [Nat.blt_eq] using hk
    have hsp : a.spot = none := by
      obtain ⟨vs, h3, h4, _⟩ := h2 0 l[0] (List.getElem?_eq_getElem hp)
      have h5 := h3 0 vs[0] (List.getElem?_eq_getElem (by omega))
      unfold World.cell? at h5
      split at h5
      · split at h5
        · cases h5
        · rename_i hn; simpa [Addr.add] using hn
      · cases h5
    obtain ⟨b, o, sp⟩ := a
    simp only at hsp
    subst hsp
    refine ⟨b, o, rfl, fun i x hi => ?_⟩
    obtain ⟨vs, h3, h4, h5, _⟩ := h2 i x hi
    refine ⟨vs, fun j u hu => cell_I ?_, h5⟩
    have h6 := h3 j u hu
    rw [add_lit, add_lit, hc] at h6
    exact h6
  · obtain ⟨i, hi, rfl⟩ := List.getElem_of_mem hx
    obtain ⟨_, _, _, _, h3⟩ := h2 i _ (List.getElem?_eq_getElem hi)
    exact h3
def fieldsK (P : Program) (t : TypeId) : Option (List (TypeId × Nat × Nat)) :=
  match P.underlying t with
  | some (.struct fs) => some (fs.toList.map fun f => (f.type, f.offset, P.cellsOf f.type))
  | _ => none
theorem trod_fields {H : Type} {enc : TypeId × Value → H} {w : World} {base : Nat} {spare : Nat → Bool} {held : Bool} {fuel : Nat} {cs : List Value} {x : DataW H × List MemPlace} {l : List (TypeId × Nat × Nat)}
    (hf : fieldsK P t = some l) (h : DataW.trod enc P w base spare held fuel t cs = some x) :
    cs.length = P.cellsOf t ∧ ∀ q ∈ l, ∃ n y, DataW.trod enc P w base spare held n q.1 ((cs.drop q.2.1).take q.2.2) = some y := by
  unfold fieldsK at hf
  split at hf
  · rename_i fs ht
    simp only [Option.some.injEq] at hf
    subst hf
    obtain ⟨xs, n, _, _, h1, h2, h3⟩ := DataW.trod_struct ht h
    refine ⟨h1, fun q hq => ?_⟩
    obtain ⟨f, hf, rfl⟩ := List.mem_map.1 hq
    obtain ⟨i, hi, rfl⟩ := List.getElem_of_mem hf
    have hi' : i < fs.size := by simpa using hi
    have h4 := h3 i fs[i] (by simp [hi'])
    rw [List.getElem?_eq_getElem (by omega)] at h4
    exact ⟨n, _, by simpa using h4⟩
  · cases hf
theorem okWide_agg {l : List (TypeId × Nat × Nat)} {w : World} {r : Reach} {base : Nat} {v : Value} (hf : fieldsK P t = some l) (h : Value.okWide P w r base t v) : ∃ cs, v = .agg cs ∧ cs.size = P.cellsOf t := by
  unfold fieldsK at hf
  split at hf
  · rename_i fs ht; exact WideShapes.okWide_struct ht h
  · cases hf
theorem len_cons {cs : List Value} {n : Nat} (h : cs.length = n + 1) : ∃ a r, cs = a :: r ∧ r.length = n := by
  cases cs with
  | nil => simp at h
  | cons a r => exact ⟨a, r, rfl, by simpa using h⟩
theorem len_nil {cs : List Value} (h : cs.length = 0) : cs = [] := List.eq_nil_of_length_eq_zero h
/-- a struct of one field -/
theorem opens_wrap {α : Type} [Enc α] {G : α → Prop} {t0 : TypeId} {k : Nat} (hf : fieldsK P t = some [(t0, 0, k)]) (hc : P.cellsOf t = k) (h0 : Opens P t0 α G) : Opens P t α G := by
  intro H enc w base spare held fuel cs x h
  obtain ⟨hl, hall⟩ := trod_fields hf h
  obtain ⟨n, y, h1⟩ := hall (t0, 0, k) (by simp)
  have e : (cs.drop 0).take k = cs := by rw [List.drop_zero]; exact List.take_of_length_le (by omega)
  rw [show ((t0, 0, k) : TypeId × Nat × Nat).2.1 = 0 from rfl, show ((t0, 0, k) : TypeId × Nat × Nat).2.2 = k from rfl, e] at h1
  exact h0 enc w base spare held n cs y h1
/-! the types of this program -/
def OkIvl (x : Ivl) : Prop := I64 x.low ∧ I64 x.high
def OkUse (x : Use) : Prop := OkIvl x.km ∧ OkIvl x.cycles ∧ OkIvl x.load
structure OkE (e : Evt) : Prop where
  op : I64 e.op
  day : I64 e.day
  part : SmB e.part
  kind : SmB e.kind
  into : SmB e.into
  slot : SmB e.slot
  key : SmB e.key
  value : SmB e.value
  use : OkUse e.use
def OkSl (s : Slot) : Prop := SmB s.name ∧ (∀ k ∈ s.kinds, SmB k) ∧ I64 s.normal
def OkKd (k : Kind) : Prop := SmB k.name ∧ ∀ s ∈ k.slots, OkSl s
theorem opens_ivl {t0 : TypeId} (hf : fieldsK P t = some [(t0, 0, 1), (t0, 1, 1)]) (hc : P.cellsOf t = 2) (h0 : Opens P t0 Int I64) : Opens P t Ivl OkIvl := by
  intro H enc w base spare held fuel cs x h
  obtain ⟨hl, hall⟩ := trod_fields hf h
  rw [hc] at hl
  obtain ⟨a, r0_, rfl, l0_⟩ := len_cons hl
  obtain ⟨b, r1_, rfl, l1_⟩ := len_cons l0_
  obtain rfl := len_nil l1_
  obtain ⟨n0, y0, h1⟩ := hall (t0, 0, 1) (by simp)
  obtain ⟨n1, y1, h2⟩ := hall (t0, 1, 1) (by simp)
  obtain ⟨x0, e0, g0⟩ := h0 enc w base spare held n0 _ y0 h1
  obtain ⟨x1, e1, g1⟩ := h0 enc w base spare held n1 _ y1 h2
  have e0 : [a] = [.int .i64 x0] := e0
  have e1 : [b] = [.int .i64 x1] := e1
  cases e0
  cases e1
  exact ⟨⟨x0, x1⟩, rfl, g0, g1⟩
theorem opens_three {t0 : TypeId} {w : World} {H : Type} {enc : TypeId × Value → H} {base : Nat} {spare : Nat → Bool} {held : Bool} {fuel : Nat} {cs : List Value} {x : DataW H × List MemPlace} (hf : fieldsK P t = some [(t0, 0, 2), (t0, 2, 2), (t0, 4, 2)]) (hc : P.cellsOf t = 6) (h0 : Opens P t0 Ivl OkIvl)
    (h : DataW.trod enc P w base spare held fuel t cs = some x) : ∃ a b c : Ivl, cs = a.cells ++ (b.cells ++ c.cells) ∧ OkIvl a ∧ OkIvl b ∧ OkIvl c := by
  obtain ⟨hl, hall⟩ := trod_fields hf h
  rw [hc] at hl
  obtain ⟨a, r0_, rfl, l0_⟩ := len_cons hl
  obtain ⟨b, r1_, rfl, l1_⟩ := len_cons l0_
  obtain ⟨c, r2_, rfl, l2_⟩ := len_cons l1_
  obtain ⟨d, r3_, rfl, l3_⟩ := len_cons l2_
  obtain ⟨e, r4_, rfl, l4_⟩ := len_cons l3_
  obtain ⟨f, r5_, rfl, l5_⟩ := len_cons l4_
  obtain rfl := len_nil l5_
  obtain ⟨n0, y0, h1⟩ := hall (t0, 0, 2) (by simp)
  obtain ⟨n1, y1, h2⟩ := hall (t0, 2, 2) (by simp)
  obtain ⟨n2, y2, h3⟩ := hall (t0, 4, 2) (by simp)
  obtain ⟨x0, e0, g0⟩ := h0 enc w base spare held n0 _ y0 h1
  obtain ⟨x1, e1, g1⟩ := h0 enc w base spare held n1 _ y1 h2
  obtain ⟨x2, e2, g2⟩ := h0 enc w base spare held n2 _ y2 h3
  have e0 : [a, b] = x0.cells := e0
  have e1 : [c, d] = x1.cells := e1
  have e2 : [e, f] = x2.cells := e2
  exact ⟨x0, x1, x2, by rw [← e0, ← e1, ← e2]; rfl, g0, g1, g2⟩
theorem opens_use {t0 : TypeId} (hf : fieldsK P t = some [(t0, 0, 2), (t0, 2, 2), (t0, 4, 2)]) (hc : P.cellsOf t = 6) (h0 : Opens P t0 Ivl OkIvl) : Opens P t Use OkUse := by
  intro H enc w base spare held fuel cs x h
  obtain ⟨a, b, c, rfl, h1, h2, h3⟩ := opens_three hf hc h0 h
  exact ⟨⟨a, b, c⟩, rfl, h1, h2, h3⟩
theorem opens_evt {ti ts tu : TypeId} (hf : fieldsK P t = some [(ti, 0, 1), (ti, 1, 1), (ts, 2, 1), (ts, 3, 1), (ts, 4, 1), (ts, 5, 1), (ts, 6, 1), (ts, 7, 1), (tu, 8, 6)]) (hc : P.cellsOf t = 14) (hi : Opens P ti Int I64) (hs : Opens P ts ByteArray SmB) (hu : Opens P tu Use OkUse) : Opens P t Evt OkE := by
  intro H enc w base spare held fuel cs x h
  obtain ⟨hl, hall⟩ := trod_fields hf h
  rw [hc] at hl
  obtain ⟨a0, r0_, rfl, l0_⟩ := len_cons hl
  obtain ⟨a1, r1_, rfl, l1_⟩ := len_cons l0_
  obtain ⟨a2, r2_, rfl, l2_⟩ := len_cons l1_
  obtain ⟨a3, r3_, rfl, l3_⟩ := len_cons l2_
  obtain ⟨a4, r4_, rfl, l4_⟩ := len_cons l3_
  obtain ⟨a5, r5_, rfl, l5_⟩ := len_cons l4_
  obtain ⟨a6, r6_, rfl, l6_⟩ := len_cons l5_
  obtain ⟨a7, r7_, rfl, l7_⟩ := len_cons l6_
  obtain ⟨a8, r8_, rfl, l8_⟩ := len_cons l7_
  obtain ⟨a9, r9_, rfl, l9_⟩ := len_cons l8_
  obtain ⟨a10, r10_, rfl, l10_⟩ := len_cons l9_
  obtain ⟨a11, r11_, rfl, l11_⟩ := len_cons l10_
  obtain ⟨a12, r12_, rfl, l12_⟩ := len_cons l11_
  obtain ⟨a13, r13_, rfl, l13_⟩ := len_cons l12_
  obtain rfl := len_nil l13_
  obtain ⟨n0, y0, h0⟩ := hall (ti, 0, 1) (by simp)
  obtain ⟨x0, e0, g0⟩ := hi enc w base spare held n0 _ y0 h0
  have e0 : [a0] = [.int .i64 x0] := e0
  cases e0
  obtain ⟨n1, y1, h1⟩ := hall (ti, 1, 1) (by simp)
  obtain ⟨x1, e1, g1⟩ := hi enc w base spare held n1 _ y1 h1
  have e1 : [a1] = [.int .i64 x1] := e1
  cases e1
  obtain ⟨n2, y2, h2⟩ := hall (ts, 2, 1) (by simp)
  obtain ⟨x2, e2, g2⟩ := hs enc w base spare held n2 _ y2 h2
  have e2 : [a2] = [.string x2] := e2
  cases e2
  obtain ⟨n3, y3, h3⟩ := hall (ts, 3, 1) (by simp)
  obtain ⟨x3, e3, g3⟩ := hs enc w base spare held n3 _ y3 h3
  have e3 : [a3] = [.string x3] := e3
  cases e3
  obtain ⟨n4, y4, h4⟩ := hall (ts, 4, 1) (by simp)
  obtain ⟨x4, e4, g4⟩ := hs enc w base spare held n4 _ y4 h4
  have e4 : [a4] = [.string x4] := e4
  cases e4
  obtain ⟨n5, y5, h5⟩ := hall (ts, 5, 1) (by simp)
  obtain ⟨x5, e5, g5⟩ := hs enc w base spare held n5 _ y5 h5
  have e5 : [a5] = [.string x5] := e5
  cases e5
  obtain ⟨n6, y6, h6⟩ := hall (ts, 6, 1) (by simp)
  obtain ⟨x6, e6, g6⟩ := hs enc w base spare held n6 _ y6 h6
  have e6 : [a6] = [.string x6] := e6
  cases e6
  obtain ⟨n7, y7, h7⟩ := hall (ts, 7, 1) (by simp)
  obtain ⟨x7, e7, g7⟩ := hs enc w base spare held n7 _ y7 h7
  have e7 : [a7] = [.string x7] := e7
  cases e7
  obtain ⟨n8, y8, h8⟩ := hall (tu, 8, 6) (by simp)
  obtain ⟨x8, e8, g8⟩ := hu enc w base spare held n8 _ y8 h8
  have e8 : [a8, a9, a10, a11, a12, a13] = x8.cells := e8
  cases e8
  exact ⟨⟨x0, x1, x2, x3, x4, x5, x6, x7, x8⟩, rfl, ⟨g0, g1, g2, g3, g4, g5, g6, g7, g8⟩⟩
theorem opens_slot {ti tk ts : TypeId} (hf : fieldsK P t = some [(ts, 0, 1), (tk, 1, 1), (ti, 2, 1)]) (hc : P.cellsOf t = 3) (hs : Opens P ts ByteArray SmB) (hk : Opens P tk (List ByteArray) (fun l => ∀ x ∈ l, SmB x)) (hi : Opens P ti Int I64) : Opens P t Slot OkSl := by
  intro H enc w base spare held fuel cs x h
  obtain ⟨hl, hall⟩ := trod_fields hf h
  rw [hc] at hl
  obtain ⟨a0, r0_, rfl, l0_⟩ := len_cons hl
  obtain ⟨a1, r1_, rfl, l1_⟩ := len_cons l0_
  obtain ⟨a2, r2_, rfl, l2_⟩ := len_cons l1_
  obtain rfl := len_nil l2_
  obtain ⟨n0, y0, h0⟩ := hall (ts, 0, 1) (by simp)
  obtain ⟨x0, e0, g0⟩ := hs enc w base spare held n0 _ y0 h0
  have e0 : [a0] = [.string x0] := e0
  cases e0
  obtain ⟨n1, y1, h1⟩ := hall (tk, 1, 1) (by simp)
  obtain ⟨x1, e1, g1⟩ := hk enc w base spare held n1 _ y1 h1
  obtain ⟨v1, e1, r1⟩ := e1
  have e1 : [a1] = [v1] := e1
  cases e1
  obtain ⟨n2, y2, h2⟩ := hall (ti, 2, 1) (by simp)
  obtain ⟨x2, e2, g2⟩ := hi enc w base spare held n2 _ y2 h2
  have e2 : [a2] = [.int .i64 x2] := e2
  cases e2
  exact ⟨⟨x0, x1, x2⟩, ⟨_, rfl, r1⟩, g0, g1, g2⟩
theorem opens_kind {tb tk ts : TypeId} (hf : fieldsK P t = some [(ts, 0, 1), (tb, 1, 1), (tk, 2, 1)]) (hc : P.cellsOf t = 3) (hs : Opens P ts ByteArray SmB) (hb : Opens P tb Bool (fun _ => True)) (hk : Opens P tk (List Slot) (fun l => ∀ x ∈ l, OkSl x)) : Opens P t Kind OkKd := by
  intro H enc w base spare held fuel cs x h
  obtain ⟨hl, hall⟩ := trod_fields hf h
  rw [hc] at hl
  obtain ⟨a0, r0_, rfl, l0_⟩ := len_cons hl
  obtain ⟨a1, r1_, rfl, l1_⟩ := len_cons l0_
  obtain ⟨a2, r2_, rfl, l2_⟩ := len_cons l1_
  obtain rfl := len_nil l2_
  obtain ⟨n0, y0, h0⟩ := hall (ts, 0, 1) (by simp)
  obtain ⟨x0, e0, g0⟩ := hs enc w base spare held n0 _ y0 h0
  have e0 : [a0] = [.string x0] := e0
  cases e0
  obtain ⟨n1, y1, h1⟩ := hall (tb, 1, 1) (by simp)
  obtain ⟨x1, e1, g1⟩ := hb enc w base spare held n1 _ y1 h1
  have e1 : [a1] = [.bool x1] := e1
  cases e1
  obtain ⟨n2, y2, h2⟩ := hall (tk, 2, 1) (by simp)
  obtain ⟨x2, e2, g2⟩ := hk enc w base spare held n2 _ y2 h2
  obtain ⟨v2, e2, r2⟩ := e2
  have e2 : [a2] = [v2] := e2
  cases e2
  exact ⟨⟨x0, x1, x2⟩, ⟨_, rfl, r2⟩, g0, g2⟩
/-! a law's row -/
open Go.ChangeShapes Go.WideShapes Go.RowKit
variable {H : Type} {enc : TypeId × Value → H}
theorem trodAll_later {W W' : World} (hl : laidOutB P = true) (hb : Below W.heap.size W W') : ∀ (ts : List TypeId) (vs : List Value) (ds : List (DataW H)) (ps : List MemPlace), ts.all (fun t => P.readableRec t && decide (t < P.types.size)) = true → (∀ x ∈ ps, x.block < W.heap.size) →
    DataW.TrodAll enc P W 0 (fun _ => true) true ts vs ds ps → DataW.TrodAll enc P W' 0 (fun b => decide (b < W.heap.size)) true ts vs ds ps
  | [], vs, ds, ps, _, _, h => by
    obtain ⟨rfl, rfl, rfl⟩ := trodAll_nil h
    exact trodAll_mk0
  | t :: ts, vs, ds, ps, ht, hp, h => by
    obtain ⟨v, vs', d, ds', p, q, rfl, rfl, rfl, h1, h2⟩ := trodAll_cons h
    simp only [List.all_cons, Bool.and_eq_true, decide_eq_true_eq] at ht
    exact trodAll_cons_mk (Below.trod hl ht.1.1 ht.1.2 h1 hb fun x hx => hp x (by simp [hx])) (trodAll_later hl hb ts vs' ds' q (by simpa using ht.2) (fun x hx => hp x (by simp [hx])) h2)
theorem law_calls {f : FuncId} {fn : Func} {args : Array Value} {W : World} {s : ChangeSpec} {ds gs : List (DataW H)} {before : List MemPlace} {tb : TypeId}
    (hcall : ∀ (args : Array Value) (w : World), (callFunc f args).run P w = .ok (.enter f args) w) (hc : FnV P f args (Iw W) (.bool true)) (hW : DataW.Whole enc P fn.params.toList s.vars false W args.toList ds gs before)
    (hlaid : laidOutB P = true) (hts : fn.params.toList.all (fun t => P.readableRec t && decide (t < P.types.size)) = true) (hres : fn.resultTypes = #[tb]) (htb : P.underlying tb = some .bool)
    (hfn : s.fn H (ds ++ gs) = { results := [.lit (.bool true)], args := ds }) (hvars : s.vars = []) :
    Calls P f args W fun e W' => ∃ v, e = .returned v ∧ s.post enc P fn false true false false W args v W' := by
  have h := hc.go W (Iw_mem W)
  unfold After at h
  rw [hcall] at h
  refine Calls.mono h ?_
  rintro e W' ⟨v, I', H', rfl, hm, rfl, rfl, rfl⟩
  refine ⟨_, rfl, ?_⟩
  have hlt := hW.lt
  have hb : Below W.heap.size W W' := ⟨hm.upd.os, hm.upd.tape, hm.upd.output, hm.upd.size, fun k hk => hm.upd.block k hk (by simp [foots])⟩
  obtain ⟨p, q, hA, hV, hpq, hfz, hnd⟩ := id hW
  rw [hvars] at hV
  obtain ⟨rfl, rfl⟩ := trodVars_none hV
  refine ⟨ds, [], before, [], p, [], hW, ?_, ?_, ?_, ?_, fun h => by cases h⟩
  · rw [hfn, hres]
    exact trodAll_cons_mk (shut_bool htb _) trodAll_mk0
  · rw [hfn]
    exact trodAll_later hlaid hb _ _ _ _ hts (fun x hx => by simpa using hlt x (by rw [hpq]; simp [hx])) hA
  · rw [hfn, hvars]
    rfl
  · refine ⟨hm.upd.os, hm.upd.output, fun i hi => ?_⟩
    rw [hb.block i hi]
    cases W.heap[i]? with
    | none => rfl
    | some o => cases o <;> simp
end
end Go.Sx

/- How reports and bytes that come in are read. -/
set_option linter.all false
namespace Go.Sx
open Go
def OkRp (r : Rep) : Prop := ∀ e ∈ r.options, OkE e
section
variable {P : Program} {t : TypeId}
theorem opens_rep {tb tk : TypeId} (hf : fieldsK P t = some [(tk, 0, 1), (tb, 1, 1)]) (hc : P.cellsOf t = 2) (hk : Opens P tk (List Evt) (fun l => ∀ x ∈ l, OkE x)) (hb : Opens P tb Bool (fun _ => True)) : Opens P t Rep OkRp := by
  intro H enc w base spare held fuel cs x h
  obtain ⟨hl, hall⟩ := trod_fields hf h
  rw [hc] at hl
  obtain ⟨a0, r0_, rfl, l0_⟩ := len_cons hl
  obtain ⟨a1, r1_, rfl, l1_⟩ := len_cons l0_
  obtain rfl := len_nil l1_
  obtain ⟨n0, y0, h0⟩ := hall (tk, 0, 1) (by simp)
  obtain ⟨x0, e0, g0⟩ := hk enc w base spare held n0 _ y0 h0
  obtain ⟨v0, e0, r0⟩ := e0
  have e0 : [a0] = [v0] := e0
  cases e0
  obtain ⟨n1, y1, h1⟩ := hall (tb, 1, 1) (by simp)
  obtain ⟨x1, e1, g1⟩ := hb enc w base spare held n1 _ y1 h1
  have e1 : [a1] = [.bool x1] := e1
  cases e1
  exact ⟨⟨x0, x1⟩, ⟨_, rfl, r0⟩, g0⟩
theorem opens_u8 (ht : P.underlying t = some (.int .u8)) : Opens P t UInt8 (fun _ => True) := by
  intro H enc w base spare held fuel cs x h
  obtain ⟨s, rfl, _, h2⟩ := DataW.trod_int ht h
  have hs : 0 ≤ s ∧ s ≤ 255 := by
    simp only [Lit.wf, Bool.and_eq_true, decide_eq_true_eq] at h2
    simpa [IntKind.min, IntKind.max, IntKind.signed, IntKind.bits] using h2
  refine ⟨UInt8.ofNat s.toNat, ?_, trivial⟩
  show [Value.int .u8 s] = [.int .u8 ((UInt8.ofNat s.toNat).toNat : Int)]
  rw [UInt8.toNat_ofNat']
  congr 2
  omega
theorem u8_nat {n : Int} (h : (Lit.int .u8 n).wf = true) : ∃ a : Nat, n = (a : Int) ∧ a < 256 := by
  have h2 : 0 ≤ n ∧ n ≤ 255 := by
    simp only [Lit.wf, Bool.and_eq_true, decide_eq_true_eq] at h
    simpa [IntKind.min, IntKind.max, IntKind.signed, IntKind.bits] using h
  exact ⟨n.toNat, by omega, by omega⟩
theorem u16_nat {n : Int} (h : (Lit.int .u16 n).wf = true) : ∃ a : Nat, n = (a : Int) ∧ a < 65536 := by
  have h2 : 0 ≤ n ∧ n ≤ 65535 := by
    simp only [Lit.wf, Bool.and_eq_true, decide_eq_true_eq] at h
    simpa [IntKind.min, IntKind.max, IntKind.signed, IntKind.bits] using h
  exact ⟨n.toNat, by omega, by omega⟩
end
end Go.Sx

/- The events that choices pick. -/
set_option linter.all false
namespace Go.Sx
open Go
def okK (r : Rep) (k : Int) : Bool := !(decide (k < 0) || decide (chs r ≤ k))
def evAt (l : List Rep) (ch : List Int) (i : Nat) : Option Evt := (at2 (fun r k => r.options[k.toNat]?) l ch i).join
def evsTo (l : List Rep) (ch : List Int) (n : Nat) : List Evt := (List.range n).filterMap (evAt l ch)
def pickedF (l : List Rep) (ch : List Int) : List Evt × Int := if (decide (((l.length : Nat) : Int) = (ch.length : Nat)) && allTo okK l ch l.length) = true then (evsTo l ch l.length, 0) else ([], 1)
theorem evs_succ (l : List Rep) (ch : List Int) (i : Nat) : evsTo l ch (i + 1) = evsTo l ch i ++ (evAt l ch i).toList := by
  rw [evsTo, List.range_succ, List.filterMap_append, evsTo]
  congr 1
theorem evAt_eq {l : List Rep} {ch : List Int} {i : Nat} (h1 : i < l.length) (h2 : i < ch.length) : evAt l ch i = l[i].options[ch[i].toNat]? := by
  rw [evAt, at2_eq h1 h2]; rfl
theorem evs_no {l : List Rep} {ch : List Int} {i : Nat} {out : List Evt} (h1 : i < l.length) (h2 : i < ch.length) (hw : evsTo l ch i = out) (h : ch[i] = (l[i].options.length : Nat)) : evsTo l ch (i + 1) = out := by
  rw [evs_succ, hw, evAt_eq h1 h2, List.getElem?_eq_none (by omega)]; simp
theorem evs_yes {l : List Rep} {ch : List Int} {i : Nat} {out : List Evt} (h1 : i < l.length) (h2 : i < ch.length) (hw : evsTo l ch i = out) (hk : ch[i].toNat < l[i].options.length) : evsTo l ch (i + 1) = out ++ [l[i].options[ch[i].toNat]] := by
  rw [evs_succ, hw, evAt_eq h1 h2, List.getElem?_eq_getElem hk]; rfl
theorem evs_len (l : List Rep) (ch : List Int) (i : Nat) : (evsTo l ch i).length ≤ i := by
  unfold evsTo
  exact Nat.le_trans (List.length_filterMap_le _ _) (by simp)
theorem chs_le (r : Rep) : chs r ≤ (r.options.length : Nat) + 1 := by
  unfold chs
  split
  · omega
  · split <;> omega
theorem picked_no {l : List Rep} {ch : List Int} (h : ¬ ((l.length : Nat) : Int) = (ch.length : Nat)) : pickedF l ch = ([], 1) := by
  simp [pickedF, h]
theorem picked_bad {l : List Rep} {ch : List Int} {i : Nat} (h1 : i < l.length) (h2 : i < ch.length) (h : okK l[i] ch[i] = false) : pickedF l ch = ([], 1) := by
  simp [pickedF, allTo_not h1 h1 h2 h]
theorem picked_ok {l : List Rep} {ch : List Int} (hl : ((l.length : Nat) : Int) = (ch.length : Nat)) (h : allTo okK l ch l.length = true) : pickedF l ch = (evsTo l ch l.length, 0) := by
  simp [pickedF, hl, h]
end Go.Sx

/- The references of histories: what they compute. -/
set_option linter.all false
namespace Go.Sx
open Go
def areF (l : List Rep) (ch : List Int) : Bool := decide (((l.length : Nat) : Int) = (ch.length : Nat)) && allTo okK l ch l.length
def openOk (r : Rep) (k : Int) : Bool := !(decide (k < -1) || decide (chs r ≤ k))
def openTF (l : List Rep) (ch : List Int) : Bool := decide (((ch.length : Nat) : Int) = (l.length : Nat)) && allTo openOk l ch l.length
theorem picked_are (l : List Rep) (ch : List Int) : pickedF l ch = if areF l ch = true then (evsTo l ch l.length, 0) else ([], 1) := rfl
theorem are_len {l : List Rep} {ch : List Int} (h : areF l ch = true) : ch.length = l.length := by
  simp only [areF, Bool.and_eq_true, decide_eq_true_eq] at h; omega
theorem are_at {l : List Rep} {ch : List Int} (h : areF l ch = true) {i : Nat} (h1 : i < l.length) (h2 : i < ch.length) : 0 ≤ ch[i] ∧ ch[i] < chs l[i] := by
  simp only [areF, Bool.and_eq_true] at h
  have := allTo_at h.2 h1 h1 h2
  simp only [okK, Bool.not_eq_true', Bool.or_eq_false_iff, decide_eq_false_iff_not] at this
  omega
theorem giv_at {c : List Kind} {l : List Rep} (h : givF c l = true) : validC c = true ∧ ∀ r ∈ l, validRep r = true := by
  simp only [givF, Bool.and_eq_true] at h
  exact ⟨h.1, fun r hr => by obtain ⟨_, h1⟩ := allP_mem h.2 hr; exact h1⟩
theorem giv_are (c : List Kind) (l : List Rep) (ch : List Int) : (givF c l && areF l ch) = givenF c l ch 0 := by
  cases hg : givF c l with
  | false => rw [giv_not hg]; rfl
  | true =>
    obtain ⟨hc, hv⟩ := giv_at hg
    rw [Bool.true_and, Bool.eq_iff_iff]
    constructor
    · intro h
      refine given_mk hc (are_len h) fun i h1 h2 => ?_
      have := are_at h h1 h2
      have := chs_pos (hv _ (List.getElem_mem h1))
      omega
    · intro h
      have hl := (given_all h).1
      simp only [areF, Bool.and_eq_true, decide_eq_true_eq]
      refine ⟨by omega, allTo_of (fun i h1 h2 => ?_) hl⟩
      have := given_at h h1 h2
      simp only [okK, Bool.not_eq_true', Bool.or_eq_false_iff, decide_eq_false_iff_not]
      omega
theorem giv_open (c : List Kind) (l : List Rep) (ch : List Int) : (givF c l && openTF l ch) = givenF c l ch (-1) := by
  cases hg : givF c l with
  | false => rw [giv_not hg]; rfl
  | true =>
    obtain ⟨hc, hv⟩ := giv_at hg
    rw [Bool.true_and, Bool.eq_iff_iff]
    constructor
    · intro h
      simp only [openTF, Bool.and_eq_true, decide_eq_true_eq] at h
      refine given_mk hc (by omega) fun i h1 h2 => ?_
      have := allTo_at h.2 h1 h1 h2
      simp only [openOk, Bool.not_eq_true', Bool.or_eq_false_iff, decide_eq_false_iff_not] at this
      have := chs_pos (hv _ (List.getElem_mem h1))
      omega
    · intro h
      have hl := (given_all h).1
      simp only [openTF, Bool.and_eq_true, decide_eq_true_eq]
      refine ⟨by omega, allTo_of (fun i h1 h2 => ?_) hl⟩
      have := given_at h h1 h2
      simp only [openOk, Bool.not_eq_true', Bool.or_eq_false_iff, decide_eq_false_iff_not]
      omega
/-! the order -/
/-- an event that is picked is that of its report -/
def Pin (l : List Rep) (ch : List Int) (p : Pkd) : Prop := ∃ (i : Nat) (h1 : i < l.length) (h2 : i < ch.length) (h3 : ch[i].toNat < l[i].options.length), 0 ≤ ch[i] ∧ l[i].options[ch[i].toNat] = p.e ∧ p.rep = (i : Int)
theorem pkd_inv {day : Int} {l : List Rep} {ch : List Int} {i : Nat} {p : Pkd} (h : pkd day l ch i = some p) : ∃ (h1 : i < l.length) (h2 : i < ch.length) (h3 : ch[i].toNat < l[i].options.length), 0 ≤ ch[i] ∧ l[i].options[ch[i].toNat] = p.e ∧ p.rep = (i : Int) := by
  unfold pkd at2 at h
  split at h
  · rename_i e he
    split at h
    · cases h
      split at he
      · rename_i r k h1 h2
        obtain ⟨h3, rfl⟩ := List.getElem?_eq_some_iff.1 h1
        obtain ⟨h4, rfl⟩ := List.getElem?_eq_some_iff.1 h2
        have h5 := opt_some (L := day) (r := l[i]) (k := ch[i]) (e := e) (by simpa using he)
        simp only [Option.join_some, optAt] at he
        split at he
        · rename_i h0
          split at he
          · rename_i e' h6
            split at he
            · cases he
              obtain ⟨h7, h8⟩ := List.getElem?_eq_some_iff.1 h6
              exact ⟨h3, h4, h7, h0, h8, rfl⟩
            · cases he
          · cases he
        · cases he
      · simp at he
    · cases h
  · cases h
theorem pick_inv {day : Int} {l : List Rep} {ch : List Int} {n : Nat} {p : Pkd} (h : p ∈ sortF (pickF day l ch n)) : Pin l ch p := by
  have h := sortF_mem.1 h
  rw [pickF, List.mem_filterMap] at h
  obtain ⟨i, _, h⟩ := h
  exact ⟨i, pkd_inv h⟩
/-- the indices of the events that are picked, in order -/
def ordI (day : Int) (l : List Rep) (ch : List Int) (n : Nat) : List Int := (sortF (pickF day l ch n)).map Pkd.rep
theorem sort_snoc {A : List Pkd} {x : Pkd} {k : Nat} (hk : k ≤ (sortF A).length) (h1 : ∀ j (h : j < (sortF A).length), k ≤ j → x.e.day < (sortF A)[j].e.day) (h2 : ∀ j (h : j < (sortF A).length), j < k → (sortF A)[j].e.day ≤ x.e.day) :
    sortF (A ++ [x]) = (sortF A).take k ++ x :: (sortF A).drop k := by
  have hs := sortF_srt A
  have hlen := sortF_len A
  have hst : ∀ d, (sortF A).filter (fun e => decide (Day.day e = d)) = A.filter (fun e => decide (Day.day e = d)) := fun d => sortF_filter d A
  generalize sortF A = P at *
  symm
  have e1 : P = P.take k ++ P.drop k := (List.take_append_drop k P).symm
  have hs' := hs
  rw [e1] at hs'
  unfold Srtd at hs'
  obtain ⟨s1, s2, s3⟩ := List.pairwise_append.1 hs'
  refine sortF_is ⟨?_, fun d => ?_⟩ ?_
  · simp only [List.length_append, List.length_cons, List.length_take, List.length_drop, List.length_nil]; omega
  · rw [List.filter_append, List.filter_cons, List.filter_append, ← hst d, List.filter_cons, List.filter_nil]
    conv => rhs; rw [e1, List.filter_append]
    by_cases hx : Day.day x = d
    · have h0 : (P.drop k).filter (fun e => decide (Day.day e = d)) = [] := by
        rw [List.filter_eq_nil_iff]
        intro y hy
        obtain ⟨j, hj, rfl⟩ := List.getElem_of_mem hy
        rw [List.length_drop] at hj
        rw [List.getElem_drop]
        have := h1 (k + j) (by omega) (by omega)
        have hx : x.e.day = d := hx
        simp only [decide_eq_true_eq]
        show ¬ (P[k + j]).e.day = d
        omega
      simp [hx, h0]
    · simp [hx]
  · unfold Srtd
    refine List.pairwise_append.2 ⟨s1, List.pairwise_cons.2 ⟨fun y hy => ?_, s2⟩, fun y hy z hz => ?_⟩
    · obtain ⟨j, hj, rfl⟩ := List.getElem_of_mem hy
      rw [List.length_drop] at hj
      rw [List.getElem_drop]
      have := h1 (k + j) (by omega) (by omega)
      show x.e.day ≤ (P[k + j]).e.day
      omega
    · rcases List.mem_cons.1 hz with rfl | hz
      · obtain ⟨j, hj, rfl⟩ := List.getElem_of_mem hy
        rw [List.length_take] at hj
        rw [List.getElem_take]
        exact h2 j (by omega) (by omega)
      · exact s3 y hy z hz
theorem ord_yes {day : Int} {l : List Rep} {ch : List Int} {i k : Nat} {x : Pkd} {P : List Pkd} (hP : sortF (pickF day l ch i) = P) (hx : pickF day l ch (i + 1) = pickF day l ch i ++ [x]) (hr : x.rep = (i : Int)) (hk : k ≤ P.length) (h1 : ∀ j (h : j < P.length), k ≤ j → x.e.day < P[j].e.day) (h2 : ∀ j (h : j < P.length), j < k → P[j].e.day ≤ x.e.day) :
    ordI day l ch (i + 1) = (P.map Pkd.rep).take k ++ ([(i : Int)] ++ (P.map Pkd.rep).drop k) := by
  subst hP
  rw [ordI, hx, sort_snoc hk h1 h2, List.map_append, List.map_cons, List.map_take, List.map_drop, hr]; rfl
theorem ord_no {day : Int} {l : List Rep} {ch : List Int} {i : Nat} {P : List Pkd} (hP : sortF (pickF day l ch i) = P) (hx : pickF day l ch (i + 1) = pickF day l ch i) : ordI day l ch (i + 1) = P.map Pkd.rep := by
  rw [ordI, hx, hP]
theorem srt_down {P : List Pkd} (hs : Srtd P) {k : Nat} {d : Int} (hk : 0 < k) (hl : k ≤ P.length) (h : P[k - 1].e.day ≤ d) (j : Nat) (hj : j < P.length) (hjk : j < k) : P[j].e.day ≤ d := by
  rcases Nat.lt_or_ge j (k - 1) with h1 | h1
  · have := (List.pairwise_iff_getElem.1 hs) j (k - 1) hj (by omega) h1
    have : P[j].e.day ≤ P[k - 1].e.day := this
    omega
  · obtain rfl : j = k - 1 := by omega
    exact h
theorem mem_at {P : List Pkd} {i : Nat} (h : i < P.length) : P[i] ∈ P := List.getElem_mem h
/-! days beyond the last one -/
theorem opt_far {d1 d2 : Int} {r : Rep} {k : Int} (hv : validRep r = true) (h1 : 40000 < d1) (h2 : 40000 < d2) : optAt d1 r k = optAt d2 r k := by
  unfold optAt
  split
  · cases hq : r.options[k.toNat]? with
    | none => rfl
    | some e =>
      have := (validE_day (validRep_e hv e (List.mem_of_getElem? hq))).2
      simp only
      rw [if_pos (by omega), if_pos (by omega)]
  · rfl
theorem pick_far {d1 d2 : Int} {l : List Rep} {ch : List Int} (hv : ∀ r ∈ l, validRep r = true) (h1 : 40000 < d1) (h2 : 40000 < d2) : ∀ n, pickF d1 l ch n = pickF d2 l ch n := by
  intro n
  induction n with
  | zero => rfl
  | succ n ih =>
    rw [pick_succ, pick_succ, ih]
    congr 2
    unfold pkd at2
    cases hl : l[n]? with
    | none => rfl
    | some r =>
      cases ch[n]? with
      | none => rfl
      | some k => simp only [opt_far (d1 := d1) (d2 := d2) (hv r (List.mem_of_getElem? hl)) h1 h2]
theorem follow_far {c : List Kind} {l : List Rep} {ch : List Int} {d1 d2 : Int} (hv : ∀ r ∈ l, validRep r = true) (h1 : 40000 < d1) (h2 : 40000 < d2) : followF c l ch d1 = followF c l ch d2 := by
  rw [followF, followF, pick_far hv h1 h2]
/-- the least day, from a later bound -/
def leastR (l : List Int) : Int := l.foldl (fun a d => if d < a then d else a) 50000
theorem leastR_snoc (l : List Int) (d : Int) : leastR (l ++ [d]) = if d < leastR l then d else leastR l := by
  rw [leastR, List.foldl_append]; rfl
theorem fold_least : ∀ (l : List Int) (a b : Int), a ≤ b → (∀ d ∈ l, d < a) → l ≠ [] → l.foldl (fun a d => if d < a then d else a) a = l.foldl (fun a d => if d < a then d else a) b
  | [], _, _, _, _, h => absurd rfl h
  | x :: r, a, b, hab, h, _ => by
    have := h x (by simp)
    rw [List.foldl_cons, List.foldl_cons, if_pos this, if_pos (by omega)]
theorem follow_least {c : List Kind} {l : List Rep} {ch : List Int} (hl : ch.length = l.length) (hv : ∀ r ∈ l, validRep r = true) : followF c l ch (leastR (openDays l ch l.length)) = followF c l ch (leastF (openDays l ch l.length)) := by
  by_cases h : openDays l ch l.length = []
  · rw [h]; exact follow_far hv (by decide) (by decide)
  · congr 1
    refine (fold_least _ 40001 50000 (by decide) (fun d hd => ?_) h).symm
    obtain ⟨i, h1, _, _, e, he, rfl⟩ := (mem_open hl).1 hd
    have := (validE_day (validRep_e (hv _ (List.getElem_mem h1)) e he)).2
    omega
/-! the answers -/
theorem ref_fails {c : List Kind} {l : List Rep} {ch : List Int} (hg : givF c l = true) (ha : areF l ch = true) : followF c l ch 50000 = failsF c l ch := by
  have h : givenF c l ch 0 = true := by rw [← giv_are, hg, ha]; rfl
  rw [failsF, if_neg (by rw [h]; decide), follow_far (giv_at hg).2 (by decide) (by decide : (40000 : Int) < 40001)]
theorem ref_fails_no {c : List Kind} {l : List Rep} {ch : List Int} (h : (givF c l && areF l ch) = false) : failsF c l ch = (-1, 1) := by
  rw [giv_are] at h
  rw [failsF, if_pos h]
theorem evs_pickE {l : List Rep} {ch : List Int} (ha : areF l ch = true) (hv : ∀ r ∈ l, validRep r = true) : evsTo l ch l.length = pickE 40001 l ch := by
  have hl := are_len ha
  rw [← pickE_eq hl hv]
  have key : ∀ n, n ≤ l.length → evsTo l ch n = (pickF 40001 l ch n).map Pkd.e := by
    intro n
    induction n with
    | zero => intro _; rfl
    | succ n ih =>
      intro hn
      have h1 : n < l.length := by omega
      have h2 : n < ch.length := by omega
      rw [evs_succ, pick_succ, List.map_append, ih (by omega)]
      congr 1
      have h3 := are_at ha h1 h2
      rw [evAt_eq h1 h2, pkd, at2_eq h1 h2]
      cases hq : l[n].options[ch[n].toNat]? with
      | none => simp [optAt, h3, hq]
      | some e =>
        have hd := validE_day (validRep_e (hv _ (List.getElem_mem h1)) e (List.mem_of_getElem? hq))
        simp [optAt, h3, hq, show e.day < 40001 by omega, hd]
  exact key _ (Nat.le_refl _)
theorem ref_is {c : List Kind} {l : List Rep} {ch : List Int} (hg : givF c l = true) (ha : areF l ch = true) : decide ((runF c (pickedF l ch).1).2.2 = 0) = isF c l ch := by
  have h : givenF c l ch 0 = true := by rw [← giv_are, hg, ha]; rfl
  rw [is_ev h, picked_are, if_pos ha, runF, if_neg (by rw [(giv_at hg).1]; decide), ← runs_go, evs_pickE ha (giv_at hg).2]
theorem ref_is_no {c : List Kind} {l : List Rep} {ch : List Int} (h : (givF c l && areF l ch) = false) : isF c l ch = false := by
  rw [giv_are] at h; exact is_no h
theorem ref_false {c : List Kind} {l : List Rep} {ch : List Int} (hg : givF c l = true) (ha : openTF l ch = true) : (!decide ((followF c l ch (leastR (openDays l ch l.length))).2 = 0)) = falseF c l ch := by
  have h : givenF c l ch (-1) = true := by rw [← giv_open, hg, ha]; rfl
  rw [falseF, if_neg (by rw [h]; decide), follow_least (given_all h).1 (giv_at hg).2]
theorem ref_false_no {c : List Kind} {l : List Rep} {ch : List Int} (h : (givF c l && openTF l ch) = false) : falseF c l ch = false := by
  rw [giv_open] at h
  rw [falseF, if_pos h]
theorem evs_sm {l : List Rep} {ch : List Int} {n : Nat} {e : Evt} (hsl : ∀ r ∈ l, ∀ e ∈ r.options, SmE e) (h : e ∈ evsTo l ch n) : SmE e := by
  rw [evsTo, List.mem_filterMap] at h
  obtain ⟨i, _, h⟩ := h
  unfold evAt at2 at h
  split at h
  · rename_i r k h1 h2
    exact hsl r (List.mem_of_getElem? h1) e (List.mem_of_getElem? (by simpa using h))
  · simp at h
end Go.Sx

/- The reference of searching: all choices, one after the other. -/
set_option linter.all false
namespace Go.Sx
open Go
/-- the choices behind some choices -/
def nextF : List Rep → List Int → List Int × Bool
  | r :: l, x :: t => if (nextF l t).2 = true then (x :: (nextF l t).1, true) else if x + 1 < chs r then ((x + 1) :: (nextF l t).1, true) else (0 :: (nextF l t).1, false)
  | _, _ => ([], false)
def zeros (n : Nat) : List Int := List.replicate n 0
/-- a list of choices, each the next one of the one before, from the first one to the last one -/
structure Chn (l : List Rep) (xs : List (List Int)) : Prop where
  pos : 0 < xs.length
  first : xs[0]? = some (zeros l.length)
  step : ∀ k (h : k + 1 < xs.length), nextF l xs[k] = (xs[k + 1], true)
  last : ∀ (h : xs.length - 1 < xs.length), nextF l xs[xs.length - 1] = (zeros l.length, false)
theorem flat_idx {α : Type} {xs : List α} {n m : Nat} (f : Nat → α → List Int) (hm : xs.length = m) : ∀ {q i : Nat} (hq : q < n) (hi : i < m), ((List.range n).flatMap fun k => xs.map (f k))[q * m + i]? = (xs[i]?).map (f q) := by
  induction n with
  | zero => intro q i hq; omega
  | succ n ih =>
    intro q i hq hi
    rw [List.range_succ, List.flatMap_append]
    have hlen : ((List.range n).flatMap fun k => xs.map (f k)).length = n * m := by
      rw [List.length_flatMap]
      simp only [List.length_map, hm]
      rw [List.map_const', List.sum_replicate_nat, List.length_range]
    by_cases h : q < n
    · rw [List.getElem?_append_left (by
        rw [hlen]
        have : (q + 1) * m ≤ n * m := Nat.mul_le_mul_right _ h
        rw [Nat.add_mul] at this; omega)]
      exact ih h hi
    · obtain rfl : q = n := by omega
      rw [List.getElem?_append_right (by rw [hlen]; omega), hlen]
      simp
theorem all_chn : ∀ {l : List Rep}, (∀ r ∈ l, 1 ≤ chs r) → Chn l (allCh l)
  | [], _ => ⟨by simp [allCh], rfl, fun k h => by simp [allCh] at h, fun h => rfl⟩
  | r :: l, hp => by
    have ih := all_chn (l := l) fun x hx => hp x (List.mem_cons_of_mem _ hx)
    have hr := hp r (by simp)
    obtain ⟨m, hm⟩ : ∃ m, (allCh l).length = m := ⟨_, rfl⟩
    obtain ⟨n, hn⟩ : ∃ n, (chs r).toNat = n := ⟨_, rfl⟩
    have hm0 : 0 < m := by rw [← hm]; exact ih.pos
    have hlen : (allCh (r :: l)).length = n * m := by rw [all_len, waysN, hn, ← all_len, hm]
    have hat : ∀ {q i : Nat} (hq : q < n) (hi : i < m), (allCh (r :: l))[q * m + i]? = ((allCh l)[i]?).map fun t => (q : Int) :: t := fun hq hi => by
      rw [allCh, hn]
      exact flat_idx (fun (k : Nat) t => (k : Int) :: t) hm hq hi
    have hn0 : 0 < n := by omega
    have hge : ∀ {k : Nat} (h : k < (allCh (r :: l)).length), ∃ (q i : Nat) (hq : q < n) (hi : i < (allCh l).length), k = q * m + i ∧ (allCh (r :: l))[k] = (q : Int) :: (allCh l)[i] := fun {k} h => by
      rw [hlen] at h
      have hq : k / m < n := (Nat.div_lt_iff_lt_mul hm0).2 h
      have hi : k % m < m := Nat.mod_lt _ hm0
      have he : k = k / m * m + k % m := by rw [Nat.mul_comm]; exact (Nat.div_add_mod k m).symm
      refine ⟨k / m, k % m, hq, by rw [hm]; exact hi, he, ?_⟩
      have h1 := hat hq hi
      rw [← he, List.getElem?_eq_getElem (by rw [hlen]; exact h), List.getElem?_eq_getElem (by rw [hm]; exact hi)] at h1
      exact Option.some.inj h1
    refine ⟨by rw [hlen]; exact Nat.mul_pos hn0 hm0, ?_, fun k h => ?_, fun h => ?_⟩
    · have := hat hn0 hm0
      rw [Nat.zero_mul, Nat.zero_add, ih.first] at this
      rw [this]; simp [zeros, List.replicate_succ]
    · obtain ⟨q, i, hq, hi, hk, e1⟩ := hge (k := k) (by omega)
      rw [e1]
      simp only [nextF]
      rw [hm] at hi
      by_cases hl : i + 1 < m
      · have e2 := ih.step i (by rw [hm]; exact hl)
        rw [e2]
        simp only [if_true]
        have h3 := hat hq hl
        rw [show q * m + (i + 1) = k + 1 by omega, List.getElem?_eq_getElem h, List.getElem?_eq_getElem (by rw [hm]; exact hl)] at h3
        rw [Option.some.inj h3]
      · have hi1 : i = m - 1 := by omega
        have e2 : nextF l ((allCh l)[i]'(by rw [hm]; exact hi)) = (zeros l.length, false) := by
          have := ih.last (by omega)
          simp only [hm] at this
          subst hi1
          exact this
        rw [e2]
        rw [hlen] at h
        have hq1 : q + 1 < n := by
          rcases Nat.lt_or_ge (q + 1) n with h1 | h1
          · exact h1
          · have : n * m ≤ (q + 1) * m := Nat.mul_le_mul_right _ h1
            rw [Nat.add_mul] at this; omega
        have h3 := hat hq1 hm0
        rw [show (q + 1) * m + 0 = k + 1 by rw [Nat.add_mul]; omega, List.getElem?_eq_getElem (by rw [hlen]; exact h), ih.first] at h3
        rw [Option.some.inj h3]
        rw [if_neg (show ¬ (false = true) by decide), if_pos (by omega)]
        simp
    · obtain ⟨q, i, hq, hi, hk, e1⟩ := hge h
      rw [e1]
      rw [hm] at hi
      rw [hlen] at hk
      have hqm : q + 1 = n := by
        rcases Nat.lt_or_ge (q + 1) n with h1 | h1
        · have h2 : (q + 2) * m ≤ n * m := Nat.mul_le_mul_right _ h1
          rw [Nat.add_mul] at h2; omega
        · omega
      have hi1 : i = m - 1 := by
        subst hqm
        rw [Nat.add_mul] at hk; omega
      have e2 : nextF l ((allCh l)[i]'(by rw [hm]; exact hi)) = (zeros l.length, false) := by
        have := ih.last (by omega)
        simp only [hm] at this
        subst hi1
        exact this
      simp only [nextF]
      rw [e2, if_neg (show ¬ (false = true) by decide), if_neg (by omega)]
      simp [zeros, List.replicate_succ]
end Go.Sx

/- The plain law of SearchEvidence: a report with one option alone, or without one. -/
set_option linter.all false
namespace Go.Sx
open Go
/-! valid reports -/
theorem allP_opt (l : List Evt) : ∀ n, n ≤ l.length → (allP optFine l n = true ↔ (l.take n).Nodup ∧ ∀ e ∈ l.take n, validE e = true) := by
  intro n
  induction n with
  | zero => intro _; simp [allP]
  | succ n ih =>
    intro hn
    have hlt : n < l.length := by omega
    have e1 : allP optFine l (n + 1) = (allP optFine l n && optFine (l.take n) l[n]) := by
      simp only [allP, List.range_succ, List.all_append, List.all_cons, List.all_nil, Bool.and_true, List.getElem?_eq_getElem hlt]
    rw [e1, Bool.and_eq_true, ih (by omega), ← take_succ_of hlt]
    have e2 : optFine (l.take n) l[n] = true ↔ ¬ l[n] ∈ l.take n ∧ validE l[n] = true := by
      simp only [optFine, Bool.not_eq_true', Bool.or_eq_false_iff, Bool.not_eq_false', hit_eq]
      rw [List.any_eq_false]
      constructor
      · rintro ⟨h1, h2⟩
        exact ⟨fun h => h1 _ h (by simp), h2⟩
      · rintro ⟨h1, h2⟩
        exact ⟨fun x hx hh => h1 (by have : x = l[n] := by simpa using hh
                                     exact this ▸ hx), h2⟩
    rw [e2, List.nodup_append]
    constructor
    · rintro ⟨⟨h1, h2⟩, h3, h4⟩
      refine ⟨⟨h1, by simp, fun a ha b hb => ?_⟩, fun e he => ?_⟩
      · rw [List.mem_singleton] at hb; rintro rfl; exact h3 (hb ▸ ha)
      · rcases List.mem_append.1 he with he | he
        · exact h2 e he
        · rw [List.mem_singleton] at he; rw [he]; exact h4
    · rintro ⟨⟨h1, _, h3⟩, h4⟩
      exact ⟨⟨h1, fun e he => h4 e (List.mem_append_left _ he)⟩, fun h => h3 _ h _ (List.mem_singleton.2 rfl) rfl, h4 _ (List.mem_append_right _ (List.mem_singleton.2 rfl))⟩
theorem validRep_iff {r : Rep} : validRep r = true ↔ 1 ≤ r.options.length ∧ r.options.length ≤ 4 ∧ r.options.Nodup ∧ ∀ e ∈ r.options, validE e = true := by
  have := allP_opt r.options r.options.length (Nat.le_refl _)
  rw [List.take_length] at this
  unfold validRep
  rw [Bool.and_eq_true, this]
  simp only [Bool.not_eq_true', Bool.or_eq_false_iff, decide_eq_false_iff_not]
  constructor
  · rintro ⟨⟨h1, h2⟩, h3⟩
    exact ⟨by omega, by omega, h3⟩
  · rintro ⟨h1, h2, h3⟩
    exact ⟨⟨by omega, by omega⟩, h3⟩
theorem validRep_sub {r q : Rep} (h : validRep r = true) (hs : q.options.Sublist r.options) (h1 : 1 ≤ q.options.length) : validRep q = true := by
  obtain ⟨_, h3, h4, h5⟩ := validRep_iff.1 h
  exact validRep_iff.2 ⟨h1, Nat.le_trans hs.length_le h3, h4.sublist hs, fun e he => h5 e (hs.mem he)⟩
/-- the report with one of its options alone -/
def oneOf (r : Rep) (j : Nat) : Rep := ⟨r.options[j]?.toList, false⟩
/-- the report without one of its options -/
def lessOf (r : Rep) (j : Nat) : Rep := ⟨cutAt r.options j, r.doubtful⟩
section
variable {r : Rep} {j : Nat}
theorem one_opts (h : j < r.options.length) : (oneOf r j).options = [r.options[j]] := by simp [oneOf, h]
theorem one_valid (hv : validRep r = true) (h : j < r.options.length) : validRep (oneOf r j) = true := by
  refine validRep_sub hv ?_ (by rw [one_opts h]; simp)
  rw [one_opts h]; exact List.singleton_sublist.2 (List.getElem_mem h)
theorem one_chs (hv : validRep r = true) (h : j < r.options.length) : chs (oneOf r j) = 1 := by
  simp [chs, one_valid hv h, one_opts h]; simp [oneOf]
theorem less_len (h : j < r.options.length) : (lessOf r j).options.length + 1 = r.options.length := cutAt_len h
theorem less_valid (hv : validRep r = true) (h : j < r.options.length) (h2 : 2 ≤ r.options.length) : validRep (lessOf r j) = true := by
  refine validRep_sub hv ?_ (by have := less_len h; omega)
  show (r.options.take j ++ r.options.drop (j + 1)).Sublist r.options
  have : r.options = r.options.take j ++ r.options.drop j := (List.take_append_drop _ _).symm
  conv => rhs; rw [this]
  exact (List.Sublist.refl _).append (List.drop_sublist_drop_left _ (by omega))
theorem less_bad (h : j < r.options.length) (h2 : r.options.length < 2) : validRep (lessOf r j) = false := by
  cases hv : validRep (lessOf r j) with
  | false => rfl
  | true => have := (validRep_iff.1 hv).1; have := less_len h; omega
theorem less_chs (hv : validRep r = true) (h : j < r.options.length) (h2 : 2 ≤ r.options.length) : chs (lessOf r j) = chs r - 1 := by
  have h3 := less_len h
  have h4 : ((lessOf r j).options.length : Int) = (r.options.length : Int) - 1 := by omega
  simp only [chs, less_valid hv h h2, hv, Bool.true_eq_false, if_false, h4]
  show (if r.doubtful = true then _ else _) = _
  split <;> omega
theorem one_opt (h : j < r.options.length) (d : Int) : optAt d (oneOf r j) 0 = optAt d r (j : Nat) := by
  simp [optAt, one_opts h, h]
theorem less_opt {x : Nat} (h : j < r.options.length) (hx : x ≠ j) (d : Int) : optAt d (lessOf r j) (if (j : Int) < (x : Nat) then (x : Nat) - 1 else (x : Nat)) = optAt d r (x : Nat) := by
  have e : (cutAt r.options j)[((if (j : Int) < (x : Nat) then ((x : Nat) : Int) - 1 else (x : Nat)) : Int).toNat]? = r.options[x]? := by
    unfold cutAt
    split
    · have hl : (r.options.take j).length = j := by rw [List.length_take]; omega
      rw [List.getElem?_append_right (by omega), hl, List.getElem?_drop]
      congr 1; omega
    · rw [List.getElem?_append_left (by rw [List.length_take]; omega), List.getElem?_take_of_lt (by omega)]
      congr 1
  unfold optAt
  have h0 : (0 : Int) ≤ (if (j : Int) < (x : Nat) then ((x : Nat) : Int) - 1 else (x : Nat)) := by split <;> omega
  rw [if_pos h0, if_pos (show (0 : Int) ≤ (x : Nat) by omega), Int.toNat_natCast]
  rw [show (lessOf r j).options = cutAt r.options j from rfl, e]
end
/-! all choices, where one report is another one -/
theorem all_mid (A B : List Rep) (r : Rep) : allCh (A ++ r :: B) = (allCh A).flatMap fun a => ((List.range (chs r).toNat).map fun (k : Nat) => (k : Int)).flatMap fun x => (allCh B).map fun b => a ++ x :: b := by
  induction A with
  | nil =>
    simp only [List.nil_append, allCh, List.flatMap_cons, List.flatMap_nil, List.append_nil, List.flatMap_map]
  | cons q A ih =>
    simp only [List.cons_append, allCh, ih, List.flatMap_assoc, List.map_flatMap, List.flatMap_map, List.map_map]
    congr 1
/-- choices whose one at an index is another one -/
def chAt (k : Nat) (f : Int → Int) (t : List Int) : List Int := t.set k (f (t.getD k 0))
theorem at_app {a b : List Int} {x : Int} {k : Nat} {f : Int → Int} (h : a.length = k) : chAt k f (a ++ x :: b) = a ++ f x :: b := by
  subst h
  simp [chAt, List.getD]
theorem getD_app {a b : List Int} {x : Int} {k : Nat} (h : a.length = k) : (a ++ x :: b).getD k 0 = x := by
  subst h
  simp [List.getD]
theorem flat_pick {a : List Int} {k : Nat} (h : a.length = k) (P : Int → Bool) (f : Int → Int) (ys : List (List Int)) : ∀ xs : List Int, (((xs.flatMap fun x => ys.map fun b => a ++ x :: b).filter fun t => P (t.getD k 0)).map (chAt k f)) = ((xs.filter P).map f).flatMap fun x => ys.map fun b => a ++ x :: b
  | [] => rfl
  | x :: xs => by
    rw [List.flatMap_cons, List.filter_append, List.map_append, flat_pick h P f ys xs, List.filter_map, List.filter_cons]
    have e : ((fun t => P (t.getD k 0)) ∘ fun b => a ++ x :: b) = fun _ => P x := by
      funext b; simp only [Function.comp_apply]; rw [getD_app h]
    rw [e]
    by_cases hp : P x = true
    · rw [if_pos hp, List.map_cons, List.flatMap_cons, show ys.filter (fun _ => P x) = ys from List.filter_eq_self.2 fun _ _ => hp]
      congr 1
      rw [List.map_map]
      refine List.map_congr_left fun b _ => ?_
      simp only [Function.comp_apply]; rw [at_app h]
    · rw [if_neg hp]
      have : ys.filter (fun _ => P x) = [] := by rw [List.filter_eq_nil_iff]; intro _ _; exact hp
      rw [this]; rfl
section
variable {c : List Kind} {A B : List Rep} {r r' : Rep} {P : Int → Bool} {f : Int → Int} {k : Nat}
theorem flat_congr {α β : Type} {f g : α → List β} : ∀ {l : List α}, (∀ x ∈ l, f x = g x) → l.flatMap f = l.flatMap g
  | [], _ => rfl
  | x :: l, h => by rw [List.flatMap_cons, List.flatMap_cons, h x (by simp), flat_congr fun y hy => h y (by simp [hy])]
theorem all_swap (hk : A.length = k) (h : (((List.range (chs r).toNat).map fun (k : Nat) => (k : Int)).filter P).map f = (List.range (chs r').toNat).map fun (k : Nat) => (k : Int)) :
    allCh (A ++ r' :: B) = ((allCh (A ++ r :: B)).filter fun t => P (t.getD k 0)).map (chAt k f) := by
  rw [all_mid, all_mid, List.filter_flatMap, List.map_flatMap]
  refine flat_congr fun a ha => ?_
  rw [flat_pick ((all_mem.1 ha).1.trans hk) P f, h]
theorem mid_mem {t : List Int} (h : t ∈ allCh (A ++ r :: B)) : ∃ a x b, t = a ++ x :: b ∧ a.length = A.length ∧ b.length = B.length ∧ 0 ≤ x ∧ x < chs r := by
  rw [all_mid] at h
  obtain ⟨a, ha, h⟩ := List.mem_flatMap.1 h
  obtain ⟨x, hx, h⟩ := List.mem_flatMap.1 h
  obtain ⟨b, hb, rfl⟩ := List.mem_map.1 h
  obtain ⟨q, hq, rfl⟩ := List.mem_map.1 hx
  have := List.mem_range.1 hq
  exact ⟨a, _, b, rfl, (all_mem.1 ha).1, (all_mem.1 hb).1, by omega, by omega⟩
theorem is_pick {l l' : List Rep} {ch ch' : List Int} (h1 : givenF c l ch 0 = true) (h2 : givenF c l' ch' 0 = true) (h : pickE 40001 l ch = pickE 40001 l' ch') : isF c l ch = isF c l' ch' := by rw [is_ev h1, is_ev h2, h]
theorem pick_mid {a b : List Int} {x : Int} (h : a.length = A.length) (d : Int) : pickE d (A ++ r :: B) (a ++ x :: b) = pickE d A a ++ (optAt d r x).toList ++ pickE d B b := by
  unfold pickE
  rw [List.zip_append h.symm, List.filterMap_append, List.zip_cons_cons, List.filterMap_cons]
  cases hq : optAt d r x <;> simp [hq]
theorem hist_swap (hc : validC c = true) (hl : ∀ q ∈ A ++ r :: B, chs q ≠ 0) (hr : chs r' ≠ 0) (hk : A.length = k) (h : (((List.range (chs r).toNat).map fun (k : Nat) => (k : Int)).filter P).map f = (List.range (chs r').toNat).map fun (k : Nat) => (k : Int))
    (ho : ∀ x : Int, 0 ≤ x → x < chs r → P x = true → optAt 40001 r' (f x) = optAt 40001 r x) : histF c (A ++ r' :: B) = ((histF c (A ++ r :: B)).filter fun t => P (t.getD k 0)).map (chAt k f) := by
  have hl' : ∀ q ∈ A ++ r' :: B, chs q ≠ 0 := fun q hq => by
    rcases List.mem_append.1 hq with hq | hq
    · exact hl q (List.mem_append_left _ hq)
    · rcases List.mem_cons.1 hq with rfl | hq
      · exact hr
      · exact hl q (List.mem_append_right _ (List.mem_cons_of_mem _ hq))
  unfold histF
  rw [List.filter_filter]
  have e1 : allCh (A ++ r' :: B) = ((allCh (A ++ r :: B)).filter fun t => P (t.getD k 0)).map (chAt k f) := all_swap hk h
  have e2 : ∀ t ∈ allCh (A ++ r :: B), P (t.getD k 0) = true → isF c (A ++ r' :: B) (chAt k f t) = isF c (A ++ r :: B) t := fun t ht hp => by
    have g1 := (all_given hc hl t).2 ht
    have g2 := (all_given hc hl' (chAt k f t)).2 (by rw [e1]; exact List.mem_map.2 ⟨t, List.mem_filter.2 ⟨ht, hp⟩, rfl⟩)
    refine is_pick g2 g1 ?_
    obtain ⟨a, x, b, rfl, ha, hb, h0, h1⟩ := mid_mem ht
    rw [getD_app (ha.trans hk)] at hp
    rw [at_app (ha.trans hk), pick_mid ha, pick_mid ha, ho x h0 h1 hp]
  rw [e1, List.filter_map, List.filter_filter]
  congr 1
  refine List.filter_congr fun t ht => ?_
  simp only [Function.comp_apply]
  cases hp : P (t.getD k 0) with
  | false => simp
  | true => simp only [Bool.and_true, Bool.true_and]; exact e2 t ht hp
end
theorem range_split {n j : Nat} (h : j < n) : List.range n = List.range j ++ j :: (List.range (n - (j + 1))).map (j + 1 + ·) := by
  have e2 : List.range n = List.range (j + 1) ++ (List.range (n - (j + 1))).map (j + 1 + ·) := by
    rw [← List.range_add]; congr 1; omega
  rw [e2, List.range_succ, List.append_assoc]; rfl
theorem range_one {n j : Nat} (h : j < n) : ((((List.range n).map fun (k : Nat) => (k : Int)).filter fun x : Int => decide (x = (j : Int))).map fun _ => (0 : Int)) = [0] := by
  rw [range_split h, List.map_append, List.map_cons, List.filter_append, List.filter_cons, if_pos (by simp), List.map_append, List.map_cons]
  have h1 : ((List.range j).map fun (k : Nat) => (k : Int)).filter (fun x : Int => decide (x = (j : Int))) = [] := by
    rw [List.filter_eq_nil_iff]
    intro x hx
    obtain ⟨q, hq, rfl⟩ := List.mem_map.1 hx
    have := List.mem_range.1 hq
    simp; omega
  have h2 : (((List.range (n - (j + 1))).map (j + 1 + ·)).map fun (k : Nat) => (k : Int)).filter (fun x : Int => decide (x = (j : Int))) = [] := by
    rw [List.filter_eq_nil_iff]
    intro x hx
    obtain ⟨q, hq, rfl⟩ := List.mem_map.1 hx
    obtain ⟨p, hp, rfl⟩ := List.mem_map.1 hq
    simp; omega
  rw [h1, h2]; rfl
theorem range_less {n j : Nat} (h : j < n) : ((((List.range n).map fun (k : Nat) => (k : Int)).filter fun x : Int => !decide (x = (j : Int))).map fun x : Int => if (j : Int) < x then x - 1 else x) = (List.range (n - 1)).map fun (k : Nat) => (k : Int) := by
  have e3 : n - 1 = j + (n - (j + 1)) := by omega
  rw [range_split h, List.map_append, List.map_cons, List.filter_append, List.filter_cons, if_neg (by simp), List.map_append, e3, List.range_add, List.map_append]
  have h1 : ((List.range j).map fun (k : Nat) => (k : Int)).filter (fun x : Int => !decide (x = (j : Int))) = (List.range j).map fun (k : Nat) => (k : Int) := by
    rw [List.filter_eq_self]
    intro x hx
    obtain ⟨q, hq, rfl⟩ := List.mem_map.1 hx
    have := List.mem_range.1 hq
    simp; omega
  have h2 : (((List.range (n - (j + 1))).map (j + 1 + ·)).map fun (k : Nat) => (k : Int)).filter (fun x : Int => !decide (x = (j : Int))) = ((List.range (n - (j + 1))).map (j + 1 + ·)).map fun (k : Nat) => (k : Int) := by
    rw [List.filter_eq_self]
    intro x hx
    obtain ⟨q, hq, rfl⟩ := List.mem_map.1 hx
    obtain ⟨p, hp, rfl⟩ := List.mem_map.1 hq
    simp; omega
  rw [h1, h2]
  congr 1
  · rw [List.map_map]
    refine List.map_congr_left fun x hx => ?_
    have := List.mem_range.1 hx
    simp only [Function.comp_apply]
    rw [if_neg (by omega)]
  · rw [List.map_map, List.map_map, List.map_map]
    refine List.map_congr_left fun x hx => ?_
    simp only [Function.comp_apply]
    rw [if_pos (by omega)]; omega
/-- those that choose an option, as if it were the only one -/
def selF (k j : Nat) (all : List (List Int)) : List (List Int) := (all.filter fun t => decide (t.getD k 0 = (j : Int))).map (chAt k fun _ => 0)
/-- those that do not choose an option, as if it were not there -/
def unselF (k j : Nat) (all : List (List Int)) : List (List Int) := (all.filter fun t => !decide (t.getD k 0 = (j : Int))).map (chAt k fun x : Int => if (j : Int) < x then x - 1 else x)
section
variable {c : List Kind} {l : List Rep} {k j : Nat}
theorem set_mid {α : Type} {l : List α} {k : Nat} (h : k < l.length) (x : α) : l.set k x = l.take k ++ x :: l.drop (k + 1) := by
  conv => lhs; rw [cut_whole h]
  have e : (l.take k).length = k := by rw [List.length_take]; omega
  rw [List.set_append_right _ _ (by omega), e, Nat.sub_self]; rfl
theorem opt_chs {r : Rep} (hv : validRep r = true) : (r.options.length : Int) ≤ chs r := by
  simp only [chs, hv, Bool.true_eq_false, if_false]; split <;> omega
theorem hist_one (he : errF c l = 0) (hk : k < l.length) (hj : j < l[k].options.length) : histF c (l.set k (oneOf l[k] j)) = selF k j (histF c l) := by
  obtain ⟨hc, hp⟩ := err_zero he
  have hv : validRep l[k] = true := by
    cases hv : validRep l[k] with
    | true => rfl
    | false => exact absurd (by simp [chs, hv]) (hp _ (List.getElem_mem hk))
  have hb := opt_chs hv
  have h1 := one_chs hv hj
  rw [set_mid hk, selF]
  conv => rhs; rw [cut_whole hk]
  refine hist_swap (P := fun x : Int => decide (x = (j : Int))) hc (by rw [← cut_whole hk]; exact hp) (by rw [h1]; decide) (by rw [List.length_take]; omega) ?_ fun x h0 hx hq => ?_
  · rw [h1, range_one (by omega)]; rfl
  · obtain rfl : x = (j : Int) := by simpa using hq
    exact one_opt hj _
theorem hist_less (he : errF c l = 0) (hk : k < l.length) (hj : j < l[k].options.length) (h2 : 2 ≤ l[k].options.length) : histF c (l.set k (lessOf l[k] j)) = unselF k j (histF c l) := by
  obtain ⟨hc, hp⟩ := err_zero he
  have hv : validRep l[k] = true := by
    cases hv : validRep l[k] with
    | true => rfl
    | false => exact absurd (by simp [chs, hv]) (hp _ (List.getElem_mem hk))
  have hb := opt_chs hv
  have h1 := less_chs hv hj h2
  rw [set_mid hk, unselF]
  conv => rhs; rw [cut_whole hk]
  refine hist_swap (P := fun x : Int => !decide (x = (j : Int))) hc (by rw [← cut_whole hk]; exact hp) (by omega) (by rw [List.length_take]; omega) ?_ fun x h0 hx hq => ?_
  · rw [h1, range_less (by omega)]; congr 2; omega
  · obtain ⟨q, rfl⟩ := Int.eq_ofNat_of_zero_le h0
    have h9 : ¬ (q : Int) = (j : Int) := by simpa using hq
    exact less_opt hj (by omega) _
theorem err_few0 {q : List Rep} (hq : q.length ≤ 30) (hc : validC c = true) (hp : ∀ r ∈ q, chs r ≠ 0) : errF c q = 0 := by
  have : dbtF q ≤ q.length := List.length_filter_le _ _
  rw [err_end hc hp, if_neg (by omega)]
theorem all_few {q : List Rep} (he : errF c q = 0) (hn : (histF c q).length ≤ 4096) : (allF c q 4096).1 = histF c q ∧ ((allF c q 4096).2 = 0 ↔ histF c q ≠ []) := by
  refine ⟨by rw [all_list (by decide) (by decide) he]; exact take_all hn, ?_⟩
  rw [all_code (by decide) (by decide), if_neg (show ¬ (errF c q ≠ 0) by simp [he])]
  by_cases hh : histF c q = []
  · simp [hh]
  · simp [hh]
theorem set_pos {x : Rep} (hp : ∀ r ∈ l, chs r ≠ 0) (hx : chs x ≠ 0) : ∀ r ∈ l.set k x, chs r ≠ 0 := fun r hr => by
  rcases List.mem_or_eq_of_mem_set hr with h | rfl
  · exact hp r h
  · exact hx
/-- the law -/
theorem law_ev (hl : l.length ≤ 30) (hw : waysN l ≤ 4096) (hk : k < l.length) (hj : j < l[k].options.length) (hE : (allF c l 4096).2 = 0 ∨ (allF c l 4096).2 = 21) :
    ((allF c (l.set k (oneOf l[k] j)) 4096).1 = selF k j (allF c l 4096).1 ∧ ((allF c (l.set k (oneOf l[k] j)) 4096).2 = 0 ↔ selF k j (allF c l 4096).1 ≠ [])) ∧ (l[k].options.length < 2 → (allF c (l.set k (lessOf l[k] j)) 4096).2 = 1) ∧
    (2 ≤ l[k].options.length → (allF c (l.set k (lessOf l[k] j)) 4096).1 = unselF k j (allF c l 4096).1 ∧ ((allF c (l.set k (lessOf l[k] j)) 4096).2 = 0 ↔ unselF k j (allF c l 4096).1 ≠ [])) := by
  have he : errF c l = 0 := by
    rw [all_code (by decide) (by decide)] at hE
    rcases err_cases c l with h | h | h
    · exact h
    · rw [h] at hE; simp at hE
    · rw [h] at hE; simp at hE
  obtain ⟨hc, hp⟩ := err_zero he
  have hv : validRep l[k] = true := by
    cases hv : validRep l[k] with
    | true => rfl
    | false => exact absurd (by simp [chs, hv]) (hp _ (List.getElem_mem hk))
  have hn := Nat.le_trans (hist_len c l) hw
  have e0 := (all_few he hn).1
  rw [e0]
  refine ⟨?_, fun h2 => ?_, fun h2 => ?_⟩
  · have e1 := hist_one he hk hj
    rw [← e1]
    exact all_few (err_few0 (by rw [List.length_set]; exact hl) hc (set_pos hp (by rw [one_chs hv hj]; decide))) (by rw [e1, selF, List.length_map]; exact Nat.le_trans (List.length_filter_le _ _) hn)
  · have e1 : errF c (l.set k (lessOf l[k] j)) = 1 := by
      refine err_any (i := k) hc (by rw [List.length_set]; exact hk) ?_
      rw [List.getElem_set_self]; simp [chs, less_bad hj h2]
    rw [all_err (by decide) (by decide) (by rw [e1]; decide), e1]
  · have e1 := hist_less he hk hj h2
    rw [← e1]
    have := less_chs hv hj h2
    have hb := opt_chs hv
    exact all_few (err_few0 (by rw [List.length_set]; exact hl) hc (set_pos hp (by omega))) (by rw [e1, unselF, List.length_map]; exact Nat.le_trans (List.length_filter_le _ _) hn)
end
end Go.Sx

/- Searching: too many doubtful reports; reports without a doubt. -/
set_option linter.all false
namespace Go.Sx
open Go
/-- doubtful reports -/
def manyF (n : Nat) : List Rep := (List.range n).map fun (i : Nat) => ⟨[sxRem sA i], true⟩
theorem many_len (n : Nat) : (manyF n).length = n := by simp [manyF]
theorem many_succ (n : Nat) : manyF (n + 1) = manyF n ++ [⟨[sxRem sA (n : Int)], true⟩] := by simp [manyF, List.range_succ]
theorem many_chs : ∀ i < 36, chs ⟨[sxRem sA ((i : Nat) : Int)], true⟩ = 2 := by decide +kernel
theorem many_sm (n : Nat) : ∀ r ∈ manyF n, ∀ e ∈ r.options, SmE e := by
  intro r hr e he
  obtain ⟨i, _, rfl⟩ := List.mem_map.1 hr
  obtain rfl := List.mem_singleton.1 he
  have hn : Sm nil8 := by decide
  exact ⟨(show Sm sA by decide), hn, hn, hn, hn, hn⟩
theorem many_err {n : Nat} (h : 31 ≤ n) (h2 : n < 36) : errF sxC (manyF n) = 7 := by
  refine err_many (by decide +kernel) (fun r hr => ?_) (by rw [many_len]; omega)
  obtain ⟨i, hi, rfl⟩ := List.mem_map.1 hr
  exact many_chs i (by have := List.mem_range.1 hi; omega)
theorem many_first {n : Nat} (h : 31 ≤ n) (h2 : n < 36) : (firstF sxC (manyF n)).2 = 7 := by
  have := many_err h h2
  rw [first_code, all_err (by decide) (by decide) (by rw [this]; decide), this]
theorem many_count {n : Nat} (h : 31 ≤ n) (h2 : n < 36) : (countF sxC (manyF n) 1).2 = 7 := by
  have := many_err h h2
  have h3 : allF sxC (manyF n) 1 = ([], 7) := by rw [all_err (by decide) (by decide) (by rw [this]; decide), this]
  unfold countF
  rw [h3]; rfl
theorem one_take {l : List Rep} {i : Nat} (hlt : i < l.length) (h : ∀ r ∈ l.take i, chs r = 1) (h2 : chs l[i] = 1) : ∀ r ∈ l.take (i + 1), chs r = 1 := fun r hr => by
  rw [← take_succ_of hlt] at hr
  rcases List.mem_append.1 hr with hr | hr
  · exact h r hr
  · rw [List.mem_singleton.1 hr]; exact h2
section
variable {c : List Kind} {l : List Rep} {most : Int}
theorem all_sub (t : List Int) (h : t ∈ (allF c l most).1) : t ∈ histF c l := by
  unfold allF at h
  split at h
  · cases h
  · split at h
    · cases h
    · split at h
      · cases h
      · exact List.mem_of_mem_take h
theorem all_lens {t : List Int} (h : t ∈ (allF c l most).1) : t.length = l.length := (given_all (is_given ((hist_mem t).1 (all_sub t h)))).1
theorem all_at {t : List Int} (h : t ∈ (allF c l most).1) {k : Nat} (hk : k < l.length) (h2 : k < t.length) : 0 ≤ t[k] ∧ t[k] < chs l[k] := by
  have := given_at (is_given ((hist_mem t).1 (all_sub t h))) hk h2
  omega
theorem all_le : (allF c l most).1.length ≤ waysN l := by
  unfold allF
  split
  · exact Nat.zero_le _
  · split
    · exact Nat.zero_le _
    · split
      · exact Nat.zero_le _
      · exact Nat.le_trans (by rw [List.length_take]; omega) (hist_len c l)
end
end Go.Sx

/- Loops with six to eight things that turn; meetings of ways with four to six. -/
set_option linter.all false
namespace Go.Sx
open Go
section
variable {P : Program} {ρ : Option Nat} {n : Sz} {E : Ent} {I I' : IMap} {L : LL} {H : List Res} {K : Act → World → Prop} {Q : Exit → Act → World → Prop} {N : Act → World → Prop}
variable {α β γ δ ε ζ η θ : Type}
def NextS6 (n : Sz) (E : Ent) (Ix : α → β → γ → δ → ε → ζ → IMap) (Lx : α → β → γ → δ → ε → ζ → LL) (Hx : α → β → γ → δ → ε → ζ → List Res) (p : α → β → γ → δ → ε → ζ → Prop) (μ : α → β → γ → δ → ε → ζ → Nat) (x0 : α) (x1 : β) (x2 : γ) (x3 : δ) (x4 : ε) (x5 : ζ) : Act → World → Prop :=
  fun a w => ∃ y0 y1 y2 y3 y4 y5, p y0 y1 y2 y3 y4 y5 ∧ μ y0 y1 y2 y3 y4 y5 < μ x0 x1 x2 x3 x4 x5 ∧ St n a (Lx y0 y1 y2 y3 y4 y5) ∧ Mem E (Ix y0 y1 y2 y3 y4 y5) (Hx y0 y1 y2 y3 y4 y5) w
theorem c_loop6 (a0 : α) (a1 : β) (a2 : γ) (a3 : δ) (a4 : ε) (a5 : ζ) (Ix : α → β → γ → δ → ε → ζ → IMap) (Lx : α → β → γ → δ → ε → ζ → LL) (Hx : α → β → γ → δ → ε → ζ → List Res) (p : α → β → γ → δ → ε → ζ → Prop) (μ : α → β → γ → δ → ε → ζ → Nat) {c : Code}
    (h0 : p a0 a1 a2 a3 a4 a5) (hI : Ix a0 a1 a2 a3 a4 a5 = I) (hL : Sub (Lx a0 a1 a2 a3 a4 a5) L) (hH : Hx a0 a1 a2 a3 a4 a5 = H)
    (round : ∀ x0 x1 x2 x3 x4 x5, p x0 x1 x2 x3 x4 x5 → SX n E (Ix x0 x1 x2 x3 x4 x5) (Lx x0 x1 x2 x3 x4 x5) (Hx x0 x1 x2 x3 x4 x5) (c.wq ρ P (Exit.then (NextS6 n E Ix Lx Hx p μ x0 x1 x2 x3 x4 x5) Q))) : SX n E I L H ((Code.loop c).wq ρ P Q) :=
  c_loop (α := α × β × γ × δ × ε × ζ) (a0, a1, a2, a3, a4, a5) (fun q => Ix q.1 q.2.1 q.2.2.1 q.2.2.2.1 q.2.2.2.2.1 q.2.2.2.2.2) (fun q => Lx q.1 q.2.1 q.2.2.1 q.2.2.2.1 q.2.2.2.2.1 q.2.2.2.2.2) (fun q => Hx q.1 q.2.1 q.2.2.1 q.2.2.2.1 q.2.2.2.2.1 q.2.2.2.2.2) (fun q => p q.1 q.2.1 q.2.2.1 q.2.2.2.1 q.2.2.2.2.1 q.2.2.2.2.2) (fun q => μ q.1 q.2.1 q.2.2.1 q.2.2.2.1 q.2.2.2.2.1 q.2.2.2.2.2) h0 hI hL hH
    fun ⟨x0, x1, x2, x3, x4, x5⟩ hp => sx_mono (round x0 x1 x2 x3 x4 x5 hp) fun a w h => cwq_mono (fun e a w q => by
      cases e with
      | normal => obtain ⟨y0, y1, y2, y3, y4, y5, h1, h2, h3, h4⟩ := q; exact ⟨(y0, y1, y2, y3, y4, y5), h1, h2, h3, h4⟩
      | _ => exact q) h
theorem q_next6 {Ix : α → β → γ → δ → ε → ζ → IMap} {Lx : α → β → γ → δ → ε → ζ → LL} {Hx : α → β → γ → δ → ε → ζ → List Res} {p : α → β → γ → δ → ε → ζ → Prop} {μ : α → β → γ → δ → ε → ζ → Nat} {x0 : α} {x1 : β} {x2 : γ} {x3 : δ} {x4 : ε} {x5 : ζ} (y0 : α) (y1 : β) (y2 : γ) (y3 : δ) (y4 : ε) (y5 : ζ) (hp : p y0 y1 y2 y3 y4 y5) (hμ : μ y0 y1 y2 y3 y4 y5 < μ x0 x1 x2 x3 x4 x5)
    (hI : Ix y0 y1 y2 y3 y4 y5 = I) (hL : Sub (Lx y0 y1 y2 y3 y4 y5) L) (hH : Hx y0 y1 y2 y3 y4 y5 = H) : SX n E I L H (NextS6 n E Ix Lx Hx p μ x0 x1 x2 x3 x4 x5) :=
  fun a w s m => ⟨y0, y1, y2, y3, y4, y5, hp, hμ, s.sub hL, by rw [hI, hH]; exact m⟩
def NextS7 (n : Sz) (E : Ent) (Ix : α → β → γ → δ → ε → ζ → η → IMap) (Lx : α → β → γ → δ → ε → ζ → η → LL) (Hx : α → β → γ → δ → ε → ζ → η → List Res) (p : α → β → γ → δ → ε → ζ → η → Prop) (μ : α → β → γ → δ → ε → ζ → η → Nat) (x0 : α) (x1 : β) (x2 : γ) (x3 : δ) (x4 : ε) (x5 : ζ) (x6 : η) : Act → World → Prop :=
  fun a w => ∃ y0 y1 y2 y3 y4 y5 y6, p y0 y1 y2 y3 y4 y5 y6 ∧ μ y0 y1 y2 y3 y4 y5 y6 < μ x0 x1 x2 x3 x4 x5 x6 ∧ St n a (Lx y0 y1 y2 y3 y4 y5 y6) ∧ Mem E (Ix y0 y1 y2 y3 y4 y5 y6) (Hx y0 y1 y2 y3 y4 y5 y6) w
theorem c_loop7 (a0 : α) (a1 : β) (a2 : γ) (a3 : δ) (a4 : ε) (a5 : ζ) (a6 : η) (Ix : α → β → γ → δ → ε → ζ → η → IMap) (Lx : α → β → γ → δ → ε → ζ → η → LL) (Hx : α → β → γ → δ → ε → ζ → η → List Res) (p : α → β → γ → δ → ε → ζ → η → Prop) (μ : α → β → γ → δ → ε → ζ → η → Nat) {c : Code}
    (h0 : p a0 a1 a2 a3 a4 a5 a6) (hI : Ix a0 a1 a2 a3 a4 a5 a6 = I) (hL : Sub (Lx a0 a1 a2 a3 a4 a5 a6) L) (hH : Hx a0 a1 a2 a3 a4 a5 a6 = H)
    (round : ∀ x0 x1 x2 x3 x4 x5 x6, p x0 x1 x2 x3 x4 x5 x6 → SX n E (Ix x0 x1 x2 x3 x4 x5 x6) (Lx x0 x1 x2 x3 x4 x5 x6) (Hx x0 x1 x2 x3 x4 x5 x6) (c.wq ρ P (Exit.then (NextS7 n E Ix Lx Hx p μ x0 x1 x2 x3 x4 x5 x6) Q))) : SX n E I L H ((Code.loop c).wq ρ P Q) :=
  c_loop (α := α × β × γ × δ × ε × ζ × η) (a0, a1, a2, a3, a4, a5, a6) (fun q => Ix q.1 q.2.1 q.2.2.1 q.2.2.2.1 q.2.2.2.2.1 q.2.2.2.2.2.1 q.2.2.2.2.2.2) (fun q => Lx q.1 q.2.1 q.2.2.1 q.2.2.2.1 q.2.2.2.2.1 q.2.2.2.2.2.1 q.2.2.2.2.2.2) (fun q => Hx q.1 q.2.1 q.2.2.1 q.2.2.2.1 q.2.2.2.2.1 q.2.2.2.2.2.1 q.2.2.2.2.2.2) (fun q => p q.1 q.2.1 q.2.2.1 q.2.2.2.1 q.2.2.2.2.1 q.2.2.2.2.2.1 q.2.2.2.2.2.2) (fun q => μ q.1 q.2.1 q.2.2.1 q.2.2.2.1 q.2.2.2.2.1 q.2.2.2.2.2.1 q.2.2.2.2.2.2) h0 hI hL hH
    fun ⟨x0, x1, x2, x3, x4, x5, x6⟩ hp => sx_mono (round x0 x1 x2 x3 x4 x5 x6 hp) fun a w h => cwq_mono (fun e a w q => by
      cases e with
      | normal => obtain ⟨y0, y1, y2, y3, y4, y5, y6, h1, h2, h3, h4⟩ := q; exact ⟨(y0, y1, y2, y3, y4, y5, y6), h1, h2, h3, h4⟩
      | _ => exact q) h
theorem q_next7 {Ix : α → β → γ → δ → ε → ζ → η → IMap} {Lx : α → β → γ → δ → ε → ζ → η → LL} {Hx : α → β → γ → δ → ε → ζ → η → List Res} {p : α → β → γ → δ → ε → ζ → η → Prop} {μ : α → β → γ → δ → ε → ζ → η → Nat} {x0 : α} {x1 : β} {x2 : γ} {x3 : δ} {x4 : ε} {x5 : ζ} {x6 : η} (y0 : α) (y1 : β) (y2 : γ) (y3 : δ) (y4 : ε) (y5 : ζ) (y6 : η) (hp : p y0 y1 y2 y3 y4 y5 y6) (hμ : μ y0 y1 y2 y3 y4 y5 y6 < μ x0 x1 x2 x3 x4 x5 x6)
    (hI : Ix y0 y1 y2 y3 y4 y5 y6 = I) (hL : Sub (Lx y0 y1 y2 y3 y4 y5 y6) L) (hH : Hx y0 y1 y2 y3 y4 y5 y6 = H) : SX n E I L H (NextS7 n E Ix Lx Hx p μ x0 x1 x2 x3 x4 x5 x6) :=
  fun a w s m => ⟨y0, y1, y2, y3, y4, y5, y6, hp, hμ, s.sub hL, by rw [hI, hH]; exact m⟩
def NextS8 (n : Sz) (E : Ent) (Ix : α → β → γ → δ → ε → ζ → η → θ → IMap) (Lx : α → β → γ → δ → ε → ζ → η → θ → LL) (Hx : α → β → γ → δ → ε → ζ → η → θ → List Res) (p : α → β → γ → δ → ε → ζ → η → θ → Prop) (μ : α → β → γ → δ → ε → ζ → η → θ → Nat) (x0 : α) (x1 : β) (x2 : γ) (x3 : δ) (x4 : ε) (x5 : ζ) (x6 : η) (x7 : θ) : Act → World → Prop :=
  fun a w => ∃ y0 y1 y2 y3 y4 y5 y6 y7, p y0 y1 y2 y3 y4 y5 y6 y7 ∧ μ y0 y1 y2 y3 y4 y5 y6 y7 < μ x0 x1 x2 x3 x4 x5 x6 x7 ∧ St n a (Lx y0 y1 y2 y3 y4 y5 y6 y7) ∧ Mem E (Ix y0 y1 y2 y3 y4 y5 y6 y7) (Hx y0 y1 y2 y3 y4 y5 y6 y7) w
theorem c_loop8 (a0 : α) (a1 : β) (a2 : γ) (a3 : δ) (a4 : ε) (a5 : ζ) (a6 : η) (a7 : θ) (Ix : α → β → γ → δ → ε → ζ → η → θ → IMap) (Lx : α → β → γ → δ → ε → ζ → η → θ → LL) (Hx : α → β → γ → δ → ε → ζ → η → θ → List Res) (p : α → β → γ → δ → ε → ζ → η → θ → Prop) (μ : α → β → γ → δ → ε → ζ → η → θ → Nat) {c : Code}
    (h0 : p a0 a1 a2 a3 a4 a5 a6 a7) (hI : Ix a0 a1 a2 a3 a4 a5 a6 a7 = I) (hL : Sub (Lx a0 a1 a2 a3 a4 a5 a6 a7) L) (hH : Hx a0 a1 a2 a3 a4 a5 a6 a7 = H)
    (round : ∀ x0 x1 x2 x3 x4 x5 x6 x7, p x0 x1 x2 x3 x4 x5 x6 x7 → SX n E (Ix x0 x1 x2 x3 x4 x5 x6 x7) (Lx x0 x1 x2 x3 x4 x5 x6 x7) (Hx x0 x1 x2 x3 x4 x5 x6 x7) (c.wq ρ P (Exit.then (NextS8 n E Ix Lx Hx p μ x0 x1 x2 x3 x4 x5 x6 x7) Q))) : SX n E I L H ((Code.loop c).wq ρ P Q) :=
  c_loop (α := α × β × γ × δ × ε × ζ × η × θ) (a0, a1, a2, a3, a4, a5, a6, a7) (fun q => Ix q.1 q.2.1 q.2.2.1 q.2.2.2.1 q.2.2.2.2.1 q.2.2.2.2.2.1 q.2.2.2.2.2.2.1 q.2.2.2.2.2.2.2) (fun q => Lx q.1 q.2.1 q.2.2.1 q.2.2.2.1 q.2.2.2.2.1 q.2.2.2.2.2.1 q.2.2.2.2.2.2.1 q.2.2.2.2.2.2.2) (fun q => Hx q.1 q.2.1 q.2.2.1 q.2.2.2.1 q.2.2.2.2.1 q.2.2.2.2.2.1 q.2.2.2.2.2.2.1 q.2.2.2.2.2.2.2) (fun q => p q.1 q.2.1 q.2.2.1 q.2.2.2.1 q.2.2.2.2.1 q.2.2.2.2.2.1 q.2.2.2.2.2.2.1 q.2.2.2.2.2.2.2) (fun q => μ q.1 q.2.1 q.2.2.1 q.2.2.2.1 q.2.2.2.2.1 q.2.2.2.2.2.1 q.2.2.2.2.2.2.1 q.2.2.2.2.2.2.2) h0 hI hL hH
    fun ⟨x0, x1, x2, x3, x4, x5, x6, x7⟩ hp => sx_mono (round x0 x1 x2 x3 x4 x5 x6 x7 hp) fun a w h => cwq_mono (fun e a w q => by
      cases e with
      | normal => obtain ⟨y0, y1, y2, y3, y4, y5, y6, y7, h1, h2, h3, h4⟩ := q; exact ⟨(y0, y1, y2, y3, y4, y5, y6, y7), h1, h2, h3, h4⟩
      | _ => exact q) h
theorem q_next8 {Ix : α → β → γ → δ → ε → ζ → η → θ → IMap} {Lx : α → β → γ → δ → ε → ζ → η → θ → LL} {Hx : α → β → γ → δ → ε → ζ → η → θ → List Res} {p : α → β → γ → δ → ε → ζ → η → θ → Prop} {μ : α → β → γ → δ → ε → ζ → η → θ → Nat} {x0 : α} {x1 : β} {x2 : γ} {x3 : δ} {x4 : ε} {x5 : ζ} {x6 : η} {x7 : θ} (y0 : α) (y1 : β) (y2 : γ) (y3 : δ) (y4 : ε) (y5 : ζ) (y6 : η) (y7 : θ) (hp : p y0 y1 y2 y3 y4 y5 y6 y7) (hμ : μ y0 y1 y2 y3 y4 y5 y6 y7 < μ x0 x1 x2 x3 x4 x5 x6 x7)
    (hI : Ix y0 y1 y2 y3 y4 y5 y6 y7 = I) (hL : Sub (Lx y0 y1 y2 y3 y4 y5 y6 y7) L) (hH : Hx y0 y1 y2 y3 y4 y5 y6 y7 = H) : SX n E I L H (NextS8 n E Ix Lx Hx p μ x0 x1 x2 x3 x4 x5 x6 x7) :=
  fun a w s m => ⟨y0, y1, y2, y3, y4, y5, y6, y7, hp, hμ, s.sub hL, by rw [hI, hH]; exact m⟩
def CutS4 (n : Sz) (E : Ent) (Ix : α → β → γ → δ → IMap) (Lx : α → β → γ → δ → LL) (Hx : α → β → γ → δ → List Res) (p : α → β → γ → δ → Prop) (a : Act) (w : World) : Prop := ∃ x0 x1 x2 x3, p x0 x1 x2 x3 ∧ St n a (Lx x0 x1 x2 x3) ∧ Mem E (Ix x0 x1 x2 x3) (Hx x0 x1 x2 x3) w
theorem c_cutx4 {Ix : α → β → γ → δ → IMap} {Lx : α → β → γ → δ → LL} {Hx : α → β → γ → δ → List Res} {p : α → β → γ → δ → Prop} {c : Code}
    (h1 : SX n E I L H (c.wq ρ P (Exit.then (CutS4 n E Ix Lx Hx p) Q))) (h2 : ∀ x0 x1 x2 x3, p x0 x1 x2 x3 → SX n E (Ix x0 x1 x2 x3) (Lx x0 x1 x2 x3) (Hx x0 x1 x2 x3) N) : SX n E I L H (c.wq ρ P (Exit.then N Q)) := fun a w s m =>
  cwq_mono (fun e a w q => by cases e <;> first | exact q | (obtain ⟨x0, x1, x2, x3, hp, hs, hm⟩ := q; exact h2 x0 x1 x2 x3 hp a w hs hm)) (h1 a w s m)
theorem q_cutx4 {Ix : α → β → γ → δ → IMap} {Lx : α → β → γ → δ → LL} {Hx : α → β → γ → δ → List Res} {p : α → β → γ → δ → Prop} (x0 : α) (x1 : β) (x2 : γ) (x3 : δ) (hp : p x0 x1 x2 x3) (hL : Sub (Lx x0 x1 x2 x3) L) (hH : Hx x0 x1 x2 x3 = H) (hI : Ix x0 x1 x2 x3 = I) :
    SX n E I L H (CutS4 n E Ix Lx Hx p) := fun _ _ s m => ⟨x0, x1, x2, x3, hp, s.sub hL, by rw [hH, hI]; exact m⟩
def CutS5 (n : Sz) (E : Ent) (Ix : α → β → γ → δ → ε → IMap) (Lx : α → β → γ → δ → ε → LL) (Hx : α → β → γ → δ → ε → List Res) (p : α → β → γ → δ → ε → Prop) (a : Act) (w : World) : Prop := ∃ x0 x1 x2 x3 x4, p x0 x1 x2 x3 x4 ∧ St n a (Lx x0 x1 x2 x3 x4) ∧ Mem E (Ix x0 x1 x2 x3 x4) (Hx x0 x1 x2 x3 x4) w
theorem c_cutx5 {Ix : α → β → γ → δ → ε → IMap} {Lx : α → β → γ → δ → ε → LL} {Hx : α → β → γ → δ → ε → List Res} {p : α → β → γ → δ → ε → Prop} {c : Code}
    (h1 : SX n E I L H (c.wq ρ P (Exit.then (CutS5 n E Ix Lx Hx p) Q))) (h2 : ∀ x0 x1 x2 x3 x4, p x0 x1 x2 x3 x4 → SX n E (Ix x0 x1 x2 x3 x4) (Lx x0 x1 x2 x3 x4) (Hx x0 x1 x2 x3 x4) N) : SX n E I L H (c.wq ρ P (Exit.then N Q)) := fun a w s m =>
  cwq_mono (fun e a w q => by cases e <;> first | exact q | (obtain ⟨x0, x1, x2, x3, x4, hp, hs, hm⟩ := q; exact h2 x0 x1 x2 x3 x4 hp a w hs hm)) (h1 a w s m)
theorem q_cutx5 {Ix : α → β → γ → δ → ε → IMap} {Lx : α → β → γ → δ → ε → LL} {Hx : α → β → γ → δ → ε → List Res} {p : α → β → γ → δ → ε → Prop} (x0 : α) (x1 : β) (x2 : γ) (x3 : δ) (x4 : ε) (hp : p x0 x1 x2 x3 x4) (hL : Sub (Lx x0 x1 x2 x3 x4) L) (hH : Hx x0 x1 x2 x3 x4 = H) (hI : Ix x0 x1 x2 x3 x4 = I) :
    SX n E I L H (CutS5 n E Ix Lx Hx p) := fun _ _ s m => ⟨x0, x1, x2, x3, x4, hp, s.sub hL, by rw [hH, hI]; exact m⟩
def CutS6 (n : Sz) (E : Ent) (Ix : α → β → γ → δ → ε → ζ → IMap) (Lx : α → β → γ → δ → ε → ζ → LL) (Hx : α → β → γ → δ → ε → ζ → List Res) (p : α → β → γ → δ → ε → ζ → Prop) (a : Act) (w : World) : Prop := ∃ x0 x1 x2 x3 x4 x5, p x0 x1 x2 x3 x4 x5 ∧ St n a (Lx x0 x1 x2 x3 x4 x5) ∧ Mem E (Ix x0 x1 x2 x3 x4 x5) (Hx x0 x1 x2 x3 x4 x5) w
theorem c_cutx6 {Ix : α → β → γ → δ → ε → ζ → IMap} {Lx : α → β → γ → δ → ε → ζ → LL} {Hx : α → β → γ → δ → ε → ζ → List Res} {p : α → β → γ → δ → ε → ζ → Prop} {c : Code}
    (h1 : SX n E I L H (c.wq ρ P (Exit.then (CutS6 n E Ix Lx Hx p) Q))) (h2 : ∀ x0 x1 x2 x3 x4 x5, p x0 x1 x2 x3 x4 x5 → SX n E (Ix x0 x1 x2 x3 x4 x5) (Lx x0 x1 x2 x3 x4 x5) (Hx x0 x1 x2 x3 x4 x5) N) : SX n E I L H (c.wq ρ P (Exit.then N Q)) := fun a w s m =>
  cwq_mono (fun e a w q => by cases e <;> first | exact q | (obtain ⟨x0, x1, x2, x3, x4, x5, hp, hs, hm⟩ := q; exact h2 x0 x1 x2 x3 x4 x5 hp a w hs hm)) (h1 a w s m)
theorem q_cutx6 {Ix : α → β → γ → δ → ε → ζ → IMap} {Lx : α → β → γ → δ → ε → ζ → LL} {Hx : α → β → γ → δ → ε → ζ → List Res} {p : α → β → γ → δ → ε → ζ → Prop} (x0 : α) (x1 : β) (x2 : γ) (x3 : δ) (x4 : ε) (x5 : ζ) (hp : p x0 x1 x2 x3 x4 x5) (hL : Sub (Lx x0 x1 x2 x3 x4 x5) L) (hH : Hx x0 x1 x2 x3 x4 x5 = H) (hI : Ix x0 x1 x2 x3 x4 x5 = I) :
    SX n E I L H (CutS6 n E Ix Lx Hx p) := fun _ _ s m => ⟨x0, x1, x2, x3, x4, x5, hp, s.sub hL, by rw [hH, hI]; exact m⟩
end
end Go.Sx

/- SearchEvidence: steps of its loop. -/
set_option linter.all false
namespace Go.Sx
open Go
theorem fc_at {I : IMap} {xss rest : List (List Value)} {l : List Int} (h : FlatC I xss l) {i : Nat} (hi : i < l.length) : (xss ++ rest)[i]? = some [ci l[i]] := by
  obtain ⟨c, h1, h2⟩ := h.at_ hi
  obtain ⟨h3, h4⟩ := List.getElem?_eq_some_iff.1 h1
  rw [List.getElem?_append_left h3, h1, show c = [ci l[i]] from h2]
section
variable {X : List (List Int)} {i k j : Nat}
theorem getD_at {t : List Int} (hk : k < t.length) : t.getD k 0 = t[k] := by simp [List.getD, hk]
theorem sel_yes (hi : i < X.length) (hk : k < X[i].length) (h : X[i][k] = (j : Int)) : selF k j (X.take (i + 1)) = selF k j (X.take i) ++ [X[i].set k 0] ∧ unselF k j (X.take (i + 1)) = unselF k j (X.take i) := by
  unfold selF unselF
  rw [← take_succ_of hi, List.filter_append, List.filter_append, List.map_append, List.map_append]
  simp [List.filter_cons, List.getElem?_eq_getElem hk, h, chAt]
theorem sel_big (hi : i < X.length) (hk : k < X[i].length) (h : (j : Int) < X[i][k]) : selF k j (X.take (i + 1)) = selF k j (X.take i) ∧ unselF k j (X.take (i + 1)) = unselF k j (X.take i) ++ [X[i].set k (X[i][k] - 1)] := by
  have h2 : ¬ X[i][k] = (j : Int) := by omega
  unfold selF unselF
  rw [← take_succ_of hi, List.filter_append, List.filter_append, List.map_append, List.map_append]
  simp [List.filter_cons, List.getElem?_eq_getElem hk, h, h2, chAt]
theorem sel_less (hi : i < X.length) (hk : k < X[i].length) (h2 : ¬ X[i][k] = (j : Int)) (h : ¬ (j : Int) < X[i][k]) : selF k j (X.take (i + 1)) = selF k j (X.take i) ∧ unselF k j (X.take (i + 1)) = unselF k j (X.take i) ++ [X[i]] := by
  unfold selF unselF
  rw [← take_succ_of hi, List.filter_append, List.filter_append, List.map_append, List.map_append]
  simp [List.filter_cons, List.getElem?_eq_getElem hk, h, h2, chAt]
theorem sel_le : (selF k j X).length ≤ X.length := by unfold selF; rw [List.length_map]; exact List.length_filter_le _ _
theorem unsel_le : (unselF k j X).length ≤ X.length := by unfold unselF; rw [List.length_map]; exact List.length_filter_le _ _
end
/-- valid, and of a moderate size, with another report at an index -/
theorem set_sm {l : List Rep} {k : Nat} {x : Rep} (h : ∀ r ∈ l, ∀ e ∈ r.options, SmE e) (hx : ∀ e ∈ x.options, SmE e) : ∀ r ∈ l.set k x, ∀ e ∈ r.options, SmE e := fun r hr e he => by
  rcases List.mem_or_eq_of_mem_set hr with h1 | rfl
  · exact h r h1 e he
  · exact hx e he
theorem one_sm {r : Rep} {j : Nat} (h : ∀ e ∈ r.options, SmE e) (hj : j < r.options.length) : ∀ e ∈ (oneOf r j).options, SmE e := fun e he => by
  rw [one_opts hj] at he
  rw [List.mem_singleton.1 he]; exact h _ (List.getElem_mem hj)
theorem less_sm {r : Rep} {j : Nat} (h : ∀ e ∈ r.options, SmE e) : ∀ e ∈ (lessOf r j).options, SmE e := fun e he => h e (cutAt_mem he)
theorem opt_mid {r : Rep} {j : Nat} (hj : j < r.options.length) : (r.options.take (j + 1)).drop j = (oneOf r j).options := by
  rw [one_opts hj, ← take_succ_of hj, List.drop_left' (by rw [List.length_take]; omega)]
theorem dec_pos {X : List (List Int)} : decide ((0 : Int) < (X.length : Nat)) = decide (X ≠ []) := by
  rw [decide_eq_decide]
  constructor
  · rintro h rfl; simp at h
  · intro h; have := List.length_pos_iff.2 h; omega
theorem code_pos {X : List (List Int)} {z : Int} (h : z = 0 ↔ X ≠ []) : (decide (z = 0) == decide ((0 : Int) < (X.length : Nat))) = true := by
  rw [dec_pos, beq_iff_eq, decide_eq_decide]; exact h
end Go.Sx

/- The reference of searching: the steps of its functions. -/
set_option linter.all false
namespace Go.Sx
open Go
theorem next_lift : ∀ {k : Nat} {l : List Rep} {t s : List Int}, k ≤ l.length → k ≤ t.length → nextF (l.drop k) (t.drop k) = (s, true) → nextF l t = (t.take k ++ s, true)
  | 0, l, t, s, _, _, h => by simpa using h
  | k + 1, [], t, s, h1, _, _ => by simp at h1
  | k + 1, r :: l, [], s, _, h2, _ => by simp at h2
  | k + 1, r :: l, x :: t, s, h1, h2, h => by
    have ih := next_lift (k := k) (l := l) (t := t) (s := s) (by simpa using h1) (by simpa using h2) (by simpa using h)
    simp only [nextF, ih, if_true, List.take_succ_cons, List.cons_append]
section
variable {l : List Rep} {t m : List Int} {j : Nat}
theorem zeros_len (n : Nat) : (zeros n).length = n := by simp [zeros]
theorem next_step (hj : 0 < j) (h1 : j ≤ l.length) (h2 : t.length = l.length) (h : nextF (l.drop j) (t.drop j) = (zeros (l.length - j), false)) :
    nextF (l.drop (j - 1)) (t.drop (j - 1)) = if t[j - 1] + 1 < chs l[j - 1] then ((t[j - 1] + 1) :: zeros (l.length - j), true) else (zeros (l.length - (j - 1)), false) := by
  obtain ⟨i, rfl⟩ : ∃ i, j = i + 1 := ⟨j - 1, by omega⟩
  simp only [Nat.add_sub_cancel]
  rw [List.drop_eq_getElem_cons (show i < l.length by omega), List.drop_eq_getElem_cons (show i < t.length by omega)]
  simp only [nextF, h, Bool.false_eq_true, if_false]
  split
  · rfl
  · rw [show l.length - i = (l.length - (i + 1)) + 1 by omega]; simp [zeros, List.replicate_succ]
theorem mid_at (hm : m = t.take j ++ zeros (l.length - j)) (hj : 0 < j) (h1 : j ≤ l.length) (h2 : t.length = l.length) : ∃ h : j - 1 < m.length, m[j - 1] = t[j - 1] := by
  subst hm
  have h3 : j - 1 < (t.take j).length := by rw [List.length_take]; omega
  exact ⟨by rw [List.length_append]; omega, by rw [List.getElem_append_left h3, List.getElem_take]⟩
theorem mid_set (hm : m = t.take j ++ zeros (l.length - j)) (hj : 0 < j) (h1 : j ≤ l.length) (h2 : t.length = l.length) (x : Int) : m.set (j - 1) x = t.take (j - 1) ++ x :: zeros (l.length - j) := by
  subst hm
  have h3 : (t.take (j - 1)).length = j - 1 := by rw [List.length_take]; omega
  have e : t.take j = t.take (j - 1) ++ [t[j - 1]] := by
    have := take_succ_of (l := t) (i := j - 1) (by omega)
    rw [show j - 1 + 1 = j by omega] at this
    exact this.symm
  rw [e, List.append_assoc, List.set_append_right _ _ (by omega), h3, Nat.sub_self]; rfl
theorem next_yes (hm : m = t.take j ++ zeros (l.length - j)) (hj : 0 < j) (h1 : j ≤ l.length) (h2 : t.length = l.length) (h : nextF (l.drop j) (t.drop j) = (zeros (l.length - j), false)) (hlt : t[j - 1] + 1 < chs l[j - 1]) : nextF l t = (m.set (j - 1) (t[j - 1] + 1), true) := by
  rw [mid_set hm hj h1 h2]
  have := next_step hj h1 h2 h
  rw [if_pos hlt] at this
  exact next_lift (by omega) (by omega) this
theorem next_no (hm : m = t.take j ++ zeros (l.length - j)) (hj : 0 < j) (h1 : j ≤ l.length) (h2 : t.length = l.length) (h : nextF (l.drop j) (t.drop j) = (zeros (l.length - j), false)) (hlt : ¬ t[j - 1] + 1 < chs l[j - 1]) :
    m.set (j - 1) 0 = t.take (j - 1) ++ zeros (l.length - (j - 1)) ∧ nextF (l.drop (j - 1)) (t.drop (j - 1)) = (zeros (l.length - (j - 1)), false) := by
  have := next_step hj h1 h2 h
  rw [if_neg hlt] at this
  refine ⟨?_, this⟩
  rw [mid_set hm hj h1 h2, show l.length - (j - 1) = (l.length - j) + 1 by omega]; simp [zeros, List.replicate_succ]
end
/-! all of them, one after the other -/
structure Evy (c : List Kind) (l : List Rep) (most : Int) (k : Nat) (b : Bool) (ch : List Int) (out : List (List Int)) : Prop where
  is : out = ((allCh l).take k).filter (isF c l)
  le : (out.length : Int) ≤ most
  at_ : (b = true ∧ ∃ h : k < (allCh l).length, ch = (allCh l)[k]) ∨ (b = false ∧ k = (allCh l).length)
section
variable {c : List Kind} {l : List Rep} {most : Int} {k : Nat} {b : Bool} {ch : List Int} {out : List (List Int)}
theorem pos_one (hp : ∀ r ∈ l, chs r ≠ 0) : ∀ r ∈ l, 1 ≤ chs r := fun r hr => by have := hp r hr; have := chs_nn r; omega
theorem Evy.start (hp : ∀ r ∈ l, chs r ≠ 0) (h : 1 ≤ most) : Evy c l most 0 true (zeros l.length) [] := by
  have hC := all_chn (pos_one hp)
  refine ⟨rfl, by simp; omega, .inl ⟨rfl, hC.pos, ?_⟩⟩
  have := hC.first
  rw [List.getElem?_eq_getElem hC.pos] at this
  exact (Option.some.inj this).symm
theorem Evy.mem (h : Evy c l most k true ch out) : ch ∈ allCh l := by
  rcases h.at_ with ⟨_, h1, rfl⟩ | ⟨h1, _⟩
  · exact List.getElem_mem h1
  · cases h1
theorem Evy.lt (h : Evy c l most k true ch out) : k < (allCh l).length := by
  rcases h.at_ with ⟨_, h1, _⟩ | ⟨h1, _⟩
  · exact h1
  · cases h1
theorem Evy.next_at (hp : ∀ r ∈ l, chs r ≠ 0) (h : Evy c l most k true ch out) : ((nextF l ch).2 = true ∧ ∃ h : k + 1 < (allCh l).length, (nextF l ch).1 = (allCh l)[k + 1]) ∨ ((nextF l ch).2 = false ∧ k + 1 = (allCh l).length) := by
  have hC := all_chn (pos_one hp)
  rcases h.at_ with ⟨_, h1, rfl⟩ | ⟨h1, _⟩
  · rcases Nat.lt_or_ge (k + 1) (allCh l).length with h2 | h2
    · have := hC.step k h2
      exact .inl ⟨by rw [this], h2, by rw [this]⟩
    · obtain rfl : k = (allCh l).length - 1 := by omega
      have := hC.last (by omega)
      exact .inr ⟨by rw [this], by omega⟩
  · cases h1
theorem Evy.yes (hp : ∀ r ∈ l, chs r ≠ 0) (h : Evy c l most k true ch out) (hl : (out.length : Int) < most) (hi : isF c l ch = true) : Evy c l most (k + 1) (nextF l ch).2 (nextF l ch).1 (out ++ [ch]) := by
  refine ⟨?_, by simp; omega, h.next_at hp⟩
  obtain ⟨h1, rfl⟩ : ∃ h : k < (allCh l).length, ch = (allCh l)[k] := by
    rcases h.at_ with ⟨_, h1⟩ | ⟨h1, _⟩
    · exact h1
    · cases h1
  rw [← take_succ_of h1, List.filter_append, h.is]; simp [hi]
theorem Evy.no (hp : ∀ r ∈ l, chs r ≠ 0) (h : Evy c l most k true ch out) (hi : isF c l ch = false) : Evy c l most (k + 1) (nextF l ch).2 (nextF l ch).1 out := by
  refine ⟨?_, h.le, h.next_at hp⟩
  obtain ⟨h1, rfl⟩ : ∃ h : k < (allCh l).length, ch = (allCh l)[k] := by
    rcases h.at_ with ⟨_, h1⟩ | ⟨h1, _⟩
    · exact h1
    · cases h1
  rw [← take_succ_of h1, List.filter_append, h.is]; simp [hi]
theorem Evy.end_ (h : Evy c l most k b ch out) (hb : b = true → ¬ (out.length : Int) < most) (h1 : 1 ≤ most) : out = (histF c l).take most.toNat := by
  have hpre : out <+: histF c l := by
    rw [h.is]; unfold histF
    exact (List.take_prefix _ _).filter _
  rcases h.at_ with ⟨rfl, _⟩ | ⟨rfl, rfl⟩
  · have := hb rfl
    have := h.le
    have e : most.toNat = out.length := by omega
    rw [e]
    exact (List.prefix_iff_eq_take.1 hpre)
  · have e : out = histF c l := by rw [h.is, List.take_length]; rfl
    rw [← e, List.take_of_length_le]
    have := h.le
    omega
end
theorem hist_ref {c : List Kind} {l : List Rep} (hc : validC c = true) (hp : ∀ r ∈ l, chs r ≠ 0) (ch : List Int) : (decide ((pickedF l ch).2 = 0) && decide ((runF c (pickedF l ch).1).2.2 = 0)) = isF c l ch := by
  have hg : givF c l = true := by
    simp only [givF, hc, Bool.true_and]
    have : ∀ r ∈ l, validRep r = true := fun r hr => by
      cases hv : validRep r with
      | true => rfl
      | false => exact absurd (by simp [chs, hv]) (hp r hr)
    rw [allP, List.all_eq_true]
    intro i hi
    have hi := List.mem_range.1 hi
    simp only [List.getElem?_eq_getElem hi]
    exact this _ (List.getElem_mem hi)
  by_cases ha : areF l ch = true
  · rw [← ref_is hg ha, picked_are, if_pos ha]; simp
  · rw [ref_is_no (by rw [hg]; simpa using ha), picked_are, if_neg ha]; simp
theorem picked_le (l : List Rep) (ch : List Int) : (pickedF l ch).1.length ≤ l.length := by
  rw [picked_are]
  split
  · exact evs_len _ _ _
  · simp
theorem picked_sm {l : List Rep} {ch : List Int} (hsl : ∀ r ∈ l, ∀ e ∈ r.options, SmE e) : ∀ e ∈ (pickedF l ch).1, SmE e := fun e he => by
  rw [picked_are] at he
  split at he
  · exact evs_sm hsl he
  · cases he
section
variable {c : List Kind} {l : List Rep}
theorem first_err (h : errF c l ≠ 0) : firstF c l = ([], errF c l) := by
  have := all_err (c := c) (l := l) (most := 1) (by decide) (by decide) h
  unfold firstF; rw [this, if_pos h]
theorem first_none (he : errF c l = 0) (h : (histF c l).take (1 : Int).toNat = []) : firstF c l = ([], 21) := by
  have := all_is (c := c) (l := l) (most := 1) (by decide) (by decide) he
  rw [if_pos h] at this
  unfold firstF; rw [this]; rfl
theorem first_some (he : errF c l = 0) (h : 0 < ((histF c l).take (1 : Int).toNat).length) : firstF c l = (((histF c l).take (1 : Int).toNat)[0], 0) := by
  have := all_is (c := c) (l := l) (most := 1) (by decide) (by decide) he
  rw [if_neg (List.length_pos_iff.1 h)] at this
  unfold firstF; rw [this, if_neg (fun h => h rfl), hd_eq h]
end
end Go.Sx

/- Walks, printed by a program out of the code of the functions: each theorem is a contract of one function. -/
namespace Go.Proofs.YtoadjlmbdliceaaGreat
open Go Go.Sx
set_option linter.all false
set_option maxRecDepth 20000
set_option maxHeartbeats 4000000
theorem ref13Are (I : IMap) (v : Value) (l : List Rep) (hv : RdS I v l) (hl : l.length ≤ 1000000) (hsl : ∀ r ∈ l, ∀ e ∈ r.options, SmE e) (w : Value) (ch : List Int) (hw : RdS I w ch) :
    FnV Tryz.prog 123 #[v, w] I (.bool (areF l ch)) := by
 obtain ⟨A, c0, rfl, hA, hc, hm⟩ := hv
 obtain ⟨B, c1, rfl, hB, hc1, hm1⟩ := hw
 refine enter Tryz.func123 Tryz.call123 rfl Tryz.ntmps123 rfl (fun w0 => ?_)
 refine go 15 ?_
 refine cb rfl (fun h10 p10 => ?_) (fun h10 p10 => ?_)
 ·refine go 7 ?_
  refine fin1 rfl rfl ?_
  exact q_v (congrArg Value.bool (by simp only [areF, show decide (((l.length : Nat) : Int) = (ch.length : Nat)) = false from by simpa using h10, bS]))
 ·have hle : ((l.length : Nat) : Int) = (ch.length : Nat) := by simpa using h10
  refine go 9 ?_
  refine c_loop (α := Nat) 0 (fun i => I)
   (fun i => [(0, .slice A l.length c0), (1, .slice B ch.length c1), (5, .int .i64 ((i : Nat) : Int))])
   (fun i => [])
   (fun i => i ≤ l.length ∧ allTo okK l ch i = true)
   (fun i => l.length - i) ⟨Nat.zero_le _, rfl⟩ rfl sb rfl ?_
  intro i ⟨hi, hn⟩
  refine go 9 ?_
  refine cb rfl (fun h14 p14 => ?_) (fun h14 p14 => ?_)
  ·have hlt : i < l.length := by omega
   have hlt2 : i < ch.length := by omega
   refine go 5 ?_
   refine d_startH T.mixed ?_
   refine d_tv 0 rfl rfl (by kernel_rfl) rfl .slnil rfl (v_move rfl) ?_
   refine d_tv 1 rfl rfl (by kernel_rfl) rfl .slnil rfl (v_move rfl) ?_
   obtain ⟨b19, o19, w19, e19, c19, r19⟩ := RdA.at_ hB (i := i) (by omega)
   obtain rfl := r19
   refine d_tv 2 rfl rfl (by kernel_rfl) rfl .slnil rfl (v_idx he rfl rfl e19 (i) (by omega) (by omega)) ?_
   refine d_tv 3 rfl rfl (by kernel_rfl) rfl .slnil rfl (v_ldI he rfl (c19 0 _ rfl)) ?_
   refine d_tv 4 rfl rfl (by kernel_rfl) rfl .slnil rfl (v_lss rfl rfl) ?_
   refine d_tv 5 rfl rfl (by kernel_rfl) rfl .slnil rfl (v_move rfl) ?_
   refine sxb 22 rfl (fun h22 p22 => ?_) (fun h22 p22 => ?_)
   ·refine d_t 6 rfl rfl (by kernel_rfl) rfl (fun _ m => m.keeps .slnil) (y_no rfl rfl h22) ?_
    refine d_t 7 rfl rfl (by kernel_rfl) rfl (fun _ m => m.keeps .slnil) (y_no rfl rfl h22) ?_
    refine d_t 8 rfl rfl (by kernel_rfl) rfl (fun _ m => m.keeps .slnil) (y_no rfl rfl h22) ?_
    refine d_t 9 rfl rfl (by kernel_rfl) rfl (fun _ m => m.keeps .slnil) (y_no rfl rfl h22) ?_
    refine d_t 10 rfl rfl (by kernel_rfl) rfl (fun _ m => m.keeps .slnil) (y_no rfl rfl h22) ?_
    refine d_t 11 rfl rfl (by kernel_rfl) rfl (fun _ m => m.keeps .slnil) (y_no rfl rfl h22) ?_
    refine d_t 12 rfl rfl (by kernel_rfl) rfl (fun _ m => m.keeps .slnil) (y_no rfl rfl h22) ?_
    refine d_t 13 rfl rfl (by kernel_rfl) rfl (fun _ m => m.keeps .slnil) (y_no rfl rfl h22) ?_
    refine d_t 14 rfl rfl (by kernel_rfl) rfl (fun _ m => m.keeps .slnil) (y_no rfl rfl h22) ?_
    refine d_t 15 rfl rfl (by kernel_rfl) rfl (fun _ m => m.keeps .slnil) (y_no rfl rfl h22) ?_
    refine d_tv 16 rfl rfl (by kernel_rfl) rfl .slnil rfl (v_or_t h22 rfl) ?_
    refine d_done (by kernel_rfl) ?_
    refine go 1 ?_
    refine c_true rfl ?_
    refine go 11 ?_
    refine fin1 rfl rfl ?_
    exact q_v (congrArg Value.bool (by simp only [areF, allTo_not hlt hlt hlt2 (show okK l[i] ch[i] = false by simp only [okK, h14, h22, bS]), bS]))
   ·refine d_t 6 rfl rfl (by kernel_rfl) rfl (fun _ m => m.keeps .slnil) (y_yes rfl rfl h22 (v_move rfl)) ?_
    refine d_t 7 rfl rfl (by kernel_rfl) rfl (fun _ m => m.keeps .slnil) (y_yes rfl rfl h22 (v_move rfl)) ?_
    obtain ⟨b25, o25, w25, e25, c25, r25⟩ := RdA.at_ hB (i := i) (by omega)
    obtain rfl := r25
    refine d_t 8 rfl rfl (by kernel_rfl) rfl (fun _ m => m.keeps .slnil) (y_yes rfl rfl h22 (v_idx he rfl rfl e25 (i) (by omega) (by omega))) ?_
    refine d_t 9 rfl rfl (by kernel_rfl) rfl (fun _ m => m.keeps .slnil) (y_yes rfl rfl h22 (v_ldI he rfl (c25 0 _ rfl))) ?_
    refine d_t 10 rfl rfl (by kernel_rfl) rfl (fun _ m => m.keeps .slnil) (y_yes rfl rfl h22 (v_move rfl)) ?_
    refine d_t 11 rfl rfl (by kernel_rfl) rfl (fun _ m => m.keeps .slnil) (y_yes rfl rfl h22 (v_move rfl)) ?_
    obtain ⟨b29, o29, w29, e29, c29, r29⟩ := RdA.at_ hA (i := i) (by omega)
    obtain ⟨q29, rfl, S29, d29, rfl, hS29, hd29, hm29⟩ := r29
    refine d_t 12 rfl rfl (by kernel_rfl) rfl (fun _ m => m.keeps .slnil) (y_yes rfl rfl h22 (v_idx he rfl rfl e29 (i) (by omega) (by omega))) ?_
    refine d_t 13 rfl rfl (by kernel_rfl) rfl (fun _ m => m.keeps .slnil) (y_yes rfl rfl h22 (v_ldIa he rfl c29 rfl)) ?_
    refine d_one 14 (by kernel_rfl) rfl ?_
    refine o_yes rfl rfl h22 (o_callV (ref13Choices _ l[i] S29 d29 ⟨_, _, rfl, hS29, hd29, hm29⟩ (hsl _ (List.getElem_mem hlt))) rfl rfl ?_)
    refine d_on (fun _ m => m.keeps .slnil) ?_
    refine d_t 15 rfl rfl (by kernel_rfl) rfl (fun _ m => m.keeps .slnil) (y_yes rfl rfl h22 (v_geq rfl rfl)) ?_
    refine d_tv 16 rfl rfl (by kernel_rfl) rfl .slnil rfl (v_or_f h22 rfl rfl) ?_
    refine d_done (by kernel_rfl) ?_
    refine go 1 ?_
    refine cb rfl (fun h33 p33 => ?_) (fun h33 p33 => ?_)
    ·refine go 11 ?_
     refine fin1 rfl rfl ?_
     exact q_v (congrArg Value.bool (by simp only [areF, allTo_not hlt hlt hlt2 (show okK l[i] ch[i] = false by simp only [okK, h14, h22, h33, bS]), bS]))
    ·refine go 9 ?_
     exact q_next (i + 1) ⟨by omega, allTo_succ hn hlt hlt2 (by simp only [okK, h14, h22, h33, bS])⟩ (by omega) rfl sb rfl
  ·refine go 11 ?_
   refine fin1 rfl rfl ?_
   have e : i = l.length := (by omega)
   subst e
   exact q_v (congrArg Value.bool (by simp only [areF, hn, decide_eq_true hle, bS]))

theorem ref13Picked (I : IMap) (v : Value) (l : List Rep) (hv : RdS I v l) (hl : l.length ≤ 1000000) (hsl : ∀ r ∈ l, ∀ e ∈ r.options, SmE e) (w : Value) (ch : List Int) (hw : RdS I w ch) :
    FnI Tryz.prog 106 #[v, w] I (fun u J => ∃ z, u = .tuple #[z, .int .i64 (pickedF l ch).2] ∧ RdS J z (pickedF l ch).1) := by
 have hv0 := hv
 have hw0 := hw
 obtain ⟨A, c0, rfl, hA, hc, hm⟩ := hv
 obtain ⟨B, c1, rfl, hB, hc1, hm1⟩ := hw
 refine enter Tryz.func106 Tryz.call106 rfl Tryz.ntmps106 rfl (fun w0 => ?_)
 refine go 12 ?_
 refine o_callV (ref13Are _ _ l hv0 hl hsl _ ch hw0) rfl rfl ?_
 refine go 3 ?_
 refine cb rfl (fun h11 p11 => ?_) (fun h11 p11 => ?_)
 ·refine go 8 ?_
  refine fin2 rfl rfl rfl ?_
  have hn : ¬ areF l ch = true := by simpa using h11
  exact q_i ⟨_, by rw [picked_are, if_neg hn], by rw [picked_are, if_neg hn]; exact RdS.nil'⟩
 ·have ha : areF l ch = true := by simpa using h11
  have hle := are_len ha
  refine go 4 ?_
  refine sx_nilrow 56 14 ?_
  refine go 10 ?_
  refine c_loop4 ((0 : Nat)) (_) ([]) ([]) (fun i v6 xs out => I)
   (fun i v6 xs out => [(0, .slice A l.length c0), (1, .slice B ch.length c1), (6, v6), (7, .int .i64 ((i : Nat) : Int))])
   (fun i v6 xs out => [.row v6 56 14 out.length xs])
   (fun i v6 xs out => i ≤ l.length ∧ evsTo l ch i = out ∧ Flat I xs out)
   (fun i v6 xs out => l.length - i) ⟨Nat.zero_le _, rfl, .nil⟩ rfl sb rfl ?_
  intro i v6 xs out ⟨hi, hev, hF⟩
  have hol : out.length ≤ i := by rw [← hev]; exact evs_len _ _ _
  refine go 9 ?_
  refine cb rfl (fun h15 p15 => ?_) (fun h15 p15 => ?_)
  ·have hlt : i < l.length := by omega
   have hlt2 : i < ch.length := by omega
   have hai := are_at ha hlt hlt2
   have hcl := chs_le l[i]
   refine go 5 ?_
   refine d_startH T.mixed ?_
   refine d_tv 0 rfl rfl (by kernel_rfl) rfl (.refl _) rfl (v_move rfl) ?_
   refine d_tv 1 rfl rfl (by kernel_rfl) rfl (.refl _) rfl (v_move rfl) ?_
   obtain ⟨b20, o20, w20, e20, c20, r20⟩ := RdA.at_ hB (i := i) (by omega)
   obtain rfl := r20
   refine d_tv 2 rfl rfl (by kernel_rfl) rfl (.refl _) rfl (v_idx he rfl rfl e20 (i) (by omega) (by omega)) ?_
   refine d_tv 3 rfl rfl (by kernel_rfl) rfl (.refl _) rfl (v_ldI he rfl (c20 0 _ rfl)) ?_
   refine d_tv 4 rfl rfl (by kernel_rfl) rfl (.refl _) rfl (v_move rfl) ?_
   refine d_tv 5 rfl rfl (by kernel_rfl) rfl (.refl _) rfl (v_move rfl) ?_
   obtain ⟨b24, o24, w24, e24, c24, r24⟩ := RdA.at_ hA (i := i) (by omega)
   obtain ⟨q24, rfl, S24, d24, rfl, hS24, hd24, hm24⟩ := r24
   refine d_tv 6 rfl rfl (by kernel_rfl) rfl (.refl _) rfl (v_idx he rfl rfl e24 (i) (by omega) (by omega)) ?_
   refine d_tv 7 rfl rfl (by kernel_rfl) rfl (.refl _) rfl (v_fieldAddr he rfl) ?_
   refine d_tv 8 rfl rfl (by kernel_rfl) rfl (.refl _) rfl (v_ldI he rfl (c24 0 _ rfl)) ?_
   refine d_tv 9 rfl rfl (by kernel_rfl) rfl (.refl _) rfl (v_len_slice he rfl) ?_
   refine d_tv 10 rfl rfl (by kernel_rfl) rfl (.refl _) rfl (v_lss rfl rfl) ?_
   refine d_done (by kernel_rfl) ?_
   refine go 1 ?_
   refine cb rfl (fun h28 p28 => ?_) (fun h28 p28 => ?_)
   ·have hk : ch[i].toNat < l[i].options.length := by omega
    refine d_start1 T.mixed ?_
    refine d_tv 0 rfl rfl (by kernel_rfl) rfl (.cons _ .slnil) rfl (v_move rfl) ?_
    refine d_tv 1 rfl rfl (by kernel_rfl) rfl (.cons _ .slnil) rfl (v_move rfl) ?_
    refine d_tv 2 rfl rfl (by kernel_rfl) rfl (.cons _ .slnil) rfl (v_move rfl) ?_
    obtain ⟨b32, o32, w32, e32, c32, r32⟩ := RdA.at_ hA (i := i) (by omega)
    obtain ⟨q32, rfl, S32, d32, rfl, hS32, hd32, hm32⟩ := r32
    refine d_tv 3 rfl rfl (by kernel_rfl) rfl (.cons _ .slnil) rfl (v_idx he rfl rfl e32 (i) (by omega) (by omega)) ?_
    refine d_tv 4 rfl rfl (by kernel_rfl) rfl (.cons _ .slnil) rfl (v_fieldAddr he rfl) ?_
    refine d_tv 5 rfl rfl (by kernel_rfl) rfl (.cons _ .slnil) rfl (v_ldI he rfl (c32 0 _ rfl)) ?_
    refine d_tv 6 rfl rfl (by kernel_rfl) rfl (.cons _ .slnil) rfl (v_move rfl) ?_
    refine d_tv 7 rfl rfl (by kernel_rfl) rfl (.cons _ .slnil) rfl (v_move rfl) ?_
    obtain ⟨b37, o37, w37, e37, c37, r37⟩ := RdA.at_ hB (i := i) (by omega)
    obtain rfl := r37
    refine d_tv 8 rfl rfl (by kernel_rfl) rfl (.cons _ .slnil) rfl (v_idx he rfl rfl e37 (i) (by omega) (by omega)) ?_
    refine d_tv 9 rfl rfl (by kernel_rfl) rfl (.cons _ .slnil) rfl (v_ldI he rfl (c37 0 _ rfl)) ?_
    obtain ⟨b39, o39, w39, e39, c39, r39⟩ := RdA.at_ hS32 (i := ch[i].toNat) hk
    obtain rfl := r39
    refine d_tv 10 rfl rfl (by kernel_rfl) rfl (.cons _ .slnil) rfl (v_idx he rfl rfl e39 (ch[i].toNat) (by omega) hk) ?_
    refine d_tv 11 rfl rfl (by kernel_rfl) rfl (.cons _ .slnil) rfl (v_ldIa he rfl c39 rfl) ?_
    refine d_one 12 (by kernel_rfl) rfl ?_
    refine o_buildSlice he he rfl rfl rfl rfl rfl rfl rfl (fun v41 => ?_)
    refine d_on (fun _ m => m.keeps (.cons _ (.cons _ .slnil))) ?_
    refine d_one 13 (by kernel_rfl) rfl ?_
    refine bring1 ?_
    refine o_appendO he he rfl rfl rfl rfl rfl (by omega) (by omega) rfl (fun v42 => ?_)
    refine d_on (fun _ m => m.keeps (.cons _ (.cons _ .slnil))) ?_
    refine d_tv 14 rfl rfl (by kernel_rfl) rfl (.cons _ (.cons _ .slnil)) rfl (v_assign rfl) ?_
    refine d_done (by kernel_rfl) ?_
    refine go 8 ?_
    refine bring1 ?_
    refine sx_drop ?_
    exact q_next4 (i + 1) (_) (_) (out ++ [l[i].options[ch[i].toNat]]) ⟨by omega, evs_yes hlt hlt2 hev hk, hF.append (.one rfl)⟩ (by omega) rfl sb (by first | rfl | (simp only [List.length_append, List.length_singleton]; rfl) | simp only [List.length_append, List.length_singleton])
   ·refine go 9 ?_
    exact q_next4 (i + 1) (_) (_) (out) ⟨by omega, evs_no hlt hlt2 hev (by omega), hF⟩ (by omega) rfl sb (by first | rfl | (simp only [List.length_append, List.length_singleton]; rfl) | simp only [List.length_append, List.length_singleton])
  ·refine go 7 ?_
   obtain rfl : i = l.length := by omega
   refine sx_pubrow (l := out) rfl rfl (hF) (fun Ip jp Rp => ?_)
   refine go 6 ?_
   refine fin2 rfl rfl rfl ?_
   exact q_i ⟨_, by rw [picked_are, if_pos ha], by rw [picked_are, if_pos ha, hev]; exact Rp⟩

theorem ref13Doubtful (I : IMap) (r : Rep) (S : Option Addr) (d : Nat) (hr : RdS I (.slice S r.options.length d) r.options) (hs : ∀ e ∈ r.options, SmE e) :
    FnV Tryz.prog 77 #[.agg (r.cells (.slice S r.options.length d)).toArray] I (.bool (decide (1 < chs r))) := by
 refine enter Tryz.func77 Tryz.call77 rfl Tryz.ntmps77 rfl (fun w0 => ?_)
 refine go 3 ?_
 refine o_box _ rfl rfl rfl (fun g1 => ?_)
 refine go 7 ?_
 refine o_callV (ref13Choices _ r S d hr hs) rfl rfl ?_
 refine go 5 ?_
 refine fin1 rfl rfl ?_
 exact q_v rfl

theorem ref16Wrong (I : IMap) (vc : Value) (c : List Kind) (hvc : RdS I vc c) (hsc : SmC c) (v : Value) (l : List Rep) (hv : RdS I v l) (hl : l.length ≤ 1000000) (hsl : ∀ r ∈ l, ∀ e ∈ r.options, SmE e)  :
    FnV Tryz.prog 46 #[.agg #[vc], v] I (.int .i64 (errF c l)) := by
 have hv0 := hv
 obtain ⟨A, c0, rfl, hA, hc, hm⟩ := hv
 refine enter Tryz.func46 Tryz.call46 rfl Tryz.ntmps46 rfl (fun w0 => ?_)
 refine go 3 ?_
 refine o_box _ rfl rfl rfl (fun g2 => ?_)
 refine go 13 ?_
 refine o_callV (refValid _ vc c hvc hsc) rfl rfl ?_
 refine go 3 ?_
 refine cb rfl (fun h9 p9 => ?_) (fun h9 p9 => ?_)
 ·refine go 7 ?_
  refine fin1 rfl rfl ?_
  exact q_v (congrArg (Value.int .i64) (err_cat (by rw [valid_same]; simpa using h9)).symm)
 ·have hC : validC c = true := by rw [valid_same]; simpa using h9
  refine go 9 ?_
  refine sx_drop ?_
  refine c_loop (α := Nat) 0 (fun i => I)
   (fun i => [(1, .slice A l.length c0), (5, .int .i64 ((dbtF (l.take i) : Nat) : Int)), (6, .int .i64 ((i : Nat) : Int))])
   (fun i => [])
   (fun i => i ≤ l.length ∧ ∀ r ∈ l.take i, chs r ≠ 0)
   (fun i => l.length - i) ⟨Nat.zero_le _, fun r hr => by simp at hr⟩ rfl sb rfl ?_
  intro i ⟨hi, hp⟩
  have hdi : dbtF (l.take i) ≤ (l.take i).length := List.length_filter_le _ _
  rw [List.length_take] at hdi
  refine go 9 ?_
  refine cb rfl (fun h13 p13 => ?_) (fun h13 p13 => ?_)
  ·have hlt : i < l.length := by omega
   refine go 9 ?_
   obtain ⟨b18, o18, w18, e18, c18, r18⟩ := RdA.at_ hA (i := i) (by omega)
   obtain ⟨q18, rfl, S18, d18, rfl, hS18, hd18, hm18⟩ := r18
   refine o_v rfl (v_idx he rfl rfl e18 (i) (by omega) (by omega)) ?_
   refine o_v rfl (v_ldIa he rfl c18 rfl) ?_
   refine go 1 ?_
   refine o_callV (ref13Valid _ l[i] S18 d18 ⟨_, _, rfl, hS18, hd18, hm18⟩ (hsl _ (List.getElem_mem (by omega)))) rfl rfl ?_
   refine go 3 ?_
   refine cb rfl (fun h21 p21 => ?_) (fun h21 p21 => ?_)
   ·refine go 12 ?_
    refine fin1 rfl rfl ?_
    exact q_v (congrArg (Value.int .i64) (err_any hC hlt (by simp [Go.Sx.chs, show validRep l[i] = false by simpa using h21])).symm)
   ·have hne : Go.Sx.chs l[i] ≠ 0 := by have := chs_pos (r := l[i]) (by simpa using h21); omega
    refine go 6 ?_
    obtain ⟨b24, o24, w24, e24, c24, r24⟩ := RdA.at_ hA (i := i) (by omega)
    obtain ⟨q24, rfl, S24, d24, rfl, hS24, hd24, hm24⟩ := r24
    refine o_v rfl (v_idx he rfl rfl e24 (i) (by omega) (by omega)) ?_
    refine o_v rfl (v_ldIa he rfl c24 rfl) ?_
    refine go 1 ?_
    refine o_callV (ref13Doubtful _ l[i] S24 d24 ⟨_, _, rfl, hS24, hd24, hm24⟩ (hsl _ (List.getElem_mem (by omega)))) rfl rfl ?_
    refine go 2 ?_
    refine cb rfl (fun h26 p26 => ?_) (fun h26 p26 => ?_)
    ·refine go 13 ?_
     exact q_next (i + 1) ⟨by omega, pos_take hlt hp hne⟩ (by omega) rfl ⟨rfl, (congrArg (fun z => some (Value.int .i64 z)) (by rw [dbt_take hlt, if_pos (by omega)]; omega)), rfl, trivial⟩ rfl
    ·refine go 9 ?_
     exact q_next (i + 1) ⟨by omega, pos_take hlt hp hne⟩ (by omega) rfl ⟨rfl, (congrArg (fun z => some (Value.int .i64 z)) (by rw [dbt_take hlt, if_neg (by omega)]; omega)), rfl, trivial⟩ rfl
  ·have e : i = l.length := by omega
   subst e
   rw [List.take_length] at hp hdi
   rw [List.take_length]
   refine go 12 ?_
   refine cb rfl (fun h30 p30 => ?_) (fun h30 p30 => ?_)
   ·refine go 7 ?_
    refine fin1 rfl rfl ?_
    exact q_v (congrArg (Value.int .i64) (by rw [err_end hC hp, if_pos p30]))
   ·refine go 8 ?_
    refine fin1 rfl rfl ?_
    exact q_v (congrArg (Value.int .i64) (by rw [err_end hC hp, if_neg p30]))

theorem ref16History (I : IMap) (vc : Value) (c : List Kind) (hvc : RdS I vc c) (hsc : SmC c) (v : Value) (l : List Rep) (hv : RdS I v l) (hl : l.length ≤ 1000000) (hsl : ∀ r ∈ l, ∀ e ∈ r.options, SmE e) (hC : validC c = true) (hP : ∀ r ∈ l, chs r ≠ 0) (w : Value) (ch : List Int) (hw : RdS I w ch) :
    FnI Tryz.prog 78 #[.agg #[vc], v, w] I (fun u J => u = .bool (isF c l ch)) := by
 refine enter Tryz.func78 Tryz.call78 rfl Tryz.ntmps78 rfl (fun w0 => ?_)
 refine go 3 ?_
 refine o_box _ rfl rfl rfl (fun g3 => ?_)
 refine go 8 ?_
 refine o_call (ref13Picked _ _ l hv hl hsl _ ch hw) rfl rfl (fun v15 I15 j15 q15 => ?_)
 have hvc := hvc.le j15
 obtain ⟨w15, rfl, hw15⟩ := q15
 refine go 14 ?_
 refine cb rfl (fun h19 p19 => ?_) (fun h19 p19 => ?_)
 ·refine go 7 ?_
  refine fin1 rfl rfl ?_
  exact q_i (congrArg Value.bool (by rw [← hist_ref hC hP ch, decide_eq_false p19]; rfl))
 ·have h0 : (pickedF l ch).2 = 0 := by simpa using h19
  have hle := picked_le l ch
  refine go 7 ?_
  refine o_call (ref11Run _ vc c hvc hsc _ (pickedF l ch).1 hw15 (by omega) (picked_sm hsl)) rfl rfl (fun v23 I23 j23 q23 => ?_)
  obtain ⟨w23, rfl, hw23⟩ := q23
  refine go 5 ?_
  refine o_alloc he rfl (fun g9 => ?_)
  refine go 1 ?_
  refine o_stw _ he rfl rfl rfl rfl rfl (by simp [hw23.one]) ?_
  refine go 12 ?_
  refine fin1 rfl rfl ?_
  exact q_i (congrArg Value.bool (by rw [← hist_ref hC hP ch, decide_eq_true h0]; rfl))

theorem ref16Next (I : IMap) (v : Value) (l : List Rep) (hv : RdS I v l) (hl : l.length ≤ 1000000) (hsl : ∀ r ∈ l, ∀ e ∈ r.options, SmE e) (w : Value) (t : List Int) (hw : RdS I w t) (ht : t ∈ allCh l) :
    FnI Tryz.prog 79 #[v, w] I (fun u J => ∃ z, u = .tuple #[z, .bool (nextF l t).2] ∧ RdS J z (nextF l t).1) := by
 have htl := (all_mem.1 ht).1
 have htb := (all_mem.1 ht).2
 have hv0 := hv
 obtain ⟨A, c0, rfl, hA, hc, hm⟩ := hv
 refine enter Tryz.func79 Tryz.call79 rfl Tryz.ntmps79 rfl (fun w0 => ?_)
 refine go 9 ?_
 refine o_buildSlice he he rfl rfl rfl rfl rfl rfl rfl (fun v8 => ?_)
 refine go 2 ?_
 refine o_appendR (hw) rfl he he rfl rfl rfl rfl (by omega) (by omega) rfl (fun v10 x10 f10 => ?_)
 refine go 13 ?_
 refine c_loop4 (l.length) (_) (_) (t) (fun j v6 xs m => I)
  (fun j v6 xs m => [(0, .slice A l.length c0), (6, v6), (7, .int .i64 (((j : Nat) : Int) - 1))])
  (fun j v6 xs m => [.row v6 3 1 (0 + t.length) xs])
  (fun j v6 xs m => j ≤ l.length ∧ Flat I xs m ∧ m = t.take j ++ zeros (l.length - j) ∧ nextF (l.drop j) (t.drop j) = (zeros (l.length - j), false))
  (fun j v6 xs m => j) ⟨Nat.le_refl _, f10, by simp [zeros, ← htl], by simp [nextF, zeros]⟩ rfl sb rfl ?_
 intro j v6 xs m ⟨hj, hF, hm, hnx⟩
 refine go 7 ?_
 refine cb rfl (fun h15 p15 => ?_) (fun h15 p15 => ?_)
 ·have hj0 : 0 < j := by omega
  obtain ⟨hjm, hmj⟩ := mid_at hm hj0 hj htl
  have hml : m.length = l.length := by rw [hm]; simp [zeros]; omega
  have hb := htb (j - 1) (by omega) (by omega)
  have hc5 := chs_five l[j - 1]
  refine sx_rowF hF rfl (by omega) (by omega) (fun g15 cap15 rest15 xss15 hv15 hC15 hR15 hc15 hl15 => ?_)
  subst hv15
  refine go 6 ?_
  refine d_startH T.mixed ?_
  refine d_tv 0 rfl rfl (by kernel_rfl) rfl (.refl _) rfl (v_move rfl) ?_
  refine d_tv 1 rfl rfl (by kernel_rfl) rfl (.refl _) rfl (v_move rfl) ?_
  refine d_tv 2 rfl rfl (by kernel_rfl) rfl (.refl _) rfl (v_idx he rfl rfl rfl (j - 1) (by omega) (by omega)) ?_
  refine d_tv 3 rfl rfl (by kernel_rfl) rfl (.refl _) rfl (OV.cast (u := .int .i64 t[j - 1]) (v_lds m0 (Uk.append (show Uk 1 xss15 from hC15.uk) hR15) he rfl (j - 1) (by omega) (fc_at hC15 (by omega))) (congrArg (Value.int .i64) hmj)) ?_
  refine d_tv 4 rfl rfl (by kernel_rfl) rfl (.refl _) rfl (v_add rfl rfl ⟨by omega, by omega⟩) ?_
  refine d_tv 5 rfl rfl (by kernel_rfl) rfl (.refl _) rfl (v_move rfl) ?_
  refine d_tv 6 rfl rfl (by kernel_rfl) rfl (.refl _) rfl (v_move rfl) ?_
  obtain ⟨b25, o25, w25, e25, c25, r25⟩ := RdA.at_ hA (i := j - 1) (by omega)
  obtain ⟨q25, rfl, S25, d25, rfl, hS25, hd25, hm25⟩ := r25
  refine d_tv 7 rfl rfl (by kernel_rfl) rfl (.refl _) rfl (v_idx he rfl rfl e25 (j - 1) (by omega) (by omega)) ?_
  refine d_tv 8 rfl rfl (by kernel_rfl) rfl (.refl _) rfl (v_ldIa he rfl c25 rfl) ?_
  refine d_one 9 (by kernel_rfl) rfl ?_
  refine o_callV (ref13Choices _ l[j - 1] S25 d25 ⟨_, _, rfl, hS25, hd25, hm25⟩ (hsl _ (List.getElem_mem (by omega)))) rfl rfl ?_
  refine d_on (fun _ m => m.keeps (.refl _)) ?_
  refine d_tv 10 rfl rfl (by kernel_rfl) rfl (.refl _) rfl (v_lss rfl rfl) ?_
  refine d_done (by kernel_rfl) ?_
  refine go 1 ?_
  refine cb rfl (fun h28 p28 => ?_) (fun h28 p28 => ?_)
  ·refine go 4 ?_
   refine o_v rfl (v_idx he rfl rfl rfl (j - 1) (by omega) (by omega)) ?_
   refine o_v rfl (OV.cast (u := .int .i64 t[j - 1]) (v_lds m0 (Uk.append (show Uk 1 xss15 from hC15.uk) hR15) he rfl (j - 1) (by omega) (fc_at hC15 (by omega))) (congrArg (Value.int .i64) hmj)) ?_
   refine go 1 ?_
   refine o_v rfl (v_idx he rfl rfl rfl (j - 1) (by omega) (by omega)) ?_
   refine go 1 ?_
   refine o_stc _ (j - 1) (Uk.append (show Uk 1 xss15 from hC15.uk) hR15) he rfl rfl rfl rfl rfl (by omega) (by rw [List.length_append, hC15.len]; omega) ?_
   refine sx_unrowF (l := m) (t[j - 1] + 1) hC15 hR15 rfl (by omega) (by omega) hc15 hl15 rfl (fun ws34 hF34 => ?_)
   refine sx_pubrow (l := (m.set (j - 1) (t[j - 1] + 1))) rfl (by simp; omega) (hF34) (fun I34 j34 R34 => ?_)
   refine go 16 ?_
   refine fin2 rfl rfl rfl ?_
   exact q_i ⟨_, by rw [next_yes hm hj0 hj htl hnx p28], by rw [next_yes hm hj0 hj htl hnx p28]; exact R34⟩
  ·refine go 5 ?_
   refine o_v rfl (v_idx he rfl rfl rfl (j - 1) (by omega) (by omega)) ?_
   refine go 1 ?_
   refine o_stc _ (j - 1) (Uk.append (show Uk 1 xss15 from hC15.uk) hR15) he rfl rfl rfl rfl rfl (by omega) (by rw [List.length_append, hC15.len]; omega) ?_
   refine sx_unrowF (l := m) (0) hC15 hR15 rfl (by omega) (by omega) hc15 hl15 rfl (fun ws38 hF38 => ?_)
   refine go 5 ?_
   refine o_v rfl (OV.cast (u := .int .i64 (((j - 1 : Nat) : Int) - 1)) (v_sub rfl rfl ⟨by omega, by omega⟩) (congrArg (Value.int .i64) (by omega))) ?_
   refine go 3 ?_
   exact q_next4 (j - 1) (_) (_) (m.set (j - 1) 0) ⟨by omega, hF38, (next_no hm hj0 hj htl hnx p28).1, (next_no hm hj0 hj htl hnx p28).2⟩ (by omega) rfl sb rfl
 ·obtain rfl : j = 0 := by omega
  have hm0 : m = zeros l.length := by simpa using hm
  have hn0 : nextF l t = (m, false) := by rw [hm0]; simpa using hnx
  have hml : m.length = t.length := by rw [hm0]; simp [zeros, htl]
  refine go 7 ?_
  refine sx_pubrow (l := m) rfl (by omega) (hF) (fun I39 j39 R39 => ?_)
  refine go 6 ?_
  refine fin2 rfl rfl rfl ?_
  exact q_i ⟨_, by rw [hn0], by rw [hn0]; exact R39⟩

theorem ref16Every (I : IMap) (vc : Value) (c : List Kind) (hvc : RdS I vc c) (hsc : SmC c) (v : Value) (l : List Rep) (hv : RdS I v l) (hl : l.length ≤ 1000000) (hsl : ∀ r ∈ l, ∀ e ∈ r.options, SmE e) (hC : validC c = true) (hP : ∀ r ∈ l, chs r ≠ 0) (most : Int) (h1 : 1 ≤ most) (h2 : most ≤ 4096) :
    FnI Tryz.prog 47 #[.agg #[vc], v, .int .i64 most] I (fun u J => RdS J u ((histF c l).take most.toNat)) := by
 have hv0 := hv
 obtain ⟨A, c0, rfl, hA, hc, hm⟩ := hv
 refine enter Tryz.func47 Tryz.call47 rfl Tryz.ntmps47 rfl (fun w0 => ?_)
 refine go 3 ?_
 refine o_box _ rfl rfl rfl (fun g3 => ?_)
 refine go 5 ?_
 refine sx_nilrow 28 1 ?_
 refine go 8 ?_
 refine o_makeSlice he he rfl rfl rfl (by omega) (by omega) rfl (fun g12 => ?_)
 refine sx_pub (fun Ig12 jg12 cg12 => ?_)
 try have hvc := hvc.le jg12
 try have hv0 := hv0.le jg12
 try have hA := hA.le jg12
 try have h8 := h8.le jg12
 try have hF := hF.le jg12
 refine go 10 ?_
 refine c_loop8 ((0 : Nat)) (_) ([]) ([]) (_) ((zeros l.length)) (true) (_) (fun k v7 xs out v8 ch b J => J)
  (fun k v7 xs out v8 ch b J => [(1, .slice A l.length c0), (2, .int .i64 most), (3, .pointer (some ⟨g3, 0, none⟩)), (7, v7), (8, v8), (9, .bool b)])
  (fun k v7 xs out v8 ch b J => [.row v7 28 1 out.length xs, .blk g3 24 [vc]])
  (fun k v7 xs out v8 ch b J => Evy c l most k b ch out ∧ ILe Ig12 J ∧ RdS J v8 ch ∧ Flat J xs out)
  (fun k v7 xs out v8 ch b J => (allCh l).length - k) ⟨Evy.start hP h1, ILe.refl _, intCs_rdn (intCs_rep l.length ▸ cg12) (by simp [zeros]) hl, .nil⟩ rfl sb rfl ?_
 intro k v7 xs out v8 ch b J ⟨hE, hJ, h8, hF⟩
 have h8s := h8
 obtain ⟨A8, c8, rfl, _, _, _⟩ := h8s
 have hol := hE.le
 have hvc := hvc.le hJ
 have hv0 := hv0.le hJ
 have hA := hA.le hJ
 refine sx_rowslice (fun A7 c7 hv7 => ?_)
 subst hv7
 refine go 5 ?_
 refine sxb 14 rfl (fun h14 p14 => ?_) (fun h14 p14 => ?_)
 ·have hEt : Evy c l most k true ch out := by rw [← h14]; exact hE
  refine go 7 ?_
  refine cb rfl (fun h19 p19 => ?_) (fun h19 p19 => ?_)
  ·refine go 10 ?_
   refine o_call (ref16History _ vc c hvc hsc _ l hv0 hl hsl hC hP _ ch h8) rfl rfl (fun v23 I23 j23 q23 => ?_)
   try have hvc := hvc.le j23
   try have hv0 := hv0.le j23
   try have hA := hA.le j23
   try have h8 := h8.le j23
   try have hF := hF.le j23
   obtain rfl := q23
   refine go 2 ?_
   refine cb rfl (fun h23 p23 => ?_) (fun h23 p23 => ?_)
   ·refine go 4 ?_
    refine o_buildSlice he he rfl rfl rfl rfl rfl rfl rfl (fun v26 => ?_)
    refine go 1 ?_
    refine bring1 ?_
    refine o_appendO he he rfl rfl rfl rfl rfl (by omega) (by omega) rfl (fun v27 => ?_)
    refine go 7 ?_
    refine o_call (ref16Next _ _ l hv0 hl hsl _ ch h8 hEt.mem) rfl rfl (fun v31 I31 j31 q31 => ?_)
    try have hvc := hvc.le j31
    try have hv0 := hv0.le j31
    try have hA := hA.le j31
    try have h8 := h8.le j31
    try have hF := hF.le j31
    obtain ⟨w31, rfl, hw31⟩ := q31
    refine go 8 ?_
    refine bring1 ?_
    refine sx_drop ?_
    exact q_next8 (k + 1) (_) (_) (out ++ [ch]) (_) ((nextF l ch).1) ((nextF l ch).2) (_) ⟨hEt.yes hP p19 h23, hJ.trans (j23.trans j31), hw31, hF.append (.one ⟨_, rfl, h8⟩)⟩ (by have := hEt.lt; omega) rfl sb (by first | rfl | (simp only [List.length_append]; rfl))
   ·refine go 6 ?_
    refine o_call (ref16Next _ _ l hv0 hl hsl _ ch h8 hEt.mem) rfl rfl (fun v31 I31 j31 q31 => ?_)
    try have hvc := hvc.le j31
    try have hv0 := hv0.le j31
    try have hA := hA.le j31
    try have h8 := h8.le j31
    try have hF := hF.le j31
    obtain ⟨w31, rfl, hw31⟩ := q31
    refine go 8 ?_
    exact q_next8 (k + 1) (_) (_) (out) (_) ((nextF l ch).1) ((nextF l ch).2) (_) ⟨hEt.no hP h23, hJ.trans (j23.trans j31), hw31, hF⟩ (by have := hEt.lt; omega) rfl sb (by first | rfl | (simp only [List.length_append]; rfl))
  ·refine go 7 ?_
   refine sx_pubrow (l := out) rfl rfl (hF) (fun I34 j34 R34 => ?_)
   refine go 5 ?_
   refine fin1 rfl rfl ?_
   exact q_i (by rw [← hE.end_ (fun _ => p19) h1]; exact R34)
 ·refine go 7 ?_
  refine c_false rfl ?_
  refine go 7 ?_
  refine sx_pubrow (l := out) rfl rfl (hF) (fun I34 j34 R34 => ?_)
  refine go 5 ?_
  refine fin1 rfl rfl ?_
  exact q_i (by rw [← hE.end_ (fun h => by rw [h] at h14; cases h14) h1]; exact R34)

theorem ref16First (I : IMap) (vc : Value) (c : List Kind) (hvc : RdS I vc c) (hsc : SmC c) (v : Value) (l : List Rep) (hv : RdS I v l) (hl : l.length ≤ 1000000) (hsl : ∀ r ∈ l, ∀ e ∈ r.options, SmE e)  :
    FnI Tryz.prog 18 #[.agg #[vc], v] I (fun u J => ∃ w, u = .tuple #[w, .int .i64 (firstF c l).2] ∧ RdS J w (firstF c l).1) := by
 refine enter Tryz.func18 Tryz.call18 rfl Tryz.ntmps18 rfl (fun w0 => ?_)
 refine go 3 ?_
 refine o_box _ rfl rfl rfl (fun g2 => ?_)
 refine go 9 ?_
 refine o_callV (ref16Wrong _ vc c hvc hsc _ l hv hl hsl) rfl rfl ?_
 refine go 10 ?_
 refine cb rfl (fun h12 p12 => ?_) (fun h12 p12 => ?_)
 ·refine go 9 ?_
  refine fin2 rfl rfl rfl ?_
  exact q_i ⟨_, by rw [first_err p12], by rw [first_err p12]; exact RdS.nil'⟩
 ·have her : errF c l = 0 := by simpa using h12
  obtain ⟨hC, hP⟩ := err_zero her
  refine go 7 ?_
  refine o_call (ref16Every _ vc c hvc hsc _ l hv hl hsl hC hP 1 (by omega) (by omega)) rfl rfl (fun v16 I16 j16 q16 => ?_)
  have q16s := q16
  obtain ⟨A16, c16, rfl, hA16, _, _⟩ := q16s
  refine go 11 ?_
  refine cb rfl (fun h19 p19 => ?_) (fun h19 p19 => ?_)
  ·refine go 8 ?_
   refine fin2 rfl rfl rfl ?_
   exact q_i ⟨_, by rw [first_none her (List.eq_nil_of_length_eq_zero (by omega))], by rw [first_none her (List.eq_nil_of_length_eq_zero (by omega))]; exact RdS.nil'⟩
  ·have hpos : 0 < ((histF c l).take (1 : Int).toNat).length := by omega
   refine go 5 ?_
   obtain ⟨b21, o21, w21, e21, c21, r21⟩ := RdA.at_ hA16 (i := 0) hpos
   obtain ⟨q21, rfl, S21, d21, rfl, hS21, hd21, hm21⟩ := r21
   refine o_v rfl (v_idx he rfl rfl e21 (0) rfl hpos) ?_
   refine o_v rfl (v_ldI he rfl (c21 0 _ rfl)) ?_
   refine go 5 ?_
   refine fin2 rfl rfl rfl ?_
   exact q_i ⟨_, by rw [first_some her hpos], by rw [first_some her hpos]; exact ⟨_, _, rfl, hS21, hd21, hm21⟩⟩

theorem ref16All (I : IMap) (vc : Value) (c : List Kind) (hvc : RdS I vc c) (hsc : SmC c) (v : Value) (l : List Rep) (hv : RdS I v l) (hl : l.length ≤ 1000000) (hsl : ∀ r ∈ l, ∀ e ∈ r.options, SmE e) (most : Int) :
    FnI Tryz.prog 20 #[.agg #[vc], v, .int .i64 most] I (fun u J => ∃ w, u = .tuple #[w, .int .i64 (allF c l most).2] ∧ RdS J w (allF c l most).1) := by
 refine enter Tryz.func20 Tryz.call20 rfl Tryz.ntmps20 rfl (fun w0 => ?_)
 refine go 3 ?_
 refine o_box _ rfl rfl rfl (fun g3 => ?_)
 refine go 10 ?_
 refine sxb 12 rfl (fun h12 p12 => ?_) (fun h12 p12 => ?_)
 ·refine go 5 ?_
  refine c_true rfl ?_
  refine go 8 ?_
  refine fin2 rfl rfl rfl ?_
  have hr : allF c l most = ([], 1) := by unfold allF; rw [if_pos (by simp; omega)]
  exact q_i ⟨_, by rw [hr], by rw [hr]; exact RdS.nil'⟩
 ·refine go 5 ?_
  refine cb rfl (fun h15 p15 => ?_) (fun h15 p15 => ?_)
  ·refine go 8 ?_
   refine fin2 rfl rfl rfl ?_
   have hr : allF c l most = ([], 1) := by unfold allF; rw [if_pos (by simp; omega)]
   exact q_i ⟨_, by rw [hr], by rw [hr]; exact RdS.nil'⟩
  ·have hb2 : 1 ≤ most ∧ most ≤ 4096 := by omega
   have hb : ¬ (decide (most < 1) || decide (4096 < most)) = true := by simp; omega
   refine go 7 ?_
   refine o_callV (ref16Wrong _ vc c hvc hsc _ l hv hl hsl) rfl rfl ?_
   refine go 10 ?_
   refine cb rfl (fun h20 p20 => ?_) (fun h20 p20 => ?_)
   ·refine go 9 ?_
    refine fin2 rfl rfl rfl ?_
    have hr : allF c l most = ([], errF c l) := by unfold allF; rw [if_neg hb, if_pos p20]
    exact q_i ⟨_, by rw [hr], by rw [hr]; exact RdS.nil'⟩
   ·have her : errF c l = 0 := by simpa using h20
    obtain ⟨hC, hP⟩ := err_zero her
    refine go 8 ?_
    refine o_call (ref16Every _ vc c hvc hsc _ l hv hl hsl hC hP most (by omega) (by omega)) rfl rfl (fun v25 I25 j25 q25 => ?_)
    have q25s := q25
    obtain ⟨A25, c25, rfl, _, _, _⟩ := q25s
    refine go 11 ?_
    refine cb rfl (fun h28 p28 => ?_) (fun h28 p28 => ?_)
    ·refine go 8 ?_
     refine fin2 rfl rfl rfl ?_
     have hr : allF c l most = ([], 21) := by unfold allF; rw [if_neg hb, if_neg (by simpa using her), if_pos (List.eq_nil_of_length_eq_zero (by omega))]
     exact q_i ⟨_, by rw [hr], by rw [hr]; exact RdS.nil'⟩
    ·refine go 10 ?_
     refine fin2 rfl rfl rfl ?_
     have hr : allF c l most = ((histF c l).take most.toNat, 0) := by unfold allF; rw [if_neg hb, if_neg (by simpa using her), if_neg (fun e => by rw [e, List.length_nil] at p28; omega)]
     exact q_i ⟨_, by rw [hr], by rw [hr]; exact q25⟩

theorem ref16Count (I : IMap) (vc : Value) (c : List Kind) (hvc : RdS I vc c) (hsc : SmC c) (v : Value) (l : List Rep) (hv : RdS I v l) (hl : l.length ≤ 1000000) (hsl : ∀ r ∈ l, ∀ e ∈ r.options, SmE e) (most : Int) :
    FnI Tryz.prog 22 #[.agg #[vc], v, .int .i64 most] I (fun u J => u = .tuple #[.int .i64 (countF c l most).1, .int .i64 (countF c l most).2]) := by
 refine enter Tryz.func22 Tryz.call22 rfl Tryz.ntmps22 rfl (fun w0 => ?_)
 refine go 3 ?_
 refine o_box _ rfl rfl rfl (fun g3 => ?_)
 refine go 10 ?_
 refine o_call (ref16All _ vc c hvc hsc _ l hv hl hsl most) rfl rfl (fun v14 I14 j14 q14 => ?_)
 obtain ⟨w14, rfl, hw14⟩ := q14
 obtain ⟨A14, c14, rfl, hA14, hc14, hm14⟩ := hw14
 refine go 14 ?_
 refine cb rfl (fun h18 p18 => ?_) (fun h18 p18 => ?_)
 ·refine go 8 ?_
  refine fin2 rfl rfl rfl ?_
  exact q_i (by unfold countF; rw [if_pos p18])
 ·refine go 12 ?_
  refine fin2 rfl rfl rfl ?_
  exact q_i (by unfold countF; rw [if_neg p18]; rfl)

end Go.Proofs.YtoadjlmbdliceaaGreat

/- Walks, printed by a program out of the code of the functions: each theorem is a contract of one function. -/
namespace Go.Proofs.YtoadjlmbdliceaaGreat
open Go Go.Sx
set_option linter.all false
set_option maxRecDepth 20000
set_option maxHeartbeats 4000000
instance T.und_42 : Has (Tryz.prog.underlying 42) (.int .u16) := ⟨by kernel_rfl⟩
theorem lawSMatches (I : IMap) (vc : Value) (c : List Kind) (hvc : RdS I vc c) (hoc : ∀ x ∈ c, OkKd x) (v : Value) (l : List Rep) (hv : RdS I v l) (hok : ∀ x ∈ l, OkRp x) (most : Int) (wm : (Lit.int .i64 most).wf = true) :
    FnV Tryz.prog 3 #[.agg #[vc], v, .int .i64 most] I (.bool true) := by
 refine enter Tryz.func3 Tryz.call3 rfl Tryz.ntmps3 rfl (fun w0 => ?_)
 refine go 3 ?_
 refine o_box _ rfl rfl rfl (fun g3 => ?_)
 refine go 6 ?_
 refine o_callV (head16 _) rfl rfl ?_
 refine go 9 ?_
 refine o_callV (law16few _ vc c hvc _ l hv) rfl rfl ?_
 refine go 3 ?_
 refine cb rfl (fun h24 p24 => ?_) (fun h24 p24 => ?_)
 ·refine go 8 ?_
  refine fin1 rfl rfl ?_
  exact q_vI rfl
 ·have hf : fewC c = true ∧ few16 l 200 = true := by simpa using h24
  obtain ⟨hf2, hwn⟩ := few16_sm hf.2
  obtain ⟨hsl, hl⟩ := fewR_sm hf2
  have hsc := fewC_sm hf.1
  have hl6 : l.length ≤ 1000000 := by omega
  refine go 7 ?_
  refine o_call (seFirst _ vc c hvc hsc _ l hv hl6 hsl) rfl rfl (fun v29 I29 j29 q29 => ?_)
  try have hvc := hvc.le j29
  try have hv := hv.le j29
  try have hw29 := hw29.le j29
  try have hw35 := hw35.le j29
  try have hw42 := hw42.le j29
  try have hw49 := hw49.le j29
  obtain ⟨w29, rfl, hw29⟩ := q29
  refine go 12 ?_
  refine o_call (ref16First _ vc c hvc hsc _ l hv hl6 hsl) rfl rfl (fun v35 I35 j35 q35 => ?_)
  try have hvc := hvc.le j35
  try have hv := hv.le j35
  try have hw29 := hw29.le j35
  try have hw35 := hw35.le j35
  try have hw42 := hw42.le j35
  try have hw49 := hw49.le j35
  obtain ⟨w35, rfl, hw35⟩ := q35
  refine go 13 ?_
  refine o_call (seAll _ vc c hvc hsc _ l hv hl6 hsl most) rfl rfl (fun v42 I42 j42 q42 => ?_)
  try have hvc := hvc.le j42
  try have hv := hv.le j42
  try have hw29 := hw29.le j42
  try have hw35 := hw35.le j42
  try have hw42 := hw42.le j42
  try have hw49 := hw49.le j42
  obtain ⟨w42, rfl, hw42⟩ := q42
  refine go 13 ?_
  refine o_call (ref16All _ vc c hvc hsc _ l hv hl6 hsl most) rfl rfl (fun v49 I49 j49 q49 => ?_)
  try have hvc := hvc.le j49
  try have hv := hv.le j49
  try have hw29 := hw29.le j49
  try have hw35 := hw35.le j49
  try have hw42 := hw42.le j49
  try have hw49 := hw49.le j49
  obtain ⟨w49, rfl, hw49⟩ := q49
  refine go 13 ?_
  refine o_call (seCount _ vc c hvc hsc _ l hv hl6 hsl most) rfl rfl (fun v56 I56 j56 q56 => ?_)
  try have hvc := hvc.le j56
  try have hv := hv.le j56
  try have hw29 := hw29.le j56
  try have hw35 := hw35.le j56
  try have hw42 := hw42.le j56
  try have hw49 := hw49.le j56
  obtain rfl := q56
  refine go 13 ?_
  refine o_call (ref16Count _ vc c hvc hsc _ l hv hl6 hsl most) rfl rfl (fun v63 I63 j63 q63 => ?_)
  try have hvc := hvc.le j63
  try have hv := hv.le j63
  try have hw29 := hw29.le j63
  try have hw35 := hw35.le j63
  try have hw42 := hw42.le j63
  try have hw49 := hw49.le j63
  obtain rfl := q63
  refine go 13 ?_
  refine o_cons (o_yes rfl rfl rfl (o_val rfl (OV.cast (u := .bool true) (v_eql rfl rfl) (congrArg Value.bool (decide_eq_true (rfl)))) ?_))
  refine go 5 ?_
  refine o_yes rfl rfl rfl (o_callV (eqInts16 _ _ _ hw29 _ hw35) rfl rfl ?_)
  refine go 4 ?_
  refine o_cons (o_yes rfl rfl rfl (o_val rfl (OV.cast (u := .bool true) (v_eql rfl rfl) (congrArg Value.bool (decide_eq_true (rfl)))) ?_))
  refine go 5 ?_
  refine o_yes rfl rfl rfl (o_callV (eqLists16 _ _ _ hw42 _ hw49) rfl rfl ?_)
  refine go 4 ?_
  refine o_cons (o_yes rfl rfl rfl (o_val rfl (OV.cast (u := .bool true) (v_eql rfl rfl) (congrArg Value.bool (decide_eq_true (rfl)))) ?_))
  refine go 4 ?_
  refine o_cons (o_yes rfl rfl rfl (o_val rfl (OV.cast (u := .bool true) (v_eql rfl rfl) (congrArg Value.bool (decide_eq_true (rfl)))) ?_))
  refine go 5 ?_
  refine fin1 rfl rfl ?_
  exact q_vI rfl

end Go.Proofs.YtoadjlmbdliceaaGreat

/- The law SearchMatchesReference holds of the given program, for every input. No condition. -/
namespace Go.Proofs.YtoadjlmbdliceaaGreat
open Go Go.Sx
set_option linter.all false
theorem T.cel_24 : Tryz.prog.cellsOf 24 = 1 := by kernel_rfl
theorem T.cel_47 : Tryz.prog.cellsOf 47 = 2 := by kernel_rfl
theorem T.cel_52 : Tryz.prog.cellsOf 52 = 2 := by kernel_rfl
theorem T.cel_54 : Tryz.prog.cellsOf 54 = 6 := by kernel_rfl
theorem T.cel_56 : Tryz.prog.cellsOf 56 = 14 := by kernel_rfl
theorem T.cel_82 : Tryz.prog.cellsOf 82 = 3 := by kernel_rfl
theorem T.cel_84 : Tryz.prog.cellsOf 84 = 3 := by kernel_rfl
theorem T.cel_9 : Tryz.prog.cellsOf 9 = 1 := by kernel_rfl
instance T.fds_24 : Has (fieldsK Tryz.prog 24) [(22, 0, 1)] := ⟨by kernel_rfl⟩
instance T.fds_47 : Has (fieldsK Tryz.prog 47) [(45, 0, 1), (4, 1, 1)] := ⟨by kernel_rfl⟩
instance T.fds_52 : Has (fieldsK Tryz.prog 52) [(3, 0, 1), (3, 1, 1)] := ⟨by kernel_rfl⟩
instance T.fds_54 : Has (fieldsK Tryz.prog 54) [(52, 0, 2), (52, 2, 2), (52, 4, 2)] := ⟨by kernel_rfl⟩
instance T.fds_56 : Has (fieldsK Tryz.prog 56) [(3, 0, 1), (3, 1, 1), (9, 2, 1), (9, 3, 1), (9, 4, 1), (9, 5, 1), (9, 6, 1), (9, 7, 1), (54, 8, 6)] := ⟨by kernel_rfl⟩
instance T.fds_82 : Has (fieldsK Tryz.prog 82) [(9, 0, 1), (4, 1, 1), (80, 2, 1)] := ⟨by kernel_rfl⟩
instance T.fds_84 : Has (fieldsK Tryz.prog 84) [(9, 0, 1), (61, 1, 1), (3, 2, 1)] := ⟨by kernel_rfl⟩
namespace lawSearchMatchesReference
open Go.ChangeShapes Go.WideShapes Go.ChangeAt Go.RowKit
theorem own : ownKnob Tryz.prog.godebug = none := by kernel_rfl
set_option maxRecDepth 100000 in
theorem lifted (os : Os) (started : os.Started) (H : Type) (enc : TypeId × Value → H) :
    ReturnsInHanded {} Tryz.checked os 3 .any (Rows.searchMatchesReferenceSpec.pre6 enc Tryz.prog Tryz.f3 Rows.searchMatchesReferenceRow.domain false) (Rows.searchMatchesReferenceSpec.post enc Tryz.prog Tryz.f3 false true false false) := by
  refine returnsInHanded_of_change (C := Tryz.checked) own started (by kernel_rfl) Tryz.func3
    (ChangeSpec.witness6 (enc := enc) (C := Tryz.checked) false ⟨#[], #[.agg #[.slice none 0 0], .slice none 0 0, .int .i64 0], []⟩ 8 (by kernel_rfl) (by kernel_rfl) (by kernel_rfl) (by kernel_rfl)) ?_
  intro W base args ds gs before hval0 hW hcnd _
  have hval : ∀ (j : Nat) t v, Tryz.f3.params[j]? = some t → args[j]? = some v → Value.okWide Tryz.prog W .any base t v := hval0
  have hW' := hW
  obtain ⟨p, q, hA0, hV, rfl, hfz, hnd⟩ := hW
  have hA : DataW.TrodAll enc Tryz.prog W 0 (fun _ => true) true Tryz.f3.params.toList args.toList ds p := hA0
  rw [Tryz.params3] at hA hval
  obtain ⟨v0, vs0, d0, ds0, p0, q0, hargs, rfl, rfl, h0, r0⟩ := trodAll_cons hA
  obtain ⟨v1, vs1, d1, ds1, p1, q1, rfl, rfl, rfl, h1, r1⟩ := trodAll_cons r0
  obtain ⟨v2, vs2, d2, ds2, p2, q2, rfl, rfl, rfl, h2, r2⟩ := trodAll_cons r1
  obtain ⟨rfl, rfl, rfl⟩ := trodAll_nil r2
  obtain rfl : args = #[v0, v1, v2] := by cases args; simp_all
  obtain ⟨rfl, rfl⟩ := trodVars_none hV
  clear hA0 hval0
  obtain ⟨cs0, rfl, hz0⟩ := okWide_agg T.fds_24.eq (hval 0 24 v0 rfl rfl)
  obtain ⟨fu0, hf0⟩ := h0
  obtain ⟨l0, ⟨u0, e0, R0⟩, G0⟩ := (opens_wrap T.fds_24.eq T.cel_24 (opens_slice T.und_22.eq T.cel_82 rfl (opens_kind T.fds_82.eq T.cel_82 (opens_string T.und_9.eq) (opens_bool T.und_4.eq) (opens_slice T.und_80.eq T.cel_84 rfl (opens_slot T.fds_84.eq T.cel_84 (opens_string T.und_9.eq) (opens_slice T.und_61.eq T.cel_9 rfl (opens_string T.und_9.eq)) (opens_int T.und_3.eq)))))) enc W 0 _ true fu0 _ _ hf0
  obtain rfl : cs0 = #[u0] := Array.toList_inj.1 e0
  obtain ⟨s1, n1, c1, rfl⟩ := okWide_slice T.und_25.eq (hval 1 25 v1 rfl rfl)
  obtain ⟨fu1, hf1⟩ := h1
  obtain ⟨l1, ⟨u1, e1, R1⟩, G1⟩ := (opens_slice T.und_25.eq T.cel_47 rfl (opens_rep T.fds_47.eq T.cel_47 (opens_slice T.und_45.eq T.cel_56 rfl (opens_evt T.fds_56.eq T.cel_56 (opens_int T.und_3.eq) (opens_string T.und_9.eq) (opens_use T.fds_54.eq T.cel_54 (opens_ivl T.fds_52.eq T.cel_52 (opens_int T.und_3.eq))))) (opens_bool T.und_4.eq))) enc W 0 _ true fu1 _ _ hf1
  cases e1
  obtain ⟨a2, rfl, rfl, rfl, w2⟩ := open_int T.und_3.eq (hval 2 3 v2 rfl rfl) h2
  exact law_calls (s := Rows.searchMatchesReferenceSpec) Tryz.call3 (lawSMatches (Iw W) _ l0 R0 G0 _ l1 R1 G1 a2 w2) hW' (by kernel_rfl) (by kernel_rfl) rfl T.und_4.eq rfl rfl
theorem over : Rows.searchMatchesReferenceRow.holds Tryz.pinned (OpenSpec.ofChange Rows.searchMatchesReferenceSpec) :=
  OpenClaim.holds_of_wide 3 Tryz.f3 rfl rfl rfl rfl rfl rfl rfl ⟨rfl, rfl, rfl, rfl, rfl⟩ rfl rfl rfl rfl rfl (by kernel_rfl) Tryz.func3 (by kernel_rfl)
    (of_decide_eq_true (by kernel_rfl)) (by unfold Func.isWrapper; first | (rw [if_pos (by decide +kernel)]; kernel_rfl) | (rw [if_neg (by decide +kernel)]; exact ⟨rfl, rfl⟩))
    (fun os started H enc _ => lifted os started H enc)
/-- the statement -/
theorem proved : Rows.SearchMatchesReferenceSaid := over
end lawSearchMatchesReference
end Go.Proofs.YtoadjlmbdliceaaGreat

