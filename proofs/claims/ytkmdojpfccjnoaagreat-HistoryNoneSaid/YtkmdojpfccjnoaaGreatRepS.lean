/- Sorting what is picked; a callee that changes one thing and leaves memory behind. -/
import Derived.Test.YtkmdojpfccjnoaaGreatMHist
import Derived.Test.YtkmdojpfccjnoaaGreatM11c
import Derived.Test.YtkmdojpfccjnoaaGreatSxMany
set_option linter.all false
namespace Go.Sx
open Go
/-- what lies behind the elements in a block -/
structure Rst (k : Nat) where
  l : List (List Value)
  uk : Uk k l
theorem evCh_ukP (l : List Pkd) : Uk 15 (evCh l) := evCh_uk l
theorem evCh_flatP {I : IMap} (l : List Pkd) : FlatC I (evCh l) l := by
  induction l with
  | nil => exact .nil
  | cons e l ih => exact .cons rfl ih
theorem evCh_restP {l : List Pkd} {rest : List (List Value)} {i : Nat} (h : i < l.length) : (evCh l ++ rest)[i]? = some (Day.ch l[i]) := by
  rw [List.getElem?_append_left (by rw [evCh_len]; exact h)]; exact evCh_at h
section
variable {α : Type} [Day α]
theorem evCh_setR (l : List α) (rest : List (List Value)) (i : Nat) (h : i < l.length) (e : α) : (evCh l ++ rest).set i (Day.ch e) = evCh (l.set i e) ++ rest := by
  rw [List.set_append_left _ _ (by rw [evCh_len]; exact h), evCh_set]
theorem evCh_swpR {l : List α} {rest : List (List Value)} {i j : Nat} (hi : i < l.length) (hj : j < l.length) : ((evCh l ++ rest).set i (Day.ch l[j])).set j (Day.ch l[i]) = evCh (swp l i j) ++ rest := by
  rw [evCh_setR _ _ _ hi, evCh_setR _ _ _ (by rw [List.length_set]; exact hj), swp_eq hi hj]
theorem evCh_swpR' {l : List α} {rest : List (List Value)} {i j : Nat} (hi : i < l.length) (hj : j < l.length) (hij : i ≠ j) : ((evCh l ++ rest).set j (Day.ch l[i])).set i (Day.ch l[j]) = evCh (swp l i j) ++ rest := by
  rw [evCh_setR _ _ _ hj, evCh_setR _ _ _ (by rw [List.length_set]; exact hi), swp_eq hi hj, List.set_comm _ _ hij.symm]
end
theorem evCh_ofP {I : IMap} {xss : List (List Value)} {l : List Pkd} (h : FlatC I xss l) : xss = evCh l := by
  induction h with
  | nil => rfl
  | cons h1 _ ih => rw [ih]; simp only [evCh, List.map_cons]; rw [show _ = _ from h1]; rfl
theorem subI_neg {a b : Int} : a - b < 0 ↔ a < b := by omega
theorem day_ltP {l : List Pkd} {i j : Nat} {hi : i < l.length} {hj : j < l.length} (h : Day.day l[i] - Day.day l[j] < 0) : dayAt l i < dayAt l j := by
  rw [subI_neg] at h; rw [dayAt_eq hi, dayAt_eq hj]; exact h
theorem day_geP {l : List Pkd} {i j : Nat} {hi : i < l.length} {hj : j < l.length} (h : ¬ Day.day l[i] - Day.day l[j] < 0) : dayAt l j ≤ dayAt l i := by
  rw [subI_neg] at h; rw [dayAt_eq hi, dayAt_eq hj]; omega
section
variable {P : Program} {ρ : Option Nat} {n : Sz} {E : Ent} {I I' : IMap} {L : LL} {H : List Res} {Q : Exit → Act → World → Prop} {ops : Array Oper} {K : Act → World → Prop} {w0 : World}
variable {d ty : Nat} {pos : String} {af : Array Edge} {fo : Operand} {as : List Operand} {ats : Array TypeId} {f : FuncId} {args : List Value} {r r' : Res} {X : List Nat}
/-- a contract: one thing of the caller's own is changed, and there is new memory -/
def FnG (P : Program) (f : FuncId) (args : Array Value) (I : IMap) (r : Res) (p : Value → IMap → Res → Prop) : Prop := FnH P f args I [r] fun u I' H' => ∃ r', H' = [r'] ∧ p u I' r'
theorem o_callG {p : Value → IMap → Res → Prop} (hc : FnG P f args.toArray I r p) (h : callArgs L fo as = some (f, args)) (hd : Nat.blt d n.sz = true) (k : ∀ v I' r', ILe I I' → p v I' r' → SX n E I' ((d, v) :: L) (r' :: H) K) :
    SX n E I L (r :: H) (one P ops Q ⟨some d, .call { callee := .value fo, args := as.toArray, argTypes := ats }, ty, pos, af, none⟩ K) :=
  o_callH (Hc := [r]) (H0 := H) hc h hd fun u I' H' hI hp => by obtain ⟨r', rfl, h1⟩ := hp; exact k u I' r' hI h1
theorem q_g {v : Value} {p : Value → IMap → Res → Prop} (h : p v I r) : SX n E I L [r] fun _ w => Post E (fun u' I' H' => ∃ r', H' = [r'] ∧ p u' I' r') (.returned v) w := q_post (fun _ m => m) ⟨r, rfl, h⟩
theorem FnX.of_V {args : Array Value} {v : Value} {t k : Nat} (h : FnV P f args I v) : FnX P f args I [] (fun u r => u = v ∧ r = .row (.slice none 0 0) t k 0 []) :=
  ⟨fun w m => (h.go w m).mono fun _ _ ⟨u, I', H', he, hm, hq⟩ => by
    obtain ⟨rfl, rfl, rfl⟩ := hq
    exact ⟨_, _, _, he, hm.nilrow t k, rfl, _, rfl, rfl, rfl⟩⟩
theorem FnX.back {args : Array Value} {g e k m cap : Nat} {xss yss rest : List (List Value)} {p : Value → Res → Prop} (hU : Uk k yss) (hR : Uk k rest) (hm : yss.length = m) (hc : m + rest.length = cap) (hl : cap ≤ maxLen)
    (h : FnX P f args I [.blk g e (xss ++ rest).flatten] (fun u r => p u (.row (.slice (some ⟨g, 0, none⟩) m cap) e k m yss.flatten) ∧ r = .blk g e (yss ++ rest).flatten)) : FnX P f args I [.blk g e (xss ++ rest).flatten] p :=
  ⟨fun w m' => (h.go w m').mono fun _ w' ⟨u, I', H', he, hm', hq⟩ => by
    obtain ⟨rfl, r', rfl, hp, rfl⟩ := hq
    refine ⟨_, _, _, he, ?_, rfl, _, rfl, hp⟩
    have hb : w'.heap[g]? = some (.cells (yss ++ rest).flatten.toArray e (0, 0)) := hm'.blk
    exact hm'.step rfl rfl rfl (Nat.le_refl _) (fun _ _ _ => rfl) (IsRow.shut hb hU hR hm hc hl) (fun g' hg' => .inl hg')⟩
theorem FnX.of_rowV {args : Value → List Value} {p : Value → Res → Prop} {v : Value} {e k m : Nat} {xss : List (List Value)} (hU : Uk k xss) (hm : xss.length = m)
    (h0 : m = 0 → v = .slice none 0 0 → FnX P f (args (.slice none 0 0)).toArray I [] p)
    (h1 : ∀ g cap rest, v = .slice (some ⟨g, 0, none⟩) m cap → Uk k rest → m + rest.length = cap → cap ≤ maxLen → FnX P f (args (.slice (some ⟨g, 0, none⟩) m cap)).toArray I [.blk g e (xss ++ rest).flatten] p) : FnX P f (args v).toArray I [.row v e k m xss.flatten] p := by
  refine ⟨fun w mm => ?_⟩
  have hr : IsRow (look' w) v e k m xss.flatten := mm.holds (.row v e k m xss.flatten) (List.mem_cons_self ..)
  rcases hr.open_ hU hm with ⟨h2, h3⟩ | ⟨g, cap, rest, h2, h3, h4, h5, h6⟩
  · subst h3
    exact (h0 h2 rfl).go w mm.drop
  · subst h2
    exact (h1 g cap rest rfl h3 h4 h5).go w (mm.step rfl rfl rfl (Nat.le_refl _) (fun _ _ _ => rfl) h6 (fun g' hg' => .inl hg'))
end
/-! picking -/
theorem pick_len (day : Int) (l : List Rep) (ch : List Int) (i : Nat) : (pickF day l ch i).length ≤ i := by
  unfold pickF
  exact Nat.le_trans (List.length_filterMap_le _ _) (by simp)
section
variable {day : Int} {l : List Rep} {ch : List Int} {i : Nat} {out : List Pkd}
theorem pk_no (h1 : i < l.length) (h2 : i < ch.length) (hw : pickF day l ch i = out) (h : optAt day l[i] ch[i] = none) : pickF day l ch (i + 1) = out := by
  rw [pick_succ, hw, pkd, at2_eq h1 h2, h]; simp
theorem pk_neg (h1 : i < l.length) (h2 : i < ch.length) (hw : pickF day l ch i = out) (h : ¬ 0 ≤ ch[i]) : pickF day l ch (i + 1) = out := pk_no h1 h2 hw (if_neg h)
theorem pk_big (h1 : i < l.length) (h2 : i < ch.length) (hw : pickF day l ch i = out) (h : ¬ ch[i] < (l[i].options.length : Nat)) : pickF day l ch (i + 1) = out := pk_no h1 h2 hw (by
  unfold optAt
  split
  · rw [List.getElem?_eq_none (by omega)]
  · rfl)
theorem pk_late (h1 : i < l.length) (h2 : i < ch.length) (hw : pickF day l ch i = out) (hk : ch[i].toNat < l[i].options.length) (h : ¬ l[i].options[ch[i].toNat].day < day) : pickF day l ch (i + 1) = out := pk_no h1 h2 hw (by
  unfold optAt
  split
  · simp only [List.getElem?_eq_getElem hk]; rw [if_neg h]
  · rfl)
theorem pk_yes (h1 : i < l.length) (h2 : i < ch.length) (hw : pickF day l ch i = out) (h0 : 0 ≤ ch[i]) (hk : ch[i].toNat < l[i].options.length) (h : l[i].options[ch[i].toNat].day < day) (hv : 0 ≤ l[i].options[ch[i].toNat].day ∧ l[i].options[ch[i].toNat].day ≤ 40000) :
    pickF day l ch (i + 1) = out ++ [⟨l[i].options[ch[i].toNat], i, hv.1, hv.2⟩] := by
  have ho : optAt day l[i] ch[i] = some l[i].options[ch[i].toNat] := by
    unfold optAt
    rw [if_pos h0]
    simp only [List.getElem?_eq_getElem hk]; rw [if_pos h]
  rw [pick_succ, hw, pkd, at2_eq h1 h2, ho]
  simp [hv]
end
theorem follow_step {c : List Kind} {st : List Part} {l : List Pkd} {i : Nat} (hi : i < l.length) : followGo c st (l.drop i) = if (applyF c st l[i].e).2 = 0 then followGo c (applyF c st l[i].e).1 (l.drop (i + 1)) else (l[i].rep, (applyF c st l[i].e).2) := by
  rw [List.drop_eq_getElem_cons hi]; rfl
theorem open_succ (l : List Rep) (ch : List Int) (i : Nat) : openDays l ch (i + 1) = openDays l ch i ++ ((at2 (fun r k => if k < 0 then r.options.map Evt.day else []) l ch i).getD []) := by
  rw [openDays, List.range_succ, List.flatMap_append, openDays]; simp
/-- what is open up to an option -/
def openTo (l : List Rep) (ch : List Int) (i j : Nat) : List Int := openDays l ch i ++ ((at2 (fun r k => if k < 0 then (r.options.take j).map Evt.day else []) l ch i).getD [])
theorem openTo_zero {l : List Rep} {ch : List Int} {i : Nat} : openTo l ch i 0 = openDays l ch i := by
  unfold openTo at2
  split
  · simp
  · simp
theorem openTo_skip {l : List Rep} {ch : List Int} {i j : Nat} (h1 : i < l.length) (h2 : i < ch.length) (h : ¬ ch[i] < 0) (j' : Nat) : openTo l ch i j = openTo l ch i j' := by
  unfold openTo; rw [at2_eq h1 h2, at2_eq h1 h2]; simp [h]
theorem openTo_step {l : List Rep} {ch : List Int} {i j : Nat} (h1 : i < l.length) (h2 : i < ch.length) (h : ch[i] < 0) (hj : j < l[i].options.length) : openTo l ch i (j + 1) = openTo l ch i j ++ [l[i].options[j].day] := by
  unfold openTo; rw [at2_eq h1 h2, at2_eq h1 h2]; simp only [if_pos h, Option.getD_some]
  rw [← take_succ_of hj, List.map_append, List.append_assoc]; rfl
theorem openTo_all {l : List Rep} {ch : List Int} {i : Nat} (h1 : i < l.length) (h2 : i < ch.length) : openTo l ch i l[i].options.length = openDays l ch (i + 1) := by
  rw [open_succ, openTo, at2_eq h1 h2, at2_eq h1 h2]; simp [List.take_length]
theorem open_pre {l : List Rep} {ch : List Int} {n i : Nat} (h : i ≤ n) : openDays l ch i <+: openDays l ch n := by
  induction n with
  | zero => obtain rfl : i = 0 := by omega
            exact List.prefix_rfl
  | succ n ih =>
    rcases Nat.lt_or_ge n i with hi | hi
    · obtain rfl : i = n + 1 := by omega
      exact List.prefix_rfl
    · exact (ih hi).trans (by rw [open_succ]; exact List.prefix_append _ _)
theorem openTo_pre {l : List Rep} {ch : List Int} {i j : Nat} (h1 : i < l.length) (h2 : i < ch.length) (h : ch[i] < 0) (hj : j < l[i].options.length) : openTo l ch i j ++ [l[i].options[j].day] <+: openDays l ch l.length := by
  rw [← openTo_step h1 h2 h hj]
  refine List.IsPrefix.trans ?_ (open_pre (i := i + 1) (by omega))
  rw [← openTo_all h1 h2]
  unfold openTo
  rw [at2_eq h1 h2, at2_eq h1 h2]
  simp only [if_pos h, Option.getD_some]
  refine (List.prefix_append_right_inj _).2 ?_
  rw [List.take_length, List.map_take]
  exact List.take_prefix _ _
theorem validRep_len {r : Rep} (h : validRep r = true) : 1 ≤ r.options.length ∧ r.options.length ≤ 4 := by
  simp only [validRep, Bool.and_eq_true, Bool.not_eq_true', Bool.or_eq_false_iff, decide_eq_false_iff_not] at h
  omega
theorem pick_mem {day : Int} {l : List Rep} {ch : List Int} {n : Nat} {p : Pkd} (h : p ∈ pickF day l ch n) : ∃ r ∈ l, p.e ∈ r.options := by
  rw [pickF, List.mem_filterMap] at h
  obtain ⟨i, _, hi⟩ := h
  unfold pkd at2 at hi
  split at hi
  · rename_i e he
    split at hi
    · cases hi
      split at he
      · rename_i r k h1 h2
        refine ⟨r, List.mem_of_getElem? h1, ?_⟩
        simp only [Option.join_some, optAt] at he
        split at he
        · split at he
          · rename_i e' h3
            split at he
            · cases he; exact List.mem_of_getElem? h3
            · cases he
          · cases he
        · cases he
      · simp at he
    · cases hi
  · cases hi
theorem given_all {c : List Kind} {l : List Rep} {ch : List Int} {n : Int} (h : givenF c l ch n = true) : ch.length = l.length ∧ ∀ r ∈ l, validRep r = true := by
  simp only [givenF, Bool.and_eq_true, Bool.not_eq_true', Bool.or_eq_false_iff, Bool.not_eq_false', decide_eq_true_eq] at h
  have hlc : ch.length = l.length := by omega
  refine ⟨hlc, fun r hr => ?_⟩
  obtain ⟨i, hi, rfl⟩ := List.getElem_of_mem hr
  have := allTo_at h.2 hi hi (by omega)
  simp only [chFine, Bool.not_eq_true', Bool.or_eq_false_iff, decide_eq_false_iff_not] at this
  cases hv : validRep l[i] with
  | true => rfl
  | false => exact absurd (by simp [chs, hv]) this.1.1
theorem least_snoc (l : List Int) (d : Int) : leastF (l ++ [d]) = if d < leastF l then d else leastF l := by
  rw [leastF, List.foldl_append]; rfl
/-- events as keys -/
def encE (e : Evt) : Value := .agg e.cells.toArray
end Go.Sx
