/- Comparing structs; arrays; the least and the greatest; meeting points of several ways. -/
import Derived.Test.YtkmdojpfccjnoaaGreatSxRow
import Derived.Laws.StructEq
set_option linter.all false
namespace Go.Sx
open Go
def partV (P : Program) (t : TypeId) (xs : List Value) (off : Nat) : Option Value :=
  match tyK P t with
  | some (true, k) => some (.agg ((xs.drop off).take k).toArray)
  | some (false, _) => xs[off]?
  | none => none
def eqFs (P : Program) (eq : TypeId → Value → Value → Option Bool) (xs ys : List Value) : List Field → Option Bool
  | [] => some true
  | f :: fs => if f.name = "_" then none else match partV P f.type xs f.offset, partV P f.type ys f.offset with
    | some a, some b => match eq f.type a b, eqFs P eq xs ys fs with
      | some r, some q => some (r && q)
      | _, _ => none
    | _, _ => none
/-- what == says of two plain structs -/
def eqV (P : Program) : Nat → TypeId → Value → Value → Option Bool
  | 0, _, _, _ => none
  | d + 1, t, x, y => match P.underlying t with
    | some .bool => match x, y with
      | .bool a, .bool b => some (a == b)
      | _, _ => none
    | some (.int _) => match x, y with
      | .int k a, .int k' b => if k = k' then some (decide (a = b)) else none
      | _, _ => none
    | some .string => match x, y with
      | .string a, .string b => some (decide (a = b))
      | _, _ => none
    | some (.struct fs) => match x, y with
      | .agg xs, .agg ys => if P.stoodInHeld t = true then none else eqFs P (eqV P d) xs.toList ys.toList fs.toList
      | _, _ => none
    | _ => none
section
variable {P : Program}
theorem partV_run {t : TypeId} {xs : Array Value} {off : Nat} {v : Value} (h : partV P t xs.toList off = some v) (w : World) : (part t xs off).run P w = .ok v w := by
  unfold partV at h
  split at h
  · rename_i k hk
    cases h
    have e : xs.extract off (off + k) = ((xs.toList.drop off).take k).toArray := by
      apply Array.toList_inj.1
      rw [Array.toList_extract]
      simp [List.extract]
    simp [part, (tyK_spec hk w).1, (tyK_spec hk w).2, e]
  · rename_i k hk
    have h' : xs[off]? = some v := by simpa using h
    simp [part, (tyK_spec hk w).1, h']
  · cases h
theorem eqFs_run {d : Nat} {xs ys : Array Value} {eq : TypeId → Value → Value → Option Bool} (he : ∀ t x y b, eq t x y = some b → ∀ w, (Op.equalIn d t x y).run P w = .ok b w) :
    ∀ (fs : List Field) (b : Bool), eqFs P eq xs.toList ys.toList fs = some b → ∀ w, (Op.eqFields d xs ys fs).run P w = .ok b w := by
  intro fs
  induction fs with
  | nil => intro b h w; cases h; rfl
  | cons f fs ih =>
    intro b h w
    simp only [eqFs] at h
    split at h
    · cases h
    · rename_i hn
      split at h
      · rename_i a c h1 h2
        split at h
        · rename_i r q h3 h4
          cases h
          have e1 := partV_run h1 w
          have e2 := partV_run h2 w
          have e3 := he _ _ _ _ h3 w
          have e4 := ih q h4 w
          simp only [Op.eqFields, ne_eq, hn, not_false_eq_true, if_true, Sem.run_bind, e1, e2, e3, Result.andThen_ok]
          cases r
          · rfl
          · simpa using e4
        · cases h
      · cases h
theorem eqV_run : ∀ (d : Nat) (t : TypeId) (x y : Value) (b : Bool), eqV P d t x y = some b → ∀ d', d ≤ d' → ∀ w, (Op.equalIn d' t x y).run P w = .ok b w := by
  intro d
  induction d with
  | zero => intro t x y b h; cases h
  | succ d ih =>
    intro t x y b h d' hd w
    obtain ⟨d', rfl⟩ : ∃ q, d' = q + 1 := ⟨d' - 1, by omega⟩
    simp only [eqV] at h
    split at h
    · rename_i hu
      split at h
      · cases h; exact run_equalIn_bool w d' t _ _ hu
      · cases h
    · rename_i k hu
      split at h
      · split at h
        · rename_i hk; subst hk; cases h; rw [run_equalIn_int w d' t _ _ _ _ hu]; congr 1
        · cases h
      · cases h
    · rename_i hu
      split at h
      · cases h; rw [run_equalIn_string w d' t _ _ hu, str_eq]
      · cases h
    · rename_i fs hu
      split at h
      · rename_i xs ys
        split at h
        · cases h
        · rename_i hs
          have hf : P.fieldsOf t = fs := by simp [Program.fieldsOf, hu]
          rw [run_equalIn_struct w d' t xs ys (by rw [hf]; exact hu) (by simpa using hs), hf]
          exact eqFs_run (fun t x y b h w => ih t x y b h d' (by omega) w) fs.toList b h w
      · cases h
    · cases h
variable {ρ : Option Nat} {n : Sz} {E : Ent} {I I' : IMap} {L : LL} {H : List Res} {Q : Exit → Act → World → Prop} {ops : Array Oper} {K : Act → World → Prop} {N : Act → World → Prop}
variable {α β γ : Type} {d ty tx tyy : Nat} {pos : String} {af : Array Edge} {x y z : Operand} {i : Int}
theorem v_steql {xs ys : List Value} {b : Bool} (hg : P.eqGuardType P.depth tx = false) (he : eqV P 9 tx (.agg xs.toArray) (.agg ys.toArray) = some b) (hx : ev L x = some (.agg xs.toArray)) (hy : ev L y = some (.agg ys.toArray)) :
    OV P n E I L H ⟨some d, .binOp .eql tx x y tyy, ty, pos, af, none⟩ (.bool b) := fun a w st _ => by
  simp [execOp, st.ev hx, st.ev hy, run_eqGuard_agg w _ _ _ _ _ _ hg, run_eql_struct, eqV_run 9 _ _ _ _ he 10000 (by omega) w]
theorem v_stneq {xs ys : List Value} {b : Bool} (hg : P.eqGuardType P.depth tx = false) (he : eqV P 9 tx (.agg xs.toArray) (.agg ys.toArray) = some b) (hx : ev L x = some (.agg xs.toArray)) (hy : ev L y = some (.agg ys.toArray)) :
    OV P n E I L H ⟨some d, .binOp .neq tx x y tyy, ty, pos, af, none⟩ (.bool (!b)) := fun a w st _ => by
  simp [execOp, st.ev hx, st.ev hy, run_eqGuard_agg w _ _ _ _ _ _ hg, run_neq_struct, eqV_run 9 _ _ _ _ he 10000 (by omega) w]
/-- a[i], a an array value -/
theorem v_vidx {cs : List Value} {tt e kk m : Nat} {v : Value} (he : arrK P tt = some (m, e, kk)) (hb : tyK P e = some (false, 1)) (hx : ev L x = some (.agg cs.toArray)) (hy : ev L y = some (.int .i64 i)) (q : Nat) (hq : i = (q : Int)) (hlt : q < m) (hv : cs[q]? = some v)
    : OV P n E I L H ⟨some d, .index tt x y, ty, pos, af, none⟩ v := fun a w st _ => by
  obtain ⟨h1, bb, h2⟩ := arrK_spec he
  subst hq
  have hlt' : (q : Int) < (m : Int) := by omega
  have hk : kk = 1 := by rw [hb] at h2; cases h2; rfl
  subst hk
  simp [execOp, st.ev hx, st.ev hy, Instr.index, asIntOf, run_underlying h1, (tyK_spec hb w).1, (tyK_spec hb w).2, hlt, hlt', part, asAgg, hv]
/-- an array literal -/
theorem v_buildA {tt e kk m : Nat} {zs cs : List Value} {ps : List (Nat × Operand)} {vs : List (Nat × Value)} (he : arrK P tt = some (m, e, kk)) (hz : zeroK P tt = some zs) (hv : evp L ps = some vs) (hf : fillL (fun i => some (i * kk, kk)) vs zs = some cs) :
    OV P n E I L H ⟨some d, .build tt ps.toArray, ty, pos, af, none⟩ (.agg cs.toArray) := fun a w st _ => by
  obtain ⟨z, h1, h2⟩ := zeroK_spec hz w
  obtain ⟨h3, bb, h4⟩ := arrK_spec he
  have hparts : (ps.toArray.map fun (i, x) => (i, a.eval x)).toList = vs := by simpa using evp_spec st ps vs hv
  have hfill := fill_eq _ vs zs cs hf
  simp only [execOp, Instr.build, Sem.run_bind, h1, Result.andThen_ok, run_underlying h3, (tyK_spec h4 w).2, hparts, h2, hfill]
  rfl
theorem v_smin {s t : ByteArray} {ats : Array TypeId} (hx : ev L x = some (.string s)) (hy : ev L y = some (.string t)) : OV P n E I L H ⟨some d, .call { callee := .builtin .min, args := #[x, y], argTypes := ats }, ty, pos, af, none⟩ (.string (if (sLt s t || decide (s = t)) = true then s else t)) := fun a w st _ => by
  simp [execOp, st.ev hx, st.ev hy, resolve, invoke, builtin, Builtin.min_, Builtin.min2, Op.stringOp, asBool, str_eq, sLt]
theorem v_smax {s t : ByteArray} {ats : Array TypeId} (hx : ev L x = some (.string s)) (hy : ev L y = some (.string t)) : OV P n E I L H ⟨some d, .call { callee := .builtin .max, args := #[x, y], argTypes := ats }, ty, pos, af, none⟩ (.string (if (!sLt s t) = true then s else t)) := fun a w st _ => by
  simp [execOp, st.ev hx, st.ev hy, resolve, invoke, builtin, Builtin.max_, Builtin.max2, Op.stringOp, asBool, str_eq, sLt]
theorem v_imax {i j : Int} {ats : Array TypeId} (hx : ev L x = some (.int .i64 i)) (hy : ev L y = some (.int .i64 j)) : OV P n E I L H ⟨some d, .call { callee := .builtin .max, args := #[x, y], argTypes := ats }, ty, pos, af, none⟩ (.int .i64 (if j > i then j else i)) := fun a w st _ => by
  simp [execOp, st.ev hx, st.ev hy, resolve, invoke, builtin, Builtin.max_, Builtin.max2]
theorem v_imin {i j : Int} {ats : Array TypeId} (hx : ev L x = some (.int .i64 i)) (hy : ev L y = some (.int .i64 j)) : OV P n E I L H ⟨some d, .call { callee := .builtin .min, args := #[x, y], argTypes := ats }, ty, pos, af, none⟩ (.int .i64 (if j < i then j else i)) := fun a w st _ => by
  simp [execOp, st.ev hx, st.ev hy, resolve, invoke, builtin, Builtin.min_, Builtin.min2]
def CutS2 (n : Sz) (E : Ent) (Ix : α → β → IMap) (Lx : α → β → LL) (Hx : α → β → List Res) (p : α → β → Prop) (a : Act) (w : World) : Prop := ∃ x y, p x y ∧ St n a (Lx x y) ∧ Mem E (Ix x y) (Hx x y) w
theorem c_cutx2 {Ix : α → β → IMap} {Lx : α → β → LL} {Hx : α → β → List Res} {p : α → β → Prop} {c : Code}
    (h1 : SX n E I L H (c.wq ρ P (Exit.then (CutS2 n E Ix Lx Hx p) Q))) (h2 : ∀ x y, p x y → SX n E (Ix x y) (Lx x y) (Hx x y) N) : SX n E I L H (c.wq ρ P (Exit.then N Q)) := fun a w s m =>
  cwq_mono (fun e a w q => by cases e <;> first | exact q | (obtain ⟨x, y, hp, hs, hm⟩ := q; exact h2 x y hp a w hs hm)) (h1 a w s m)
theorem q_cutx2 {Ix : α → β → IMap} {Lx : α → β → LL} {Hx : α → β → List Res} {p : α → β → Prop} (x : α) (y : β) (hp : p x y) (hL : Sub (Lx x y) L) (hH : Hx x y = H) (hI : Ix x y = I) :
    SX n E I L H (CutS2 n E Ix Lx Hx p) := fun _ _ s m => ⟨x, y, hp, s.sub hL, by rw [hH, hI]; exact m⟩
def CutS3 (n : Sz) (E : Ent) (Ix : α → β → γ → IMap) (Lx : α → β → γ → LL) (Hx : α → β → γ → List Res) (p : α → β → γ → Prop) (a : Act) (w : World) : Prop := ∃ x y z, p x y z ∧ St n a (Lx x y z) ∧ Mem E (Ix x y z) (Hx x y z) w
theorem c_cutx3 {Ix : α → β → γ → IMap} {Lx : α → β → γ → LL} {Hx : α → β → γ → List Res} {p : α → β → γ → Prop} {c : Code}
    (h1 : SX n E I L H (c.wq ρ P (Exit.then (CutS3 n E Ix Lx Hx p) Q))) (h2 : ∀ x y z, p x y z → SX n E (Ix x y z) (Lx x y z) (Hx x y z) N) : SX n E I L H (c.wq ρ P (Exit.then N Q)) := fun a w s m =>
  cwq_mono (fun e a w q => by cases e <;> first | exact q | (obtain ⟨x, y, z, hp, hs, hm⟩ := q; exact h2 x y z hp a w hs hm)) (h1 a w s m)
theorem q_cutx3 {Ix : α → β → γ → IMap} {Lx : α → β → γ → LL} {Hx : α → β → γ → List Res} {p : α → β → γ → Prop} (x : α) (y : β) (z : γ) (hp : p x y z) (hL : Sub (Lx x y z) L) (hH : Hx x y z = H) (hI : Ix x y z = I) :
    SX n E I L H (CutS3 n E Ix Lx Hx p) := fun _ _ s m => ⟨x, y, z, hp, s.sub hL, by rw [hH, hI]; exact m⟩
end
end Go.Sx
