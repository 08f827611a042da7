/-
  The machine on terms is right: operations without memory. No program.
-/
import Derived.Test.YtjhdjclcfmcilaaSx3
namespace Go.Proofs.Ytjhdjclcfmcilaa
open Go.ChangeShapes Go.WideShapes Go.ChangeAt Go.RowKit
set_option linter.unusedVariables false

section
variable {P : Program} {C : List (Con P)} {I : List (Nat → Env → Prop)} {e : Env} {s : St} {a : Act} {w : World}
theorem add_mid (b o n : Nat) : (⟨b, o, none⟩ : Addr).add n = ⟨b, o + n, none⟩ := Addr.add_mid b o n
theorem add_add (a : Addr) (i j : Nat) : (a.add i).add j = a.add (i + j) := by
  unfold Addr.add
  by_cases hi : i = 0 <;> by_cases hj : j = 0 <;> simp [hi, hj, Nat.add_assoc]
/-- An operation yields u and leaves the world alone. -/
def Yi (P : Program) (x : Sem Value) (u : Value) : Prop := ∀ w, x.run P w = .ok u w
theorem binI_sound {p : BinOp} {k k' : IntKind} {x y : SX} {v : VX} {xs : List SX} {t : TypeId} (h : binI p k x k' y = some (v, xs)) (hx : ∀ x ∈ xs, (x.den e).2 = true) :
    ∃ u, v.sat e u ∧ Yi P (binOp p t (.int k (x.den e).1) (.int k' (y.den e).1)) u := by
  cases p <;> simp only [binI] at h
  case quo | rem =>
    split at h
    · rename_i hk
      subst hk
      simp only [Option.some.injEq, Prod.mk.injEq] at h
      obtain ⟨rfl, rfl⟩ := h
      have h0 := hx _ (List.mem_singleton.2 rfl)
      rw [SX.mkC_den] at h0
      simp only [cmI, SX.den, bne_iff_ne, ne_eq] at h0
      exact ⟨_, rfl, fun w => by simp [binOp, Op.intDiv, h0, PX.den, LX.den, SX.mkO_den, arI]⟩
    · cases h
  case shl | shr =>
    simp only [Option.some.injEq, Prod.mk.injEq] at h
    obtain ⟨rfl, rfl⟩ := h
    have h0 := hx _ (List.mem_singleton.2 rfl)
    unfold geZ at h0
    rw [SX.mkC_den] at h0
    have h2 : decide ((0 : Int) ≤ (y.den e).1) = true := h0
    have h1 : ¬ (y.den e).1 < 0 := by simpa using h2
    exact ⟨_, rfl, fun w => by simp [binOp, Op.shift, h1, PX.den, LX.den, SX.mkO_den, arI]⟩
  all_goals
    split at h
    · rename_i hk
      subst hk
      simp only [Option.some.injEq, Prod.mk.injEq] at h
      obtain ⟨rfl, rfl⟩ := h
      refine ⟨_, rfl, fun w => ?_⟩
      first
        | (simp [binOp, Op.intArith, PX.den, LX.den, SX.mkO_den, arI]; done)
        | (simp [binOp, Op.intCmp, PX.den, LX.den, SX.mkC_den, cmI]; done)
        | (simp [binOp, intBits_and, intBits_or, intBits_xor, intBits_andNot, PX.den, LX.den, SX.mkO_den, arI]; done)
    · cases h
theorem binOp_guard {a_ b_ : Value} {t : TypeId} {p : BinOp} {x y : Operand} {u : Value} (ha : ∃ k a k' b, a_ = Value.int k a ∧ b_ = Value.int k' b) (h : Yi P (binOp p t a_ b_) u) : Yi P (do eqGuard p t x y a_ b_; binOp p t a_ b_) u := by
  obtain ⟨k, a, k', b, rfl, rfl⟩ := ha
  intro w
  cases p <;> simp [eqGuard, h w]

/-! ### Parts of values, equality. -/
theorem rowT_spec {t : TypeId} {n : Nat} (h : rowT P t = some n) : ∃ d i, P.underlying t = some d ∧ d.isRow = true ∧ P.info? t = some i ∧ i.size = n := by
  unfold rowT at h
  cases hu : P.underlying t with
  | none => rw [hu] at h; cases h
  | some d =>
    rw [hu] at h
    have hi : ∀ (_ : (P.info? t).map (·.size) = some n), ∃ i, P.info? t = some i ∧ i.size = n := fun h => by
      cases hi : P.info? t with
      | none => rw [hi] at h; cases h
      | some i => rw [hi] at h; simp only [Option.map_some, Option.some.injEq] at h; exact ⟨i, rfl, h⟩
    cases d <;> first
      | (obtain ⟨i, h1, h2⟩ := hi h; exact ⟨_, i, rfl, rfl, h1, h2⟩)
      | (cases h; done)
theorem leafT_spec {t : TypeId} (h : leafT P t = true) : ∃ d, P.underlying t = some d ∧ d.isRow = false := by
  unfold leafT at h
  cases hu : P.underlying t with
  | none => rw [hu] at h; cases h
  | some d => rw [hu] at h; cases d <;> first | exact ⟨_, rfl, rfl⟩ | (cases h; done)
theorem run_isAgg {t : TypeId} {d : TypeDesc} (hu : P.underlying t = some d) (w : World) : (isAgg t).run P w = .ok d.isRow w := by
  unfold isAgg
  rw [Sem.run_bind, run_underlying hu w]
  cases d <;> simp [TypeDesc.isRow]
theorem run_size {t : TypeId} {i : TypeInfo} (hi : P.info? t = some i) (w : World) : (sizeOf t).run P w = .ok i.size w := by
  simp [sizeOf, typeInfo, hi]
theorem extract_map (f : LX → Value) (xs : List LX) (o n : Nat) : ((xs.map f).toArray.extract o (o + n)) = (((xs.drop o).take n).map f).toArray := by
  apply Array.ext'
  simp [List.map_take, List.map_drop]
theorem partX_sound {t : TypeId} {xs : List LX} {o : Nat} {p : PX} (h : partX P t xs o = some p) : Yi P (part t (xs.map (·.den e)).toArray o) (p.den e) := by
  unfold partX at h
  split at h
  · rename_i n hn
    obtain ⟨d, i, hu, hd, hi, hs⟩ := rowT_spec hn
    split at h
    · simp only [Option.some.injEq] at h
      subst h
      intro w
      simp only [part, Sem.run_bind, run_isAgg hu, hd, Result.andThen_ok, if_true, run_size hi, Sem.run_pure, hs, extract_map, PX.den]
    · cases h
  · split at h
    · rename_i hl
      obtain ⟨d, hu, hd⟩ := leafT_spec hl
      cases hx : xs[o]? with
      | none => rw [hx] at h; cases h
      | some x =>
        rw [hx] at h
        simp only [Option.map_some, Option.some.injEq] at h
        subst h
        intro w
        have : (xs.map (·.den e)).toArray[o]? = some (x.den e) := by simp [hx]
        simp only [part, Sem.run_bind, run_isAgg hu, hd, Result.andThen_ok, Bool.false_eq_true, if_false, this, Sem.run_pure, PX.den]
    · cases h
theorem eqFs_sound {g : TypeId → PX → PX → Option SX} {d : Nat} (hg : ∀ t x y u, g t x y = some u → ∀ w, (Op.equalIn d t (x.den e) (y.den e)).run P w = .ok (u.den e).2 w) (xs ys : List LX) :
    ∀ (fs : List Field) (u : SX), eqFs g P xs ys fs = some u → ∀ w, (Op.eqFields d (xs.map (·.den e)).toArray (ys.map (·.den e)).toArray fs).run P w = .ok (u.den e).2 w
  | [], u, h, w => by simp only [eqFs, Option.some.injEq] at h; subst h; simp [Op.eqFields, SX.den]
  | f :: fs, u, h, w => by
    unfold eqFs at h
    split at h
    · cases h
    · rename_i hn
      split at h
      · rename_i a b ha hb
        split at h
        · rename_i u1 u2 h1 h2
          simp only [Option.some.injEq] at h
          subst h
          have r1 := hg _ _ _ _ h1
          have r2 := eqFs_sound hg xs ys fs u2 h2
          simp only [Op.eqFields, ne_eq, hn, not_false_eq_true, if_true, Sem.run_bind, partX_sound ha _, partX_sound hb _, Result.andThen_ok, r1, SX.mkAn_den]
          cases (u1.den e).2
          · simp
          · simp [r2]
        · cases h
      · cases h
theorem eqAr_sound {g : PX → PX → Option SX} {d : Nat} {t : TypeId} {n : Nat} (hg : ∀ x y u, g x y = some u → ∀ w, (Op.equalIn d t (x.den e) (y.den e)).run P w = .ok (u.den e).2 w) (xs ys : List LX) (hn : ∀ w, (sizeOf t).run P w = .ok n w) :
    ∀ (is : List Nat) (u : SX), eqAr g P t n xs ys is = some u → ∀ w, (do
      let r ← forIn is (none, ()) (fun i (r : Option Bool × Unit) => do
        let a ← part t (xs.map (·.den e)).toArray (i * n)
        let b ← part t (ys.map (·.den e)).toArray (i * n)
        let c ← Op.equalIn d t a b
        if (!c) = true then pure (ForInStep.done (some false, ())) else pure (ForInStep.yield (none, ())))
      match r.1 with
      | some a => pure a
      | none => pure true : Sem Bool).run P w = .ok (u.den e).2 w
  | [], u, h, w => by simp only [eqAr, Option.some.injEq] at h; subst h; simp [SX.den]
  | i :: is, u, h, w => by
    unfold eqAr at h
    split at h
    · rename_i a b ha hb
      split at h
      · rename_i u1 u2 h1 h2
        simp only [Option.some.injEq] at h
        subst h
        have r1 := hg _ _ _ h1
        have r2 := eqAr_sound hg xs ys hn is u2 h2 w
        simp only [Sem.run_bind] at r2
        simp only [List.forIn_cons, Sem.run_bind, partX_sound ha _, partX_sound hb _, Result.andThen_ok, r1, SX.mkAn_den]
        cases (u1.den e).2
        · simp
        · simp only [Bool.not_true, Bool.false_eq_true, if_false, Sem.run_pure, Result.andThen_ok, Bool.true_and]
          exact r2
      · cases h
    · cases h
theorem eqX_sound : ∀ (d : Nat) (t : TypeId) (x y : PX) (u : SX), eqX P d t x y = some u → ∀ n w, (Op.equalIn (d + n) t (x.den e) (y.den e)).run P w = .ok (u.den e).2 w
  | 0, _, _, _, _, h, _, _ => by cases h
  | d + 1, t, x, y, u, h, n, w => by
    have ih := fun t x y u h => eqX_sound d t x y u h n
    rw [show d + 1 + n = (d + n) + 1 by omega]
    unfold eqX at h
    split at h
    · rename_i a b hu
      simp only [Option.some.injEq] at h
      subst h
      simp only [PX.den, LX.den, run_equalIn_bool w _ t _ _ hu, SX.mkEq_den]
    · rename_i k0 k a k' b hu
      split at h
      · rename_i hk
        subst hk
        simp only [Option.some.injEq] at h
        subst h
        simp only [PX.den, LX.den, run_equalIn_int w _ t _ _ _ _ hu, SX.mkC_den, cmI]
      · cases h
    · rename_i fs xs ys hu
      split at h
      · cases h
      · rename_i hst
        have hf : P.fieldsOf t = fs := by unfold Program.fieldsOf; rw [hu]
        simp only [PX.den]
        rw [run_equalIn_struct w (d + n) t _ _ (by rw [hf]; exact hu) (by simpa using hst), hf]
        exact eqFs_sound (fun t x y u h w => ih t x y u h w) xs ys _ u h w
    · rename_i len el xs ys hu
      split at h
      · rename_i ie hi
        have r := eqAr_sound (t := el) (fun x y u h w => ih el x y u h w) xs ys (run_size hi) _ u h w
        simp only [PX.den]
        simp only [Op.equalIn, Sem.run_bind, run_underlying hu, Result.andThen_ok, run_size hi, Std.Legacy.Range.forIn_eq_forIn_range', Std.Legacy.Range.size, Nat.sub_zero, Nat.add_one_sub_one, Nat.div_one, List.range_eq_range'] at r ⊢
        refine Eq.trans ?_ r
        congr 1
        funext a w'
        obtain ⟨o, _⟩ := a
        cases o <;> rfl
      · cases h
    · cases h
end
end Go.Proofs.Ytjhdjclcfmcilaa
