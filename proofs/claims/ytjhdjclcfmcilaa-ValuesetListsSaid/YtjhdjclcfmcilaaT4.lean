/-
  The second machine on terms is right: operations without memory. No program.
-/
import Derived.Test.YtjhdjclcfmcilaaT3
namespace Go.Proofs.Ytjhdjclcfmcilaa.T2
open Go.ChangeShapes Go.WideShapes Go.ChangeAt Go.RowKit
set_option linter.unusedVariables false

section
variable {P : Program} {C : List (Kon P)} {I : List (Nat → Env → Prop)} {e : Env} {s : St} {a : Act} {w : World}
theorem binI_sound {p : BinOp} {k k' : IntKind} {x y : SX} {v : VX} {xs : List SX} {t : TypeId} (h : binI p k x k' y = some (v, xs)) (hx : ∀ x ∈ xs, (x.den e).2 = true) :
    ∃ u, v.sat e u ∧ Yi P (binOp p t (.int k (x.den e).1) (.int k' (y.den e).1)) u := by
  cases p <;> simp only [binI] at h
  case quo | rem =>
    split at h
    · rename_i hk
      subst hk
      simp only [Option.some.injEq, Prod.mk.injEq] at h
      obtain ⟨rfl, rfl⟩ := h
      have h0 := hx _ (List.mem_singleton.2 rfl)
      rw [SX.mkC_den] at h0
      simp only [cmI, SX.den, bne_iff_ne, ne_eq] at h0
      exact ⟨_, rfl, fun w => by simp [binOp, Op.intDiv, h0, PX.den, LX.den, SX.mkO_den, arI]⟩
    · cases h
  case shl | shr =>
    simp only [Option.some.injEq, Prod.mk.injEq] at h
    obtain ⟨rfl, rfl⟩ := h
    have h0 := hx _ (List.mem_singleton.2 rfl)
    unfold geZ at h0
    rw [SX.mkC_den] at h0
    have h2 : decide ((0 : Int) ≤ (y.den e).1) = true := h0
    have h1 : ¬ (y.den e).1 < 0 := by simpa using h2
    exact ⟨_, rfl, fun w => by simp [binOp, Op.shift, h1, PX.den, LX.den, SX.mkO_den, arI]⟩
  all_goals
    split at h
    · rename_i hk
      subst hk
      simp only [Option.some.injEq, Prod.mk.injEq] at h
      obtain ⟨rfl, rfl⟩ := h
      refine ⟨_, rfl, fun w => ?_⟩
      first
        | (simp [binOp, Op.intArith, PX.den, LX.den, SX.mkO_den, arI]; done)
        | (simp [binOp, Op.intCmp, PX.den, LX.den, SX.mkC_den, cmI]; done)
        | (simp [binOp, intBits_and, intBits_or, intBits_xor, intBits_andNot, PX.den, LX.den, SX.mkO_den, arI]; done)
    · cases h
/-! ### Parts of values, equality. -/
theorem extract_map (f : LX → Value) (xs : List LX) (o n : Nat) : ((xs.map f).toArray.extract o (o + n)) = (((xs.drop o).take n).map f).toArray := by
  apply Array.ext'
  simp [List.map_take, List.map_drop]
theorem partX_sound {t : TypeId} {xs : List LX} {o : Nat} {p : PX} (h : partX P t xs o = some p) : Yi P (part t (xs.map (·.den e)).toArray o) (p.den e) := by
  unfold partX at h
  split at h
  · rename_i n hn
    obtain ⟨d, i, hu, hd, hi, hs⟩ := rowT_spec hn
    split at h
    · simp only [Option.some.injEq] at h
      subst h
      intro w
      simp only [part, Sem.run_bind, run_isAgg hu, hd, Result.andThen_ok, if_true, run_size hi, Sem.run_pure, hs, extract_map, PX.den]
    · cases h
  · split at h
    · rename_i hl
      obtain ⟨d, hu, hd⟩ := leafT_spec hl
      cases hx : xs[o]? with
      | none => rw [hx] at h; cases h
      | some x =>
        rw [hx] at h
        simp only [Option.map_some, Option.some.injEq] at h
        subst h
        intro w
        have : (xs.map (·.den e)).toArray[o]? = some (x.den e) := by simp [hx]
        simp only [part, Sem.run_bind, run_isAgg hu, hd, Result.andThen_ok, Bool.false_eq_true, if_false, this, Sem.run_pure, PX.den]
    · cases h
theorem eqFs_sound {g : TypeId → PX → PX → Option SX} {d : Nat} (hg : ∀ t x y u, g t x y = some u → ∀ w, (Op.equalIn d t (x.den e) (y.den e)).run P w = .ok (u.den e).2 w) (xs ys : List LX) :
    ∀ (fs : List Field) (u : SX), eqFs g P xs ys fs = some u → ∀ w, (Op.eqFields d (xs.map (·.den e)).toArray (ys.map (·.den e)).toArray fs).run P w = .ok (u.den e).2 w
  | [], u, h, w => by simp only [eqFs, Option.some.injEq] at h; subst h; simp [Op.eqFields, SX.den]
  | f :: fs, u, h, w => by
    unfold eqFs at h
    split at h
    · cases h
    · rename_i hn
      split at h
      · rename_i a b ha hb
        split at h
        · rename_i u1 u2 h1 h2
          simp only [Option.some.injEq] at h
          subst h
          have r1 := hg _ _ _ _ h1
          have r2 := eqFs_sound hg xs ys fs u2 h2
          simp only [Op.eqFields, ne_eq, hn, not_false_eq_true, if_true, Sem.run_bind, partX_sound ha _, partX_sound hb _, Result.andThen_ok, r1, SX.mkAn_den]
          cases (u1.den e).2
          · simp
          · simp [r2]
        · cases h
      · cases h
theorem eqAr_sound {g : PX → PX → Option SX} {d : Nat} {t : TypeId} {n : Nat} (hg : ∀ x y u, g x y = some u → ∀ w, (Op.equalIn d t (x.den e) (y.den e)).run P w = .ok (u.den e).2 w) (xs ys : List LX) (hn : ∀ w, (sizeOf t).run P w = .ok n w) :
    ∀ (is : List Nat) (u : SX), eqAr g P t n xs ys is = some u → ∀ w, (do
      let r ← forIn is (none, ()) (fun i (r : Option Bool × Unit) => do
        let a ← part t (xs.map (·.den e)).toArray (i * n)
        let b ← part t (ys.map (·.den e)).toArray (i * n)
        let c ← Op.equalIn d t a b
        if (!c) = true then pure (ForInStep.done (some false, ())) else pure (ForInStep.yield (none, ())))
      match r.1 with
      | some a => pure a
      | none => pure true : Sem Bool).run P w = .ok (u.den e).2 w
  | [], u, h, w => by simp only [eqAr, Option.some.injEq] at h; subst h; simp [SX.den]
  | i :: is, u, h, w => by
    unfold eqAr at h
    split at h
    · rename_i a b ha hb
      split at h
      · rename_i u1 u2 h1 h2
        simp only [Option.some.injEq] at h
        subst h
        have r1 := hg _ _ _ h1
        have r2 := eqAr_sound hg xs ys hn is u2 h2 w
        simp only [Sem.run_bind] at r2
        simp only [List.forIn_cons, Sem.run_bind, partX_sound ha _, partX_sound hb _, Result.andThen_ok, r1, SX.mkAn_den]
        cases (u1.den e).2
        · simp
        · simp only [Bool.not_true, Bool.false_eq_true, if_false, Sem.run_pure, Result.andThen_ok, Bool.true_and]
          exact r2
      · cases h
    · cases h
theorem eqX_sound : ∀ (d : Nat) (t : TypeId) (x y : PX) (u : SX), eqX P d t x y = some u → ∀ n w, (Op.equalIn (d + n) t (x.den e) (y.den e)).run P w = .ok (u.den e).2 w
  | 0, _, _, _, _, h, _, _ => by cases h
  | d + 1, t, x, y, u, h, n, w => by
    have ih := fun t x y u h => eqX_sound d t x y u h n
    rw [show d + 1 + n = (d + n) + 1 by omega]
    unfold eqX at h
    split at h
    · rename_i a b hu
      simp only [Option.some.injEq] at h
      subst h
      simp only [PX.den, LX.den, run_equalIn_bool w _ t _ _ hu, SX.mkEq_den]
    · rename_i k0 k a k' b hu
      split at h
      · rename_i hk
        subst hk
        simp only [Option.some.injEq] at h
        subst h
        simp only [PX.den, LX.den, run_equalIn_int w _ t _ _ _ _ hu, SX.mkC_den, cmI]
      · cases h
    · rename_i fs xs ys hu
      split at h
      · cases h
      · rename_i hst
        have hf : P.fieldsOf t = fs := by unfold Program.fieldsOf; rw [hu]
        simp only [PX.den]
        rw [run_equalIn_struct w (d + n) t _ _ (by rw [hf]; exact hu) (by simpa using hst), hf]
        exact eqFs_sound (fun t x y u h w => ih t x y u h w) xs ys _ u h w
    · rename_i len el xs ys hu
      split at h
      · rename_i ie hi
        have r := eqAr_sound (t := el) (fun x y u h w => ih el x y u h w) xs ys (run_size hi) _ u h w
        simp only [PX.den]
        simp only [Op.equalIn, Sem.run_bind, run_underlying hu, Result.andThen_ok, run_size hi, Std.Legacy.Range.forIn_eq_forIn_range', Std.Legacy.Range.size, Nat.sub_zero, Nat.add_one_sub_one, Nat.div_one, List.range_eq_range'] at r ⊢
        refine Eq.trans ?_ r
        congr 1
        funext a w'
        obtain ⟨o, _⟩ := a
        cases o <;> rfl
      · cases h
    · cases h
end
section
variable {P : Program} {C : List (Kon P)} {I : List (Nat → Env → Prop)} {e : Env} {s : St} {hs : List SX} {a : Act} {w : World}
theorem fill_sound {place : Nat → Option (Nat × Nat)} : ∀ {parts : List (Nat × PX)} {cells cs : List LX}, fillX place cells parts = some cs →
    Instr.fill place (cells.map (·.den e)).toArray (parts.map fun p => (p.1, p.2.den e)) = some (cs.map (·.den e)).toArray
  | [], cells, cs, h => by simp only [fillX, Option.some.injEq] at h; subst h; rfl
  | (i, v) :: rest, cells, cs, h => by
    unfold fillX at h
    cases hp : place i with
    | none => rw [hp] at h; cases h
    | some os =>
      obtain ⟨off, size⟩ := os
      rw [hp] at h
      dsimp only at h
      split at h
      · rename_i hc
        have ih := fill_sound h
        have h1 : ¬ ((v.den e).cells.size ≠ size ∨ off + (v.den e).cells.size > (cells.map (·.den e)).toArray.size) := by
          rw [PX.cells_den]; simp only [List.size_toArray, List.length_map]; omega
        have hset : ∀ (vs : List Value) (j : Nat) (cs : Array Value), off + j + vs.length ≤ cs.size → (vs.zipIdx j).foldl (fun cs (x : Value × Nat) => cs.setIfInBounds (off + x.2) x.1) cs = (cs.toList.take (off + j) ++ vs ++ cs.toList.drop (off + j + vs.length)).toArray := by
          intro vs
          induction vs with
          | nil => intro j cs _; simp
          | cons x vs ihv =>
            intro j cs hl
            simp only [List.length_cons] at hl
            rw [List.zipIdx_cons, List.foldl_cons, ihv (j + 1) _ (by simp; omega)]
            apply Array.ext'
            simp only [Array.toList_setIfInBounds, List.length_cons]
            have hl' : off + j < cs.toList.length := by simp; omega
            rw [← Nat.add_assoc, List.take_succ_eq_append_getElem (by simp; omega), List.getElem_set_self, List.take_set_of_le (by omega), List.drop_set_of_lt (by omega), show off + j + 1 + vs.length = off + j + (vs.length + 1) by omega]
            simp
        have h2 := hset (v.cells.map (·.den e)) 0 (cells.map (·.den e)).toArray (by simp only [List.length_map, List.size_toArray]; omega)
        simp only [List.map_cons, Instr.fill, hp, Nat.add_zero, List.length_map] at h2 ⊢
        rw [if_neg (by simpa using h1), PX.cells_den]
        rw [← ih]
        congr 1
        rw [← Array.foldl_toList, Array.toList_zipIdx]
        rw [h2, hc.1]
        simp
      · cases h
theorem placesX_eq : ∀ {fs : List Field} {ps : List (Nat × Nat)}, placesX P fs = some ps → fs.mapM (fun f => (P.info? f.type).map fun i => (f.offset, i.size)) = some ps
  | [], ps, h => by simp only [placesX, Option.some.injEq] at h; subst h; rfl
  | f :: fs, ps, h => by
    unfold placesX at h
    split at h
    · rename_i i ps' h1 h2
      simp only [Option.some.injEq] at h
      subst h
      simp [List.mapM_cons, h1, placesX_eq h2]
    · cases h
theorem buildX_sound {t : TypeId} {parts : List (Nat × PX)} {cs : List LX} (h : buildX P t parts = some cs) : P.built t (parts.map fun p => (p.1, p.2.den e)) = some (cs.map (·.den e)).toArray := by
  unfold buildX at h
  unfold Program.built
  split at h
  · rename_i it len el hi hu
    split at h
    · rename_i z ie hz hie
      split at h
      · rename_i zs hzs
        have := fill_sound (e := e) h
        rw [ofLs_den hzs] at this
        simp only [hi, hu, hz, hie]
        exact this
      · cases h
    · cases h
  · rename_i it fields hi hu
    split at h
    · rename_i z places hz hpl
      split at h
      · rename_i zs hzs
        have := fill_sound (e := e) h
        rw [ofLs_den hzs] at this
        simp only [hi, hu, hz, placesX_eq hpl]
        exact this
      · cases h
    · cases h
  · cases h
theorem partsX_den (ht : Kn C I e s hs a) : ∀ {xs : List (Nat × Operand)} {ps : List (Nat × PX)}, partsX hs s xs = some ps → xs.map (fun p => (p.1, a.eval p.2)) = ps.map fun p => (p.1, p.2.den e)
  | [], ps, h => by simp only [partsX, Option.some.injEq] at h; subst h; rfl
  | (i, x) :: xs, ps, h => by
    unfold partsX at h
    split at h
    · rename_i p ps' h1 h2
      simp only [Option.some.injEq] at h
      subst h
      rw [List.map_cons, List.map_cons, partsX_den ht h2, evP_sound ht h1]
    · cases h
theorem geZ_den {x : SX} (h : ((geZ x).den e).2 = true) : 0 ≤ (x.den e).1 := by
  unfold geZ at h
  rw [SX.mkC_den] at h
  have h2 : decide ((0 : Int) ≤ (x.den e).1) = true := h
  simpa using h2
theorem lss_den {x y : SX} (h : ((SX.mkC .lss x y).den e).2 = true) : (x.den e).1 < (y.den e).1 := by
  rw [SX.mkC_den] at h
  simpa [cmI] using h
theorem leq_den {x y : SX} (h : ((SX.mkC .leq x y).den e).2 = true) : (x.den e).1 ≤ (y.den e).1 := by
  rw [SX.mkC_den] at h
  simpa [cmI] using h
/-- Where the slices lie. -/
structure Bs (e : Env) (s : St) : Prop where
  row : ∀ d ks len ct, rowOf s d = some (ks, len, ct) → 0 < (len.den e).1.toNat → ∃ a, e.base d = some a
  nr : ∀ d ks len ct h, nrOf s d = some (ks, len, ct, h) → ∃ a, e.base d = some a
  inn : ∀ c d ks len, nrCt s c = some (d, ks, len) → ∀ y, y < (len.den e).1.toNat → 0 ≤ e.int c y ∧ (0 < e.int c y → ∃ a, (e.nm c).nb y = some a)
theorem lenOk_base (hb : Bs e s) {d : Nat} {len : SX} (h : lenOk s d len = true) (hl : 0 < (len.den e).1.toNat) : ∃ a, e.base d = some a := by
  unfold lenOk at h
  split at h
  · rename_i ks l ct hr
    simp only [decide_eq_true_eq] at h
    exact hb.row d ks l ct hr (by rw [h]; exact hl)
  · split at h
    · rename_i ks l ct hh hr
      exact hb.nr d ks l ct hh hr
    · cases h
theorem capsX_den : ∀ {ps : List PX} {c : List (Nat × Nat)}, capsX ps = some c → ps.map (·.den e) = c.map fun p => Value.pointer (some ⟨e.adr p.1, p.2, none⟩)
  | [], c, h => by simp only [capsX, Option.some.injEq] at h; subst h; rfl
  | p :: ps, c, h => by
    unfold capsX at h
    split at h
    · rename_i heq; cases heq
    · rename_i d o ps' heq
      cases heq
      obtain ⟨c', hc, rfl⟩ := opt_map h
      rw [List.map_cons, List.map_cons, capsX_den hc]; rfl
    · cases h
theorem lenLX_sound (hb : Bs e s) {x : LX} {m : SX} {xs : List SX} (h : lenLX s x = some (m, xs)) (hx : ∀ x ∈ xs, (x.den e).2 = true) : ∃ b n c, x.den e = .slice b n c ∧ (m.den e).1 = (n : Int) := by
  unfold lenLX at h
  split at h
  · simp only [Option.some.injEq, Prod.mk.injEq] at h
    obtain ⟨rfl, rfl⟩ := h
    have g1 := geZ_den (hx _ (List.mem_cons_self ..))
    exact ⟨_, _, _, rfl, by omega⟩
  · simp only [Option.some.injEq, Prod.mk.injEq] at h
    obtain ⟨rfl, rfl⟩ := h
    exact ⟨_, _, _, rfl, rfl⟩
  · simp only [Option.some.injEq, Prod.mk.injEq] at h
    obtain ⟨rfl, rfl⟩ := h
    exact ⟨_, _, _, rfl, rfl⟩
  · rename_i c y
    split at h
    · rename_i d ks l hn
      simp only [Option.some.injEq, Prod.mk.injEq] at h
      obtain ⟨rfl, rfl⟩ := h
      have g1 := geZ_den (hx _ (List.mem_cons_self ..))
      have g2 := lss_den (hx _ (List.mem_cons_of_mem _ (List.mem_cons_self ..)))
      have := (hb.inn _ _ _ _ hn (y.den e).1.toNat (by omega)).1
      refine ⟨_, _, _, rfl, ?_⟩
      simp only [SX.den, Nat.mul_one, Nat.add_zero]
      omega
    · cases h
  · cases h
/-- What an operation without memory yields. -/
theorem evPure_sound {o : Oper} {v : VX} {xs : List SX} (ht : Kn C I e s hs a)
    (hb : Bs e s)
    (h : evPure P hs s o.op = some (v, xs)) (hx : ∀ x ∈ xs, (x.den e).2 = true) : ∃ u, v.sat e u ∧ ∀ w, (execOp a.eval o).run P w = .ok (.value u) w := by
  obtain ⟨dst, op, type, pos, after, guard⟩ := o
  dsimp only at h
  cases op <;> (unfold evPure at h; try dsimp only at h) <;> try (cases h; done)
  case move x =>
    obtain ⟨y, hy, hv⟩ := opt_map h
    simp only [Prod.mk.injEq] at hv
    obtain ⟨rfl, rfl⟩ := hv
    exact ⟨_, evV_sound ht hy, fun w => by simp [execOp]⟩
  case assign x =>
    obtain ⟨y, hy, hv⟩ := opt_map h
    simp only [Prod.mk.injEq] at hv
    obtain ⟨rfl, rfl⟩ := hv
    exact ⟨_, evV_sound ht hy, fun w => by simp [execOp]⟩
  case pick c x y =>
    split at h
    · rename_i g hg
      have hg' := evP_sound ht hg
      have ex : ∀ w, (execOp a.eval ⟨dst, .pick c x y, type, pos, after, guard⟩).run P w = .ok (.value (if (g.den e).2 = true then a.eval x else a.eval y)) w := fun w => by
        simp only [execOp, hg', PX.den, LX.den, asBool, Sem.run_bind, Sem.run_pure, Result.andThen_ok]
      split at h
      · rename_i ha
        obtain ⟨z, hz, hv⟩ := opt_map h
        simp only [Prod.mk.injEq] at hv
        obtain ⟨rfl, rfl⟩ := hv
        exact ⟨_, evV_sound (ht.more (ask_sound ht.cd ha)) hz, fun w => by rw [ex, ask_sound ht.cd ha, if_pos rfl]⟩
      · rename_i ha
        obtain ⟨z, hz, hv⟩ := opt_map h
        simp only [Prod.mk.injEq] at hv
        obtain ⟨rfl, rfl⟩ := hv
        exact ⟨_, evV_sound (ht.more (by rw [SX.mkNo_den, ask_sound ht.cd ha]; rfl)) hz, fun w => by rw [ex, ask_sound ht.cd ha, if_neg (by simp)]⟩
      · split at h
        · rename_i y1 y2 h1 h2
          simp only [Option.some.injEq, Prod.mk.injEq] at h
          obtain ⟨rfl, rfl⟩ := h
          refine ⟨_, rfl, fun w => ?_⟩
          rw [ex]
          cases hgd : (g.den e).2
          · rw [if_neg (by simp), evP_sound (ht.more (by rw [SX.mkNo_den, hgd]; rfl)) h2]
            simp [PX.den, LX.den, SX.mkSel_den, hgd]
          · rw [if_pos rfl, evP_sound (ht.more hgd) h1]
            simp [PX.den, LX.den, SX.mkSel_den, hgd]
        · cases h
    · cases h
  case unOp p t x =>
    cases p <;> dsimp only at h <;> try (cases h; done)
    case neg =>
      split at h
      · rename_i k y hy
        simp only [Option.some.injEq, Prod.mk.injEq] at h
        obtain ⟨rfl, rfl⟩ := h
        exact ⟨_, rfl, fun w => by simp [execOp, evP_sound ht hy, PX.den, LX.den, Op.unary, Op.intArith, SX.mkO_den, arI, SX.den]⟩
      · cases h
    case not =>
      split at h
      · rename_i y hy
        simp only [Option.some.injEq, Prod.mk.injEq] at h
        obtain ⟨rfl, rfl⟩ := h
        exact ⟨_, rfl, fun w => by simp [execOp, evP_sound ht hy, PX.den, LX.den, Op.unary, SX.mkNo_den]⟩
      · cases h
  case binOp p t x y yt =>
    split at h
    · rename_i k z k' z' h1 h2
      obtain ⟨u, hu, hy⟩ := binI_sound (P := P) (e := e) (t := t) h hx
      refine ⟨u, hu, fun w => ?_⟩
      have := binOp_guard (x := x) (y := y) (a_ := .int k (z.den e).1) (b_ := .int k' (z'.den e).1) ⟨_, _, _, _, rfl, rfl⟩ hy w
      simp only [execOp, evP_sound ht h1, evP_sound ht h2, PX.den, LX.den]
      rw [Sem.run_bind, this]
      simp
    · rename_i z z' h1 h2
      split at h
      · rename_i hu
        simp only [Option.some.injEq, Prod.mk.injEq] at h
        obtain ⟨rfl, rfl⟩ := h
        refine ⟨_, rfl, fun w => ?_⟩
        simp [execOp, evP_sound ht h1, evP_sound ht h2, PX.den, LX.den, eqGuard, binOp, Op.equal, Op.maxDepth, run_equalIn_bool w _ t _ _ hu, SX.mkEq_den]
      · rename_i hu
        simp only [Option.some.injEq, Prod.mk.injEq] at h
        obtain ⟨rfl, rfl⟩ := h
        refine ⟨_, rfl, fun w => ?_⟩
        simp [execOp, evP_sound ht h1, evP_sound ht h2, PX.den, LX.den, eqGuard, binOp, Op.equal, Op.maxDepth, run_equalIn_bool w _ t _ _ hu, SX.mkEq_den, SX.mkNo_den]
      · cases h
    · rename_i zs zs' h1 h2
      split at h
      · cases h
      · rename_i hg
        split at h
        · rename_i p' g hq
          simp only [Option.some.injEq, Prod.mk.injEq] at h
          obtain ⟨rfl, rfl⟩ := h
          have e1 := evP_sound ht h1
          have e2 := evP_sound ht h2
          simp only [PX.den] at e1 e2
          have r : ∀ w, (Op.equalIn 10000 t (.agg (zs.map (LX.den e)).toArray) (.agg (zs'.map (LX.den e)).toArray)).run P w = .ok (g.den e).2 w := fun w => eqX_sound (e := e) 6 t _ _ g hq 9994 w
          refine ⟨_, rfl, fun w => ?_⟩
          show _ = Result.ok (Next.value (.bool (g.den e).2)) w
          simp only [execOp, e1, e2, Sem.run_bind, run_eqGuard_agg w _ t x y _ _ (by simpa using hg), Result.andThen_ok, run_eql_struct, r, Sem.run_pure]
        · rename_i p' g hq
          simp only [Option.some.injEq, Prod.mk.injEq] at h
          obtain ⟨rfl, rfl⟩ := h
          have e1 := evP_sound ht h1
          have e2 := evP_sound ht h2
          simp only [PX.den] at e1 e2
          have r : ∀ w, (Op.equalIn 10000 t (.agg (zs.map (LX.den e)).toArray) (.agg (zs'.map (LX.den e)).toArray)).run P w = .ok (g.den e).2 w := fun w => eqX_sound (e := e) 6 t _ _ g hq 9994 w
          refine ⟨_, rfl, fun w => ?_⟩
          show _ = Result.ok (Next.value (.bool (g.mkNo.den e).2)) w
          simp only [execOp, e1, e2, Sem.run_bind, run_eqGuard_agg w _ t x y _ _ (by simpa using hg), Result.andThen_ok, run_neq_struct, r, Sem.run_pure, SX.mkNo_den]
        · cases h
    · cases h
  case convert src dst' x =>
    split at h
    · rename_i d1 k k1 y hu1 hu2 hy
      simp only [Option.some.injEq, Prod.mk.injEq] at h
      obtain ⟨rfl, rfl⟩ := h
      exact ⟨_, rfl, fun w => by simp [execOp, evP_sound ht hy, PX.den, LX.den, convert, run_underlying hu1, run_underlying hu2, Conv.intToInt, SX.mkCv_den]⟩
    · cases h
  case fieldAddr t x f =>
    split at h
    · rename_i fs hu
      split at h
      · rename_i fd hf
        split at h
        · rename_i fi hi
          split at h
          · cases h
          · rename_i h0
            have fa := fieldAt_sound hu hf hi h0
            split at h
            · rename_i d o hy
              simp only [Option.some.injEq, Prod.mk.injEq] at h
              obtain ⟨rfl, rfl⟩ := h
              refine ⟨_, rfl, fun w => ?_⟩
              have := fa ⟨e.adr d, o, none⟩ w
              simp [execOp, evP_sound ht hy, PX.den, LX.den, this, add_mid]
            · rename_i d o n sz i o2 hy
              simp only [Option.some.injEq, Prod.mk.injEq] at h
              obtain ⟨rfl, rfl⟩ := h
              refine ⟨_, rfl, fun w => ?_⟩
              have := fa ⟨e.adr d, o + (i.den e).1.toNat * sz + o2, none⟩ w
              simp only [add_mid, Nat.add_assoc] at this
              simp only [execOp, evP_sound ht hy, PX.den, LX.den, Sem.run_bind, Nat.add_assoc, this, Result.andThen_ok, Sem.run_pure]
            · rename_i d sz i o hy
              simp only [Option.some.injEq, Prod.mk.injEq] at h
              obtain ⟨rfl, rfl⟩ := h
              refine ⟨_, rfl, fun w => ?_⟩
              have := fa (((e.base d).getD default).add ((i.den e).1.toNat * sz + o)) w
              simp [execOp, evP_sound ht hy, PX.den, LX.den, this, add_add, Nat.add_assoc]
            · rename_i d y sz i o hy
              simp only [Option.some.injEq, Prod.mk.injEq] at h
              obtain ⟨rfl, rfl⟩ := h
              refine ⟨_, rfl, fun w => ?_⟩
              have := fa ((((e.nm d).nb (y.den e).1.toNat).getD default).add ((i.den e).1.toNat * sz + o)) w
              simp [execOp, evP_sound ht hy, PX.den, LX.den, this, add_add, Nat.add_assoc]
            · cases h
        · cases h
      · cases h
    · cases h
  case indexAddr t x ix =>
    split at h
    · rename_i len el d o k i hu hy hi
      split at h
      · rename_i ie n hie
        split at h
        · rename_i hn
          simp only [Option.some.injEq, Prod.mk.injEq] at h
          obtain ⟨rfl, rfl⟩ := h
          refine ⟨_, rfl, fun w => ?_⟩
          have := indexAt_array_sound (k := k) hu hie hn.1 hn.2 ⟨e.adr d, o, none⟩ w
          simp [execOp, evP_sound ht hy, evP_sound ht hi, PX.den, LX.den, SX.den, this, add_mid]
        · cases h
      · rename_i ie i' hie _
        simp only [Option.some.injEq, Prod.mk.injEq] at h
        obtain ⟨rfl, rfl⟩ := h
        have g1 := geZ_den (hx _ (List.mem_cons_self ..))
        have g2 := lss_den (hx _ (List.mem_cons_of_mem _ (List.mem_cons_self ..)))
        simp only [SX.den] at g2
        refine ⟨_, rfl, fun w => ?_⟩
        have := indexAt_array_sound (k := k) hu hie g1 g2 ⟨e.adr d, o, none⟩ w
        simp [execOp, evP_sound ht hy, evP_sound ht hi, PX.den, LX.den, this, add_mid]
      · cases h
    · rename_i len el d sz y o k i hu hy hi
      split at h
      · rename_i ie n hie
        split at h
        · rename_i hn
          simp only [Option.some.injEq, Prod.mk.injEq] at h
          obtain ⟨rfl, rfl⟩ := h
          refine ⟨_, rfl, fun w => ?_⟩
          have := indexAt_array_sound (k := k) hu hie hn.1 hn.2 (((e.base d).getD default).add ((y.den e).1.toNat * sz + o)) w
          simp [execOp, evP_sound ht hy, evP_sound ht hi, PX.den, LX.den, SX.den, this, add_add, Nat.add_assoc]
        · cases h
      · cases h
    · rename_i el d len k i hu hy hi
      split at h
      · rename_i ie hie
        split at h
        · rename_i hrl
          simp only [Option.some.injEq, Prod.mk.injEq] at h
          obtain ⟨rfl, rfl⟩ := h
          have g1 := geZ_den (hx _ (List.mem_cons_self ..))
          have g2 := lss_den (hx _ (List.mem_cons_of_mem _ (List.mem_cons_self ..)))
          obtain ⟨ad, had⟩ := lenOk_base hb hrl (by omega)
          refine ⟨_, rfl, fun w => ?_⟩
          have := indexAt_slice_sound (k := k) (len := (len.den e).1.toNat) (cap := e.cap d) hu hie g1 (by omega) ad w
          simp [execOp, evP_sound ht hy, evP_sound ht hi, PX.den, LX.den, had, this]
        · cases h
      · cases h
    · rename_i el d y k i hu hy hi
      split at h
      · rename_i ie d' ks l hie hn
        simp only [Option.some.injEq, Prod.mk.injEq] at h
        obtain ⟨rfl, rfl⟩ := h
        have g1 := geZ_den (hx _ (List.mem_cons_self ..))
        have g2 := lss_den (hx _ (List.mem_cons_of_mem _ (List.mem_cons_self ..)))
        have g3 := geZ_den (hx _ (List.mem_cons_of_mem _ (List.mem_cons_of_mem _ (List.mem_cons_self ..))))
        have g4 := lss_den (hx _ (List.mem_cons_of_mem _ (List.mem_cons_of_mem _ (List.mem_cons_of_mem _ (List.mem_cons_self ..)))))
        simp only [SX.den, Nat.mul_one, Nat.add_zero] at g4
        obtain ⟨h1, h2⟩ := hb.inn _ _ _ _ hn (y.den e).1.toNat (by omega)
        obtain ⟨ad, had⟩ := h2 (by omega)
        refine ⟨_, rfl, fun w => ?_⟩
        have := indexAt_slice_sound (k := k) (len := (e.int d (y.den e).1.toNat).toNat) (cap := (e.nm d).nc (y.den e).1.toNat) hu hie g3 (by omega) ad w
        simp [execOp, evP_sound ht hy, evP_sound ht hi, PX.den, LX.den, had, this]
      · cases h
    · cases h
  case field t x f =>
    split at h
    · rename_i fs zs hu hy
      split at h
      · rename_i fd hf
        split at h
        · rename_i n hn
          simp only [Option.some.injEq, Prod.mk.injEq] at h
          obtain ⟨rfl, rfl⟩ := h
          obtain ⟨d, i, hu2, hd, hi, hs⟩ := rowT_spec hn
          refine ⟨_, rfl, fun w => ?_⟩
          have : (part fd.type (zs.map (·.den e)).toArray fd.offset).run P w = .ok (PX.den e (.a ((zs.drop fd.offset).take n))) w := by
            simp only [part, Sem.run_bind, run_isAgg hu2, hd, Result.andThen_ok, if_true, run_size hi, Sem.run_pure, hs, extract_map, PX.den]
          simp [execOp, evP_sound ht hy, PX.den, Instr.field, run_underlying hu, hf, asAgg] at this ⊢
          simp [this]
        · rename_i hnone
          split at h
          · rename_i hl
            obtain ⟨y, hz, hv⟩ := opt_map h
            simp only [Prod.mk.injEq] at hv
            obtain ⟨rfl, rfl⟩ := hv
            have hp : partX P fd.type zs fd.offset = some (.l y) := by
              unfold partX
              simp only [hnone, hl, if_true, hz, Option.map_some]
            refine ⟨_, rfl, fun w => ?_⟩
            have := partX_sound (e := e) hp w
            simp [execOp, evP_sound ht hy, PX.den, Instr.field, run_underlying hu, hf, asAgg] at this ⊢
            simp [this]
          · cases h
      · cases h
    · cases h
  case build t parts =>
    split at h
    · rename_i ps hps
      obtain ⟨cs, hcs, hv⟩ := opt_map h
      simp only [Prod.mk.injEq] at hv
      obtain ⟨rfl, rfl⟩ := hv
      have hb := buildX_sound (e := e) hcs
      rw [← partsX_den ht hps] at hb
      refine ⟨_, rfl, fun w => ?_⟩
      have r := run_build (P := P) w t (parts.map fun (i, x) => (i, a.eval x)) _ (by rw [← hb]; simp)
      simp [execOp, r, PX.den]
    · cases h
  case extract x i =>
    split at h
    · rename_i ps hps
      obtain ⟨p, hp, hv⟩ := opt_map h
      simp only [Prod.mk.injEq] at hv
      obtain ⟨rfl, rfl⟩ := hv
      have he : a.eval x = _ := evV_sound ht hps
      exact ⟨_, rfl, fun w => by simp [execOp, he, Instr.extract, hp]⟩
    · cases h
  case nilCheck x =>
    split at h
    · rename_i d o hy
      simp only [Option.some.injEq, Prod.mk.injEq] at h
      obtain ⟨rfl, rfl⟩ := h
      exact ⟨_, rfl, fun w => by simp [execOp, evP_sound ht hy, PX.den, LX.den]⟩
    · cases h
  case makeFunc fn first captured =>
    cases fn <;> dsimp only at h <;> try (cases h; done)
    split at h
    · rename_i ps hf hps
      obtain ⟨c, hc, hv⟩ := opt_map h
      simp only [Prod.mk.injEq] at hv
      obtain ⟨rfl, rfl⟩ := hv
      have hfirst : first = #[] := by apply Array.ext'; simp [hf]
      subst hfirst
      have h1 := evPs_sound ht hps
      rw [capsX_den hc] at h1
      have h2 : captured.map a.eval = (c.map fun p => Value.pointer (some ⟨e.adr p.1, p.2, none⟩)).toArray := by
        apply Array.ext'; rw [Array.toList_map, h1]
      exact ⟨_, rfl, fun w => by simp [execOp, Instr.makeFunc, h2, PX.den, LX.den]⟩
    · cases h
  case call c =>
    obtain ⟨callee, args, argTypes⟩ := c
    cases callee with
    | value f => cases h
    | invoke r m => cases h
    | builtin b =>
      cases b <;> dsimp only at h <;> try (cases h; done)
      case len =>
        split at h
        · rename_i x t hxs ht0
          have hargs : args = #[x] := by apply Array.ext'; simp [hxs]
          subst hargs
          split at h
          · rename_i el y hu hy
            obtain ⟨⟨m, ys⟩, hm, hp⟩ := opt_map h
            simp only [Prod.mk.injEq] at hp
            obtain ⟨rfl, rfl⟩ := hp
            obtain ⟨b, n, c, h1, h2⟩ := lenLX_sound hb hm hx
            refine ⟨_, rfl, fun w => ?_⟩
            have e1 : a.eval x = .slice b n c := (evP_sound ht hy).trans h1
            show _ = Result.ok (Next.value (.int .i64 (m.den e).1)) w
            rw [h2]
            simp [execOp, resolve, invoke, builtin, Builtin.len_, ht0, e1, run_underlying hu, goInt]
          · cases h
        · cases h
      case max =>
        split at h
        · rename_i k z k' z' hps
          split at h
          · rename_i hk
            subst hk
            simp only [Option.some.injEq, Prod.mk.injEq] at h
            obtain ⟨rfl, rfl⟩ := h
            have hm := evPs_sound ht hps
            simp only [List.map_cons, List.map_nil, PX.den, LX.den] at hm
            refine ⟨_, rfl, fun w => ?_⟩
            have hm' : (args.map a.eval).toList = [.int k (z.den e).1, .int k (z'.den e).1] := by rw [Array.toList_map, hm]
            simp [execOp, resolve, invoke, builtin, Builtin.max_, hm, Builtin.max2, PX.den, LX.den, SX.den]
          · cases h
        · cases h
      case min =>
        split at h
        · rename_i k z k' z' hps
          split at h
          · rename_i hk
            subst hk
            simp only [Option.some.injEq, Prod.mk.injEq] at h
            obtain ⟨rfl, rfl⟩ := h
            have hm := evPs_sound ht hps
            simp only [List.map_cons, List.map_nil, PX.den, LX.den] at hm
            refine ⟨_, rfl, fun w => ?_⟩
            simp [execOp, resolve, invoke, builtin, Builtin.min_, hm, Builtin.min2, PX.den, LX.den, SX.den]
          · cases h
        · cases h
end
end Go.Proofs.Ytjhdjclcfmcilaa.T2
