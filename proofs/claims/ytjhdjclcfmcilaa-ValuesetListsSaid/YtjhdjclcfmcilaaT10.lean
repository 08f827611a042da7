/-
  The second machine on terms is right: loops by an invariant, code, calls in place, functions. No program.
-/
import Derived.Test.YtjhdjclcfmcilaaT9
namespace Go.Proofs.Ytjhdjclcfmcilaa.T2
open Go.ChangeShapes Go.WideShapes Go.ChangeAt Go.RowKit
set_option linter.unusedVariables false

section
variable {e e' : Env}
theorem Sats.set' : ∀ {xs : List VX} {vs : List Value} (t : Nat) {x : VX}, Sats e xs vs → (∀ v, vs[t]? = some v → x.sat e v) → Sats e (xs.set t x) vs
  | [], [], _, _, _, _ => trivial
  | [], _ :: _, _, _, h, _ => h.elim
  | _ :: _, [], _, _, h, _ => h.elim
  | _ :: _, v :: _, 0, _, h, hx => ⟨hx v rfl, h.2⟩
  | _ :: _, _ :: _, t + 1, _, h, hx => ⟨h.1, Sats.set' t h.2 fun v hv => hx v (by simpa using hv)⟩
theorem Env.agr_refl (n : Nat) (e : Env) : Env.agr n e e := fun _ _ => rfl
theorem Env.agr_trans {n m : Nat} {e0 e1 e2 : Env} (h : Env.agr n e0 e1) (h' : Env.agr m e1 e2) (hm : n ≤ m) : Env.agr n e0 e2 := fun x hx => (h' x (by omega)).trans (h x hx)
theorem off_agr {d : Nat} (h : Env.agr d e e') : Env.off (fun x => decide (x < d)) e e' := fun x hx => by
  simp only [decide_eq_true_eq] at hx
  exact (h x hx).symm

/-! ### The head of a loop and another state. -/
section
variable {d : Nat} {xs : List LX} {ms : List (Option (Nat × Nat))}
theorem sub_lt {x : Nat} (h : x < d) : (e.sub d xs ms).nm x = e.nm x := by
  unfold Env.sub
  simp only [show ¬ x = d by omega, show ¬ d < x by omega, if_false]
theorem sub_eq : (e.sub d xs ms).nm d = { Nm.zero with int := fun j => match xs[j]? with | some (.n _ y) => (y.den e).1 | _ => 0, bool := fun j => match xs[j]? with | some (.t y) => (y.den e).2 | _ => false } := by
  unfold Env.sub
  simp only [if_true]
  rfl
theorem sub_gt {x : Nat} (h : d < x) {m : Option (Nat × Nat)} (hm : ms[x - (d + 1)]? = some m) : (e.sub d xs ms).nm x = subN e m := by
  unfold Env.sub
  simp only [show ¬ x = d by omega, h, if_false, if_true, hm]
theorem agr_sub : Env.agr d e (e.sub d xs ms) := fun x hx => sub_lt hx
theorem off_sub : Env.off (fun x => decide (x < d)) e (e.sub d xs ms) := off_agr agr_sub
theorem eqS_den {h c : SX} (hq : eqS d xs h c = true) : (h.den (e.sub d xs ms)).1 = (c.den e).1 := by
  unfold eqS at hq
  rw [Bool.or_eq_true, Bool.and_eq_true] at hq
  rcases hq with ⟨h1, h2⟩ | hq
  · rw [← SX.den_off off_sub h h2, SX.bq_eq _ _ h1]
  · split at hq
    · rename_i d' j
      simp only [Bool.and_eq_true, beq_iff_eq] at hq
      obtain ⟨rfl, hq⟩ := hq
      split at hq
      · rename_i k y hx
        simp only [SX.den, Env.int, sub_eq, hx]
        rw [SX.bq_eq _ _ hq]
      · cases hq
    · cases hq
theorem eqL_den {h c : LX} (hq : eqL d xs ms h c = true) : h.den (e.sub d xs ms) = c.den e := by
  unfold eqL at hq
  rw [Bool.or_eq_true, Bool.and_eq_true] at hq
  rcases hq with ⟨h1, h2⟩ | hq
  · rw [← LX.den_off off_sub h h2, LX.bq_eq _ _ h1]
  · split at hq
    · rename_i k d' j k' y
      simp only [Bool.and_eq_true, beq_iff_eq, decide_eq_true_eq] at hq
      obtain ⟨⟨rfl, rfl⟩, hq⟩ := hq
      split at hq
      · rename_i k2 z hx
        simp only [LX.den, SX.den, Env.int, sub_eq, hx]
        rw [SX.bq_eq _ _ hq]
      · cases hq
    · rename_i d' j y
      simp only [Bool.and_eq_true, beq_iff_eq] at hq
      obtain ⟨rfl, hq⟩ := hq
      split at hq
      · rename_i z hx
        simp only [LX.den, SX.den, Env.bool, sub_eq, hx]
        rw [SX.bq_eq _ _ hq]
      · cases hq
    · rename_i m d' j b len
      simp only [Bool.and_eq_true, beq_iff_eq, decide_eq_true_eq] at hq
      obtain ⟨⟨⟨hm, rfl⟩, h1⟩, h2⟩ := hq
      split at h1
      · rename_i k z hx
        split at h2
        · rename_i b' c' hms
          simp only [beq_iff_eq] at h2
          subst h2
          simp only [LX.den, SX.den, Env.int, Env.base, Env.cap, sub_eq, hx, sub_gt hm hms, subN]
          rw [SX.bq_eq _ _ h1]
        · cases h2
      · cases h1
    · rename_i m d' j
      simp only [Bool.and_eq_true, beq_iff_eq, decide_eq_true_eq] at hq
      obtain ⟨⟨⟨hm, rfl⟩, h1⟩, h2⟩ := hq
      split at h1
      · rename_i k hx
        split at h2
        · rename_i hms
          simp only [LX.den, SX.den, Env.int, Env.base, Env.cap, sub_eq, hx, sub_gt hm hms, subN]
          rfl
        · cases h2
      · cases h1
    · cases hq
theorem eqLs_den : ∀ {hs cs : List LX}, eqLs d xs ms hs cs = true → hs.map (·.den (e.sub d xs ms)) = cs.map (·.den e)
  | [], [], _ => rfl
  | h :: hs, c :: cs, hq => by
    simp only [eqLs, Bool.and_eq_true] at hq
    rw [List.map_cons, List.map_cons, eqL_den hq.1, eqLs_den hq.2]
  | [], _ :: _, h => by cases h
  | _ :: _, [], h => by cases h
/-- Like contents. -/
structure Like (m m' : Nm) : Prop where
  int : m.int = m'.int
  bool : m.bool = m'.bool
  nb : m.nb = m'.nb
  nc : m.nc = m'.nc
  i2 : m.i2 = m'.i2
  b2 : m.b2 = m'.b2
theorem like_sub {b c : Nat} : Like (subN e (some (b, c))) (e.nm c) := ⟨rfl, rfl, rfl, rfl, rfl, rfl⟩
theorem eqC_like {h c : Nat} (hq : eqC d ms h c = true) : Like ((e.sub d xs ms).nm h) (e.nm c) := by
  unfold eqC at hq
  rw [Bool.or_eq_true, Bool.and_eq_true] at hq
  rcases hq with ⟨h1, h2⟩ | hq
  · simp only [beq_iff_eq, decide_eq_true_eq] at h1 h2
    subst h1
    rw [sub_lt h2]
    exact ⟨rfl, rfl, rfl, rfl, rfl, rfl⟩
  · rw [Bool.and_eq_true, decide_eq_true_eq] at hq
    obtain ⟨h1, h2⟩ := hq
    split at h2
    · rename_i b c' hms
      simp only [beq_iff_eq] at h2
      subst h2
      rw [sub_gt h1 hms]
      exact like_sub
    · cases h2
theorem zeroAt_spec {j : Nat} (h : zeroAt xs j = true) : ∃ k, xs[j]? = some (.n k (.i 0)) := by
  unfold zeroAt at h
  split at h
  · rename_i k hx; exact ⟨k, hx⟩
  · cases h
/-- An object of the other state stands for one of the head. -/
theorem mateX_some {s : St} {b b' : Bk} (h : mateX d xs ms s b = some (some b')) : b' ∈ s.hp ∧ (∀ B w, b'.ok e B w → b.ok (e.sub d xs ms) B w) ∧ ∀ g, b.fp (e.sub d xs ms) g → b'.fp e g := by
  unfold mateX at h
  split at h
  · rename_i id ty hs
    split at h
    · rename_i id' ty' cs ho
      split at h
      · rename_i hc
        simp only [Bool.and_eq_true, decide_eq_true_eq, beq_iff_eq] at hc
        obtain ⟨⟨h1, rfl⟩, h3⟩ := hc
        simp only [Option.some.injEq] at h
        subst h
        obtain ⟨hm, rfl⟩ := objX_mem ho
        refine ⟨hm, fun B w hk => ?_, fun g hg => ?_⟩
        · simp only [Bk.ok, Env.adr] at hk ⊢
          rw [sub_lt h1, eqLs_den h3]; exact hk
        · simp only [Bk.fp, Env.adr] at hg ⊢
          rw [sub_lt h1] at hg; exact hg
      · cases h
    · cases h
  · rename_i id kk kv ct
    split at h
    · rename_i id' kk' kv' ct' ho
      split at h
      · rename_i hc
        simp only [Bool.and_eq_true, decide_eq_true_eq] at hc
        obtain ⟨⟨⟨h1, rfl⟩, rfl⟩, h3⟩ := hc
        simp only [Option.some.injEq] at h
        subst h
        obtain ⟨hm, rfl⟩ := objX_mem ho
        have hl := eqC_like (e := e) (xs := xs) h3
        refine ⟨hm, fun B w hk => ?_, fun g hg => ?_⟩
        · simp only [Bk.ok, Env.adr, Env.int, Env.bool] at hk ⊢
          rw [sub_lt h1, hl.int, hl.bool]; exact hk
        · simp only [Bk.fp, Env.adr] at hg ⊢
          rw [sub_lt h1] at hg; exact hg
      · cases h
    · cases h
  · rename_i id ks len ct
    split at h
    · rename_i id' ks' len' ct' ho
      split at h
      · rename_i hc
        simp only [Bool.and_eq_true, decide_eq_true_eq] at hc
        obtain ⟨⟨⟨h1, h2⟩, h4⟩, h3⟩ := hc
        simp only [Option.some.injEq] at h
        subst h
        obtain ⟨hm, rfl⟩ := objX_mem ho
        have hl := eqC_like (e := e) (xs := xs) h3
        have hk2 := bqL_eq kbq_eq h2
        subst hk2
        have hle := eqS_den (e := e) (ms := ms) h4
        refine ⟨hm, fun B w hk => ?_, fun g hg => ?_⟩
        · simp only [Bk.ok, Env.base, Env.cap, Env.int, reduceCtorEq, false_implies, implies_true, true_implies] at hk ⊢
          rw [sub_lt h1, hle, hl.int, hl.nb, hl.nc, hl.i2, hl.b2]; exact hk
        · simp only [Bk.fp, Env.base, reduceCtorEq, false_implies, implies_true, true_and] at hg ⊢
          rw [sub_lt h1, hle, hl.nb] at hg; exact hg
      · cases h
    · cases h
  · cases h
  · rename_i id ks len ct
    split at h
    · rename_i h1
      split at h
      · rename_i id' ks' len' ct' ho
        split at h
        · rename_i hc
          simp only [Bool.and_eq_true] at hc
          obtain ⟨⟨h2, h4⟩, h3⟩ := hc
          simp only [Option.some.injEq] at h
          subst h
          obtain ⟨hm, rfl⟩ := objX_mem ho
          have hl := eqC_like (e := e) (xs := xs) h3
          have hk2 := bqL_eq kbq_eq h2
          subst hk2
          have hle := eqS_den (e := e) (ms := ms) h4
          refine ⟨hm, fun B w hk => ?_, fun g hg => ?_⟩
          · simp only [Bk.ok, Env.base, Env.cap, Env.int, Env.bool] at hk ⊢
            rw [sub_lt h1, hle, hl.int, hl.bool]; exact hk
          · simp only [Bk.fp, Env.base] at hg ⊢
            rw [sub_lt h1] at hg; exact hg
        · cases h
      · cases h
    · rename_i h1
      split at h
      · cases h
      · rename_i h2
        simp only [Bool.or_eq_true, beq_iff_eq, Bool.not_eq_true', beq_eq_false_iff_ne, ne_eq, not_or, Decidable.not_not] at h2
        obtain ⟨h2, rfl⟩ := h2
        split at h
        · split at h <;> cases h
        · rename_i b c len' hms
          split at h
          · rename_i id' ks' len2 ct' ho
            split at h
            · rename_i hc
              simp only [Bool.and_eq_true, beq_iff_eq] at hc
              obtain ⟨⟨h3, h4⟩, rfl⟩ := hc
              simp only [Option.some.injEq] at h
              subst h
              obtain ⟨hm, rfl⟩ := objX_mem ho
              have hk2 := bqL_eq kbq_eq h3
              subst hk2
              have hle := eqS_den (e := e) (ms := ms) h4
              have hlt : d < ct := by omega
              refine ⟨hm, fun B w hk => ?_, fun g hg => ?_⟩
              · simp only [Bk.ok, Env.base, Env.cap, Env.int, Env.bool] at hk ⊢
                rw [sub_gt hlt hms, hle]; exact hk
              · simp only [Bk.fp, Env.base] at hg ⊢
                rw [sub_gt hlt hms] at hg; exact hg
            · cases h
          · cases h
        · cases h
theorem mateX_none {s : St} {b : Bk} (h : mateX d xs ms s b = some none) : (∀ B w, b.ok (e.sub d xs ms) B w) ∧ ∀ g, ¬ b.fp (e.sub d xs ms) g := by
  unfold mateX at h
  split at h
  · split at h
    · split at h <;> cases h
    · cases h
  · split at h
    · split at h <;> cases h
    · cases h
  · split at h
    · split at h <;> cases h
    · cases h
  · cases h
  · rename_i id ks len ct
    split at h
    · split at h
      · split at h <;> cases h
      · cases h
    · rename_i h1
      split at h
      · cases h
      · rename_i h2
        simp only [Bool.or_eq_true, beq_iff_eq, Bool.not_eq_true', beq_eq_false_iff_ne, ne_eq, not_or, Decidable.not_not] at h2
        obtain ⟨h2, rfl⟩ := h2
        split at h
        · rename_i d' j hms
          split at h
          · rename_i hc
            simp only [Bool.and_eq_true, beq_iff_eq] at hc
            obtain ⟨rfl, hc⟩ := hc
            obtain ⟨k, hx⟩ := zeroAt_spec hc
            have hlt : d' < ct := by omega
            refine ⟨fun B w => ?_, fun g hg => ?_⟩
            · simp only [Bk.ok, SX.den, Env.base, Env.cap, Env.int, Env.bool, sub_gt hlt hms, sub_eq, hx, subN, Nm.zero]
              exact ⟨Nat.le_refl _, .inl ⟨rfl, rfl⟩⟩
            · simp only [Bk.fp, Env.base, sub_gt hlt hms, subN, Nm.zero] at hg
              obtain ⟨a, ha, _⟩ := hg
              cases ha
          · cases h
        · split at h
          · split at h <;> cases h
          · cases h
        · cases h
theorem matesX_mem {s : St} : ∀ {l : List Bk} {ml : List (Option Bk)}, matesX d xs ms s l = some ml → ∀ b ∈ l, ∃ m ∈ ml, mateX d xs ms s b = some m
  | b0 :: l, ml, h, b, hb => by
    unfold matesX at h
    split at h
    · rename_i m l' h1 h2
      simp only [Option.some.injEq] at h
      subst h
      rcases List.mem_cons.1 hb with rfl | hb
      · exact ⟨m, List.mem_cons_self .., h1⟩
      · obtain ⟨m', h3, h4⟩ := matesX_mem h2 b hb
        exact ⟨m', List.mem_cons_of_mem _ h3, h4⟩
    · cases h
theorem matesX_pair {s : St} (hinj : ∀ x ∈ s.hp, ∀ y ∈ s.hp, x.id ≠ y.id → Apart e x y) : ∀ {l : List Bk} {ml : List (Option Bk)}, matesX d xs ms s l = some ml → nodupX ml = true → l.Pairwise (Apart (e.sub d xs ms))
  | [], _, _, _ => List.Pairwise.nil
  | b0 :: l, ml, h, hn => by
    unfold matesX at h
    split at h
    · rename_i m l' h1 h2
      simp only [Option.some.injEq] at h
      subst h
      cases m with
      | none =>
        simp only [nodupX] at hn
        exact List.pairwise_cons.2 ⟨fun b hb g hg => absurd hg ((mateX_none h1).2 g), matesX_pair hinj h2 hn⟩
      | some m =>
        simp only [nodupX, Bool.and_eq_true] at hn
        refine List.pairwise_cons.2 ⟨fun b hb g hg hg' => ?_, matesX_pair hinj h2 hn.2⟩
        obtain ⟨m', hm', hb'⟩ := matesX_mem h2 b hb
        cases m' with
        | none => exact (mateX_none hb').2 g hg'
        | some m' =>
          have hne := List.all_eq_true.1 hn.1 _ hm'
          simp only [Bool.not_eq_true', beq_eq_false_iff_ne, ne_eq] at hne
          obtain ⟨a1, _, a3⟩ := mateX_some (e := e) h1
          obtain ⟨c1, _, c3⟩ := mateX_some (e := e) hb'
          exact hinj m a1 m' c1 (Ne.symm hne) g (a3 g hg) (c3 g hg')
    · cases h
theorem nodN_nodup : ∀ {l : List Nat}, nodN l = true → l.Nodup
  | [], _ => List.nodup_nil
  | x :: l, h => by
    simp only [nodN, Bool.and_eq_true] at h
    refine List.nodup_cons.2 ⟨fun hm => ?_, nodN_nodup h.2⟩
    have := List.all_eq_true.1 h.1 x hm
    simp at this
theorem slotsX_sats : ∀ {hs cs : List VX} {vs : List Value}, slotsX d xs ms hs cs = true → Sats e cs vs → Sats (e.sub d xs ms) hs vs
  | [], [], vs, _, h => by cases vs with | nil => trivial | cons _ _ => exact h.elim
  | [], _ :: _, _, hq, _ => by cases hq
  | h0 :: hs, [], _, hq, _ => by
    cases h0 <;> first | (simp [slotsX] at hq; done) | (rename_i x; cases x <;> simp [slotsX] at hq)
  | h0 :: hs, c0 :: cs, [], _, h => h.elim
  | h0 :: hs, c0 :: cs, v :: vs, hq, h => by
    have gen : (h0.bq c0 && h0.fr (fun x => decide (x < d)) && slotsX d xs ms hs cs) = true → Sats (e.sub d xs ms) (h0 :: hs) (v :: vs) := fun hq => by
      simp only [Bool.and_eq_true] at hq
      have := VX.bq_eq _ _ hq.1.1
      subst this
      exact ⟨VX.sat_off off_sub _ hq.1.2 _ h.1, slotsX_sats hq.2 h.2⟩
    unfold slotsX at hq
    split at hq
    · rename_i heq1 heq2; cases heq1
    · rename_i hs' y cs' heq1 heq2
      cases heq1
      cases heq2
      exact ⟨trivial, slotsX_sats hq h.2⟩
    · rename_i x hs' y cs' heq1 heq2
      cases heq1
      cases heq2
      simp only [Bool.and_eq_true] at hq
      refine ⟨?_, slotsX_sats hq.2 h.2⟩
      have := h.1
      simp only [VX.sat, PX.den] at this ⊢
      rw [this, eqL_den hq.1]
    · rename_i a1 hs' a2 cs' _ _ heq1 heq2
      cases heq1
      cases heq2
      exact gen hq
    · cases hq
end
end
section
variable {P : Program} {C : List (Kon P)} {I : List (Nat → Env → Prop)} {ups : List (List Value)} {inl : Inl}
theorem Oks.base {n0 d : Nat} {e0 e1 : Env} {os : List Ob} (h : Oks C I n0 e0 os) (h1 : Env.agr n0 e0 e1) (hd : n0 ≤ d) : Oks C I d e1 os := fun ob hm => by
  have := h ob hm
  cases ob with
  | cl cd x => exact fun e he hc => this e (Env.agr_trans h1 he hd) hc
  | pre cd k args => exact fun e he hc => this e (Env.agr_trans h1 he hd) hc
  | inv cd k d' xs ms => exact fun e he hc => this e (Env.agr_trans h1 he hd) hc
theorem Rel.rebase {G G' : Cfg} {e0 e1 e : Env} {w0 w : World} {s : St} {a : Act} (h : Rel C I G e0 w0 e s a ups w) (hx : Env.agr G'.n0 e1 e) : Rel C I G' e1 w0 e s a ups w := ⟨h.df, h.tm, h.up, h.hp, h.nd, h.inj, h.rw, h.bl, h.cd, hx⟩
theorem numAt_val {e : Env} {s : St} {a : Act} (ht : Sats e s.tm a.tmps.toList) {t : Nat} {x : SX} (h : numAt s t = some x) : ∃ k, a.tmps[t]? = some (.int k (x.den e).1) := by
  unfold numAt at h
  split at h
  · rename_i k x' hx
    simp only [Option.some.injEq] at h
    subst h
    obtain ⟨v, hv, hs⟩ := ht.get hx
    simp only [VX.sat] at hs
    subst hs
    exact ⟨k, by rw [← Array.getElem?_toList]; exact hv⟩
  · cases h
/-- The state at the head, out of one that meets it. -/
theorem head_rel0 {G : Cfg} {e1 e0 : Env} {w0 w1 : World} {h s1 : St} {a1 : Act} {d k : Nat} {hv : List Hv} {xs : List LX} {ms : List (Option (Nat × Nat))} (hup : Satz e1 h.up ups) (hupf : h.up.all (·.all (·.fr fun x => decide (x < d))) = true)
    (hcd : ∀ x ∈ h.cd, x = .g d (names hv) k ∨ (x.holds C I e1 ∧ x.fr (fun x => decide (x < d)) = true)) (hR1 : Rel C I G e0 w0 e1 s1 a1 ups w1) (hn : G.n0 ≤ d) (hm : meetX d hv h s1 = some (xs, ms)) (hinv : ∃ i, I[k]? = some i ∧ i d ((e1.sub d xs ms).cut (d + ms.length))) :
    Rel C I G e0 w0 (e1.sub d xs ms) h a1 ups w1 := by
  unfold meetX at hm
  split at hm
  · rename_i xs' ms' _
    split at hm
    · rename_i l hl
      split at hm
      · rename_i hc
        simp only [Option.some.injEq, Prod.mk.injEq] at hm
        obtain ⟨rfl, rfl⟩ := hm
        simp only [Bool.and_eq_true, beq_iff_eq, decide_eq_true_eq] at hc
        obtain ⟨⟨⟨⟨⟨q1, q2⟩, q3⟩, q4⟩, q5⟩, q6⟩ := hc
        refine ⟨hR1.df, slotsX_sats q3 hR1.tm, hup.off off_sub hupf, fun b hb => ?_, nodN_nodup q2, ?_, fun r hr => ?_, hR1.bl, fun x hx => ?_, Env.agr_trans hR1.ex (agr_sub (d := d)) hn⟩
        · obtain ⟨m, _, hbm⟩ := matesX_mem hl b hb
          cases m with
          | none => exact (mateX_none hbm).1 _ _
          | some m =>
            obtain ⟨h1, h2, _⟩ := mateX_some (e := e1) hbm
            exact h2 _ _ (hR1.hp m h1)
        · exact matesX_pair (fun x hx y hy hne => pair_ne (fun x y h => Apart.symm h) hR1.inj x hx y hy (fun he => hne (by rw [he]))) hl q1
        · have hr1 : r ∈ s1.rw := by rw [← q5]; exact hr
          exact Rw.ok_off off_sub (List.all_eq_true.1 q6 r hr) (hR1.rw r hr1)
        · rcases hcd x hx with rfl | ⟨hx1, hx2⟩
          · obtain ⟨i, hi, hp⟩ := hinv
            exact ⟨i, hi, by rw [← q4]; exact hp⟩
          · exact Cd.holds_off C I off_sub x hx2 hx1
      · cases hm
    · cases hm
  · cases hm
theorem head_rel {G : Cfg} {e1 e0 e : Env} {w0 w w1 : World} {s h s1 : St} {a a1 : Act} {d k : Nat} {hv : List Hv} {xs : List LX} {ms : List (Option (Nat × Nat))} (hR : Rel C I G e0 w0 e s a ups w) (hfr : s.fr (fun x => decide (x < d)) = true)
    (hcd : ∀ x ∈ h.cd, x = .g d (names hv) k ∨ x ∈ s.cd) (hup : h.up = s.up) (hR1 : Rel C I { G with n0 := d } e w0 e1 s1 a1 ups w1) (hm : meetX d hv h s1 = some (xs, ms)) (hinv : ∃ i, I[k]? = some i ∧ i d ((e1.sub d xs ms).cut (d + ms.length))) (n : Nat) :
    Rel C I { G with n0 := n } (e1.sub d xs ms) w0 (e1.sub d xs ms) h a1 ups w1 := by
  simp only [St.fr, Bool.and_eq_true] at hfr
  obtain ⟨⟨⟨⟨f1, f5⟩, f2⟩, f3⟩, f4⟩ := hfr
  have hoff := off_agr hR1.ex
  refine (head_rel0 (by rw [hup]; exact hR.up.off hoff f5) (by rw [hup]; exact f5) (fun x hx => ?_) hR1 (Nat.le_refl _) hm hinv).rebase (Env.agr_refl _ _)
  rcases hcd x hx with h | h
  · exact .inl h
  · exact .inr ⟨Cd.holds_off C I hoff x (List.all_eq_true.1 f4 x h) (hR.cd x h), List.all_eq_true.1 f4 x h⟩
theorem norX_mem {s : St} : ∀ {es : List (Ex × St)}, (.nor, s) ∈ es → s ∈ norX es
  | (y, s0) :: es, h => by
    rcases List.mem_cons.1 h with h1 | h1
    · cases h1; exact List.mem_cons_self ..
    · have ih := norX_mem h1
      cases y <;> first | exact List.mem_cons_of_mem _ ih | exact ih
theorem othX_mem {s : St} {y : Ex} (hy : y ≠ .nor) : ∀ {es : List (Ex × St)}, (y, s) ∈ es → (y, s) ∈ othX es
  | (y0, s0) :: es, h => by
    rcases List.mem_cons.1 h with h1 | h1
    · cases h1
      cases y <;> first | exact absurd rfl hy | exact List.mem_cons_self ..
    · have ih := othX_mem hy h1
      cases y0 <;> first | exact List.mem_cons_of_mem _ ih | exact ih
theorem meetsX_mem {d : Nat} {m : Mg} {h s : St} : ∀ {ss : List St} {os : List Ob}, meetsX d m h ss = some os → s ∈ ss → ∃ xs ms, meetX d m.hv h s = some (xs, ms) ∧ s.fr (fun x => decide (x < d)) = true ∧ h.up = s.up ∧ Ob.inv s.cd m.k d xs ms ∈ os
  | s0 :: ss, os, hq, hm => by
    unfold meetsX at hq
    split at hq
    · rename_i xs ms os' h1 h2
      split at hq
      · rename_i hc
        simp only [Option.some.injEq] at hq
        subst hq
        rcases List.mem_cons.1 hm with rfl | hm
        · exact ⟨xs, ms, h1, hc.1, bqL_eq (fun _ _ h => bqL_eq VX.bq_eq h) hc.2, List.mem_cons_self ..⟩
        · obtain ⟨xs', ms', q1, q2, q3, q4⟩ := meetsX_mem h2 hm
          exact ⟨xs', ms', q1, q2, q3, List.mem_cons_of_mem _ q4⟩
      · cases hq
    · cases hq
/-- Ways meet. -/
theorem mergeX_post {G : Cfg} {f tag : Nat} {es r : List (Ex × St)} {om : List Ob} {e0 : Env} {w0 : World} (hm : mergeX G f tag es = some (r, om)) (hob : Oks C I G.n0 e0 om) : ∀ x a w, Post C I G e0 w0 ups es x a w → Post C I G e0 w0 ups r x a w := by
  intro x a w hp
  obtain ⟨y, s, hs, rfl, e, hR⟩ := hp
  unfold mergeX at hm
  split at hm
  · simp only [Option.some.injEq, Prod.mk.injEq] at hm
    obtain ⟨rfl, rfl⟩ := hm
    exact ⟨y, s, hs, rfl, e, hR⟩
  · rename_i m _
    split at hm
    · simp only [Option.some.injEq, Prod.mk.injEq] at hm
      obtain ⟨rfl, rfl⟩ := hm
      exact ⟨y, s, hs, rfl, e, hR⟩
    · rename_i s1 ss hnor
      dsimp only at hm
      split at hm
      · cases hm
      · rename_i h hj
        obtain ⟨os, hq, hp⟩ := opt_map hm
        simp only [Prod.mk.injEq] at hp
        obtain ⟨rfl, rfl⟩ := hp
        by_cases hy : y = .nor
        · subst hy
          have hmem := norX_mem hs
          rw [hnor] at hmem
          obtain ⟨xs, ms, q1, q2, q3, q4⟩ := meetsX_mem hq hmem
          generalize hd : (s1 :: ss).foldl (fun a s => if a ≤ s.nx then s.nx else a) G.n0 = d at *
          have hle : ∀ (l : List St) (n : Nat), n ≤ l.foldl (fun a s => if a ≤ s.nx then s.nx else a) n := by
            intro l
            induction l with
            | nil => intro n; exact Nat.le_refl _
            | cons z l ih =>
              intro n
              rw [List.foldl_cons]
              split
              · exact Nat.le_trans (by assumption) (ih _)
              · exact ih _
          have hn : G.n0 ≤ d := by rw [← hd]; exact hle _ _
          simp only [St.fr, Bool.and_eq_true] at q2
          obtain ⟨⟨⟨⟨f1, f5⟩, f2⟩, f3⟩, f4⟩ := q2
          obtain ⟨h0, _, hh⟩ := opt_map hj
          have hcd : h.cd = [.g d (names m.hv) m.k] := by rw [← hh]
          refine ⟨.nor, h, List.mem_cons_self .., rfl, _, head_rel0 (k := m.k) (by rw [q3]; exact hR.up) (by rw [q3]; exact f5) (fun x hx => ?_) hR hn q1 (hob _ q4 e hR.ex hR.cd)⟩
          rw [hcd, List.mem_singleton] at hx
          exact .inl hx
        · exact ⟨y, s, List.mem_cons_of_mem _ (othX_mem hy hs), rfl, e, hR⟩
theorem roundX_mem {d : Nat} {l : Lp} {up : SX} {h : St} : ∀ {es r : List (Ex × St)} {os : List Ob}, roundX d l up h es = some (r, os) → ∀ {y : Ex} {s : St}, (y, s) ∈ es →
    (y ≠ .nor → (y, s) ∈ r) ∧ (y = .nor → ∃ xs ms x x', meetX d l.hv h s = some (xs, ms) ∧ numAt h l.c = some x ∧ numAt s l.c = some x' ∧ x.fr (fun z => decide (z < d + names l.hv + 1)) = true ∧ Ob.inv s.cd l.k d xs ms ∈ os ∧ Ob.cl s.cd (.mkC .lss x x') ∈ os ∧ Ob.cl s.cd (.mkC .lss x up) ∈ os)
  | (y0, s0) :: es, r, os, hr, y, s, hm => by
    unfold roundX at hr
    split at hr
    · rename_i heq; cases heq
    · rename_i s1 r1 heq
      cases heq
      split at hr
      · rename_i xs ms x x' b y1 h1 h2 h3 h4
        split at hr
        · rename_i hc
          simp only [Option.some.injEq, Prod.mk.injEq] at hr
          obtain ⟨rfl, rfl⟩ := hr
          rcases List.mem_cons.1 hm with hm | hm
          · cases hm
            exact ⟨fun hn => absurd rfl hn, fun _ => ⟨xs, ms, x, x', h1, h2, h3, hc, List.mem_cons_self .., List.mem_cons_of_mem _ (List.mem_cons_self ..), List.mem_cons_of_mem _ (List.mem_cons_of_mem _ (List.mem_cons_self ..))⟩⟩
          · obtain ⟨i1, i2⟩ := roundX_mem h4 hm
            refine ⟨i1, fun hn => ?_⟩
            obtain ⟨xs', ms', z, z', q1, q2, q3, q4, q8, q9, q10⟩ := i2 hn
            exact ⟨xs', ms', z, z', q1, q2, q3, q4, List.mem_cons_of_mem _ (List.mem_cons_of_mem _ (List.mem_cons_of_mem _ q8)), List.mem_cons_of_mem _ (List.mem_cons_of_mem _ (List.mem_cons_of_mem _ q9)), List.mem_cons_of_mem _ (List.mem_cons_of_mem _ (List.mem_cons_of_mem _ q10))⟩
        · cases hr
      · cases hr
    · rename_i z r1 hne heq
      cases heq
      obtain ⟨⟨b1, y1⟩, h2, hp⟩ := opt_map hr
      simp only [Prod.mk.injEq] at hp
      obtain ⟨rfl, rfl⟩ := hp
      rcases List.mem_cons.1 hm with hm | hm
      · cases hm
        exact ⟨fun _ => List.mem_cons_self .., fun hx => by subst hx; exact absurd rfl (hne _)⟩
      · obtain ⟨i1, i2⟩ := roundX_mem h2 hm
        exact ⟨fun hn => List.mem_cons_of_mem _ (i1 hn), i2⟩
/-- A loop by its invariant. -/
theorem loopX_sound {w0 : World} {G : Cfg} {e0 e : Env} {s h : St} {a : Act} {w : World} {c : Code} {l : Lp} {up : SX} {xs : List LX} {ms : List (Option (Nat × Nat))} {es r : List (Ex × St)} {os os' : List Ob}
    (htop : topX l c s = some h) (hmeet : meetX s.nx l.hv h s = some (xs, ms)) (hn : G.n0 ≤ s.nx) (hfr : s.fr (fun x => decide (x < s.nx)) = true) (hupf : up.fr (fun x => decide (x < s.nx)) = true)
    (hbody : ∀ e1 a w, Oks C I (s.nx + names l.hv + 1) e1 os → Rel C I { G with n0 := s.nx + names l.hv + 1 } e1 w0 e1 h a ups w → c.wp P (Post C I { G with n0 := s.nx + names l.hv + 1 } e1 w0 ups es) a w)
    (hr : roundX s.nx l up h es = some (r, os')) (hob : Oks C I G.n0 e0 (.inv s.cd l.k s.nx xs ms :: os ++ os')) (hR : Rel C I G e0 w0 e s a ups w) : (Code.loop c).wp P (Post C I G e0 w0 ups r) a w := by
  have hob1 : Oks C I G.n0 e0 os := hob.sub fun o ho => List.mem_append_left _ (List.mem_cons_of_mem _ ho)
  have hob2 : Oks C I G.n0 e0 os' := hob.sub fun o ho => List.mem_append_right _ ho
  have hinv0 := hob _ (List.mem_append_left _ (List.mem_cons_self ..))
  obtain ⟨h0, _, hh⟩ := opt_map htop
  have hcd : ∀ x ∈ h.cd, x = .g s.nx (names l.hv) l.k ∨ x ∈ s.cd := fun x hx => by
    rw [← hh] at hx
    rcases List.mem_cons.1 hx with hx | hx
    · exact .inl hx
    · cases hk : l.keep
      · simp [hk] at hx
      · simp [hk] at hx; exact .inr hx
  have hup : h.up = s.up := by rw [← hh]
  have head : ∀ {e1 : Env} {a1 : Act} {w1 : World} {s1 : St} {xs : List LX} {ms : List (Option (Nat × Nat))}, Rel C I { G with n0 := s.nx } e w0 e1 s1 a1 ups w1 → meetX s.nx l.hv h s1 = some (xs, ms) → (∃ i, I[l.k]? = some i ∧ i s.nx ((e1.sub s.nx xs ms).cut (s.nx + ms.length))) →
      ∃ e2, Env.agr s.nx e e2 ∧ Rel C I { G with n0 := s.nx + names l.hv + 1 } e2 w0 e2 h a1 ups w1 := fun {e1 a1 w1 s1 xs ms} hR1 hm hinv =>
    ⟨e1.sub s.nx xs ms, Env.agr_trans hR1.ex agr_sub (Nat.le_refl _), head_rel hR hfr hcd hup hR1 hm hinv _⟩
  obtain ⟨e2, hag2, hR2⟩ := head (hR.rebase (Env.agr_refl _ _)) hmeet (hinv0 e hR.ex hR.cd)
  refine wp_loop (fun a w => ∃ e1, Env.agr s.nx e e1 ∧ Rel C I { G with n0 := s.nx + names l.hv + 1 } e1 w0 e1 h a ups w)
    (fun a _ => match a.tmps[l.c]? with | some (.int _ x) => ((up.den e).1 - x).toNat | _ => 0) ⟨e2, hag2, hR2⟩ fun a1 w1 hI => ?_
  obtain ⟨e1, hag1, hR1⟩ := hI
  have hb1 : Env.agr G.n0 e0 e1 := Env.agr_trans hR.ex hag1 hn
  refine wp_mono (hbody e1 a1 w1 (hob1.base hb1 (by omega)) hR1) fun x a' w' hp => ?_
  obtain ⟨y, s', hm, rfl, e', hR'⟩ := hp
  have hag' : Env.agr (s.nx + names l.hv + 1) e1 e' := hR'.ex
  have hage' : Env.agr s.nx e e' := Env.agr_trans hag1 hag' (by omega)
  have hb' : Env.agr G.n0 e0 e' := Env.agr_trans hb1 hag' (by omega)
  obtain ⟨i1, i2⟩ := roundX_mem hr hm
  cases y with
  | ex id => exact ⟨_, s', i1 (by simp), rfl, e', hR'.rebase hb'⟩
  | rt => exact ⟨_, s', i1 (by simp), rfl, e', hR'.rebase hb'⟩
  | nor =>
    obtain ⟨ys, ms', z, z', q1, q2, q3, q7, q8, q9, q10⟩ := i2 rfl
    refine ⟨head (hR'.rebase hage') q1 (hob2 _ q8 e' hb' hR'.cd), ?_⟩
    have hz' := lss_den (hob2 _ q9 e' hb' hR'.cd)
    have hu' := lss_den (hob2 _ q10 e' hb' hR'.cd)
    have e3 : (z.den e').1 = (z.den e1).1 := by rw [SX.den_off (off_agr hag') z q7]
    have e4 : (up.den e').1 = (up.den e).1 := by rw [SX.den_off (off_agr hage') up hupf]
    obtain ⟨k1, v1⟩ := numAt_val hR1.tm q2
    obtain ⟨k2, v2⟩ := numAt_val hR'.tm q3
    simp only [v1, v2]
    omega
theorem execX_sound {w0 : World} (hmix : P.follows .mixedOrders = true) (hI : InlOk P C I inl) (f : FuncId) : ∀ (n : Nat) (c : Code) (s : St) (G : Cfg) (e0 e : Env) (a : Act) (w : World) (es : List (Ex × St)) (os : List Ob), C.map (·.sg) = G.sg → execX P inl f G n c s = some (es, os) → Oks C I G.n0 e0 os → Rel C I G e0 w0 e s a ups w → c.wp P (Post C I G e0 w0 ups es) a w
  | 0, _, _, _, _, _, _, _, _, _, _, h, _, _ => by unfold execX at h; cases h
  | n + 1, c, s, G, e0, e, a, w, es, os, hS, h, hob, hR => by
    cases c with
    | skip =>
      unfold execX at h
      simp only [Option.some.injEq, Prod.mk.injEq] at h
      obtain ⟨rfl, rfl⟩ := h
      exact wp_skip ⟨.nor, s, List.mem_singleton.2 rfl, rfl, e, hR⟩
    | exit id =>
      unfold execX at h
      simp only [Option.some.injEq, Prod.mk.injEq] at h
      obtain ⟨rfl, rfl⟩ := h
      exact wp_exit ⟨.ex id, s, List.mem_singleton.2 rfl, rfl, e, hR⟩
    | ret =>
      unfold execX at h
      simp only [Option.some.injEq, Prod.mk.injEq] at h
      obtain ⟨rfl, rfl⟩ := h
      exact wp_ret ⟨.rt, s, List.mem_singleton.2 rfl, rfl, e, hR⟩
    | region id ops draw =>
      unfold execX at h
      obtain ⟨⟨ss, o1⟩, h1, hp⟩ := opt_map h
      simp only [Prod.mk.injEq] at hp
      obtain ⟨rfl, rfl⟩ := hp
      refine wp_mono (regionX_sound hS hI hmix h1 hob hR) fun x a' w' hx => ?_
      obtain ⟨rfl, s', hm, e', hR'⟩ := hx
      exact ⟨.nor, s', List.mem_map.2 ⟨s', hm, rfl⟩, rfl, e', hR'⟩
    | seq x y =>
      unfold execX at h
      split at h
      · rename_i es0 o1 h1
        split at h
        · rename_i es1 om hmg
          obtain ⟨⟨r, o2⟩, h2, hp⟩ := opt_map h
          simp only [Prod.mk.injEq] at hp
          obtain ⟨rfl, rfl⟩ := hp
          refine wp_seq (wp_mono (execX_sound hmix hI f n x s G e0 e a w es0 o1 hS h1 hob.left hR) fun z a' w' hz => ?_)
          exact then_post h2 (fun s' r' o' e' a' w' h3 h4 h5 hR' => wp_mono (execX_sound hmix hI f n y s' G e0 e' a' w' r' o' hS h3 (hob.right.right.sub h5) hR') (Post.mono h4)) z a' w' (mergeX_post hmg hob.right.left z a' w' hz)
        · cases h
      · cases h
    | cond c x y =>
      unfold execX at h
      split at h
      · rename_i g hg
        have hc := evP_sound hR.kn0 hg
        simp only [PX.den, LX.den] at hc
        split at h
        · rename_i ha
          rw [ask_sound hR.cd ha] at hc
          exact wp_cond_true hc (execX_sound hmix hI f n x s G e0 e a w es os hS h hob hR)
        · rename_i ha
          rw [ask_sound hR.cd ha] at hc
          exact wp_cond_false hc (execX_sound hmix hI f n y s G e0 e a w es os hS h hob hR)
        · split at h
          · rename_i r1 o1 r2 o2 h1 h2
            simp only [Option.some.injEq, Prod.mk.injEq] at h
            obtain ⟨rfl, rfl⟩ := h
            refine wp_cond_split hc (fun ht => ?_) fun ht => ?_
            · exact wp_mono (execX_sound hmix hI f n x _ G e0 e a w r1 o1 hS h1 hob.left (hR.conds (addCd_holds g true ht))) (Post.mono fun z hz => List.mem_append_left _ hz)
            · exact wp_mono (execX_sound hmix hI f n y _ G e0 e a w r2 o2 hS h2 hob.right (hR.conds (addCd_holds g false ht))) (Post.mono fun z hz => List.mem_append_right _ hz)
          · cases h
      · cases h
    | block id c =>
      unfold execX at h
      obtain ⟨⟨es1, o1⟩, h1, hp⟩ := opt_map h
      simp only [Prod.mk.injEq] at hp
      obtain ⟨rfl, rfl⟩ := hp
      refine wp_block (wp_mono (execX_sound hmix hI f n c s G e0 e a w es1 o1 hS h1 hob hR) fun x a' w' hx => ?_)
      obtain ⟨y, s', hm, rfl, e', hR'⟩ := hx
      cases y with
      | nor => exact ⟨.nor, s', List.mem_map.2 ⟨_, hm, by simp⟩, rfl, e', hR'⟩
      | rt => exact ⟨.rt, s', List.mem_map.2 ⟨_, hm, by simp⟩, rfl, e', hR'⟩
      | ex id' =>
        show if id' = id then _ else _
        by_cases hid : id' = id
        · subst hid
          rw [if_pos rfl]
          exact ⟨.nor, s', List.mem_map.2 ⟨_, hm, by simp⟩, rfl, e', hR'⟩
        · rw [if_neg hid]
          exact ⟨.ex id', s', List.mem_map.2 ⟨_, hm, by simp [hid]⟩, rfl, e', hR'⟩
    | loop c =>
      unfold execX at h
      split at h
      · rename_i l hlp
        split at h
        · rename_i hd up htop hup
          split at h
          · rename_i xs ms hmeet
            split at h
            · rename_i hc
              split at h
              · rename_i es1 o1 h1
                obtain ⟨⟨r, o2⟩, h2, hp⟩ := opt_map h
                simp only [Prod.mk.injEq] at hp
                obtain ⟨rfl, rfl⟩ := hp
                exact loopX_sound htop hmeet hc.1 hc.2.1 hc.2.2 (fun e1 a1 w1 ho hr => execX_sound hmix hI f n c _ _ e1 e1 a1 w1 es1 o1 hS h1 ho hr) h2 hob hR
              · cases h
            · cases h
          · cases h
        · cases h
      · refine wp_loop_rounds n (unrollX_sound (fun s es os e a w h1 h2 h3 => execX_sound hmix hI f n c s G e0 e a w es os hS h1 h2 h3) n s es es os e a w h (fun z hz => hz) hob hR)
    | _ => unfold execX at h; cases h
/-! ### Functions. -/
theorem resX_go {e : Env} {s : St} {a : Act} {w : World} {G : Cfg} {e0 : Env} {w0 : World} (hR : Rel C I G e0 w0 e s a ups w) : ∀ {rs : List ResultVar} {ps : List PX}, resX.go P s rs = some ps →
    (rs.mapM (resF a.tmps)).run P w = Result.ok (ps.map (·.den e)) w
  | [], ps, h => by simp only [resX.go, Option.some.injEq] at h; subst h; simp
  | .tmp t :: r, ps, h => by
    unfold resX.go at h
    split at h
    · rename_i p ps' h1 h2
      simp only [Option.some.injEq] at h
      subst h
      obtain ⟨v, hv, hs⟩ := hR.tm.get h1
      have : a.tmps.getD t undef = p.den e := by
        rw [Array.getD_eq_getD_getElem?, ← Array.getElem?_toList, hv]; exact hs
      simp only [List.mapM_cons, resF, Sem.run_bind, Sem.run_pure, Result.andThen_ok, resX_go hR h2, this, List.map_cons]
    · cases h
  | .cell t ty :: r, ps, h => by
    unfold resX.go at h
    split at h
    · rename_i d o ps' h1 h2
      split at h
      · rename_i v hv
        simp only [Option.some.injEq] at h
        subst h
        obtain ⟨u, hu, hs⟩ := hR.tm.get h1
        obtain ⟨ad, had, hl⟩ := loadX_sound hR hv (fun x hx => (List.not_mem_nil hx).elim)
        have : a.tmps.getD t undef = .pointer (some ad) := by
          rw [Array.getD_eq_getD_getElem?, ← Array.getElem?_toList, hu]
          simp only [VX.sat, PX.den] at hs
          rw [hs, had]; rfl
        have h3 : (resF a.tmps (.cell t ty)).run P w = .ok (v.den e) w := by simp only [resF, Sem.run_bind, this, asAddr, Sem.run_pure, Result.andThen_ok, hl]
        simp only [List.mapM_cons, Sem.run_bind, h3, Sem.run_pure, Result.andThen_ok, resX_go hR h2, List.map_cons]
      · cases h
    · cases h
theorem resX_sound {e : Env} {s : St} {a : Act} {w : World} {G : Cfg} {e0 : Env} {w0 : World} {fn : Func} (hR : Rel C I G e0 w0 e s a ups w) {v : VX} (h : resX P fn s = some v) : ∃ u, v.sat e u ∧ (results fn a.tmps).run P w = .ok u w := by
  have one : ∀ (r : ResultVar) (p : PX), fn.results.toList = [r] → resX.go P s [r] = some [p] → (results fn a.tmps).run P w = .ok (p.den e) w := fun r p hr hg => by
    have := resX_go hR hg
    have hfr : fn.results = #[r] := by apply Array.ext'; simpa using hr
    simp only [List.map_cons, List.map_nil] at this
    rw [results_eq, Sem.run_bind, hfr, Array.mapM_eq_mapM_toList, Sem.run_map, this]
    simp
  unfold resX at h
  split at h
  · rename_i hr
    simp only [Option.some.injEq] at h
    subst h
    have hfr : fn.results = #[] := by apply Array.ext'; simpa using hr
    exact ⟨_, rfl, by simp [results, hfr]⟩
  · rename_i t hr
    split at h
    · rename_i p hp
      simp only [Option.some.injEq] at h
      subst h
      exact ⟨_, rfl, one _ p hr (by simp [resX.go, hp])⟩
    · cases h
  · rename_i t ty hr
    split at h
    · rename_i d o hp
      split at h
      · rename_i v' hv
        simp only [Option.some.injEq] at h
        subst h
        exact ⟨_, rfl, one _ v' hr (by simp [resX.go, hp, hv])⟩
      · cases h
    · cases h
  · rename_i rs h0 h1 h2
    obtain ⟨ps, hps, rfl⟩ := opt_map h
    have := resX_go hR hps
    refine ⟨_, rfl, ?_⟩
    have hl : ps.length = fn.results.toList.length := go_len hps
    have hne : ¬ ps.length = 1 := by
      rw [hl]
      intro h1'
      match hrs : fn.results.toList, h1' with
      | [.tmp t], _ => exact h1 t hrs
      | [.cell t ty], _ => exact h2 t ty hrs
    rw [results_eq, Sem.run_bind, Array.mapM_eq_mapM_toList, Sem.run_map, this]
    simp [hne]
where
  go_len {s : St} : ∀ {rs : List ResultVar} {ps : List PX}, resX.go P s rs = some ps → ps.length = rs.length
    | [], ps, h => by simp only [resX.go, Option.some.injEq] at h; subst h; rfl
    | .tmp t :: r, ps, h => by
      unfold resX.go at h
      split at h
      · rename_i p ps' h1 h2
        simp only [Option.some.injEq] at h
        subst h
        simp [go_len h2]
      · cases h
    | .cell t ty :: r, ps, h => by
      unfold resX.go at h
      split at h
      · rename_i d o ps' h1 h2
        split at h
        · simp only [Option.some.injEq] at h; subst h; simp [go_len h2]
        · cases h
      · cases h
theorem leavesX_mem {fn : Func} : ∀ {es : List (Ex × St)} {ls : List Lf}, leavesX P fn es = some ls → ∀ {y : Ex} {s : St}, (y, s) ∈ es → (∀ id, y ≠ .ex id) ∧ ∃ v, resX P fn s = some v ∧ ⟨s.cd, v, s.hp⟩ ∈ ls
  | (y0, s0) :: es, ls, h, y, s, hm => by
    unfold leavesX at h
    split at h
    · rename_i heq; cases heq
    · rename_i heq; cases h
    · rename_i y1 s1 r1 hne heq
      cases heq
      split at h
      · rename_i v l h1 h2
        simp only [Option.some.injEq] at h
        subst h
        rcases List.mem_cons.1 hm with hm | hm
        · cases hm
          exact ⟨fun id hid => by subst hid; exact hne _ rfl, v, h1, List.mem_cons_self ..⟩
        · obtain ⟨i1, v', i2, i3⟩ := leavesX_mem h2 hm
          exact ⟨i1, v', i2, List.mem_cons_of_mem _ i3⟩
      · cases h
theorem backX_mem {fn : Func} {s0 : St} : ∀ {es : List (Ex × St)} {ls : List (VX × St)}, backX P fn s0 es = some ls → ∀ {y : Ex} {s : St}, (y, s) ∈ es → (∀ id, y ≠ .ex id) ∧ ∃ v tm up, resX P fn s = some v ∧ s.up = tm :: up ∧ (v, { s with tm := tm, up := up }) ∈ ls
  | (y0, s0) :: es, ls, h, y, s, hm => by
    unfold backX at h
    split at h
    · rename_i heq; cases heq
    · rename_i heq; cases h
    · rename_i y1 s1 r1 hne heq
      cases heq
      split at h
      · rename_i v tm up l h1 h0 h2
        simp only [Option.some.injEq] at h
        subst h
        rcases List.mem_cons.1 hm with hm | hm
        · cases hm
          exact ⟨fun id hid => by subst hid; exact hne _ rfl, v, tm, up, h1, h0, List.mem_cons_self ..⟩
        · obtain ⟨i1, v', tm', up', i2, i3, i4⟩ := backX_mem h2 hm
          exact ⟨i1, v', tm', up', i2, i3, List.mem_cons_of_mem _ i4⟩
      · cases h
theorem sats_start (e : Env) (args : List PX) (n : Nat) : Sats e (args.map .v ++ List.replicate (n - args.length) .un) ((args.map (·.den e)).toArray ++ Array.replicate (n - (args.map (·.den e)).toArray.size) undef).toList := by
  have : ∀ (ps : List PX) (n : Nat), Sats e (ps.map .v ++ List.replicate n .un) (ps.map (·.den e) ++ List.replicate n undef) := by
    intro ps
    induction ps with
    | nil =>
      intro n
      induction n with
      | zero => trivial
      | succ n ih => exact ⟨rfl, ih⟩
    | cons p ps ih => intro n; exact ⟨rfl, ih n⟩
  simpa using this args (n - args.length)
/-- Calls in place are right. -/
theorem inlX_ok (hmix : P.follows .mixedOrders = true) (fuel : Nat) : ∀ d, InlOk P C I (inlX P fuel d)
  | 0 => fun G f ps s rs os h => by simp [inlX] at h
  | d + 1 => fun G f ps s rs os h hS => by
    unfold inlX at h
    split at h
    · rename_i fn hfn
      split at h
      · rename_i c hc
        split at h
        · rename_i hnm
          split at h
          · rename_i es o1 h1
            obtain ⟨ls, h2, hp⟩ := opt_map h
            simp only [Prod.mk.injEq] at hp
            obtain ⟨rfl, rfl⟩ := hp
            refine ⟨⟨fn, hfn, hnm, by rw [hc]; rfl⟩, fun e0 w0 e a ups w hob hR => ?_⟩
            refine calls_of_wp hfn hc (wp_mono (execX_sound (ups := a.tmps.toList :: ups) hmix (inlX_ok hmix fuel d) f fuel c _ G e0 e _ w es o1 hS h1 hob ⟨rfl, ?_, ⟨hR.tm, hR.up⟩, hR.hp, hR.nd, hR.inj, hR.rw, hR.bl, hR.cd, hR.ex⟩) fun x a1 w1 hx => ?_)
            · have := sats_start e ps fn.ntmps
              simpa using this
            · obtain ⟨y, s1, hm, rfl, e1, hR1⟩ := hx
              obtain ⟨i1, v, tm, up, i2, i3, i4⟩ := backX_mem h2 hm
              obtain ⟨u, hu, hr⟩ := resX_sound hR1 i2
              have hup := hR1.up
              rw [i3] at hup
              have fin : a1.defers = [] ∧ ∃ v, (results fn a1.tmps).run P w1 = .ok v w1 ∧ ∃ v' s', (v', s') ∈ ls ∧ ∃ e' u, Ending.returned v = .returned u ∧ v'.sat e' u ∧ Rel C I G e0 w0 e' s' a ups w1 :=
                ⟨hR1.df, u, hr, v, _, i4, e1, u, rfl, hu, ⟨hR.df, hup.1, hup.2, hR1.hp, hR1.nd, hR1.inj, hR1.rw, hR1.bl, hR1.cd, hR1.ex⟩⟩
              cases y with
              | nor => exact fin
              | rt => exact fin
              | ex id => exact absurd rfl (i1 id)
          · cases h
        · cases h
      · cases h
    · cases h
/-- THE LAW: a call of a function that the machine has run. -/
theorem calls_of_tx (hmix : P.follows .mixedOrders = true) {G : Cfg} (hS : C.map (·.sg) = G.sg) {f : FuncId} {fn : Func} (hf : P.funcs[f]? = some fn) {fuel depth : Nat} {args : List PX} {rws : List Rw} {ls : List Lf} {os : List Ob}
    (hrun : funcX P G fuel depth f fn args rws = some (ls, os)) (e0 : Env) (w0 : World) (hrw : ∀ r ∈ rws, r.ok e0 w0) (hob : Oks C I G.n0 e0 os) (R : Ending → World → Prop)
    (hl : ∀ l ∈ ls, ∀ e u w', Env.agr G.n0 e0 e → (∀ c ∈ l.cd, c.holds C I e) → l.v.sat e u → Below w0.heap.size w0 w' → (∀ b ∈ l.hp, b.ok e w0.heap.size w') → R (.returned u) w') : Calls P f (args.map (·.den e0)).toArray w0 R := by
  unfold funcX at hrun
  split at hrun
  · rename_i c hc
    split at hrun
    · rename_i es o1 h1
      obtain ⟨ls', h2, hp⟩ := opt_map hrun
      simp only [Prod.mk.injEq] at hp
      obtain ⟨rfl, rfl⟩ := hp
      have hob' : Oks C I G.n0 e0 o1 := hob.sub fun o ho => mem_dedup ho
      refine calls_of_wp hf hc (wp_mono (execX_sound (ups := []) hmix (inlX_ok hmix fuel depth) f fuel c _ G e0 e0 _ w0 es o1 hS h1 hob' ⟨rfl, ?_, trivial, fun b hb => (List.not_mem_nil hb).elim, List.nodup_nil, List.Pairwise.nil, hrw, Below.refl _ _, fun c hc => (List.not_mem_nil hc).elim, Env.agr_refl _ _⟩) fun x a w hx => ?_)
      · have := sats_start e0 args fn.ntmps
        simpa using this
      · obtain ⟨y, s, hm, rfl, e, hR⟩ := hx
        obtain ⟨i1, v, i2, i3⟩ := leavesX_mem h2 hm
        obtain ⟨u, hu, hr⟩ := resX_sound hR i2
        have fin : a.defers = [] ∧ ∃ v, (results fn a.tmps).run P w = .ok v w ∧ R (.returned v) w := ⟨hR.df, u, hr, hl _ i3 e u w hR.ex hR.cd hu hR.bl hR.hp⟩
        cases y with
        | nor => exact fin
        | rt => exact fin
        | ex id => exact absurd rfl (i1 id)
    · cases hrun
  · cases hrun
end
end Go.Proofs.Ytjhdjclcfmcilaa.T2
