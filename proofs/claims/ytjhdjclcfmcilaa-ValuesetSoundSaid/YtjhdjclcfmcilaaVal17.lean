/-
  What masked of package valueset returns, and sum, difference, power, mask of decompilerref14.
-/
import Derived.Test.YtjhdjclcfmcilaaVal16
import Derived.Deep.LoopGhost
import Derived.StillTailTactics
namespace Go.Proofs.Ytjhdjclcfmcilaa
open Go.ChangeShapes Go.WideShapes Go.ChangeAt Go.RowKit
set_option linter.unusedVariables false
theorem low_spell (n : Int) (h0 : 0 ≤ n) (h1 : n < 4294967296) : bits .and .u32 n (-n % 4294967296) = lowL n := by
  unfold lowL; rw [Int.zero_sub]
set_option maxHeartbeats 2000000 in
theorem masked_any (a : VSet) (wa : a.wf) (k : Int) (k0 : 0 ≤ k) (k1 : k < 4294967296) (w : World) : Calls Try.prog 50 #[a.val, .int .u32 k] w (Ret (maskedN a k).val w) := by
  have lb := low_bd k k0 k1
  have B : ∀ U : Int, 0 ≤ U → U < 4294967296 → ∀ w, Calls Try.prog 14 #[.int .u32 0, .int .u32 U, .int .u32 (bits .and .u32 k (-k % 4294967296))] w (Ret (betweenL 0 U (lowL k)).val w) := fun U u0 u1 w => by
    rw [low_spell k k0 k1]
    exact between_any 0 U (lowL k) (by omega) (by omega) u0 u1 (by omega) (by omega) w
  clear lb
  obtain ⟨a0, a1, a2, a3, a4, a5⟩ := wa
  obtain ⟨e, t, lo, hi, st⟩ := a
  dsimp only at *
  cases t
  · by_cases c : hi < k
    · have B1 := B hi a2 a3
      have E : maskedN ⟨e, false, lo, hi, st⟩ k = betweenL 0 hi (lowL k) := by unfold maskedN; simp only [Bool.false_eq_true, if_false]; rw [if_pos c]
      rw [E]
      clear E B
      generalize betweenL 0 hi (lowL k) = R at *
      go_enter Try.func50, Try.ntmps50
      go_wp2_with (go_at_call 14; (with_reducible refine (B1 _).mono ?_); rintro e w1 ⟨rfl, hb1⟩; (have hC1 := (Blk.new _ _ _).call hb1); simp only [World.size_alloc] at hC1; obtain ⟨hc1, hf1⟩ := hC1.walk; (have hg1 := after (w := w) (by go_grown) hb1); (have hs1 := hg1.size))
      exact bodyPost_ret (v := (R).val) (results_set rfl rfl (hC1.put (a := zeroV) R)) rfl ⟨rfl, below_put hg1 (by omega) R⟩
    · have B1 := B k k0 k1
      have E : maskedN ⟨e, false, lo, hi, st⟩ k = betweenL 0 k (lowL k) := by unfold maskedN; simp only [Bool.false_eq_true, if_false]; rw [if_neg c]
      rw [E]
      clear E B
      generalize betweenL 0 k (lowL k) = R at *
      go_enter Try.func50, Try.ntmps50
      go_wp2_with (go_at_call 14; (with_reducible refine (B1 _).mono ?_); rintro e w1 ⟨rfl, hb1⟩; (have hC1 := (Blk.new _ _ _).call hb1); simp only [World.size_alloc] at hC1; obtain ⟨hc1, hf1⟩ := hC1.walk; (have hg1 := after (w := w) (by go_grown) hb1); (have hs1 := hg1.size))
      exact bodyPost_ret (v := (R).val) (results_set rfl rfl (hC1.put (a := zeroV) R)) rfl ⟨rfl, below_put hg1 (by omega) R⟩
  · have B1 := B k k0 k1
    have E : maskedN ⟨e, true, lo, hi, st⟩ k = betweenL 0 k (lowL k) := by unfold maskedN; simp only [if_true]
    rw [E]
    clear E B
    generalize betweenL 0 k (lowL k) = R at *
    go_enter Try.func50, Try.ntmps50
    go_wp2_with (go_at_call 14; (with_reducible refine (B1 _).mono ?_); rintro e w1 ⟨rfl, hb1⟩; (have hC1 := (Blk.new _ _ _).call hb1); simp only [World.size_alloc] at hC1; obtain ⟨hc1, hf1⟩ := hC1.walk; (have hg1 := after (w := w) (by go_grown) hb1); (have hs1 := hg1.size))
    exact bodyPost_ret (v := (R).val) (results_set rfl rfl (hC1.put (a := zeroV) R)) rfl ⟨rfl, below_put hg1 (by omega) R⟩
/-- 2 to the power of the number modulo 32. -/
theorem power_any (n : Int) (n0 : 0 ≤ n) (n1 : n < 4294967296) (w : World) : Calls Try.prog 56 #[.int .u32 n] w fun e w' => e = .returned (.int .i64 (2 ^ (n % 32).toNat)) ∧ w = w' := by
  have hm : n.tmod 32 = n % 32 := Int.tmod_eq_emod_of_nonneg n0
  have hp : ∀ k : Nat, (k : Int) ≤ n % 32 → (1 : Int) ≤ 2 ^ k ∧ (2 : Int) ^ k ≤ 2147483648 := fun k hk => by
    have h1 : (2 : Nat) ^ k ≤ 2 ^ 31 := Nat.pow_le_pow_right (by omega) (by omega)
    have h2 : 0 < (2 : Nat) ^ k := Nat.two_pow_pos _
    have e : ((2 : Int) ^ k) = ((2 ^ k : Nat) : Int) := by simp [Int.natCast_pow]
    rw [e]; omega
  have HP := hide hp
  clear hp
  go_enter Try.func56, Try.ntmps56
  go_wp2
  go_loop [3, 4] (fun p i => ∃ (k : Nat) (q : Int), (k : Int) ≤ n % 32 ∧ i = .int .u32 k ∧ Hid (q = 2 ^ k) ∧ p = .int .i64 q) (fun _ i => ((n % 32) - intOf i).toNat)
  case atStart => exact ⟨0, 1, by omega, rfl, hide rfl, rfl⟩
  case round =>
    obtain ⟨k, q, hk, rfl, hq, rfl⟩ := hrel
    have hb := HP.out k hk
    rw [← hq.out] at hb
    by_cases hlt : (k : Int) < n % 32
    · go_wp2
      go_round
      case rel => exact ⟨k + 1, 2 * q, by omega, by go_num, hide (by rw [hq.out, Int.pow_succ, Int.mul_comm]), by go_num⟩
      case measure => simp [intOf]; omega
    · go_wp2
      go_returns
      have e : k = (n % 32).toNat := by omega
      have e2 := hq.out
      rw [e] at e2
      exact ⟨ret_int e2, rfl⟩

theorem region_still {P : Program} {id : Nat} {Q : Exit → Act → World → Prop} {a : Act} {w : World} {l : List Oper} (n : Nat) (hm : P.follows .mixedOrders = true) (hB : Region.lexTailB .any l.toArray n = true)
    (h : wpStill P l.toArray w.drew (fun a' => wpList P l.toArray Q (l.drop n) a' w.drew) (l.take n) a) : (Code.region id l.toArray true).wp P Q a w := wp_region_still_tail n hm hB h
/-! ### Sums and differences -/
set_option maxHeartbeats 4000000 in
theorem sum_any (a b : VSet) (wa : a.wf) (wb : b.wf) (ha : a = topV ∨ reg a) (hb : b = topV ∨ reg b) (w : World) : Calls Try.prog 53 #[a.val, b.val] w (Ret (addN' a b).val w) := by
  rcases ha with rfl | ha
  · obtain ⟨be, bt, blo, bhi, bst⟩ := b
    show Calls Try.prog 53 #[.agg #[.bool false, .bool true, .int .u32 0, .int .u32 0, .int .u32 0], .agg #[.bool be, .bool bt, .int .u32 blo, .int .u32 bhi, .int .u32 bst]] w (Ret topV.val w)
    clear hb wa wb
    go_enter Try.func53, Try.ntmps53
    go_wp2_with (go_at_call 17; (with_reducible refine (rtop_any _).mono ?_); rintro e w1 ⟨rfl, hb1⟩; (have hC1 := (Blk.new _ _ _).call hb1); simp only [World.size_alloc] at hC1; obtain ⟨hc1, hf1⟩ := hC1.walk; (have hg1 := after (w := w) (by go_grown) hb1); (have hs1 := hg1.size))
    exact bodyPost_ret (v := (topV).val) (results_set rfl rfl (hC1.put (a := zeroV) topV)) rfl ⟨rfl, below_put hg1 (by omega) topV⟩
  · rcases hb with rfl | hb
    · have E : addN' a topV = topV := by unfold addN'; simp [topV]
      rw [E]
      obtain ⟨ae, at', alo, ahi, ast⟩ := a
      have h1 := ha.1
      dsimp only at h1
      subst h1
      show Calls Try.prog 53 #[.agg #[.bool ae, .bool false, .int .u32 alo, .int .u32 ahi, .int .u32 ast], .agg #[.bool false, .bool true, .int .u32 0, .int .u32 0, .int .u32 0]] w (Ret topV.val w)
      clear ha wa wb E
      go_enter Try.func53, Try.ntmps53
      go_wp2_with (go_at_call 17; (with_reducible refine (rtop_any _).mono ?_); rintro e w1 ⟨rfl, hb1⟩; (have hC1 := (Blk.new _ _ _).call hb1); simp only [World.size_alloc] at hC1; obtain ⟨hc1, hf1⟩ := hC1.walk; (have hg1 := after (w := w) (by go_grown) hb1); (have hs1 := hg1.size))
      exact bodyPost_ret (v := (topV).val) (results_set rfl rfl (hC1.put (a := zeroV) topV)) rfl ⟨rfl, below_put hg1 (by omega) topV⟩
    · obtain ⟨R, hR⟩ : ∃ R, R = addN' a b := ⟨_, rfl⟩
      rw [← hR]
      unfold addN' at hR
      simp only [ha.1, hb.1, Bool.or_self, Bool.false_eq_true, if_false] at hR
      obtain ⟨a0, a1, a2, a3, a4, a5⟩ := wa
      obtain ⟨b0, b1, b2, b3, b4, b5⟩ := wb
      have g0 := gcdL_nonneg a.st b.st
      have g1 := gcdL_le a.st b.st 4294967295 a4 b4 (by omega) (by omega)
      have l1 := ha.2.2.1
      have l2 := hb.2.2.1
      obtain ⟨ae, at', alo, ahi, ast⟩ := a
      obtain ⟨be, bt, blo, bhi, bst⟩ := b
      have h1 := ha.1
      have h2 := hb.1
      have h3 := ha.2.1
      have h4 := hb.2.1
      dsimp only at *
      subst h1 h2 h3 h4
      clear ha hb
      by_cases c : 4294967295 < ahi + bhi
      · rw [if_pos c] at hR
        subst hR
        clear g0 g1
        go_enter Try.func53, Try.ntmps53
        go_wp2_with (go_at_call 17; (with_reducible refine (rtop_any _).mono ?_); rintro e w1 ⟨rfl, hb1⟩; (have hC1 := (Blk.new _ _ _).call hb1); simp only [World.size_alloc] at hC1; obtain ⟨hc1, hf1⟩ := hC1.walk; (have hg1 := after (w := w) (by go_grown) hb1); (have hs1 := hg1.size))
        exact bodyPost_ret (v := (topV).val) (results_set rfl rfl (hC1.put (a := zeroV) topV)) rfl ⟨rfl, below_put hg1 (by omega) topV⟩
      · rw [if_neg c] at hR
        have B := rbetween_any (alo + blo) (ahi + bhi) (gcdL ast bst) (by omega) (by omega) (by omega) (by omega) g0 (by omega)
        have z0 := rgcd_same ast bst a4 a5 b4 b5
        rw [← hR] at B
        clear hR
        generalize gcdL ast bst = G at *
        have zz : ∀ x y w, x = ast → y = bst → Calls Try.prog 45 #[.int .i64 x, .int .i64 y] w fun e w' => e = .returned (.int .i64 G) ∧ w' = w := fun x y w hx hy => by subst hx hy; exact (z0 w).mono fun e w' h => ⟨h.1, h.2.symm⟩
        have B0 := B
        clear B
        have B : ∀ p q r w, p = alo + blo → q = ahi + bhi → r = G → Calls Try.prog 40 #[.int .i64 p, .int .i64 q, .int .i64 r] w (Ret R.val w) := fun p q r w hp hq hr => by subst hp hq hr; exact B0 w
        clear B0 z0
        go_enter Try.func53, Try.ntmps53
        go_wp2_with fail
        refine region_still 21 (by kernel_rfl) (by kernel_rfl) ?_
        simp only [List.take_succ_cons, List.take_zero, List.drop_succ_cons, List.drop_zero]
        repeat (first | (refine wpStill_step (fun K hK => ?_); go_simp; refine ⟨_, zz _ _ _ (by first | rfl | omega | (simp only [IntKind.wrap_i64]; omega)) (by first | rfl | omega | (simp only [IntKind.wrap_i64]; omega)), hK _ ?_⟩; clear hK K) | still_step)
        refine wpStill_nil ?_
        go_wp2_with (go_at_call 40; (with_reducible refine (B _ _ _ _ (by first | rfl | omega | (simp only [IntKind.wrap_i64]; omega)) (by first | rfl | omega | (simp only [IntKind.wrap_i64]; omega)) rfl).mono ?_); rintro e w1 ⟨rfl, hb1⟩; (have hC1 := (Blk.new _ _ _).drew.call hb1); simp only [World.size_alloc] at hC1; (have hg1 := after (w := w) (by go_grown) hb1); (have hs1 := hg1.size); obtain ⟨hc1, hf1⟩ := hC1.walk)
        exact bodyPost_ret (v := R.val) (results_set rfl rfl (hC1.put (a := zeroV) R)) rfl ⟨rfl, below_put hg1 (by omega) R⟩
set_option maxHeartbeats 4000000 in
theorem difference_any (a b : VSet) (wa : a.wf) (wb : b.wf) (ha : a = topV ∨ reg a) (hb : b = topV ∨ reg b) (w : World) : Calls Try.prog 54 #[a.val, b.val] w (Ret (subN' a b).val w) := by
  rcases ha with rfl | ha
  · obtain ⟨be, bt, blo, bhi, bst⟩ := b
    show Calls Try.prog 54 #[.agg #[.bool false, .bool true, .int .u32 0, .int .u32 0, .int .u32 0], .agg #[.bool be, .bool bt, .int .u32 blo, .int .u32 bhi, .int .u32 bst]] w (Ret topV.val w)
    clear hb wa wb
    go_enter Try.func54, Try.ntmps54
    go_wp2_with (go_at_call 17; (with_reducible refine (rtop_any _).mono ?_); rintro e w1 ⟨rfl, hb1⟩; (have hC1 := (Blk.new _ _ _).call hb1); simp only [World.size_alloc] at hC1; obtain ⟨hc1, hf1⟩ := hC1.walk; (have hg1 := after (w := w) (by go_grown) hb1); (have hs1 := hg1.size))
    exact bodyPost_ret (v := (topV).val) (results_set rfl rfl (hC1.put (a := zeroV) topV)) rfl ⟨rfl, below_put hg1 (by omega) topV⟩
  · rcases hb with rfl | hb
    · have E : subN' a topV = topV := by unfold subN'; simp [topV]
      rw [E]
      obtain ⟨ae, at', alo, ahi, ast⟩ := a
      have h1 := ha.1
      dsimp only at h1
      subst h1
      show Calls Try.prog 54 #[.agg #[.bool ae, .bool false, .int .u32 alo, .int .u32 ahi, .int .u32 ast], .agg #[.bool false, .bool true, .int .u32 0, .int .u32 0, .int .u32 0]] w (Ret topV.val w)
      clear ha wa wb E
      go_enter Try.func54, Try.ntmps54
      go_wp2_with (go_at_call 17; (with_reducible refine (rtop_any _).mono ?_); rintro e w1 ⟨rfl, hb1⟩; (have hC1 := (Blk.new _ _ _).call hb1); simp only [World.size_alloc] at hC1; obtain ⟨hc1, hf1⟩ := hC1.walk; (have hg1 := after (w := w) (by go_grown) hb1); (have hs1 := hg1.size))
      exact bodyPost_ret (v := (topV).val) (results_set rfl rfl (hC1.put (a := zeroV) topV)) rfl ⟨rfl, below_put hg1 (by omega) topV⟩
    · obtain ⟨R, hR⟩ : ∃ R, R = subN' a b := ⟨_, rfl⟩
      rw [← hR]
      unfold subN' at hR
      simp only [ha.1, hb.1, Bool.or_self, Bool.false_eq_true, if_false] at hR
      obtain ⟨a0, a1, a2, a3, a4, a5⟩ := wa
      obtain ⟨b0, b1, b2, b3, b4, b5⟩ := wb
      have g0 := gcdL_nonneg a.st b.st
      have g1 := gcdL_le a.st b.st 4294967295 a4 b4 (by omega) (by omega)
      have l1 := ha.2.2.1
      have l2 := hb.2.2.1
      obtain ⟨ae, at', alo, ahi, ast⟩ := a
      obtain ⟨be, bt, blo, bhi, bst⟩ := b
      have h1 := ha.1
      have h2 := hb.1
      have h3 := ha.2.1
      have h4 := hb.2.1
      dsimp only at *
      subst h1 h2 h3 h4
      clear ha hb
      by_cases c : alo < bhi
      · rw [if_pos c] at hR
        subst hR
        clear g0 g1
        go_enter Try.func54, Try.ntmps54
        go_wp2_with (go_at_call 17; (with_reducible refine (rtop_any _).mono ?_); rintro e w1 ⟨rfl, hb1⟩; (have hC1 := (Blk.new _ _ _).call hb1); simp only [World.size_alloc] at hC1; obtain ⟨hc1, hf1⟩ := hC1.walk; (have hg1 := after (w := w) (by go_grown) hb1); (have hs1 := hg1.size))
        exact bodyPost_ret (v := (topV).val) (results_set rfl rfl (hC1.put (a := zeroV) topV)) rfl ⟨rfl, below_put hg1 (by omega) topV⟩
      · rw [if_neg c] at hR
        have d1 : 0 ≤ alo - bhi := by omega
        have d2 : 0 ≤ ahi - blo := by omega
        have B := rbetween_any (alo - bhi) (ahi - blo) (gcdL ast bst) (by omega) (by omega) (by omega) (by omega) g0 (by omega)
        have z0 := rgcd_same ast bst a4 a5 b4 b5
        rw [← hR] at B
        clear hR
        generalize gcdL ast bst = G at *
        have zz : ∀ x y w, x = ast → y = bst → Calls Try.prog 45 #[.int .i64 x, .int .i64 y] w fun e w' => e = .returned (.int .i64 G) ∧ w' = w := fun x y w hx hy => by subst hx hy; exact (z0 w).mono fun e w' h => ⟨h.1, h.2.symm⟩
        have B0 := B
        clear B
        have B : ∀ p q r w, p = alo - bhi → q = ahi - blo → r = G → Calls Try.prog 40 #[.int .i64 p, .int .i64 q, .int .i64 r] w (Ret R.val w) := fun p q r w hp hq hr => by subst hp hq hr; exact B0 w
        clear B0 z0
        go_enter Try.func54, Try.ntmps54
        go_wp2_with fail
        refine region_still 19 (by kernel_rfl) (by kernel_rfl) ?_
        simp only [List.take_succ_cons, List.take_zero, List.drop_succ_cons, List.drop_zero]
        repeat (first | (refine wpStill_step (fun K hK => ?_); go_simp; refine ⟨_, zz _ _ _ (by first | rfl | omega | (simp only [IntKind.wrap_i64]; omega)) (by first | rfl | omega | (simp only [IntKind.wrap_i64]; omega)), hK _ ?_⟩; clear hK K) | still_step)
        refine wpStill_nil ?_
        go_wp2_with (go_at_call 40; (with_reducible refine (B _ _ _ _ (by first | rfl | omega | (simp only [IntKind.wrap_i64]; omega)) (by first | rfl | omega | (simp only [IntKind.wrap_i64]; omega)) rfl).mono ?_); rintro e w1 ⟨rfl, hb1⟩; (have hC1 := (Blk.new _ _ _).drew.call hb1); simp only [World.size_alloc] at hC1; (have hg1 := after (w := w) (by go_grown) hb1); (have hs1 := hg1.size); obtain ⟨hc1, hf1⟩ := hC1.walk)
        exact bodyPost_ret (v := R.val) (results_set rfl rfl (hC1.put (a := zeroV) R)) rfl ⟨rfl, below_put hg1 (by omega) R⟩
end Go.Proofs.Ytjhdjclcfmcilaa
