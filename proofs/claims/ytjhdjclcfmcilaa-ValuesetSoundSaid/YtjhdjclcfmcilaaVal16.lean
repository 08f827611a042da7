/-
  What single, scaled, masked of package valueset return, and sum, difference, product, power, mask of decompilerref14.
-/
import Derived.Test.YtjhdjclcfmcilaaVal10
import Derived.Test.YtjhdjclcfmcilaaPl14b
namespace Go.Proofs.Ytjhdjclcfmcilaa
open Go.ChangeShapes Go.WideShapes Go.ChangeAt Go.RowKit
set_option linter.unusedVariables false
theorem single_any (s : VSet) (w : World) : Calls Try.prog 47 #[s.val] w (Ret (.bool (singleN s)) w) := by
  obtain ⟨e, t, lo, hi, st⟩ := s
  cases t
  · cases e
    · show Calls Try.prog 47 #[.agg #[.bool false, .bool false, .int .u32 lo, .int .u32 hi, .int .u32 st]] w (Ret (.bool (st == 0)) w)
      go_enter Try.func47, Try.ntmps47
      go_wp2
      go_returns
      exact ⟨rfl, by go_grown⟩
    · show Calls Try.prog 47 #[.agg #[.bool true, .bool false, .int .u32 lo, .int .u32 hi, .int .u32 st]] w (Ret (.bool false) w)
      go_enter Try.func47, Try.ntmps47
      go_wp2
      go_returns
      exact ⟨rfl, by go_grown⟩
  · show Calls Try.prog 47 #[.agg #[.bool e, .bool true, .int .u32 lo, .int .u32 hi, .int .u32 st]] w (Ret (.bool false) w)
    go_enter Try.func47, Try.ntmps47
    go_wp2
    go_returns
    exact ⟨rfl, by go_grown⟩

theorem mul_bd (a b : Int) (a0 : 0 ≤ a) (a1 : a < 4294967296) (b0 : 0 ≤ b) (b1 : b < 4294967296) : 0 ≤ a * b ∧ a * b ≤ 18446744065119617025 := by
  refine ⟨Int.mul_nonneg a0 b0, ?_⟩
  have h1 := Int.mul_le_mul (show a ≤ 4294967295 by omega) (show b ≤ 4294967295 by omega) b0 (by omega)
  exact Int.le_trans h1 (by decide)
set_option maxHeartbeats 2000000 in
theorem scaled_any (a : VSet) (wa : a.wf) (ha : a = topV ∨ reg a) (k : Int) (k0 : 0 ≤ k) (k1 : k < 4294967296) (w : World) : Calls Try.prog 48 #[a.val, .int .u32 k] w (Ret (scaledN a k).val w) := by
  rcases ha with rfl | ha
  · show Calls Try.prog 48 #[.agg #[.bool false, .bool true, .int .u32 0, .int .u32 0, .int .u32 0], .int .u32 k] w (Ret topV.val w)
    go_enter Try.func48, Try.ntmps48
    go_wp2_with (go_at_call 16; (with_reducible refine (top_any _).mono ?_); rintro e w1 ⟨rfl, hb1⟩; (have hC1 := (Blk.new _ _ _).call hb1); simp only [World.size_alloc] at hC1; obtain ⟨hc1, hf1⟩ := hC1.walk; (have hg1 := after (w := w) (by go_grown) hb1); (have hs1 := hg1.size))
    exact bodyPost_ret (v := topV.val) (results_set rfl rfl (hC1.put (a := zeroV) topV)) rfl ⟨rfl, below_put hg1 (by omega) topV⟩
  · have b := reg_bd wa ha k k0
    have p := mul_bd a.hi k wa.2.2.1 wa.2.2.2.1 k0 k1
    have q0 := Int.mul_nonneg wa.1 k0
    have q1 := Int.mul_nonneg wa.2.2.2.2.1 k0
    obtain ⟨R, hR⟩ : ∃ R, R = scaledN a k := ⟨_, rfl⟩
    rw [← hR]
    unfold scaledN at hR
    simp only [ha.1, Bool.false_eq_true, if_false] at hR
    have ht := ha.1
    have he := ha.2.1
    clear ha
    obtain ⟨a0, a1, a2, a3, a4, a5⟩ := wa
    obtain ⟨e, t, lo, hi, st⟩ := a
    dsimp only at *
    subst ht he
    obtain ⟨p0, p1⟩ := p
    obtain ⟨b0, b1⟩ := b
    by_cases c : 4294967295 < hi * k
    · rw [if_pos c] at hR
      subst hR
      go_enter Try.func48, Try.ntmps48
      go_wp2_with (go_at_call 16; (with_reducible refine (top_any _).mono ?_); rintro e w1 ⟨rfl, hb1⟩; (have hC1 := (Blk.new _ _ _).call hb1); simp only [World.size_alloc] at hC1; obtain ⟨hc1, hf1⟩ := hC1.walk; (have hg1 := after (w := w) (by go_grown) hb1); (have hs1 := hg1.size))
      exact bodyPost_ret (v := topV.val) (results_set rfl rfl (hC1.put (a := zeroV) topV)) rfl ⟨rfl, below_put hg1 (by omega) topV⟩
    · rw [if_neg c] at hR
      have B := between_any (lo * k) (hi * k) (st * k) q0 (by omega) p0 (by omega) q1 (by omega)
      rw [← hR] at B
      clear hR
      have p2 : hi * k < 4294967296 := by omega
      have p3 : lo * k < 4294967296 := by omega
      have p4 : st * k < 4294967296 := by omega
      go_enter Try.func48, Try.ntmps48
      go_wp2_with (go_at_call 14; (with_reducible refine (B _).mono ?_); rintro e w1 ⟨rfl, hb1⟩; (have hC1 := (Blk.new _ _ _).call hb1); simp only [World.size_alloc] at hC1; obtain ⟨hc1, hf1⟩ := hC1.walk; (have hg1 := after (w := w) (by go_grown) hb1); (have hs1 := hg1.size))
      exact bodyPost_ret (v := R.val) (results_set rfl rfl (hC1.put (a := zeroV) R)) rfl ⟨rfl, below_put hg1 (by omega) R⟩
set_option maxHeartbeats 2000000 in
theorem product_any (a : VSet) (wa : a.wf) (ha : a = topV ∨ reg a) (k : Int) (k0 : 0 ≤ k) (k1 : k < 4294967296) (w : World) : Calls Try.prog 55 #[a.val, .int .i64 k] w (Ret (scaledN a k).val w) := by
  rcases ha with rfl | ha
  · show Calls Try.prog 55 #[.agg #[.bool false, .bool true, .int .u32 0, .int .u32 0, .int .u32 0], .int .i64 k] w (Ret topV.val w)
    go_enter Try.func55, Try.ntmps55
    go_wp2_with fail
    go_quiet (fail)
    go_wp2_with (go_at_call 17; (with_reducible refine (rtop_any _).mono ?_); rintro e w1 ⟨rfl, hb1⟩; (have hC1 := (blk_drewN (Blk.new _ _ _) nq).call hb1); simp only [World.size_alloc] at hC1; obtain ⟨hc1, hf1⟩ := hC1.walk; (have hg1 := after (w := w) (below_drewN (by go_grown) nq) hb1); (have hs1 := hg1.size))
    exact bodyPost_ret (v := topV.val) (results_set rfl rfl (hC1.put (a := zeroV) topV)) rfl ⟨rfl, below_put hg1 (by omega) topV⟩
  · have b := reg_bd wa ha k k0
    have p := mul_bd a.hi k wa.2.2.1 wa.2.2.2.1 k0 k1
    have q0 := Int.mul_nonneg wa.1 k0
    have q1 := Int.mul_nonneg wa.2.2.2.2.1 k0
    have d : 0 < k → (4294967295 / k < a.hi ↔ 4294967295 < a.hi * k) := fun h => Int.ediv_lt_iff_lt_mul h
    have d2 : 0 ≤ 4294967295 / k := Int.ediv_nonneg (by omega) k0
    obtain ⟨R, hR⟩ : ∃ R, R = scaledN a k := ⟨_, rfl⟩
    rw [← hR]
    unfold scaledN at hR
    simp only [ha.1, Bool.false_eq_true, if_false] at hR
    have ht := ha.1
    have he := ha.2.1
    clear ha
    obtain ⟨a0, a1, a2, a3, a4, a5⟩ := wa
    obtain ⟨e, t, lo, hi, st⟩ := a
    dsimp only at *
    subst ht he
    obtain ⟨p0, p1⟩ := p
    obtain ⟨b0, b1⟩ := b
    by_cases c : 4294967295 < hi * k
    · rw [if_pos c] at hR
      subst hR
      have kp : 0 < k := by
        rcases Int.lt_or_eq_of_le k0 with h | h
        · exact h
        · rw [← h, Int.mul_zero] at c; omega
      have c' := (d kp).2 c
      have kn : k ≠ 0 := by omega
      clear d c
      go_enter Try.func55, Try.ntmps55
      go_wp2_with fail
      go_quiet (fail)
      go_wp2_with (go_at_call 17; (with_reducible refine (rtop_any _).mono ?_); rintro e w1 ⟨rfl, hb1⟩; (have hC1 := (blk_drewN (Blk.new _ _ _) nq).call hb1); simp only [World.size_alloc] at hC1; obtain ⟨hc1, hf1⟩ := hC1.walk; (have hg1 := after (w := w) (below_drewN (by go_grown) nq) hb1); (have hs1 := hg1.size))
      exact bodyPost_ret (v := topV.val) (results_set rfl rfl (hC1.put (a := zeroV) topV)) rfl ⟨rfl, below_put hg1 (by omega) topV⟩
    · rw [if_neg c] at hR
      have B := rbetween_any (lo * k) (hi * k) (st * k) q0 (by omega) p0 (by omega) q1 (by omega)
      rw [← hR] at B
      clear hR
      have p2 : hi * k < 4294967296 := by omega
      have p3 : lo * k < 4294967296 := by omega
      have p4 : st * k < 4294967296 := by omega
      by_cases kp : 0 < k
      · have c' : ¬ 4294967295 / k < hi := fun h => c ((d kp).1 h)
        clear d c
        go_enter Try.func55, Try.ntmps55
        go_wp2_with fail
        go_quiet (fail)
        go_wp2_with (go_at_call 40; (with_reducible refine (B _).mono ?_); rintro e w1 ⟨rfl, hb1⟩; (have hC1 := (blk_drewN (Blk.new _ _ _) nq).call hb1); simp only [World.size_alloc] at hC1; obtain ⟨hc1, hf1⟩ := hC1.walk; (have hg1 := after (w := w) (below_drewN (by go_grown) nq) hb1); (have hs1 := hg1.size))
        exact bodyPost_ret (v := R.val) (results_set rfl rfl (hC1.put (a := zeroV) R)) rfl ⟨rfl, below_put hg1 (by omega) R⟩
      · have k00 : k = 0 := by omega
        clear d c d2
        subst k00
        simp only [Int.mul_zero] at B
        go_enter Try.func55, Try.ntmps55
        go_wp2_with fail
        go_quiet (fail)
        go_wp2_with (go_at_call 40; (with_reducible refine (B _).mono ?_); rintro e w1 ⟨rfl, hb1⟩; (have hC1 := (blk_drewN (Blk.new _ _ _) nq).call hb1); simp only [World.size_alloc] at hC1; obtain ⟨hc1, hf1⟩ := hC1.walk; (have hg1 := after (w := w) (below_drewN (by go_grown) nq) hb1); (have hs1 := hg1.size))
        exact bodyPost_ret (v := R.val) (results_set rfl rfl (hC1.put (a := zeroV) R)) rfl ⟨rfl, below_put hg1 (by omega) R⟩
end Go.Proofs.Ytjhdjclcfmcilaa
