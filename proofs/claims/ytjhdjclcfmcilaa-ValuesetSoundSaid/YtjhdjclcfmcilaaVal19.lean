/-
  What mask of decompilerref14 returns.
-/
import Derived.Test.YtjhdjclcfmcilaaVal17
namespace Go.Proofs.Ytjhdjclcfmcilaa
open Go.ChangeShapes Go.WideShapes Go.ChangeAt Go.RowKit
set_option linter.unusedVariables false
theorem pow_dvd_le (n q : Int) (j : Nat) (hn : 0 < n) (hq : q = 2 ^ j) (hd : n % q = 0) : 1 ≤ q ∧ q ≤ n := by
  have h1 : 0 < q := by rw [hq]; exact Int.pow_pos (by omega)
  exact ⟨by omega, Int.le_of_dvd hn (Int.dvd_of_emod_eq_zero hd)⟩
set_option maxHeartbeats 4000000 in
theorem mask_any (a : VSet) (wa : a.wf) (n : Int) (k0 : 0 ≤ n) (k1 : n < 4294967296) (w : World) : Calls Try.prog 57 #[a.val, .int .i64 n] w (Ret (maskedN a n).val w) := by
  obtain ⟨a0, a1, a2, a3, a4, a5⟩ := wa
  obtain ⟨e, t, lo, hi, st⟩ := a
  dsimp only at *
  have lb := low_bd n k0 k1
  obtain ⟨R, hR⟩ : ∃ R, R = maskedN ⟨e, t, lo, hi, st⟩ n := ⟨_, rfl⟩
  rw [← hR]
  unfold maskedN at hR
  by_cases n0 : n = 0
  · subst n0
    rw [low_zero] at hR
    have hR2 : R = oneV 0 := by
      rw [hR]
      cases t
      · simp only [Bool.false_eq_true, if_false]
        rw [if_neg (by omega)]; rfl
      · rfl
    subst hR2
    clear hR lb
    go_enter Try.func57, Try.ntmps57
    go_wp2_with (go_at_call 13; (with_reducible refine (rconst_any _ _).mono ?_); rintro e w1 ⟨rfl, hb1⟩; (have hC1 := (Blk.new _ _ _).call hb1); simp only [World.size_alloc] at hC1; obtain ⟨hc1, hf1⟩ := hC1.walk; (have hg1 := after (w := w) (by go_grown) hb1); (have hs1 := hg1.size))
    exact bodyPost_ret (v := (oneV 0).val) (results_set rfl rfl (hC1.put (a := zeroV) (oneV 0))) rfl ⟨rfl, below_put hg1 (by omega) (oneV 0)⟩
  have n0' : (n == 0) = false := by rw [beq_eq_false_iff_ne]; exact n0
  have np : 0 < n := by omega
  clear n0
  cases t
  · simp only [Bool.false_eq_true, if_false] at hR
    by_cases c : hi < n
    · rw [if_pos c] at hR
      have B := rbetween_any 0 hi (lowL n) (by omega) (by omega) (by omega) (by omega) (by omega) (by omega)
      rw [← hR] at B
      clear hR lb
      go_enter Try.func57, Try.ntmps57
      go_wp2_with fail
      go_loop [5] (fun s => ∃ (j : Nat) (q : Int), Hid (q = 2 ^ j) ∧ Hid (n % q = 0) ∧ s = .int .i64 q) (fun s => (n - intOf s).toNat)
      case atStart => exact ⟨0, 1, hide rfl, hide (Int.emod_one n), rfl⟩
      case round =>
        obtain ⟨j, q, hq, hd, rfl⟩ := hrel
        obtain ⟨q1, q2⟩ := pow_dvd_le n q j np hq.out hd.out
        by_cases h2 : n % (2 * q) = 0
        · have HD := hide h2
          have HB := pow_dvd_le n (2 * q) (j + 1) np (by rw [hq.out, Int.pow_succ, Int.mul_comm]) h2
          have h2' : (n % (2 * q) == 0) = true := by rw [beq_iff_eq]; exact h2
          clear h2
          go_wp2_with fail
          go_round
          case rel => exact ⟨j + 1, 2 * q, hide (by rw [hq.out, Int.pow_succ, Int.mul_comm]), HD, by go_num⟩
          case measure => simp [intOf]; omega
        · have E := low_of n np k1 j (by rw [← hq.out]; exact hd.out) (by rw [← hq.out]; exact h2)
          rw [← hq.out] at E
          rw [E] at B
          have h2' : (n % (2 * q) == 0) = false := by rw [beq_eq_false_iff_ne]; exact h2
          clear h2 E
          go_wp2_with (go_at_call 40; (with_reducible refine (B _).mono ?_); rintro e w1 ⟨rfl, hb1⟩; (have hC1 := (Blk.new _ _ _).call hb1); simp only [World.size_alloc] at hC1; obtain ⟨hc1, hf1⟩ := hC1.walk; (have hg1 := after (w := w) (by go_grown) hb1); (have hs1 := hg1.size))
          exact bodyPost_ret (v := R.val) (results_set rfl rfl (hC1.put (a := zeroV) R)) rfl ⟨rfl, below_put hg1 (by omega) R⟩
    · rw [if_neg c] at hR
      have B := rbetween_any 0 n (lowL n) (by omega) (by omega) (by omega) (by omega) (by omega) (by omega)
      rw [← hR] at B
      clear hR lb
      go_enter Try.func57, Try.ntmps57
      go_wp2_with fail
      go_loop [5] (fun s => ∃ (j : Nat) (q : Int), Hid (q = 2 ^ j) ∧ Hid (n % q = 0) ∧ s = .int .i64 q) (fun s => (n - intOf s).toNat)
      case atStart => exact ⟨0, 1, hide rfl, hide (Int.emod_one n), rfl⟩
      case round =>
        obtain ⟨j, q, hq, hd, rfl⟩ := hrel
        obtain ⟨q1, q2⟩ := pow_dvd_le n q j np hq.out hd.out
        by_cases h2 : n % (2 * q) = 0
        · have HD := hide h2
          have HB := pow_dvd_le n (2 * q) (j + 1) np (by rw [hq.out, Int.pow_succ, Int.mul_comm]) h2
          have h2' : (n % (2 * q) == 0) = true := by rw [beq_iff_eq]; exact h2
          clear h2
          go_wp2_with fail
          go_round
          case rel => exact ⟨j + 1, 2 * q, hide (by rw [hq.out, Int.pow_succ, Int.mul_comm]), HD, by go_num⟩
          case measure => simp [intOf]; omega
        · have E := low_of n np k1 j (by rw [← hq.out]; exact hd.out) (by rw [← hq.out]; exact h2)
          rw [← hq.out] at E
          rw [E] at B
          have h2' : (n % (2 * q) == 0) = false := by rw [beq_eq_false_iff_ne]; exact h2
          clear h2 E
          go_wp2_with (go_at_call 40; (with_reducible refine (B _).mono ?_); rintro e w1 ⟨rfl, hb1⟩; (have hC1 := (Blk.new _ _ _).call hb1); simp only [World.size_alloc] at hC1; obtain ⟨hc1, hf1⟩ := hC1.walk; (have hg1 := after (w := w) (by go_grown) hb1); (have hs1 := hg1.size))
          exact bodyPost_ret (v := R.val) (results_set rfl rfl (hC1.put (a := zeroV) R)) rfl ⟨rfl, below_put hg1 (by omega) R⟩
  · simp only [if_true] at hR
    have B := rbetween_any 0 n (lowL n) (by omega) (by omega) (by omega) (by omega) (by omega) (by omega)
    rw [← hR] at B
    clear hR lb
    go_enter Try.func57, Try.ntmps57
    go_wp2_with fail
    go_loop [5] (fun s => ∃ (j : Nat) (q : Int), Hid (q = 2 ^ j) ∧ Hid (n % q = 0) ∧ s = .int .i64 q) (fun s => (n - intOf s).toNat)
    case atStart => exact ⟨0, 1, hide rfl, hide (Int.emod_one n), rfl⟩
    case round =>
      obtain ⟨j, q, hq, hd, rfl⟩ := hrel
      obtain ⟨q1, q2⟩ := pow_dvd_le n q j np hq.out hd.out
      by_cases h2 : n % (2 * q) = 0
      · have HD := hide h2
        have HB := pow_dvd_le n (2 * q) (j + 1) np (by rw [hq.out, Int.pow_succ, Int.mul_comm]) h2
        have h2' : (n % (2 * q) == 0) = true := by rw [beq_iff_eq]; exact h2
        clear h2
        go_wp2_with fail
        go_round
        case rel => exact ⟨j + 1, 2 * q, hide (by rw [hq.out, Int.pow_succ, Int.mul_comm]), HD, by go_num⟩
        case measure => simp [intOf]; omega
      · have E := low_of n np k1 j (by rw [← hq.out]; exact hd.out) (by rw [← hq.out]; exact h2)
        rw [← hq.out] at E
        rw [E] at B
        have h2' : (n % (2 * q) == 0) = false := by rw [beq_eq_false_iff_ne]; exact h2
        clear h2 E
        go_wp2_with (go_at_call 40; (with_reducible refine (B _).mono ?_); rintro e w1 ⟨rfl, hb1⟩; (have hC1 := (Blk.new _ _ _).call hb1); simp only [World.size_alloc] at hC1; obtain ⟨hc1, hf1⟩ := hC1.walk; (have hg1 := after (w := w) (by go_grown) hb1); (have hs1 := hg1.size))
        exact bodyPost_ret (v := R.val) (results_set rfl rfl (hC1.put (a := zeroV) R)) rfl ⟨rfl, below_put hg1 (by omega) R⟩
end Go.Proofs.Ytjhdjclcfmcilaa
