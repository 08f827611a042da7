/-
  What Valid, known, single, gcd of package valueset return, and the functions of decompilerref14 beside them.
-/
import Derived.Test.YtjhdjclcfmcilaaVal1
namespace Go.Proofs.Ytjhdjclcfmcilaa
open Go.ChangeShapes Go.WideShapes Go.ChangeAt Go.RowKit
set_option linter.unusedVariables false

def gcdL (a b : Int) : Int := (Nat.gcd a.toNat b.toNat : Int)
theorem gcdL_zero (a : Int) (h : 0 ≤ a) : gcdL a 0 = a := by unfold gcdL; simp; omega
theorem gcdL_step (a b : Int) (ha : 0 ≤ a) (hb : 0 < b) : gcdL b (a % b) = gcdL a b := by
  obtain ⟨A, rfl⟩ := Int.eq_ofNat_of_zero_le ha
  obtain ⟨B, rfl⟩ := Int.eq_ofNat_of_zero_le (Int.le_of_lt hb)
  unfold gcdL
  have e : ((A : Int) % (B : Int)).toNat = A % B := by rw [← Int.natCast_emod, Int.toNat_natCast]
  rw [e, Int.toNat_natCast, Int.toNat_natCast, Nat.gcd_comm B, ← Nat.gcd_rec, Nat.gcd_comm]
theorem gcdL_nonneg (a b : Int) : 0 ≤ gcdL a b := Int.natCast_nonneg _
theorem gcdL_le (a b m : Int) (ha : 0 ≤ a) (hb : 0 ≤ b) (ha' : a ≤ m) (hb' : b ≤ m) : gcdL a b ≤ m := by
  obtain ⟨A, rfl⟩ := Int.eq_ofNat_of_zero_le ha
  obtain ⟨B, rfl⟩ := Int.eq_ofNat_of_zero_le hb
  unfold gcdL
  simp only [Int.toNat_natCast]
  rcases Nat.eq_zero_or_pos A with h | h
  · subst h; simp; exact hb'
  · have := Nat.gcd_le_left B h
    omega

theorem gcd_any (a b : Int) (a0 : 0 ≤ a) (a1 : a < 4294967296) (b0 : 0 ≤ b) (b1 : b < 4294967296) (w : World) :
    Calls Try.prog 44 #[.int .u32 a, .int .u32 b] w (Ret (.int .u32 (gcdL a b)) w) := by
  have HS := hide gcdL_step
  have HZ := hide gcdL_zero
  go_enter Try.func44, Try.ntmps44
  go_wp2
  go_loopw [0, 1] (fun x y wr => ∃ p q : Int, x = .int .u32 p ∧ y = .int .u32 q ∧ 0 ≤ p ∧ p < 4294967296 ∧ 0 ≤ q ∧ q < 4294967296 ∧ Hid (gcdL p q = gcdL a b) ∧ Below w.heap.size w wr) (fun _ y _ => (intOf y).toNat)
  case atStart => exact ⟨a, b, rfl, rfl, a0, a1, b0, b1, hide rfl, Below.refl _ _⟩
  case round =>
    obtain ⟨p, q, rfl, rfl, p0, p1, q0, q1, hg, hb⟩ := hrel
    by_cases hq : q = 0
    · subst hq
      go_wp2
      go_returns
      have e := hg.out
      rw [HZ.out p p0] at e
      subst e
      exact ⟨rfl, hb⟩
    · have c1 : (q == 0) = false := by rw [beq_eq_false_iff_ne]; exact hq
      have c2 : (q != 0) = true := by simp [hq]
      have m1 : 0 ≤ p % q := Int.emod_nonneg _ hq
      have m2 : p % q < q := Int.emod_lt_of_pos p (by omega)
      have HR := hide ((HS.out p q p0 (by omega)).trans hg.out)
      clear hq
      go_wp2
      go_quiet (fail)
      go_wp2
      go_roundw
      case rel => exact ⟨q, p % q, rfl, rfl, q0, q1, m1, by omega, HR, by first | exact hb | exact ⟨hb.os, hb.tape, hb.output, hb.size, hb.block⟩⟩
      case measure => simp [intOf]; omega

theorem rgcd_any (a b : Int) (a0 : 0 ≤ a) (a1 : a < 4294967296) (b0 : 0 ≤ b) (b1 : b < 4294967296) (w : World) :
    Calls Try.prog 45 #[.int .i64 a, .int .i64 b] w (Ret (.int .i64 (gcdL a b)) w) := by
  have HS := hide gcdL_step
  have HZ := hide gcdL_zero
  go_enter Try.func45, Try.ntmps45
  go_wp2
  go_loop [0, 1] (fun x y => ∃ p q : Int, x = .int .i64 p ∧ y = .int .i64 q ∧ 0 ≤ p ∧ p < 4294967296 ∧ 0 ≤ q ∧ q < 4294967296 ∧ Hid (gcdL p q = gcdL a b)) (fun _ y => (intOf y).toNat)
  case atStart => exact ⟨a, b, rfl, rfl, a0, a1, b0, b1, hide rfl⟩
  case round =>
    obtain ⟨p, q, rfl, rfl, p0, p1, q0, q1, hg⟩ := hrel
    by_cases hq : q = 0
    · subst hq
      go_wp2
      go_returns
      have e := hg.out
      rw [HZ.out p p0] at e
      subst e
      exact ⟨rfl, by go_grown⟩
    · have c1 : (q == 0) = false := by rw [beq_eq_false_iff_ne]; exact hq
      have c2 : 0 < q := by omega
      have m1 : 0 ≤ p % q := Int.emod_nonneg _ hq
      have m2 : p % q < q := Int.emod_lt_of_pos p (by omega)
      have HR := hide ((HS.out p q p0 (by omega)).trans hg.out)
      clear hq
      go_wp2
      go_round
      case rel => exact ⟨q, p % q, rfl, rfl, q0, q1, m1, by omega, HR⟩
      case measure => simp [intOf]; omega
end Go.Proofs.Ytjhdjclcfmcilaa
