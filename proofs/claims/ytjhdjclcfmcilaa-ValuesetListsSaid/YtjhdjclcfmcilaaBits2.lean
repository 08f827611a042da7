/-
  What Negate and Apply of package bits return, and the functions of decompilerref01 beside them: one contract each, for every argument.
-/
import Derived.Test.YtjhdjclcfmcilaaBits
namespace Go.Proofs.Ytjhdjclcfmcilaa
open Go.ChangeShapes Go.WideShapes Go.ChangeAt Go.RowKit
set_option linter.unusedVariables false

/-- The opposite condition, or -1. -/
def negL (k : Int) : Int := if 1 ≤ k ∧ k < 15 then (if k % 2 = 1 then k + 1 else k - 1) else -1
theorem negL_out (k : Int) (h : k < 1 ∨ 15 ≤ k) : negL k = -1 := by unfold negL; rw [if_neg (by omega)]

/-- Operator 3 + k of two numbers. -/
def applyK (k : Nat) (a b : Int) : Int :=
  match k with
  | 0 => (a + b) % 4294967296 | 1 => (a - b) % 4294967296 | 2 => a * b % 4294967296
  | 3 => bits .and .u32 a b | 4 => bits .or .u32 a b | 5 => bits .xor .u32 a b
  | 6 => shlL a b | 7 => shrL a b | 8 => sarL a b
  | 9 => tr (a == b) | 10 => tr (a != b) | 11 => tr (decide (wrap32 a < wrap32 b)) | 12 => tr (decide (a < b)) | _ => 0
theorem apply_pick (a b : Int) (k : Int) (h0 : 0 ≤ k) (h1 : k < 13) (l : List Value)
    (hl : l = [.int .u32 ((a + b) % 4294967296), .int .u32 ((a - b) % 4294967296), .int .u32 (a * b % 4294967296), .int .u32 (bits .and .u32 a b), .int .u32 (bits .or .u32 a b), .int .u32 (bits .xor .u32 a b),
      .int .u32 (shlL a b), .int .u32 (shrL a b), .int .u32 (sarL a b), .int .u32 (tr (a == b)), .int .u32 (tr (a != b)), .int .u32 (tr (decide (wrap32 a < wrap32 b))), .int .u32 (tr (decide (a < b)))])
    (hk : k.toNat < l.length) : Ending.returned (.tuple #[l[k.toNat], .int .i64 0]) = Ending.returned (.tuple #[.int .u32 (applyK k.toNat a b), .int .i64 0]) := by
  obtain ⟨K, rfl⟩ := Int.eq_ofNat_of_zero_le h0
  simp only [Int.toNat_natCast] at hk ⊢
  subst hl
  have hk' : K = 0 ∨ K = 1 ∨ K = 2 ∨ K = 3 ∨ K = 4 ∨ K = 5 ∨ K = 6 ∨ K = 7 ∨ K = 8 ∨ K = 9 ∨ K = 10 ∨ K = 11 ∨ K = 12 := by omega
  rcases hk' with rfl | rfl | rfl | rfl | rfl | rfl | rfl | rfl | rfl | rfl | rfl | rfl | rfl <;> rfl
set_option maxHeartbeats 2000000 in
theorem apply_in (k : Int) (a b : Int) (h0 : 3 ≤ k) (h1 : k < 16) (a0 : 0 ≤ a) (a1 : a < 4294967296) (b0 : 0 ≤ b) (b1 : b < 4294967296) (w : World) :
    Calls Try.prog 39 #[.int .i64 k, .int .u32 a, .int .u32 b] w (Ret (.tuple #[.int .u32 (applyK (k - 3).toNat a b), .int .i64 0]) w) := by
  have hi : (k - 3).toNat < 13 := by omega
  go_enter Try.func39, Try.ntmps39
  go_wp2_with (first | (go_at_call 49; (with_reducible refine (shl_any _ _ _ b0 b1).mono ?_); rintro e w1 ⟨rfl, hb1⟩; have HB := hb1) | (go_at_call 51; (with_reducible refine (shr_any _ _ _ b0 b1).mono ?_); rintro e w1 ⟨rfl, hb1⟩; replace HB := HB.trans (hb1.mono HB.size)) | (go_at_call 58; (with_reducible refine (sar_any _ _ _ b0 b1).mono ?_); rintro e w1 ⟨rfl, hb1⟩; replace HB := HB.trans (hb1.mono HB.size)) | (go_at_call 59; (with_reducible refine (truth_any _ _).mono ?_); rintro e w1 ⟨rfl, hb1⟩; replace HB := HB.trans (hb1.mono HB.size)))
  go_returns
  exact ⟨apply_pick a b (k - 3) (by omega) (by omega) _ rfl _, HB.alloc HB.size _⟩
theorem apply_out (k : Int) (a b : Int) (h : k < 3 ∨ 16 ≤ k) (w : World) :
    Calls Try.prog 39 #[.int .i64 k, .int .u32 a, .int .u32 b] w (Ret (.tuple #[.int .u32 0, .int .i64 2]) w) := by
  by_cases h1 : k < 3
  · clear h
    go_enter Try.func39, Try.ntmps39
    go_wp2
    go_returns
    exact ⟨rfl, by go_grown⟩
  · have h2 : 15 < k := by omega
    clear h
    go_enter Try.func39, Try.ntmps39
    go_wp2
    go_returns
    exact ⟨rfl, by go_grown⟩

/-! ### The shifts of the reference: one bit a round. -/
theorem shl_step (a : Int) (k : Nat) : a * 2 ^ k % 4294967296 * 2 % 4294967296 = a * 2 ^ (k + 1) % 4294967296 := by
  rw [Int.pow_succ, ← Int.mul_assoc]; omega
theorem shr_step (a : Int) (k : Nat) : a / 2 ^ k / 2 = a / 2 ^ (k + 1) := by
  have h : (0 : Int) < 2 ^ k := Int.pow_pos (by omega)
  rw [Int.pow_succ, Int.ediv_ediv, if_neg (by omega), Int.sub_zero]
theorem pow_le_31 (k : Nat) : (0 : Int) < 2 ^ k := Int.pow_pos (by omega)
theorem shr_bd (a : Int) (k : Nat) (a0 : 0 ≤ a) (a1 : a < 4294967296) : 0 ≤ a / 2 ^ k ∧ a / 2 ^ k < 4294967296 := by
  have h := pow_le_31 k
  have h1 := Int.ediv_le_self (2 ^ k) a0
  exact ⟨Int.ediv_nonneg a0 (by omega), by omega⟩
theorem rshl_any (a n : Int) (w : World) (a0 : 0 ≤ a) (a1 : a < 4294967296) (n0 : 0 ≤ n) (n1 : n < 4294967296) :
    Calls Try.prog 60 #[.int .u32 a, .int .u32 n] w (Ret (.int .u32 (shlL a n)) w) := by
  have hm : n.tmod 32 = n % 32 := Int.tmod_eq_emod_of_nonneg n0
  go_enter Try.func60, Try.ntmps60
  go_wp2
  go_loop [0, 5] (fun v i => ∃ k : Nat, (k : Int) ≤ n % 32 ∧ i = .int .u32 k ∧ v = .int .u32 (a * 2 ^ k % 4294967296)) (fun _ i => ((n % 32) - intOf i).toNat)
  case atStart => exact ⟨0, by omega, rfl, by rw [Int.pow_zero, Int.mul_one, Int.emod_eq_of_lt a0 a1]⟩
  case round =>
    obtain ⟨k, hk, rfl, rfl⟩ := hrel
    have HS := hide (shl_step a k)
    by_cases hlt : (k : Int) < n % 32
    · go_wp2
      go_round
      case rel => exact ⟨k + 1, by omega, by go_num, by rw [← HS.out]⟩
      case measure => simp [intOf]; omega
    · go_wp2
      go_returns
      have e : k = (n % 32).toNat := by omega
      subst e
      exact ⟨rfl, by go_grown⟩
theorem rshr_any (a n : Int) (w : World) (a0 : 0 ≤ a) (a1 : a < 4294967296) (n0 : 0 ≤ n) (n1 : n < 4294967296) :
    Calls Try.prog 61 #[.int .u32 a, .int .u32 n] w (Ret (.int .u32 (shrL a n)) w) := by
  have hm : n.tmod 32 = n % 32 := Int.tmod_eq_emod_of_nonneg n0
  go_enter Try.func61, Try.ntmps61
  go_wp2
  go_loop [0, 5] (fun v i => ∃ k : Nat, (k : Int) ≤ n % 32 ∧ i = .int .u32 k ∧ v = .int .u32 (a / 2 ^ k)) (fun _ i => ((n % 32) - intOf i).toNat)
  case atStart => exact ⟨0, by omega, rfl, by rw [Int.pow_zero, Int.ediv_one]⟩
  case round =>
    obtain ⟨k, hk, rfl, rfl⟩ := hrel
    have HS := hide (shr_step a k)
    obtain ⟨v0, v1⟩ := shr_bd a k a0 a1
    by_cases hlt : (k : Int) < n % 32
    · go_wp2
      go_round
      case rel => exact ⟨k + 1, by omega, by go_num, by rw [← HS.out]⟩
      case measure => simp [intOf]; omega
    · go_wp2
      go_returns
      have e : k = (n % 32).toNat := by omega
      subst e
      exact ⟨rfl, by go_grown⟩

theorem sar_bd (a : Int) (k : Nat) (a0 : 0 ≤ a) (a1 : a < 4294967296) : -2147483648 ≤ wrap32 a / 2 ^ k ∧ wrap32 a / 2 ^ k < 2147483648 ∧ (wrap32 a / 2 ^ k < 0 ↔ 2147483648 ≤ a) := by
  have h := pow_le_31 k
  have hw : -2147483648 ≤ wrap32 a ∧ wrap32 a < 2147483648 ∧ (wrap32 a < 0 ↔ 2147483648 ≤ a) := by unfold wrap32; omega
  by_cases hs : wrap32 a < 0
  · have h1 := Int.ediv_lt_iff_lt_mul (a := wrap32 a) (b := 0) h
    have h2 := Int.le_ediv_iff_mul_le (a := -2147483648) (b := wrap32 a) h
    have h3 : (-2147483648 : Int) * 2 ^ k ≤ -2147483648 := by omega
    have h4 : wrap32 a / 2 ^ k < 0 := h1.2 (by omega)
    have h5 := h2.2 (by omega)
    exact ⟨h5, by omega, by omega⟩
  · have h1 := Int.ediv_le_self (2 ^ k) (by omega : 0 ≤ wrap32 a)
    have h2 := Int.ediv_nonneg (a := wrap32 a) (b := 2 ^ k) (by omega) (by omega)
    exact ⟨by omega, by omega, by omega⟩
theorem sar_zero (a : Int) (a0 : 0 ≤ a) (a1 : a < 4294967296) : wrap32 a / 2 ^ 0 % 4294967296 = a := by
  rw [Int.pow_zero, Int.ediv_one]; unfold wrap32; omega
theorem sar_step (a : Int) (k : Nat) (t : Int) (a0 : 0 ≤ a) (a1 : a < 4294967296) (ht : t = if sg a then 2147483648 else 0) :
    wrap32 a / 2 ^ k % 4294967296 / 2 + t = wrap32 a / 2 ^ (k + 1) % 4294967296 := by
  obtain ⟨h1, h2, h3⟩ := sar_bd a k a0 a1
  rw [← shr_step]
  unfold sg at ht
  by_cases hs : 2147483648 ≤ a
  · rw [decide_eq_true hs, if_pos rfl] at ht; omega
  · rw [decide_eq_false hs, if_neg (by simp)] at ht; omega
theorem rsar_any (a n : Int) (w : World) (a0 : 0 ≤ a) (a1 : a < 4294967296) (n0 : 0 ≤ n) (n1 : n < 4294967296) :
    Calls Try.prog 62 #[.int .u32 a, .int .u32 n] w (Ret (.int .u32 (sarL a n)) w) := by
  have hm : n.tmod 32 = n % 32 := Int.tmod_eq_emod_of_nonneg n0
  have hn := negative_any a
  have key : ∀ t : Int, t = (if sg a then 2147483648 else 0) → 0 ≤ t ∧ t ≤ 2147483648 := by
    intro t ht; cases h : sg a <;> rw [h] at ht <;> simp at ht <;> omega
  have hst : ∀ t : Int, ∀ k : Nat, t = (if sg a then 2147483648 else 0) → wrap32 a / 2 ^ k % 4294967296 / 2 + t = wrap32 a / 2 ^ (k + 1) % 4294967296 := fun t k ht => sar_step a k t a0 a1 ht
  have HST := hide hst
  have HK := hide key
  have H0 := hide (sar_zero a a0 a1)
  clear hst key
  have he : n % 32 = ((n % 32).toNat : Int) := by omega
  have HE := hide he
  clear he
  cases hs : sg a
  all_goals
    rw [hs] at hn HST HK
    clear hs
    go_enter Try.func62, Try.ntmps62
    go_wp2_with (go_at_call 64; (with_reducible refine (hn _).mono ?_); rintro e w1 ⟨rfl, hb1⟩)
    go_loop [0, 6] (fun v i => ∃ k : Nat, (k : Int) ≤ n % 32 ∧ i = .int .u32 k ∧ v = .int .u32 (wrap32 a / 2 ^ k % 4294967296)) (fun _ i => ((n % 32) - intOf i).toNat)
    case atStart => exact ⟨0, by omega, rfl, by rw [H0.out]⟩
    case round =>
      obtain ⟨k, hk, rfl, rfl⟩ := hrel
      have HS := hide (HST.out _ k rfl)
      by_cases hlt : (k : Int) < n % 32
      · go_wp2
        go_round
        case rel => exact ⟨k + 1, by omega, by go_num, by rw [← HS.out]; simp; try omega⟩
        case measure => simp [intOf]; omega
      · go_wp2
        go_returns
        have e : k = (n % 32).toNat := by omega
        subst e
        exact ⟨rfl, hb1⟩
theorem rapply_out (k : Int) (a b : Int) (h : k < 3 ∨ 16 ≤ k) (w : World) :
    Calls Try.prog 52 #[.int .i64 k, .int .u32 a, .int .u32 b] w (Ret (.tuple #[.int .u32 0, .int .i64 2]) w) := by
  have h3 : (k == 3) = false := by rw [beq_eq_false_iff_ne]; omega
  have h4 : (k == 4) = false := by rw [beq_eq_false_iff_ne]; omega
  have h5 : (k == 5) = false := by rw [beq_eq_false_iff_ne]; omega
  have h6 : (k == 6) = false := by rw [beq_eq_false_iff_ne]; omega
  have h7 : (k == 7) = false := by rw [beq_eq_false_iff_ne]; omega
  have h8 : (k == 8) = false := by rw [beq_eq_false_iff_ne]; omega
  have h9 : (k == 9) = false := by rw [beq_eq_false_iff_ne]; omega
  have h10 : (k == 10) = false := by rw [beq_eq_false_iff_ne]; omega
  have h11 : (k == 11) = false := by rw [beq_eq_false_iff_ne]; omega
  have h12 : (k == 12) = false := by rw [beq_eq_false_iff_ne]; omega
  have h13 : (k == 13) = false := by rw [beq_eq_false_iff_ne]; omega
  have h14 : (k == 14) = false := by rw [beq_eq_false_iff_ne]; omega
  have h15 : (k == 15) = false := by rw [beq_eq_false_iff_ne]; omega
  clear h
  go_enter Try.func52, Try.ntmps52
  go_wp2
  go_returns
  exact ⟨rfl, by go_grown⟩
set_option maxHeartbeats 1000000 in
theorem rapply_in (k : Int) (a b : Int) (h0 : 3 ≤ k) (h1 : k < 16) (a0 : 0 ≤ a) (a1 : a < 4294967296) (b0 : 0 ≤ b) (b1 : b < 4294967296) (w : World) :
    Calls Try.prog 52 #[.int .i64 k, .int .u32 a, .int .u32 b] w (Ret (.tuple #[.int .u32 (applyK (k - 3).toNat a b), .int .i64 0]) w) := by
  have hk : k = 3 ∨ k = 4 ∨ k = 5 ∨ k = 6 ∨ k = 7 ∨ k = 8 ∨ k = 9 ∨ k = 10 ∨ k = 11 ∨ k = 12 ∨ k = 13 ∨ k = 14 ∨ k = 15 := by omega
  clear h0 h1
  rcases hk with rfl | rfl | rfl | rfl | rfl | rfl | rfl | rfl | rfl | rfl | rfl | rfl | rfl
  all_goals
    go_enter Try.func52, Try.ntmps52
    go_wp2_with (first | (go_at_call 60; (with_reducible refine (rshl_any _ _ _ a0 a1 b0 b1).mono ?_); rintro e w1 ⟨rfl, hb1⟩) | (go_at_call 61; (with_reducible refine (rshr_any _ _ _ a0 a1 b0 b1).mono ?_); rintro e w1 ⟨rfl, hb1⟩) | (go_at_call 62; (with_reducible refine (rsar_any _ _ _ a0 a1 b0 b1).mono ?_); rintro e w1 ⟨rfl, hb1⟩) | (go_at_call 63; (with_reducible refine (number_any _ _).mono ?_); rintro e w1 ⟨rfl, hb1⟩))
    go_returns
    exact ⟨rfl, by first | assumption | go_grown⟩
end Go.Proofs.Ytjhdjclcfmcilaa
