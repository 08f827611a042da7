/-
  What Truncate, Extend, Holds of decompilerref01 return; the widths' plain laws.
-/
import Derived.Test.YtdcpechhjfbipaaBits2
namespace Go.Proofs.Ytdcpechhjfbipaa
open Go.ChangeShapes Go.WideShapes Go.ChangeAt Go.RowKit
set_option linter.unusedVariables false

theorem rtruncate_any (a k : Int) (w : World) (a0 : 0 ≤ a) (a1 : a < 4294967296) : Calls Try.prog 19 #[.int .u32 a, .int .i64 k] w (Ret (.int .u32 (truncL a k)) w) := by
  by_cases h1 : k = 1
  · subst h1
    go_enter Try.func19, Try.ntmps19
    go_wp2
    go_returns
    exact ⟨rfl, by go_grown⟩
  by_cases h2 : k = 2
  · subst h2
    go_enter Try.func19, Try.ntmps19
    go_wp2
    go_returns
    exact ⟨rfl, by go_grown⟩
  have e : a = truncL a k := by unfold truncL; rw [if_neg h1, if_neg h2]
  rw [← e]
  clear e
  go_enter Try.func19, Try.ntmps19
  go_wp2
  go_returns
  exact ⟨rfl, by go_grown⟩
theorem i8_eq (a : Int) : IntKind.i8.wrap a = (a + 128) % 256 - 128 := by
  simp only [IntKind.wrap, IntKind.bits, IntKind.signed]; simp; split <;> omega
theorem i16_eq (a : Int) : IntKind.i16.wrap a = (a + 32768) % 65536 - 32768 := by
  simp only [IntKind.wrap, IntKind.bits, IntKind.signed]; simp; split <;> omega
theorem ext1 (a : Int) : extL a 1 = IntKind.i8.wrap a % 4294967296 := rfl
theorem ext2 (a : Int) : extL a 2 = IntKind.i16.wrap a % 4294967296 := rfl
theorem rextend_any (a k : Int) (w : World) (a0 : 0 ≤ a) (a1 : a < 4294967296) : Calls Try.prog 18 #[.int .u32 a, .int .i64 k] w (Ret (.int .u32 (extL a k)) w) := by
  have ht := fun k => rtruncate_any a k
  by_cases h1 : k = 1
  · subst h1
    have t1 : truncL a 1 = a % 256 := rfl
    have ht1 := ht 1
    rw [t1] at ht1
    clear ht
    by_cases h : 128 ≤ a % 256
    · have e : extL a 1 = (a % 256 - 256) % 4294967296 := by rw [ext1, i8_eq]; omega
      rw [e]
      clear e t1
      go_enter Try.func18, Try.ntmps18
      go_wp2_with (go_at_call 19; (with_reducible refine (ht1 _ a0 a1).mono ?_); rintro e w1 ⟨rfl, hb1⟩)
      go_returns
      exact ⟨rfl, hb1⟩
    · have e : extL a 1 = a % 256 := by rw [ext1, i8_eq]; omega
      rw [e]
      clear e t1
      go_enter Try.func18, Try.ntmps18
      go_wp2_with (go_at_call 19; (with_reducible refine (ht1 _ a0 a1).mono ?_); rintro e w1 ⟨rfl, hb1⟩)
      go_returns
      exact ⟨rfl, hb1⟩
  by_cases h2 : k = 2
  · subst h2
    have t1 : truncL a 2 = a % 65536 := rfl
    have ht1 := ht 2
    rw [t1] at ht1
    clear ht
    by_cases h : 32768 ≤ a % 65536
    · have e : extL a 2 = (a % 65536 - 65536) % 4294967296 := by rw [ext2, i16_eq]; omega
      rw [e]
      clear e t1
      go_enter Try.func18, Try.ntmps18
      go_wp2_with (go_at_call 19; (with_reducible refine (ht1 _ a0 a1).mono ?_); rintro e w1 ⟨rfl, hb1⟩)
      go_returns
      exact ⟨rfl, hb1⟩
    · have e : extL a 2 = a % 65536 := by rw [ext2, i16_eq]; omega
      rw [e]
      clear e t1
      go_enter Try.func18, Try.ntmps18
      go_wp2_with (go_at_call 19; (with_reducible refine (ht1 _ a0 a1).mono ?_); rintro e w1 ⟨rfl, hb1⟩)
      go_returns
      exact ⟨rfl, hb1⟩
  have e : a = extL a k := by unfold extL; rw [if_neg h1, if_neg h2]
  have t1 : truncL a k = a := by unfold truncL; rw [if_neg h1, if_neg h2]
  have ht1 := ht k
  rw [t1] at ht1
  rw [← e]
  have g1 : (k == 1) = false := by rw [beq_eq_false_iff_ne]; omega
  have g2 : (k == 2) = false := by rw [beq_eq_false_iff_ne]; omega
  clear e ht t1 h1 h2
  go_enter Try.func18, Try.ntmps18
  go_wp2_with (go_at_call 19; (with_reducible refine (ht1 _ a0 a1).mono ?_); rintro e w1 ⟨rfl, hb1⟩)
  go_returns
  exact ⟨rfl, hb1⟩

theorem width_bd (a k : Int) (a0 : 0 ≤ a) (a1 : a < 4294967296) : 0 ≤ extL a k ∧ extL a k < 4294967296 ∧ 0 ≤ truncL a k ∧ truncL a k < 4294967296 := by
  unfold extL truncL
  by_cases h1 : k = 1
  · simp only [if_pos h1]; omega
  by_cases h2 : k = 2
  · simp only [if_neg h1, if_pos h2]; omega
  simp only [if_neg h1, if_neg h2]; omega
theorem width_te (a k : Int) (a0 : 0 ≤ a) (a1 : a < 4294967296) : truncL (extL a k) k = truncL a k := by
  unfold extL truncL
  by_cases h1 : k = 1
  · simp only [if_pos h1, i8_eq]; omega
  by_cases h2 : k = 2
  · simp only [if_neg h1, if_pos h2, i16_eq]; omega
  simp only [if_neg h1, if_neg h2]
theorem width_et (a k : Int) (a0 : 0 ≤ a) (a1 : a < 4294967296) : extL (truncL a k) k = extL a k := by
  unfold extL truncL
  by_cases h1 : k = 1
  · simp only [if_pos h1, i8_eq]; omega
  by_cases h2 : k = 2
  · simp only [if_neg h1, if_pos h2, i16_eq]; omega
  simp only [if_neg h1, if_neg h2]
theorem width_other (a k : Int) (h1 : ¬ k = 1) (h2 : ¬ k = 2) : extL a k = a ∧ truncL a k = a := by
  unfold extL truncL
  simp only [if_neg h1, if_neg h2, and_self]
set_option maxHeartbeats 2000000 in
theorem rholds_in (k : Int) (z n c v : Bool) (h0 : 0 ≤ k) (h1 : k < 15) (w : World) :
    Calls Try.prog 21 #[.int .i64 k, fl z n c v] w (Ret (.bool (holdsL k z n c v)) w) := by
  unfold fl
  have hk : k = 0 ∨ k = 1 ∨ k = 2 ∨ k = 3 ∨ k = 4 ∨ k = 5 ∨ k = 6 ∨ k = 7 ∨ k = 8 ∨ k = 9 ∨ k = 10 ∨ k = 11 ∨ k = 12 ∨ k = 13 ∨ k = 14 := by omega
  clear h0 h1
  rcases hk with rfl | rfl | rfl | rfl | rfl | rfl | rfl | rfl | rfl | rfl | rfl | rfl | rfl | rfl | rfl
  all_goals
    go_enter Try.func21, Try.ntmps21
    go_wp2
    all_goals go_returns
    all_goals refine ⟨?_, by go_grown⟩
    all_goals (first | rfl | (cases z <;> cases n <;> cases c <;> cases v <;> first | rfl | contradiction))
theorem rholds_out (k : Int) (z n c v : Bool) (h : k < 0 ∨ 15 ≤ k) (w : World) :
    Calls Try.prog 21 #[.int .i64 k, fl z n c v] w (Ret (.bool false) w) := by
  unfold fl
  have h0 : (k == 0) = false := by rw [beq_eq_false_iff_ne]; omega
  have h1 : (k == 1) = false := by rw [beq_eq_false_iff_ne]; omega
  have h2 : (k == 2) = false := by rw [beq_eq_false_iff_ne]; omega
  have h3 : (k == 3) = false := by rw [beq_eq_false_iff_ne]; omega
  have h4 : (k == 4) = false := by rw [beq_eq_false_iff_ne]; omega
  have h5 : (k == 5) = false := by rw [beq_eq_false_iff_ne]; omega
  have h6 : (k == 6) = false := by rw [beq_eq_false_iff_ne]; omega
  have h7 : (k == 7) = false := by rw [beq_eq_false_iff_ne]; omega
  have h8 : (k == 8) = false := by rw [beq_eq_false_iff_ne]; omega
  have h9 : (k == 9) = false := by rw [beq_eq_false_iff_ne]; omega
  have h10 : (k == 10) = false := by rw [beq_eq_false_iff_ne]; omega
  have h11 : (k == 11) = false := by rw [beq_eq_false_iff_ne]; omega
  have h12 : (k == 12) = false := by rw [beq_eq_false_iff_ne]; omega
  have h13 : (k == 13) = false := by rw [beq_eq_false_iff_ne]; omega
  have h14 : (k == 14) = false := by rw [beq_eq_false_iff_ne]; omega
  clear h
  go_enter Try.func21, Try.ntmps21
  go_wp2
  go_returns
  exact ⟨rfl, by go_grown⟩
theorem rholds_any (k : Int) (z n c v : Bool) (w : World) :
    Calls Try.prog 21 #[.int .i64 k, fl z n c v] w (Ret (.bool (holdsL k z n c v)) w) := by
  by_cases h : k < 0 ∨ 15 ≤ k
  · rw [holdsL_out k z n c v h]; exact rholds_out k z n c v h w
  · exact rholds_in k z n c v (by omega) (by omega) w
end Go.Proofs.Ytdcpechhjfbipaa
