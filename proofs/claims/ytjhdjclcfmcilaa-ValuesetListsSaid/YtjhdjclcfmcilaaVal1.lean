/-
  What Top, Empty, Const, Between, Valid, known, gcd, single of package valueset return, and the functions of decompilerref14 beside them.
-/
import Derived.Test.YtjhdjclcfmcilaaSet
namespace Go.Proofs.Ytjhdjclcfmcilaa
open Go.ChangeShapes Go.WideShapes Go.ChangeAt Go.RowKit
set_option linter.unusedVariables false

theorem top_any (w : World) : Calls Try.prog 16 #[] w (Ret topV.val w) := by
  go_enter Try.func16, Try.ntmps16
  go_wp2
  go_returns
  exact ⟨rfl, by go_grown⟩
theorem empty_any (w : World) : Calls Try.prog 18 #[] w (Ret emptyV.val w) := by
  go_enter Try.func18, Try.ntmps18
  go_wp2
  go_returns
  exact ⟨rfl, by go_grown⟩
theorem const_any (n : Int) (w : World) : Calls Try.prog 12 #[.int .u32 n] w (Ret (oneV n).val w) := by
  go_enter Try.func12, Try.ntmps12
  go_wp2
  go_returns
  exact ⟨rfl, by go_grown⟩
theorem rtop_any (w : World) : Calls Try.prog 17 #[] w (Ret topV.val w) := by
  go_enter Try.func17, Try.ntmps17
  go_wp2
  go_returns
  exact ⟨rfl, by go_grown⟩
theorem rempty_any (w : World) : Calls Try.prog 19 #[] w (Ret emptyV.val w) := by
  go_enter Try.func19, Try.ntmps19
  go_wp2
  go_returns
  exact ⟨rfl, by go_grown⟩
theorem rconst_any (n : Int) (w : World) : Calls Try.prog 13 #[.int .u32 n] w (Ret (oneV n).val w) := by
  go_enter Try.func13, Try.ntmps13
  go_wp2
  go_returns
  exact ⟨rfl, by go_grown⟩

/-- The set of the numbers from lo to hi in steps. -/
def betweenL (lo hi st : Int) : VSet :=
  if hi < lo then emptyV
  else if st = 0 then oneV lo
  else if hi - lo < st then oneV lo
  else if lo = 0 ∧ hi = 4294967295 ∧ st = 1 then topV
  else ⟨false, false, lo, hi - (hi - lo) % st, st⟩
set_option maxHeartbeats 1000000 in
theorem between_any (lo hi st : Int) (l0 : 0 ≤ lo) (l1 : lo < 4294967296) (h0 : 0 ≤ hi) (h1 : hi < 4294967296) (s0 : 0 ≤ st) (s1 : st < 4294967296) (w : World) :
    Calls Try.prog 14 #[.int .u32 lo, .int .u32 hi, .int .u32 st] w (Ret (betweenL lo hi st).val w) := by
  by_cases c1 : hi < lo
  · have e : betweenL lo hi st = emptyV := by unfold betweenL; rw [if_pos c1]
    rw [e]; clear e
    go_enter Try.func14, Try.ntmps14
    go_wp2
    go_returns
    exact ⟨rfl, by go_grown⟩
  by_cases c2 : st = 0
  · have e : betweenL lo hi st = oneV lo := by unfold betweenL; rw [if_neg c1, if_pos c2]
    rw [e]; clear e
    subst c2
    go_enter Try.func14, Try.ntmps14
    go_wp2
    go_returns
    exact ⟨rfl, by go_grown⟩
  have c3' : (st == 0) = false := by rw [beq_eq_false_iff_ne]; exact c2
  by_cases c3 : hi - lo < st
  · have e : betweenL lo hi st = oneV lo := by unfold betweenL; rw [if_neg c1, if_neg c2, if_pos c3]
    rw [e]; clear e
    go_enter Try.func14, Try.ntmps14
    go_wp2
    go_returns
    exact ⟨rfl, by go_grown⟩
  by_cases c4 : lo = 0 ∧ hi = 4294967295 ∧ st = 1
  · have e : betweenL lo hi st = topV := by unfold betweenL; rw [if_neg c1, if_neg c2, if_neg c3, if_pos c4]
    rw [e]; clear e
    obtain ⟨rfl, rfl, rfl⟩ := c4
    go_enter Try.func14, Try.ntmps14
    go_wp2
    go_returns
    exact ⟨rfl, by go_grown⟩
  have e : betweenL lo hi st = ⟨false, false, lo, hi - (hi - lo) % st, st⟩ := by unfold betweenL; rw [if_neg c1, if_neg c2, if_neg c3, if_neg c4]
  rw [e]; clear e
  have m1 : 0 ≤ (hi - lo) % st := Int.emod_nonneg _ c2
  have m2 : (hi - lo) % st ≤ hi - lo := by
    have := Int.emod_lt_of_pos (hi - lo) (by omega : 0 < st)
    omega
  have m3 : 0 ≤ hi - lo := by omega
  have c5 : (lo == 0 && (hi == 4294967295 && st == 1)) = false := by
    rw [Bool.eq_false_iff]
    simp only [ne_eq, Bool.and_eq_true, beq_iff_eq]
    exact c4
  have c6 : (lo == 0) = false ∨ (lo == 0) = true ∧ (hi == 4294967295) = false ∨ (lo == 0) = true ∧ (hi == 4294967295) = true ∧ (st == 1) = false := by
    cases h1 : (lo == 0) <;> cases h2 : (hi == 4294967295) <;> cases h3 : (st == 1) <;> simp_all
  clear c4 c5
  rcases c6 with d1 | ⟨d1, d2⟩ | ⟨d1, d2, d3⟩
  · go_enter Try.func14, Try.ntmps14
    go_wp2
    go_returns
    exact ⟨rfl, by go_grown⟩
  · go_enter Try.func14, Try.ntmps14
    go_wp2
    go_returns
    exact ⟨rfl, by go_grown⟩
  · go_enter Try.func14, Try.ntmps14
    go_wp2
    go_returns
    exact ⟨rfl, by go_grown⟩
end Go.Proofs.Ytjhdjclcfmcilaa
