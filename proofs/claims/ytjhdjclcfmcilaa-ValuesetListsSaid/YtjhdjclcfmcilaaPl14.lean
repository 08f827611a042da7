/-
  Plain laws of value sets: what betweenL and joinN give is valid. No walk.
-/
import Derived.Test.YtjhdjclcfmcilaaVal7
namespace Go.Proofs.Ytjhdjclcfmcilaa
open Go.ChangeShapes Go.WideShapes Go.ChangeAt Go.RowKit
set_option linter.unusedVariables false

theorem mk_wf {e t : Bool} {lo hi st : Int} (l0 : 0 ≤ lo) (l1 : lo < 4294967296) (h0 : 0 ≤ hi) (h1 : hi < 4294967296) (s0 : 0 ≤ st) (s1 : st < 4294967296) : (⟨e, t, lo, hi, st⟩ : VSet).wf := ⟨l0, l1, h0, h1, s0, s1⟩
theorem topV_wf : topV.wf := mk_wf (by decide) (by decide) (by decide) (by decide) (by decide) (by decide)
theorem emptyV_wf : emptyV.wf := mk_wf (by decide) (by decide) (by decide) (by decide) (by decide) (by decide)
theorem betweenL_cases (lo hi st : Int) : (hi < lo ∧ betweenL lo hi st = emptyV) ∨ (lo ≤ hi ∧ (st = 0 ∨ hi - lo < st) ∧ betweenL lo hi st = oneV lo) ∨
    (lo ≤ hi ∧ st ≠ 0 ∧ st ≤ hi - lo ∧ ((lo = 0 ∧ hi = 4294967295 ∧ st = 1 ∧ betweenL lo hi st = topV) ∨ (¬ (lo = 0 ∧ hi = 4294967295 ∧ st = 1) ∧ betweenL lo hi st = ⟨false, false, lo, hi - (hi - lo) % st, st⟩))) := by
  unfold betweenL
  by_cases c1 : hi < lo
  · exact .inl ⟨c1, if_pos c1⟩
  by_cases c2 : st = 0
  · exact .inr (.inl ⟨by omega, .inl c2, by rw [if_neg c1, if_pos c2]⟩)
  by_cases c3 : hi - lo < st
  · exact .inr (.inl ⟨by omega, .inr c3, by rw [if_neg c1, if_neg c2, if_pos c3]⟩)
  by_cases c4 : lo = 0 ∧ hi = 4294967295 ∧ st = 1
  · exact .inr (.inr ⟨by omega, c2, by omega, .inl ⟨c4.1, c4.2.1, c4.2.2, by rw [if_neg c1, if_neg c2, if_neg c3, if_pos c4]⟩⟩)
  · exact .inr (.inr ⟨by omega, c2, by omega, .inr ⟨c4, by rw [if_neg c1, if_neg c2, if_neg c3, if_neg c4]⟩⟩)
theorem betweenL_wf (lo hi st : Int) (l0 : 0 ≤ lo) (l1 : lo < 4294967296) (h0 : 0 ≤ hi) (h1 : hi < 4294967296) (s0 : 0 ≤ st) (s1 : st < 4294967296) : (betweenL lo hi st).wf := by
  rcases betweenL_cases lo hi st with ⟨_, e⟩ | ⟨_, _, e⟩ | ⟨c1, c2, c3, ⟨_, _, _, e⟩ | ⟨_, e⟩⟩ <;> rw [e]
  · exact emptyV_wf
  · exact mk_wf l0 l1 l0 l1 (by omega) (by omega)
  · exact topV_wf
  · have := Int.emod_nonneg (hi - lo) c2
    have := Int.emod_lt_of_pos (hi - lo) (by omega : 0 < st)
    exact mk_wf l0 l1 (by omega) (by omega) s0 s1
theorem betweenL_valid (lo hi st : Int) (l0 : 0 ≤ lo) (h1 : hi < 4294967296) (s0 : 0 ≤ st) : validL (betweenL lo hi st) = true := by
  rcases betweenL_cases lo hi st with ⟨_, e⟩ | ⟨_, _, e⟩ | ⟨c1, c2, c3, ⟨_, _, _, e⟩ | ⟨c4, e⟩⟩ <;> rw [e]
  · rfl
  · show validL ⟨false, false, lo, lo, 0⟩ = true
    rw [validL_z, beq_self_eq_true]
  · rfl
  · have m1 := Int.emod_nonneg (hi - lo) c2
    have m2 := Int.emod_lt_of_pos (hi - lo) (by omega : 0 < st)
    have m3 : (hi - (hi - lo) % st - lo) % st = 0 := by
      have : hi - (hi - lo) % st - lo = (hi - lo) - (hi - lo) % st := by omega
      rw [this]
      exact Int.emod_eq_zero_of_dvd (Int.dvd_self_sub_emod)
    rw [validL_s _ _ _ c2, m3]
    simp only [Bool.and_eq_true, Bool.or_eq_true, decide_eq_true_eq, beq_self_eq_true, and_true]
    refine ⟨by omega, ?_⟩
    by_cases a1 : 0 < lo
    · exact .inl (.inl a1)
    by_cases a2 : hi - (hi - lo) % st < 4294967295
    · exact .inl (.inr a2)
    · exact .inr (by omega)
theorem joinN_wf {a b : VSet} (ha : a.wf) (hb : b.wf) : (joinN a b).wf := by
  obtain ⟨a0, a1, a2, a3, a4, a5⟩ := ha
  obtain ⟨b0, b1, b2, b3, b4, b5⟩ := hb
  unfold joinN
  cases a.t || b.t
  · cases a.e
    · cases b.e
      · have g0 := gcdL_nonneg a.st b.st
        have g1 := gcdL_le a.st b.st 4294967295 a4 b4 (by omega) (by omega)
        have g2 := gcdL_nonneg (gcdL a.st b.st) ((if a.lo < b.lo then b.lo else a.lo) - if b.lo < a.lo then b.lo else a.lo)
        have g3 := gcdL_le (gcdL a.st b.st) ((if a.lo < b.lo then b.lo else a.lo) - if b.lo < a.lo then b.lo else a.lo) 4294967295 g0 (by omega) g1 (by omega)
        exact betweenL_wf _ _ _ (by omega) (by omega) (by omega) (by omega) g2 (by omega)
      · exact ⟨a0, a1, a2, a3, a4, a5⟩
    · exact ⟨b0, b1, b2, b3, b4, b5⟩
  · exact topV_wf
theorem joinN_valid {a b : VSet} (ha : a.wf) (hb : b.wf) (va : validL a = true) (vb : validL b = true) : validL (joinN a b) = true := by
  obtain ⟨a0, a1, a2, a3, a4, a5⟩ := ha
  obtain ⟨b0, b1, b2, b3, b4, b5⟩ := hb
  unfold joinN
  cases a.t || b.t
  · cases a.e
    · cases b.e
      · exact betweenL_valid _ _ _ (by omega) (by omega) (gcdL_nonneg _ _)
      · exact va
    · exact vb
  · rfl
theorem gcdL_dvd_right (a b : Int) (hb : 0 ≤ b) : gcdL a b ∣ b := by
  obtain ⟨B, rfl⟩ := Int.eq_ofNat_of_zero_le hb
  unfold gcdL
  rw [Int.toNat_natCast]
  exact Int.natCast_dvd_natCast.2 (Nat.gcd_dvd_right _ _)
theorem gcdL_dvd_left (a b : Int) (ha : 0 ≤ a) : gcdL a b ∣ a := by
  obtain ⟨A, rfl⟩ := Int.eq_ofNat_of_zero_le ha
  unfold gcdL
  rw [Int.toNat_natCast]
  exact Int.natCast_dvd_natCast.2 (Nat.gcd_dvd_left _ _)
theorem gcdL_pos_right (a b : Int) (hb : 0 < b) : 0 < gcdL a b := by
  have h0 := gcdL_nonneg a b
  have h1 := gcdL_dvd_right a b (by omega)
  rcases Int.lt_or_eq_of_le h0 with h | h
  · exact h
  · rw [← h, Int.zero_dvd] at h1; omega
/-- A valid set that is not Top and not Empty. -/
theorem valid_le {s : VSet} (hv : validL s = true) (h1 : s.t = false) (h2 : s.e = false) : s.lo ≤ s.hi := by
  obtain ⟨e, t, lo, hi, st⟩ := s
  dsimp only at h1 h2 ⊢
  subst h1 h2
  rcases valid_cases lo hi st hv with ⟨_, h⟩ | ⟨_, h, _⟩ <;> omega
theorem joinN_st {a b : VSet} (va : validL a = true) (vb : validL b = true) (h1 : a.t = false) (h2 : a.e = false) (h3 : b.t = false) (h4 : b.e = false) (ht : (joinN a b).t = false) (hlt : (joinN a b).lo < a.lo) : (joinN a b).st ≠ 0 := by
  have la := valid_le va h1 h2
  have lb := valid_le vb h3 h4
  have e : joinN a b = betweenL (if b.lo < a.lo then b.lo else a.lo) (if a.hi < b.hi then b.hi else a.hi) (gcdL (gcdL a.st b.st) ((if a.lo < b.lo then b.lo else a.lo) - if b.lo < a.lo then b.lo else a.lo)) := by
    unfold joinN; simp only [h1, h2, h3, h4, Bool.or_self, Bool.false_eq_true, if_false]
  rw [e] at ht hlt ⊢
  by_cases c : b.lo < a.lo
  · have d : ((if a.lo < b.lo then b.lo else a.lo) - if b.lo < a.lo then b.lo else a.lo) = a.lo - b.lo := by omega
    rw [d] at ht hlt ⊢
    have g1 := gcdL_pos_right (gcdL a.st b.st) (a.lo - b.lo) (by omega)
    have g2 := Int.le_of_dvd (by omega) (gcdL_dvd_right (gcdL a.st b.st) (a.lo - b.lo) (by omega))
    rcases betweenL_cases (if b.lo < a.lo then b.lo else a.lo) (if a.hi < b.hi then b.hi else a.hi) (gcdL (gcdL a.st b.st) (a.lo - b.lo)) with ⟨k, _⟩ | ⟨k, k2, _⟩ | ⟨k1, k2, k3, ⟨_, _, _, k4⟩ | ⟨_, k4⟩⟩
    · omega
    · omega
    · rw [k4] at ht; cases ht
    · rw [k4]; exact k2
  · rcases betweenL_cases (if b.lo < a.lo then b.lo else a.lo) (if a.hi < b.hi then b.hi else a.hi) (gcdL (gcdL a.st b.st) ((if a.lo < b.lo then b.lo else a.lo) - if b.lo < a.lo then b.lo else a.lo)) with ⟨k, _⟩ | ⟨k, k2, k3⟩ | ⟨k1, k2, k3, ⟨_, _, _, k4⟩ | ⟨_, k4⟩⟩
    · omega
    · rw [k3] at hlt; have : (oneV (if b.lo < a.lo then b.lo else a.lo)).lo = (if b.lo < a.lo then b.lo else a.lo) := rfl; omega
    · rw [k4] at ht; cases ht
    · rw [k4] at hlt; dsimp only at hlt; omega
end Go.Proofs.Ytjhdjclcfmcilaa
