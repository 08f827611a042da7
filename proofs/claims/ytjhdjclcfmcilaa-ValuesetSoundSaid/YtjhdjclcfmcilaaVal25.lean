/-
  Apply of package valueset for all operators and sets.
-/
import Derived.Test.YtjhdjclcfmcilaaVal18
import Derived.Test.YtjhdjclcfmcilaaVal24
import Derived.Test.YtjhdjclcfmcilaaVal26
namespace Go.Proofs.Ytjhdjclcfmcilaa
open Go.ChangeShapes Go.WideShapes Go.ChangeAt Go.RowKit
set_option linter.unusedVariables false
theorem single_yes {s : VSet} (h1 : s.t = false) (h2 : s.e = false) (h3 : s.st = 0) : singleN s = true := by
  unfold singleN; rw [h1, h2, h3]; rfl
theorem single_no {s : VSet} (h : s.t = true ∨ (s.t = false ∧ (s.st == 0) = false)) : singleN s = false := by
  unfold singleN
  rcases h with h | ⟨_, h⟩
  · rw [h]; rfl
  · rw [h, Bool.and_false, Bool.and_false]
theorem shapes_not {n m : VSet} (h : shapes n m) : (singleN n && singleN m) = false := by
  rcases h with h | h | ⟨_, _, h⟩ | ⟨_, _, h⟩
  · rw [single_no (.inl h), Bool.and_false]
  · rw [single_no (.inr h), Bool.and_false]
  · rw [single_no (.inl h), Bool.false_and]
  · rw [single_no (.inr h), Bool.false_and]
theorem apply_any (op : Int) (a b : VSet) (ha : a.wf) (hb : b.wf) (w : World) : Calls Try.prog 37 #[.int .i64 op, a.val, b.val] w (Ret (applyL op a b).val w) := by
  have wn := normL_wf ha
  have wm := normL_wf hb
  have vn := normL_valid a
  have vm := normL_valid b
  have x := known_any a ha
  have y := known_any b hb
  unfold applyL
  generalize normL a = n at *
  generalize normL b = m at *
  have p := pow32_bd m.lo wm.1
  have s1 := single_any n
  have s2 := single_any m
  refine apply_split op n m (fun R => Calls Try.prog 37 #[.int .i64 op, a.val, b.val] w (Ret R.val w)) ?_ ?_ ?_ ?_ ?_ ?_ ?_ ?_ ?_ ?_ ?_ ?_
  · intro h; exact ap_out op h a b n m x y w
  · intro o1 o2 h; exact ap_empty op o1 o2 a b n m h x y w
  · intro o1 o2 en em tn tm sn sm
    rw [single_yes tn en sn] at s1
    rw [single_yes tm em sm] at s2
    exact ap_one op o1 o2 a b n m (hide en) (hide em) s1 s2 _ (fun w => apply_in op n.lo m.lo (by omega) (by omega) wn.1 wn.2.1 wm.1 wm.2.1 w) x y w
  · intro h en em hs; exact ap_cmp op h a b n m (hide en) (hide em) _ _ s1 s2 (hide (shapes_not hs)) x y w
  · intro h en em hs; exact ap_top op h a b n m (hide en) (hide em) _ _ s1 s2 (hide (shapes_not hs)) x y w
  · intro h en em hs
    subst h
    unfold addN'
    cases tn : n.t
    · cases tm : m.t
      · simp only [Bool.or_self, Bool.false_eq_true, if_false]
        by_cases c : 4294967295 < n.hi + m.hi
        · rw [if_pos c]
          exact ap_fall3 a b n m (hide en) (hide em) _ _ s1 s2 (hide (shapes_not hs)) (hide (.inr (.inr ⟨tn, tm, c⟩))) ⟨wn.2.2.1, wn.2.2.2.1, wm.2.2.1, wm.2.2.2.1⟩ x y w
        · rw [if_neg c]
          exact ap_add a b n m (hide en) (hide em) _ _ s1 s2 (hide (shapes_not hs)) wn wm (hide tn) (hide tm) (valid_le vn tn en) (valid_le vm tm em) (by omega) _ (hide rfl) x y w
      · simp only [Bool.or_true, if_true]
        exact ap_fall3 a b n m (hide en) (hide em) _ _ s1 s2 (hide (shapes_not hs)) (hide (.inr (.inl ⟨tn, tm⟩))) ⟨wn.2.2.1, wn.2.2.2.1, wm.2.2.1, wm.2.2.2.1⟩ x y w
    · simp only [Bool.true_or, if_true]
      exact ap_fall3 a b n m (hide en) (hide em) _ _ s1 s2 (hide (shapes_not hs)) (hide (.inl tn)) ⟨wn.2.2.1, wn.2.2.2.1, wm.2.2.1, wm.2.2.2.1⟩ x y w
  · intro h en em hs
    subst h
    unfold subN'
    cases tn : n.t
    · cases tm : m.t
      · simp only [Bool.or_self, Bool.false_eq_true, if_false]
        by_cases c : n.lo < m.hi
        · rw [if_pos c]
          exact ap_fall4 a b n m (hide en) (hide em) _ _ s1 s2 (hide (shapes_not hs)) (hide (.inr (.inr ⟨tn, tm, c⟩))) x y w
        · rw [if_neg c]
          exact ap_sub a b n m (hide en) (hide em) _ _ s1 s2 (hide (shapes_not hs)) wn wm (hide tn) (hide tm) (valid_le vn tn en) (valid_le vm tm em) (by omega) _ (hide rfl) x y w
      · simp only [Bool.or_true, if_true]
        exact ap_fall4 a b n m (hide en) (hide em) _ _ s1 s2 (hide (shapes_not hs)) (hide (.inr (.inl ⟨tn, tm⟩))) x y w
    · simp only [Bool.true_or, if_true]
      exact ap_fall4 a b n m (hide en) (hide em) _ _ s1 s2 (hide (shapes_not hs)) (hide (.inl tn)) x y w
  · intro h en em hs
    rw [single_no hs] at s2
    exact ap_many op h a b n m (hide en) (hide em) _ s1 s2 x y w
  · intro h en em tm sm hs
    subst h
    rw [single_no hs] at s1
    rw [single_yes tm em sm] at s2
    exact ap_mul a b n m (hide en) (hide em) s1 s2 _ (scaled_any n wn (top_or_reg vn en) m.lo wm.1 wm.2.1) x y w
  · intro h en em tm sm hs
    subst h
    rw [single_no hs] at s1
    rw [single_yes tm em sm] at s2
    have e : shlL 1 m.lo = 2 ^ (m.lo % 32).toNat := by unfold shlL; rw [Int.one_mul]; exact Int.emod_eq_of_lt (by omega) (by omega)
    exact ap_shl a b n m (hide en) (hide em) (hide tm) s1 s2 _ (fun w => by have := shl_any 1 m.lo w wm.1 wm.2.1; rwa [e] at this) _ (scaled_any n wn (top_or_reg vn en) _ (by omega) (by omega)) x y w
  · intro h en em tm sm hs
    subst h
    rw [single_no hs] at s1
    rw [single_yes tm em sm] at s2
    exact ap_and a b n m (hide en) (hide em) s1 s2 _ (masked_any n wn m.lo wm.1 wm.2.1) x y w
  · intro h en em tm sm hs
    subst h
    have hs' := hs
    rw [single_no hs] at s1
    rw [single_yes tm em sm] at s2
    unfold shrN'
    rcases hs with tn | ⟨tn, sn⟩
    · rw [tn]
      exact ap_shr_top a b n m (hide en) (hide em) (hide tn) s1 s2 x y w
    · rw [tn]
      have k1 := applyK_bd 7 n.lo m.lo wn.1 wn.2.1 wm.1 wm.2.1
      have k2 := applyK_bd 7 n.hi m.lo wn.2.2.1 wn.2.2.2.1 wm.1 wm.2.1
      have e1 : applyK 7 n.lo m.lo = shrL n.lo m.lo := rfl
      have e2 : applyK 7 n.hi m.lo = shrL n.hi m.lo := rfl
      rw [e1] at k1
      rw [e2] at k2
      exact ap_shr a b n m (hide en) (hide em) (hide tn) (hide tm) s1 s2 _ _ (fun w => shr_any n.lo m.lo w wm.1 wm.2.1) (fun w => shr_any n.hi m.lo w wm.1 wm.2.1) _ (between_any (shrL n.lo m.lo) (shrL n.hi m.lo) 1 k1.1 k1.2 k2.1 k2.2 (by omega) (by omega)) x y w
end Go.Proofs.Ytjhdjclcfmcilaa
