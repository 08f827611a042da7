/-
  Apply of decompilerref14 for all operators and sets.
-/
import Derived.Test.YtjhdjclcfmcilaaVal20
import Derived.Test.YtjhdjclcfmcilaaVal21
namespace Go.Proofs.Ytjhdjclcfmcilaa
open Go.ChangeShapes Go.WideShapes Go.ChangeAt Go.RowKit
set_option linter.unusedVariables false
/-- The cases of Apply. -/
theorem apply_split (op : Int) (n m : VSet) (P : VSet → Prop)
    (h_out : (op < 3 ∨ (¬ op < 3 ∧ 15 < op)) → P topV)
    (h_empty : ¬ op < 3 → ¬ 15 < op → (n.e = true ∨ (n.e = false ∧ m.e = true)) → P emptyV)
    (h_one : ¬ op < 3 → ¬ 15 < op → n.e = false → m.e = false → n.t = false → m.t = false → n.st = 0 → m.st = 0 → P (oneV (applyK (op - 3).toNat n.lo m.lo)))
    (h_cmp : (op = 12 ∨ op = 13 ∨ op = 14 ∨ op = 15) → n.e = false → m.e = false → shapes n m → P (betweenL 0 1 1))
    (h_top : (op = 7 ∨ op = 8 ∨ op = 11) → n.e = false → m.e = false → shapes n m → P topV)
    (h_sum : op = 3 → n.e = false → m.e = false → shapes n m → P (addN' n m))
    (h_diff : op = 4 → n.e = false → m.e = false → shapes n m → P (subN' n m))
    (h_many : (op = 5 ∨ op = 9 ∨ op = 6 ∨ op = 10) → n.e = false → m.e = false → (m.t = true ∨ (m.t = false ∧ (m.st == 0) = false)) → P topV)
    (h_mul : op = 5 → n.e = false → m.e = false → m.t = false → m.st = 0 → (n.t = true ∨ (n.t = false ∧ (n.st == 0) = false)) → P (scaledN n m.lo))
    (h_shl : op = 9 → n.e = false → m.e = false → m.t = false → m.st = 0 → (n.t = true ∨ (n.t = false ∧ (n.st == 0) = false)) → P (scaledN n (2 ^ (m.lo % 32).toNat)))
    (h_and : op = 6 → n.e = false → m.e = false → m.t = false → m.st = 0 → (n.t = true ∨ (n.t = false ∧ (n.st == 0) = false)) → P (maskedN n m.lo))
    (h_shr : op = 10 → n.e = false → m.e = false → m.t = false → m.st = 0 → (n.t = true ∨ (n.t = false ∧ (n.st == 0) = false)) → P (shrN' n m)) :
    P (applyN op n m) := by
  unfold applyN
  by_cases c0 : op < 3 ∨ 15 < op
  · rw [if_pos c0]; exact h_out (by omega)
  rw [if_neg c0]
  have o1 : ¬ op < 3 := by omega
  have o2 : ¬ 15 < op := by omega
  cases en : n.e
  · cases em : m.e
    · simp only [Bool.or_self, Bool.false_eq_true, if_false]
      cases sm : singleN m
      · have hm : m.t = true ∨ (m.t = false ∧ (m.st == 0) = false) := by
          unfold singleN at sm
          rw [em] at sm
          cases tm : m.t
          · rw [tm] at sm; exact .inr ⟨rfl, by simpa using sm⟩
          · exact .inl rfl
        have hs : shapes n m := by
          rcases hm with h | h
          · exact .inl h
          · exact .inr (.inl h)
        simp only [Bool.and_false, Bool.false_eq_true, if_false]
        by_cases c1 : 12 ≤ op
        · rw [if_pos c1]; exact h_cmp (by omega) en em hs
        rw [if_neg c1]
        by_cases c2 : op = 3
        · rw [if_pos c2]; exact h_sum c2 en em hs
        rw [if_neg c2]
        by_cases c3 : op = 4
        · rw [if_pos c3]; exact h_diff c3 en em hs
        rw [if_neg c3]
        by_cases c4 : op = 7 ∨ op = 8 ∨ op = 11
        · exact h_top c4 en em hs
        · exact h_many (by omega) en em hm
      · obtain ⟨tm, _, stm⟩ := single_reg sm
        cases sn : singleN n
        · have hn : n.t = true ∨ (n.t = false ∧ (n.st == 0) = false) := by
            unfold singleN at sn
            rw [en] at sn
            cases tn : n.t
            · rw [tn] at sn; exact .inr ⟨rfl, by simpa using sn⟩
            · exact .inl rfl
          have hs : shapes n m := by
            rcases hn with h | h
            · exact .inr (.inr (.inl ⟨tm, stm, h⟩))
            · exact .inr (.inr (.inr ⟨tm, stm, h.1, h.2⟩))
          simp only [Bool.false_and, Bool.false_eq_true, if_false]
          by_cases c1 : 12 ≤ op
          · rw [if_pos c1]; exact h_cmp (by omega) en em hs
          rw [if_neg c1]
          by_cases c2 : op = 3
          · rw [if_pos c2]; exact h_sum c2 en em hs
          rw [if_neg c2]
          by_cases c3 : op = 4
          · rw [if_pos c3]; exact h_diff c3 en em hs
          rw [if_neg c3, if_pos trivial]
          by_cases c5 : op = 5
          · rw [if_pos c5]; exact h_mul c5 en em tm stm hn
          rw [if_neg c5]
          by_cases c9 : op = 9
          · rw [if_pos c9]; exact h_shl c9 en em tm stm hn
          rw [if_neg c9]
          by_cases c6 : op = 6
          · rw [if_pos c6]; exact h_and c6 en em tm stm hn
          rw [if_neg c6]
          by_cases c10 : op = 10
          · rw [if_pos c10]; exact h_shr c10 en em tm stm hn
          rw [if_neg c10]
          exact h_top (by omega) en em hs
        · obtain ⟨tn, _, stn⟩ := single_reg sn
          simp only [Bool.and_self, if_true]
          exact h_one o1 o2 en em tn tm stn stm
    · simp only [Bool.or_true, if_true]; exact h_empty o1 o2 (.inr ⟨en, em⟩)
  · simp only [Bool.true_or, if_true]; exact h_empty o1 o2 (.inl en)
theorem top_or_reg {n : VSet} (hv : validL n = true) (he : n.e = false) : n = topV ∨ reg n := by
  rcases reg_kinds hv with h | h | h
  · exact .inl h
  · rw [h] at he; cases he
  · exact .inr h
theorem rApply_any (op : Int) (a b : VSet) (ha : a.wf) (hb : b.wf) (w : World) : Calls Try.prog 38 #[.int .i64 op, a.val, b.val] w (Ret (applyL op a b).val w) := by
  have wn := normL_wf ha
  have wm := normL_wf hb
  have vn := normL_valid a
  have vm := normL_valid b
  have x := norm_any a ha
  have y := norm_any b hb
  unfold applyL
  generalize normL a = n at *
  generalize normL b = m at *
  have p := pow32_bd m.lo wm.1
  refine apply_split op n m (fun R => Calls Try.prog 38 #[.int .i64 op, a.val, b.val] w (Ret R.val w)) ?_ ?_ ?_ ?_ ?_ ?_ ?_ ?_ ?_ ?_ ?_ ?_
  · intro h; exact rap_out op h a b n m x y w
  · intro o1 o2 h; exact rap_empty op o1 o2 a b n m h x y w
  · intro o1 o2 en em tn tm sn sm
    exact rap_one op o1 o2 a b n m (hide en) (hide em) (hide tn) (hide tm) (hide sn) (hide sm) _ (fun w => rapply_in op n.lo m.lo (by omega) (by omega) wn.1 wn.2.1 wm.1 wm.2.1 w) x y w
  · intro h en em hs; exact rap_cmp op h a b n m (hide en) (hide em) (hide hs) x y w
  · intro h en em hs; exact rap_top op h a b n m (hide en) (hide em) (hide hs) x y w
  · intro h en em hs
    subst h
    exact rap_sum a b n m (hide en) (hide em) (hide hs) _ (sum_any n m wn wm (top_or_reg vn en) (top_or_reg vm em)) x y w
  · intro h en em hs
    subst h
    exact rap_diff a b n m (hide en) (hide em) (hide hs) _ (difference_any n m wn wm (top_or_reg vn en) (top_or_reg vm em)) x y w
  · intro h en em hs; exact rap_many op h a b n m (hide en) (hide em) (hide hs) x y w
  · intro h en em tm sm hs
    subst h
    exact rap_mul a b n m (hide en) (hide em) (hide tm) (hide sm) wm.1 wm.2.1 (hide hs) _ (product_any n wn (top_or_reg vn en) m.lo wm.1 wm.2.1) x y w
  · intro h en em tm sm hs
    subst h
    exact rap_shl a b n m (hide en) (hide em) (hide tm) (hide sm) wm.1 wm.2.1 (hide hs) _ (fun w => (power_any m.lo wm.1 wm.2.1 w).mono fun e w' h => ⟨h.1, h.2.symm⟩) _ (product_any n wn (top_or_reg vn en) _ (by omega) (by omega)) x y w
  · intro h en em tm sm hs
    subst h
    exact rap_and a b n m (hide en) (hide em) (hide tm) (hide sm) wm.1 wm.2.1 (hide hs) _ (mask_any n wn m.lo wm.1 wm.2.1) x y w
  · intro h en em tm sm hs
    subst h
    unfold shrN'
    rcases hs with tn | ⟨tn, sn⟩
    · rw [tn]
      exact rap_shr_top a b n m (hide en) (hide em) (hide tm) (hide sm) (hide tn) x y w
    · rw [tn]
      have k1 := applyK_bd 7 n.lo m.lo wn.1 wn.2.1 wm.1 wm.2.1
      have k2 := applyK_bd 7 n.hi m.lo wn.2.2.1 wn.2.2.2.1 wm.1 wm.2.1
      have e1 : applyK 7 n.lo m.lo = shrL n.lo m.lo := rfl
      have e2 : applyK 7 n.hi m.lo = shrL n.hi m.lo := rfl
      rw [e1] at k1
      rw [e2] at k2
      exact rap_shr a b n m wn (hide en) (hide em) (hide tm) (hide sm) wm.1 wm.2.1 (hide tn) (hide sn) _ (by omega) p.2 (power_any m.lo wm.1 wm.2.1) _ (rbetween_any (shrL n.lo m.lo) (shrL n.hi m.lo) 1 k1.1 (by omega) k2.1 k2.2 (by omega) (by omega)) x y w
end Go.Proofs.Ytjhdjclcfmcilaa
