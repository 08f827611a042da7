/-
  Plain laws of value sets: the numbers of a set, Within, Join, Widen, Apply, Meet: what they cover, and that they are valid. No walk.
-/
import Derived.Test.YtjhdjclcfmcilaaVal8
import Derived.Test.YtjhdjclcfmcilaaBits2
namespace Go.Proofs.Ytjhdjclcfmcilaa
open Go.ChangeShapes Go.WideShapes Go.ChangeAt Go.RowKit
set_option linter.unusedVariables false

/-! ### The numbers of a set. -/
/-- The three kinds of valid sets. -/
theorem kinds {s : VSet} (hv : validL s = true) : s = topV ∨ s = emptyV ∨ (s.t = false ∧ s.e = false ∧ s.lo ≤ s.hi ∧ s.st ∣ s.hi - s.lo ∧ (s.st = 0 ↔ s.lo = s.hi) ∧ ¬ (s.lo = 0 ∧ s.hi = 4294967295 ∧ s.st = 1)) := by
  obtain ⟨e, t, lo, hi, st⟩ := s
  by_cases h : t = true ∨ e = true
  · rw [validL_te e t lo hi st h, Bool.or_eq_true] at hv
    rcases hv with h | h
    · exact .inl (of_decide_eq_true h)
    · exact .inr (.inl (of_decide_eq_true h))
  · obtain rfl : t = false := by cases t <;> simp_all
    obtain rfl : e = false := by cases e <;> simp_all
    refine .inr (.inr ⟨rfl, rfl, ?_⟩)
    dsimp only
    rcases valid_cases lo hi st hv with ⟨rfl, rfl⟩ | ⟨h1, h2, h3, h4⟩
    · exact ⟨Int.le_refl _, by rw [Int.sub_self]; exact Int.dvd_zero _, by simp, by omega⟩
    · exact ⟨by omega, Int.dvd_of_emod_eq_zero h3, by omega, by omega⟩
def reg (s : VSet) : Prop := s.t = false ∧ s.e = false ∧ s.lo ≤ s.hi ∧ s.st ∣ s.hi - s.lo ∧ (s.st = 0 ↔ s.lo = s.hi) ∧ ¬ (s.lo = 0 ∧ s.hi = 4294967295 ∧ s.st = 1)
theorem con_top (x : Int) : containsN topV x = true := rfl
theorem con_empty (x : Int) : containsN emptyV x = false := rfl
theorem con_reg {s : VSet} (h : reg s) (x : Int) : containsN s x = true ↔ s.lo ≤ x ∧ x ≤ s.hi ∧ s.st ∣ x - s.lo := by
  obtain ⟨h1, h2, h3, h4, h5, h6⟩ := h
  unfold containsN
  simp only [h1, h2, Bool.or_self, Bool.false_eq_true, if_false]
  by_cases c : s.st = 0
  · rw [c]; simp only [beq_self_eq_true, if_true, beq_iff_eq, Int.zero_dvd]; have := h5.1 c; omega
  · have : (s.st == 0) = false := by rw [beq_eq_false_iff_ne]; exact c
    rw [this]; simp only [Bool.false_eq_true, if_false, Bool.and_eq_true, decide_eq_true_eq, beq_iff_eq, Int.dvd_iff_emod_eq_zero]
theorem con_one (n x : Int) : containsN (oneV n) x = true ↔ x = n := by
  show (x == n) = true ↔ _
  exact beq_iff_eq
theorem con_between (lo hi st x : Int) (s0 : 0 ≤ st) (x0 : 0 ≤ x) (x1 : x < 4294967296) : containsN (betweenL lo hi st) x = true ↔ lo ≤ x ∧ x ≤ hi ∧ st ∣ x - lo := by
  rcases betweenL_cases lo hi st with ⟨h, e⟩ | ⟨h1, h2, e⟩ | ⟨c1, c2, c3, ⟨h1, h2, h3, e⟩ | ⟨h1, e⟩⟩ <;> rw [e]
  · rw [con_empty]; constructor
    · intro h; cases h
    · omega
  · rw [con_one]
    constructor
    · rintro rfl; exact ⟨Int.le_refl _, h1, by rw [Int.sub_self]; exact Int.dvd_zero _⟩
    · rintro ⟨a1, a2, a3⟩
      rcases h2 with rfl | h2
      · rw [Int.zero_dvd] at a3; omega
      · have := Int.eq_zero_of_dvd_of_natAbs_lt_natAbs a3 (by omega); omega
  · rw [con_top]; subst h1 h2 h3
    exact ⟨fun _ => ⟨x0, by omega, Int.one_dvd _⟩, fun _ => rfl⟩
  · have m1 := Int.emod_nonneg (hi - lo) c2
    have m2 := Int.emod_lt_of_pos (hi - lo) (by omega : 0 < st)
    show (if (false || false) = true then false else if (st == 0) = true then x == lo else decide (lo ≤ x) && (decide (x ≤ hi - (hi - lo) % st) && ((x - lo) % st == 0))) = true ↔ _
    have : (st == 0) = false := by rw [beq_eq_false_iff_ne]; exact c2
    rw [this]; simp only [Bool.or_self, Bool.false_eq_true, if_false, Bool.and_eq_true, decide_eq_true_eq, beq_iff_eq, Int.dvd_iff_emod_eq_zero]
    constructor
    · rintro ⟨a1, a2, a3⟩; exact ⟨a1, by omega, a3⟩
    · rintro ⟨a1, a2, a3⟩
      refine ⟨a1, ?_, a3⟩
      have d : (hi - (hi - lo) % st - x) % st = 0 := by
        have e1 : hi - (hi - lo) % st - x = ((hi - lo) - (hi - lo) % st) - (x - lo) := by omega
        rw [e1]
        exact Int.emod_eq_zero_of_dvd (Int.dvd_sub Int.dvd_self_sub_emod (Int.dvd_of_emod_eq_zero a3))
      have d2 := Int.dvd_of_emod_eq_zero d
      rcases Int.lt_or_le (hi - (hi - lo) % st) x with hlt | hle
      · exfalso
        have d3 : st ∣ x - (hi - (hi - lo) % st) := by have := (Int.dvd_neg).2 d2; rwa [Int.neg_sub] at this
        have := Int.le_of_dvd (by omega) d3
        omega
      · exact hle
theorem reg_kinds {s : VSet} (hv : validL s = true) : s = topV ∨ s = emptyV ∨ reg s := kinds hv
theorem within_reg {n m : VSet} (m0 : 0 ≤ m.st) (hn : reg n) (hm : reg m) : withinN n m = true ↔ m.lo ≤ n.lo ∧ n.hi ≤ m.hi ∧ m.st ∣ n.lo - m.lo ∧ m.st ∣ n.st := by
  have k1 := con_reg hm n.lo
  have k2 := con_reg hm n.hi
  obtain ⟨h1, h2, h3, h4, h5, h6⟩ := hn
  obtain ⟨g1, g2, g3, g4, g5, g6⟩ := hm
  unfold withinN
  simp only [h1, h2, g1, g2, Bool.or_self, Bool.false_eq_true, if_false, Bool.and_eq_true, k1, k2, Bool.or_eq_true, decide_eq_true_eq, beq_iff_eq]
  constructor
  · rintro ⟨⟨a1, a2, a3⟩, ⟨a4, a5, a6⟩, a7⟩
    refine ⟨a1, a5, a3, ?_⟩
    rcases a7 with a7 | ⟨_, a7⟩
    · rw [a7]; exact Int.dvd_zero _
    · exact Int.dvd_of_emod_eq_zero a7
  · rintro ⟨a1, a2, a3, a4⟩
    refine ⟨⟨a1, by omega, a3⟩, ⟨by omega, a2, ?_⟩, ?_⟩
    · have : n.hi - m.lo = (n.hi - n.lo) + (n.lo - m.lo) := by omega
      rw [this]; exact Int.dvd_add (Int.dvd_trans a4 h4) a3
    · by_cases c : n.st = 0
      · exact .inl c
      · refine .inr ⟨?_, Int.emod_eq_zero_of_dvd a4⟩
        rcases Int.lt_or_eq_of_le m0 with h | h
        · exact h
        · rw [← h, Int.zero_dvd] at a4; exact absurd a4 c

theorem within_empty (m : VSet) : withinN emptyV m = true := rfl
theorem within_top (n : VSet) : withinN n topV = true := by unfold withinN; simp [topV]
/-- Within is the inclusion of the sets of numbers. -/
theorem within_sub {n m : VSet} (wm : m.wf) (vn : validL n = true) (vm : validL m = true) (h : withinN n m = true) (x : Int) (hx : containsN n x = true) : containsN m x = true := by
  rcases reg_kinds vn with rfl | rfl | hn
  · rcases reg_kinds vm with rfl | rfl | hm
    · exact con_top x
    · cases h
    · obtain ⟨g1, g2, _⟩ := hm
      exfalso
      have : withinN topV m = false := by unfold withinN; simp [g1, topV]
      rw [this] at h; cases h
  · cases hx
  · rcases reg_kinds vm with rfl | rfl | hm
    · exact con_top x
    · obtain ⟨g1, g2, _⟩ := hn
      exfalso
      have : withinN n emptyV = false := by unfold withinN; simp [g1, g2, emptyV]
      rw [this] at h; cases h
    · rw [within_reg wm.2.2.2.2.1 hn hm] at h
      rw [con_reg hn] at hx
      rw [con_reg hm]
      obtain ⟨a1, a2, a3, a4⟩ := h
      obtain ⟨b1, b2, b3⟩ := hx
      refine ⟨by omega, by omega, ?_⟩
      have : x - m.lo = (x - n.lo) + (n.lo - m.lo) := by omega
      rw [this]; exact Int.dvd_add (Int.dvd_trans a4 b3) a3
theorem sub_within {n m : VSet} (wn : n.wf) (wm : m.wf) (vn : validL n = true) (vm : validL m = true) (h : ∀ x, 0 ≤ x → x < 4294967296 → containsN n x = true → containsN m x = true) : withinN n m = true := by
  obtain ⟨n0, n1, n2, n3, n4, n5⟩ := wn
  obtain ⟨m0, m1, m2, m3, m4, m5⟩ := wm
  rcases reg_kinds vm with rfl | rfl | hm
  · exact within_top n
  · rcases reg_kinds vn with rfl | rfl | hn
    · exact h 0 (by omega) (by omega) rfl
    · rfl
    · have := h n.lo n0 n1 ((con_reg hn _).2 ⟨Int.le_refl _, hn.2.2.1, by rw [Int.sub_self]; exact Int.dvd_zero _⟩)
      cases this
  · rcases reg_kinds vn with rfl | rfl | hn
    · have a := (con_reg hm _).1 (h 0 (by omega) (by omega) rfl)
      have b := (con_reg hm _).1 (h 1 (by omega) (by omega) rfl)
      have c := (con_reg hm _).1 (h 4294967295 (by omega) (by omega) rfl)
      exfalso
      apply hm.2.2.2.2.2
      have e1 : m.lo = 0 := by omega
      refine ⟨e1, by omega, ?_⟩
      have d := b.2.2
      rw [e1, Int.sub_zero] at d
      have := Int.le_of_dvd (by omega) d
      have z : m.st ≠ 0 := by intro z; rw [z, Int.zero_dvd] at d; omega
      omega
    · rfl
    · rw [within_reg m4 hn hm]
      have l0 := (con_reg hn n.lo).2 ⟨Int.le_refl _, hn.2.2.1, by rw [Int.sub_self]; exact Int.dvd_zero _⟩
      have l1 := (con_reg hn n.hi).2 ⟨hn.2.2.1, Int.le_refl _, hn.2.2.2.1⟩
      have a := (con_reg hm _).1 (h n.lo n0 n1 l0)
      have b := (con_reg hm _).1 (h n.hi n2 n3 l1)
      refine ⟨a.1, b.2.1, a.2.2, ?_⟩
      by_cases c : n.st = 0
      · rw [c]; exact Int.dvd_zero _
      · have lt : n.lo < n.hi := by
          rcases Int.lt_or_eq_of_le hn.2.2.1 with q | q
          · exact q
          · exact absurd (hn.2.2.2.2.1.2 q) c
        have le := Int.le_of_dvd (by omega) hn.2.2.2.1
        have l2 := (con_reg hn (n.lo + n.st)).2 ⟨by omega, by omega, by rw [show n.lo + n.st - n.lo = n.st by omega]; exact Int.dvd_refl _⟩
        have d := (con_reg hm _).1 (h (n.lo + n.st) (by omega) (by omega) l2)
        have : n.st = (n.lo + n.st - m.lo) - (n.lo - m.lo) := by omega
        rw [this]
        exact Int.dvd_sub d.2.2 a.2.2
theorem within_refl {n : VSet} (wn : n.wf) (vn : validL n = true) : withinN n n = true := sub_within wn wn vn vn fun _ _ _ h => h
theorem within_trans {a b c : VSet} (wa : a.wf) (wb : b.wf) (wc : c.wf) (va : validL a = true) (vb : validL b = true) (vc : validL c = true) (h1 : withinN a b = true) (h2 : withinN b c = true) : withinN a c = true :=
  sub_within wa wc va vc fun x _ _ h => within_sub wc vb vc h2 x (within_sub wb va vb h1 x h)
theorem within_anti {a b : VSet} (wa : a.wf) (wb : b.wf) (va : validL a = true) (vb : validL b = true) (h1 : withinN a b = true) (h2 : withinN b a = true) : a = b := by
  rcases reg_kinds va with rfl | rfl | ha
  · rcases reg_kinds vb with rfl | rfl | hb
    · rfl
    · cases h1
    · have : withinN topV b = false := by unfold withinN; simp [hb.1, topV]
      rw [this] at h1; cases h1
  · rcases reg_kinds vb with rfl | rfl | hb
    · cases h2
    · rfl
    · have : withinN b emptyV = false := by unfold withinN; simp [hb.1, hb.2.1, emptyV]
      rw [this] at h2; cases h2
  · rcases reg_kinds vb with rfl | rfl | hb
    · have : withinN topV a = false := by unfold withinN; simp [ha.1, topV]
      rw [this] at h2; cases h2
    · have : withinN a emptyV = false := by unfold withinN; simp [ha.1, ha.2.1, emptyV]
      rw [this] at h1; cases h1
    · rw [within_reg wb.2.2.2.2.1 ha hb] at h1
      rw [within_reg wa.2.2.2.2.1 hb ha] at h2
      have e := Int.dvd_antisymm wa.2.2.2.2.1 wb.2.2.2.2.1 h2.2.2.2 h1.2.2.2
      obtain ⟨e1, t1, lo1, hi1, st1⟩ := a
      obtain ⟨e2, t2, lo2, hi2, st2⟩ := b
      have := ha.1; have := ha.2.1; have := hb.1; have := hb.2.1
      dsimp only at *
      simp only [VSet.mk.injEq]
      refine ⟨by simp_all, by simp_all, by omega, by omega, e⟩

/-! ### Join, Widen -/
theorem dvd_gcdL (d a b : Int) (a0 : 0 ≤ a) (b0 : 0 ≤ b) (ha : d ∣ a) (hb : d ∣ b) : d ∣ gcdL a b := by
  obtain ⟨A, rfl⟩ := Int.eq_ofNat_of_zero_le a0
  obtain ⟨B, rfl⟩ := Int.eq_ofNat_of_zero_le b0
  unfold gcdL
  rw [Int.toNat_natCast, Int.toNat_natCast]
  have h1 := Int.natAbs_dvd_natAbs.2 ha
  have h2 := Int.natAbs_dvd_natAbs.2 hb
  rw [Int.natAbs_natCast] at h1 h2
  have h3 := Int.natCast_dvd_natCast.2 (Nat.dvd_gcd h1 h2)
  exact Int.dvd_trans Int.dvd_natAbs_self h3
theorem join_reg {a b : VSet} (h1 : a.t = false) (h2 : a.e = false) (h3 : b.t = false) (h4 : b.e = false) :
    joinN a b = betweenL (if b.lo < a.lo then b.lo else a.lo) (if a.hi < b.hi then b.hi else a.hi) (gcdL (gcdL a.st b.st) ((if a.lo < b.lo then b.lo else a.lo) - if b.lo < a.lo then b.lo else a.lo)) := by
  unfold joinN; simp only [h1, h2, h3, h4, Bool.or_self, Bool.false_eq_true, if_false]
theorem join_con {a b : VSet} (wa : a.wf) (wb : b.wf) (va : validL a = true) (vb : validL b = true) (x : Int) (x0 : 0 ≤ x) (x1 : x < 4294967296) (h : containsN a x = true ∨ containsN b x = true) : containsN (joinN a b) x = true := by
  rcases reg_kinds va with rfl | rfl | ha
  · rfl
  · rcases reg_kinds vb with rfl | rfl | hb
    · rfl
    · rcases h with h | h <;> cases h
    · have : joinN emptyV b = b := by unfold joinN; simp [hb.1, emptyV]
      rw [this]
      rcases h with h | h
      · cases h
      · exact h
  · rcases reg_kinds vb with rfl | rfl | hb
    · have : joinN a topV = topV := by unfold joinN; simp [topV]
      rw [this]; rfl
    · have : joinN a emptyV = a := by unfold joinN; simp [ha.1, ha.2.1, emptyV]
      rw [this]
      rcases h with h | h
      · exact h
      · cases h
    · rw [join_reg ha.1 ha.2.1 hb.1 hb.2.1]
      obtain ⟨a0, a1, a2, a3, a4, a5⟩ := wa
      obtain ⟨b0, b1, b2, b3, b4, b5⟩ := wb
      rw [con_between _ _ _ _ (gcdL_nonneg _ _) x0 x1]
      rw [con_reg ha, con_reg hb] at h
      have g1 := gcdL_dvd_left a.st b.st a4
      have g2 := gcdL_dvd_right a.st b.st b4
      have g3 := gcdL_dvd_left (gcdL a.st b.st) ((if a.lo < b.lo then b.lo else a.lo) - if b.lo < a.lo then b.lo else a.lo) (gcdL_nonneg _ _)
      have g4 := gcdL_dvd_right (gcdL a.st b.st) ((if a.lo < b.lo then b.lo else a.lo) - if b.lo < a.lo then b.lo else a.lo) (by omega)
      generalize gcdL (gcdL a.st b.st) ((if a.lo < b.lo then b.lo else a.lo) - if b.lo < a.lo then b.lo else a.lo) = G at *
      generalize gcdL a.st b.st = K at *
      have d : G ∣ a.lo - (if b.lo < a.lo then b.lo else a.lo) ∧ G ∣ b.lo - (if b.lo < a.lo then b.lo else a.lo) := by
        by_cases c : b.lo < a.lo
        · rw [if_pos c, if_neg (by omega)] at g4
          rw [if_pos c]
          exact ⟨g4, by rw [Int.sub_self]; exact Int.dvd_zero _⟩
        · by_cases c2 : a.lo < b.lo
          · rw [if_neg c, if_pos c2] at g4
            rw [if_neg c]
            exact ⟨by rw [Int.sub_self]; exact Int.dvd_zero _, g4⟩
          · have : a.lo = b.lo := by omega
            rw [if_neg c, this, Int.sub_self]; exact ⟨Int.dvd_zero _, Int.dvd_zero _⟩
      rcases h with ⟨k1, k2, k3⟩ | ⟨k1, k2, k3⟩
      · refine ⟨by omega, by omega, ?_⟩
        have : x - (if b.lo < a.lo then b.lo else a.lo) = (x - a.lo) + (a.lo - (if b.lo < a.lo then b.lo else a.lo)) := by omega
        rw [this]; exact Int.dvd_add (Int.dvd_trans (Int.dvd_trans g3 g1) k3) d.1
      · refine ⟨by omega, by omega, ?_⟩
        have : x - (if b.lo < a.lo then b.lo else a.lo) = (x - b.lo) + (b.lo - (if b.lo < a.lo then b.lo else a.lo)) := by omega
        rw [this]; exact Int.dvd_add (Int.dvd_trans (Int.dvd_trans g3 g2) k3) d.2
/-- Join is the least cover among sets that are within a: used only where b is within a. -/
theorem join_absorb {a b : VSet} (wa : a.wf) (wb : b.wf) (va : validL a = true) (vb : validL b = true) (h : withinN b a = true) (x : Int) (x0 : 0 ≤ x) (x1 : x < 4294967296) (hx : containsN (joinN a b) x = true) : containsN a x = true := by
  rcases reg_kinds va with rfl | rfl | ha
  · rfl
  · rcases reg_kinds vb with rfl | rfl | hb
    · cases h
    · exact hx
    · have : withinN b emptyV = false := by unfold withinN; simp [hb.1, hb.2.1, emptyV]
      rw [this] at h; cases h
  · rcases reg_kinds vb with rfl | rfl | hb
    · have : withinN topV a = false := by unfold withinN; simp [ha.1, topV]
      rw [this] at h; cases h
    · have : joinN a emptyV = a := by unfold joinN; simp [ha.1, ha.2.1, emptyV]
      rw [this] at hx; exact hx
    · rw [join_reg ha.1 ha.2.1 hb.1 hb.2.1, con_between _ _ _ _ (gcdL_nonneg _ _) x0 x1] at hx
      obtain ⟨a0, a1, a2, a3, a4, a5⟩ := wa
      obtain ⟨b0, b1, b2, b3, b4, b5⟩ := wb
      rw [within_reg a4 hb ha] at h
      obtain ⟨k1, k2, k3, k4⟩ := h
      rw [con_reg ha]
      have e1 : (if b.lo < a.lo then b.lo else a.lo) = a.lo := by omega
      have e2 : (if a.hi < b.hi then b.hi else a.hi) = a.hi := by omega
      rw [e1, e2] at hx
      refine ⟨hx.1, hx.2.1, Int.dvd_trans ?_ hx.2.2⟩
      refine dvd_gcdL _ _ _ (gcdL_nonneg _ _) (by omega) (dvd_gcdL _ _ _ a4 b4 (Int.dvd_refl _) k4) ?_
      by_cases c2 : a.lo < b.lo
      · rw [if_pos c2]; exact k3
      · rw [if_neg c2, Int.sub_self]; exact Int.dvd_zero _

theorem emod_bd (a b : Int) (ha : 0 ≤ a) (hb : 0 ≤ b) : 0 ≤ a % b ∧ a % b ≤ a := by
  by_cases c : b = 0
  · subst c; rw [Int.emod_zero]; omega
  · have h1 := Int.emod_nonneg a c
    have h2 := Int.mul_ediv_add_emod a b
    have h3 := Int.mul_nonneg hb (Int.ediv_nonneg ha hb)
    omega
theorem widen_con {a b : VSet} (wa : a.wf) (wb : b.wf) (va : validL a = true) (vb : validL b = true) (x : Int) (x0 : 0 ≤ x) (x1 : x < 4294967296) (h : containsN (joinN a b) x = true) : containsN (widenN a b) x = true := by
  unfold widenN
  cases q : withinN b a
  · simp only [Bool.false_eq_true, if_false]
    rcases reg_kinds va with rfl | rfl | ha
    · rfl
    · rcases reg_kinds vb with rfl | rfl | hb
      · rfl
      · cases q
      · have : joinN emptyV b = b := by unfold joinN; simp [hb.1, emptyV]
        rw [this] at h; exact h
    · rcases reg_kinds vb with rfl | rfl | hb
      · simp only [ha.1, ha.2.1, topV, Bool.or_true, if_true, Bool.false_eq_true, if_false]; rfl
      · cases q
      · simp only [ha.1, ha.2.1, hb.1, Bool.or_self, Bool.false_eq_true, if_false]
        cases t : (joinN a b).t
        · simp only [Bool.false_eq_true, if_false]
          have vj := joinN_valid wa wb va vb
          have wj := joinN_wf wa wb
          generalize joinN a b = c at *
          rcases reg_kinds vj with rfl | rfl | hc
          · cases t
          · cases h
          · rw [con_reg hc] at h
            rw [con_between _ _ _ _ wj.2.2.2.2.1 x0 x1]
            obtain ⟨c0, c1, c2, c3, c4, c5⟩ := wj
            obtain ⟨k1, k2, k3⟩ := h
            refine ⟨?_, by omega, ?_⟩
            · by_cases g : c.lo < a.lo
              · rw [if_pos g]
                have := emod_bd c.lo c.st c0 c4
                omega
              · rw [if_neg g]; exact k1
            · by_cases g : c.lo < a.lo
              · rw [if_pos g]
                have : x - c.lo % c.st = (x - c.lo) + (c.lo - c.lo % c.st) := by omega
                rw [this]; exact Int.dvd_add k3 Int.dvd_self_sub_emod
              · rw [if_neg g]; exact k3
        · simp only [if_true]; exact h
  · simp only [if_true]
    exact join_absorb wa wb va vb q x x0 x1 h
theorem widenN_wf {a b : VSet} (wa : a.wf) (wb : b.wf) (va : validL a = true) (vb : validL b = true) : (widenN a b).wf := by
  unfold widenN
  cases q : withinN b a
  · simp only [Bool.false_eq_true, if_false]
    cases a.e
    · simp only [Bool.false_eq_true, if_false]
      cases p : a.t || b.t
      · simp only [Bool.false_eq_true, if_false]
        have wj := joinN_wf wa wb
        cases t : (joinN a b).t
        · simp only [Bool.false_eq_true, if_false]
          obtain ⟨c0, c1, c2, c3, c4, c5⟩ := wj
          have m0 := emod_bd (joinN a b).lo (joinN a b).st c0 c4
          exact betweenL_wf _ _ _ (by split <;> omega) (by split <;> omega) (by split <;> omega) (by split <;> omega) c4 c5
        · simp only [if_true]; exact wj
      · simp only [if_true]; exact topV_wf
    · simp only [if_true]; exact wb
  · simp only [if_true]; exact wa
theorem widenN_valid {a b : VSet} (wa : a.wf) (wb : b.wf) (va : validL a = true) (vb : validL b = true) : validL (widenN a b) = true := by
  unfold widenN
  cases q : withinN b a
  · simp only [Bool.false_eq_true, if_false]
    cases a.e
    · simp only [Bool.false_eq_true, if_false]
      cases p : a.t || b.t
      · simp only [Bool.false_eq_true, if_false]
        have wj := joinN_wf wa wb
        cases t : (joinN a b).t
        · simp only [Bool.false_eq_true, if_false]
          obtain ⟨c0, c1, c2, c3, c4, c5⟩ := wj
          have m0 := emod_bd (joinN a b).lo (joinN a b).st c0 c4
          exact betweenL_valid _ _ _ (by split <;> omega) (by split <;> omega) c4
        · simp only [if_true]; exact joinN_valid wa wb va vb
      · rfl
    · simp only [if_true]; exact vb
  · simp only [if_true]; exact va
theorem join_within {a b : VSet} (wa : a.wf) (wb : b.wf) (va : validL a = true) (vb : validL b = true) : withinN a (joinN a b) = true ∧ withinN b (joinN a b) = true :=
  ⟨sub_within wa (joinN_wf wa wb) va (joinN_valid wa wb va vb) fun x x0 x1 h => join_con wa wb va vb x x0 x1 (.inl h),
   sub_within wb (joinN_wf wa wb) vb (joinN_valid wa wb va vb) fun x x0 x1 h => join_con wa wb va vb x x0 x1 (.inr h)⟩
theorem widen_within {a b : VSet} (wa : a.wf) (wb : b.wf) (va : validL a = true) (vb : validL b = true) : withinN (joinN a b) (widenN a b) = true ∧ withinN a (widenN a b) = true ∧ withinN b (widenN a b) = true := by
  have h : withinN (joinN a b) (widenN a b) = true := sub_within (joinN_wf wa wb) (widenN_wf wa wb va vb) (joinN_valid wa wb va vb) (widenN_valid wa wb va vb) fun x x0 x1 h => widen_con wa wb va vb x x0 x1 h
  have j := join_within wa wb va vb
  exact ⟨h, within_trans wa (joinN_wf wa wb) (widenN_wf wa wb va vb) va (joinN_valid wa wb va vb) (widenN_valid wa wb va vb) j.1 h,
    within_trans wb (joinN_wf wa wb) (widenN_wf wa wb va vb) vb (joinN_valid wa wb va vb) (widenN_valid wa wb va vb) j.2 h⟩

/-! ### Apply: what it returns, and that it covers. -/
def singleN (s : VSet) : Bool := !s.t && (!s.e && (s.st == 0))
def scaledN (a : VSet) (k : Int) : VSet := if a.t then topV else if 4294967295 < a.hi * k then topV else betweenL (a.lo * k) (a.hi * k) (a.st * k)
/-- The lowest bit of n that is 1. -/
def lowL (n : Int) : Int := bits .and .u32 n ((0 - n) % 4294967296)
def maskedN (a : VSet) (n : Int) : VSet := betweenL 0 (if a.t then n else if a.hi < n then a.hi else n) (lowL n)
def addN' (a b : VSet) : VSet := if a.t || b.t then topV else if 4294967295 < a.hi + b.hi then topV else betweenL (a.lo + b.lo) (a.hi + b.hi) (gcdL a.st b.st)
def subN' (a b : VSet) : VSet := if a.t || b.t then topV else if a.lo < b.hi then topV else betweenL (a.lo - b.hi) (a.hi - b.lo) (gcdL a.st b.st)
def shrN' (a b : VSet) : VSet := if a.t then topV else betweenL (shrL a.lo b.lo) (shrL a.hi b.lo) 1
def applyN (op : Int) (a b : VSet) : VSet :=
  if op < 3 ∨ 15 < op then topV
  else if a.e || b.e then emptyV
  else if singleN a && singleN b then oneV (applyK (op - 3).toNat a.lo b.lo)
  else if 12 ≤ op then betweenL 0 1 1
  else if op = 3 then addN' a b
  else if op = 4 then subN' a b
  else if singleN b then
    if op = 5 then scaledN a b.lo
    else if op = 9 then scaledN a (2 ^ (b.lo % 32).toNat)
    else if op = 6 then maskedN a b.lo
    else if op = 10 then shrN' a b
    else topV
  else topV
def applyL (op : Int) (a b : VSet) : VSet := applyN op (normL a) (normL b)

theorem lowbit_nat (k q : Nat) (h : 2 ^ k * (2 * q + 1) < 4294967296) : (2 ^ k * (2 * q + 1)) &&& (4294967296 - 2 ^ k * (2 * q + 1)) = 2 ^ k := by
  have hp : 0 < 2 ^ k := Nat.two_pow_pos k
  have e1 : 2 ^ k * (2 * q + 1) = (2 ^ k * (2 * q + 1) - 1) + 1 := by
    have : 0 < 2 ^ k * (2 * q + 1) := Nat.mul_pos hp (by omega)
    omega
  have e2 : 2 ^ k * (2 * q + 1) - 1 = 2 ^ k * (2 * q) + (2 ^ k - 1) := by
    have : 2 ^ k * (2 * q + 1) = 2 ^ k * (2 * q) + 2 ^ k := by rw [Nat.mul_add, Nat.mul_one]
    omega
  have e3 : (4294967296 : Nat) = 2 ^ 32 := by decide
  apply Nat.eq_of_testBit_eq
  intro i
  rw [Nat.testBit_and, Nat.testBit_two_pow]
  have t1 : (4294967296 - 2 ^ k * (2 * q + 1)).testBit i = (decide (i < 32) && !(2 ^ k * (2 * q + 1) - 1).testBit i) := by
    conv => lhs; rw [e1, e3]
    exact Nat.testBit_two_pow_sub_succ (by omega) i
  have t2 : (2 ^ k * (2 * q) + (2 ^ k - 1)).testBit i = if i < k then (2 ^ k - 1).testBit i else (2 * q).testBit (i - k) := Nat.testBit_two_pow_mul_add _ (by omega) i
  have t3 : (2 ^ k * (2 * q + 1)).testBit i = if i < k then (0 : Nat).testBit i else (2 * q + 1).testBit (i - k) := by
    have := Nat.testBit_two_pow_mul_add (2 * q + 1) (i := k) (b := 0) (by omega) i
    rwa [Nat.add_zero] at this
  rw [t1, e2, t2, t3]
  by_cases c : i < k
  · rw [if_pos c, Nat.zero_testBit, Bool.false_and]
    symm; rw [decide_eq_false_iff_not]; omega
  · rw [if_neg c, if_neg c]
    by_cases d : i = k
    · subst d
      have k32 : i < 32 := by
        rcases Nat.lt_or_ge i 32 with h1 | h1
        · exact h1
        · exfalso
          have := Nat.pow_le_pow_right (n := 2) (by omega) h1
          have h2 : 2 ^ i ≤ 2 ^ i * (2 * q + 1) := Nat.le_mul_of_pos_right _ (by omega)
          omega
      rw [Nat.sub_self, decide_eq_true k32, decide_eq_true rfl]
      simp only [Nat.testBit_zero]
      have a1 : (2 * q + 1) % 2 = 1 := by omega
      have a2 : (2 * q) % 2 = 0 := by omega
      rw [a1, a2]; rfl
    · have a : (2 * q + 1).testBit (i - k) = (2 * q).testBit (i - k) := by
        obtain ⟨j, hj⟩ : ∃ j, i - k = j + 1 := ⟨i - k - 1, by omega⟩
        rw [hj, Nat.testBit_succ, Nat.testBit_succ]
        have a1 : (2 * q + 1) / 2 = q := by omega
        have a2 : (2 * q) / 2 = q := by omega
        rw [a1, a2]
      rw [a]
      have : decide (k = i) = false := by rw [decide_eq_false_iff_not]; omega
      rw [this]
      cases (2 * q).testBit (i - k) <;> simp
theorem two_part (n : Nat) (h : 0 < n) : ∃ k q, n = 2 ^ k * (2 * q + 1) := by
  induction n using Nat.strongRecOn with
  | _ n ih =>
    by_cases c : n % 2 = 1
    · exact ⟨0, n / 2, by rw [Nat.pow_zero, Nat.one_mul]; omega⟩
    · obtain ⟨k, q, e⟩ := ih (n / 2) (by omega) (by omega)
      refine ⟨k + 1, q, ?_⟩
      rw [Nat.pow_succ, Nat.mul_assoc, Nat.mul_left_comm, ← e]; omega
theorem low_two (n : Int) (h0 : 0 < n) (h1 : n < 4294967296) : ∃ k q : Nat, n = ((2 ^ k * (2 * q + 1) : Nat) : Int) ∧ lowL n = ((2 ^ k : Nat) : Int) := by
  obtain ⟨N, rfl⟩ := Int.eq_ofNat_of_zero_le (by omega : 0 ≤ n)
  obtain ⟨k, q, e⟩ := two_part N (by omega)
  refine ⟨k, q, by rw [e], ?_⟩
  unfold lowL
  have e2 : (0 - (N : Int)) % 4294967296 = ((4294967296 - N : Nat) : Int) := by omega
  rw [e2, u32_and_nat _ _ (by omega) (by omega)]
  subst e
  rw [lowbit_nat k q (by omega)]
theorem low_zero : lowL 0 = 0 := by decide +kernel
theorem low_bd (n : Int) (h0 : 0 ≤ n) (h1 : n < 4294967296) : 0 ≤ lowL n ∧ lowL n ≤ n := by
  by_cases c : n = 0
  · subst c; rw [low_zero]; omega
  · obtain ⟨k, q, e1, e2⟩ := low_two n (by omega) h1
    rw [e2, e1]
    have : 2 ^ k ≤ 2 ^ k * (2 * q + 1) := Nat.le_mul_of_pos_right _ (by omega)
    exact ⟨Int.natCast_nonneg _, Int.ofNat_le.2 this⟩
/-- A power of two that divides n, and whose double does not, is the lowest bit. -/
theorem low_of (n : Int) (h0 : 0 < n) (h1 : n < 4294967296) (j : Nat) (d : n % 2 ^ j = 0) (d2 : n % (2 * 2 ^ j) ≠ 0) : lowL n = 2 ^ j := by
  obtain ⟨k, q, e1, e2⟩ := low_two n h0 h1
  rw [e2]
  have hn : n = 2 ^ k * (2 * (q : Int) + 1) := by rw [e1]; simp [Int.natCast_mul, Int.natCast_pow]
  have d' := Int.dvd_of_emod_eq_zero d
  have hk : k = j := by
    rcases Nat.lt_trichotomy k j with h | h | h
    · exfalso
      obtain ⟨m, rfl⟩ : ∃ m, j = k + 1 + m := ⟨j - k - 1, by omega⟩
      have h2 : (2 : Int) ^ (k + 1) ∣ n := Int.dvd_trans ⟨2 ^ m, by rw [← Int.pow_add]⟩ d'
      obtain ⟨c, hc⟩ := h2
      rw [hn, Int.pow_succ, Int.mul_assoc] at hc
      have := Int.eq_of_mul_eq_mul_left (by have : (0 : Int) < 2 ^ k := Int.pow_pos (by omega); omega) hc
      omega
    · exact h
    · exfalso
      apply d2
      apply Int.emod_eq_zero_of_dvd
      obtain ⟨m, rfl⟩ : ∃ m, k = j + 1 + m := ⟨k - j - 1, by omega⟩
      rw [hn]
      exact ⟨2 ^ m * (2 * (q : Int) + 1), by rw [Int.pow_add, Int.pow_succ, Int.mul_comm (2 ^ j) 2, Int.mul_assoc]⟩
  subst hk
  simp [Int.natCast_pow]
theorem and_low (x n : Int) (x0 : 0 ≤ x) (x1 : x < 4294967296) (h0 : 0 ≤ n) (h1 : n < 4294967296) : 0 ≤ bits .and .u32 x n ∧ bits .and .u32 x n ≤ x ∧ bits .and .u32 x n ≤ n ∧ lowL n ∣ bits .and .u32 x n := by
  obtain ⟨X, rfl⟩ := Int.eq_ofNat_of_zero_le x0
  obtain ⟨N, rfl⟩ := Int.eq_ofNat_of_zero_le h0
  rw [u32_and_nat _ _ (by omega) (by omega)]
  have a1 := Nat.and_le_left (n := X) (m := N)
  have a2 := Nat.and_le_right (n := X) (m := N)
  refine ⟨by omega, by omega, by omega, ?_⟩
  by_cases c : (N : Int) = 0
  · rw [c, low_zero]
    have : N = 0 := by omega
    subst this
    simp
  · obtain ⟨k, q, e1, e2⟩ := low_two N (by omega) h1
    rw [e2]
    apply Int.natCast_dvd_natCast.2
    apply Nat.dvd_of_mod_eq_zero
    rw [Nat.and_mod_two_pow]
    have : N = 2 ^ k * (2 * q + 1) := by omega
    rw [this, Nat.mul_mod_right, Nat.and_zero]
theorem tr_bd (b : Bool) : 0 ≤ tr b ∧ tr b ≤ 1 := by cases b <;> simp [tr]
theorem pow32_bd (y : Int) (y0 : 0 ≤ y) : (1 : Int) ≤ 2 ^ (y % 32).toNat ∧ (2 : Int) ^ (y % 32).toNat ≤ 2147483648 := by
  have h : (y % 32).toNat ≤ 31 := by omega
  have h1 : (2 : Nat) ^ (y % 32).toNat ≤ 2 ^ 31 := Nat.pow_le_pow_right (by omega) h
  have h2 : 0 < (2 : Nat) ^ (y % 32).toNat := Nat.two_pow_pos _
  have e : ((2 : Int) ^ (y % 32).toNat) = ((2 ^ (y % 32).toNat : Nat) : Int) := by simp [Int.natCast_pow]
  rw [e]; omega
theorem applyK_bd (k : Nat) (a b : Int) (a0 : 0 ≤ a) (a1 : a < 4294967296) (b0 : 0 ≤ b) (b1 : b < 4294967296) : 0 ≤ applyK k a b ∧ applyK k a b < 4294967296 := by
  unfold applyK
  have t : ∀ c : Bool, 0 ≤ tr c ∧ tr c < 4294967296 := fun c => by have := tr_bd c; omega
  split
  · omega
  · omega
  · exact ⟨Int.emod_nonneg _ (by omega), Int.emod_lt_of_pos _ (by omega)⟩
  · have := and_low a b a0 a1 b0 b1; omega
  · rw [u32_or _ _ a0 a1 b0 b1]
    have : a.toNat ||| b.toNat < 2 ^ 32 := Nat.or_lt_two_pow (by omega) (by omega)
    omega
  · rw [u32_xor _ _ a0 a1 b0 b1]
    have : a.toNat ^^^ b.toNat < 2 ^ 32 := Nat.xor_lt_two_pow (by omega) (by omega)
    omega
  · exact ⟨Int.emod_nonneg _ (by omega), Int.emod_lt_of_pos _ (by omega)⟩
  · have p := pow32_bd b b0
    unfold shrL
    have := Int.ediv_le_self (2 ^ (b % 32).toNat) a0
    exact ⟨Int.ediv_nonneg a0 (by omega), by omega⟩
  · exact ⟨Int.emod_nonneg _ (by omega), Int.emod_lt_of_pos _ (by omega)⟩
  · exact t _
  · exact t _
  · exact t _
  · exact t _
  · omega
theorem scaled_con {a : VSet} (wa : a.wf) (ha : a = topV ∨ reg a) (k x : Int) (k0 : 0 ≤ k) (hx : containsN a x = true) (b : x * k < 4294967296 ∨ containsN (scaledN a k) (x * k) = true) : containsN (scaledN a k) (x * k % 4294967296) = true := by
  rcases ha with rfl | ha
  · rfl
  · unfold scaledN at *
    simp only [ha.1, Bool.false_eq_true, if_false] at *
    by_cases c : 4294967295 < a.hi * k
    · rw [if_pos c]; rfl
    · rw [if_neg c] at *
      obtain ⟨k1, k2, k3⟩ := (con_reg ha x).1 hx
      have m1 := Int.mul_le_mul_of_nonneg_right k1 k0
      have m2 := Int.mul_le_mul_of_nonneg_right k2 k0
      have x0 : 0 ≤ x := by have := wa.1; omega
      have m3 := Int.mul_nonneg x0 k0
      have e : x * k % 4294967296 = x * k := Int.emod_eq_of_lt m3 (by omega)
      rw [e, con_between _ _ _ _ (Int.mul_nonneg wa.2.2.2.2.1 k0) m3 (by omega)]
      refine ⟨m1, m2, ?_⟩
      rw [← Int.sub_mul]
      exact Int.mul_dvd_mul_right _ k3
theorem scaled_con' {a : VSet} (wa : a.wf) (ha : a = topV ∨ reg a) (k x : Int) (k0 : 0 ≤ k) (hx : containsN a x = true) : containsN (scaledN a k) (x * k % 4294967296) = true := by
  rcases ha with rfl | ha
  · rfl
  · by_cases c : 4294967295 < a.hi * k
    · unfold scaledN; simp only [ha.1, Bool.false_eq_true, if_false]; rw [if_pos c]; rfl
    · obtain ⟨k1, k2, k3⟩ := (con_reg ha x).1 hx
      have m2 := Int.mul_le_mul_of_nonneg_right k2 k0
      exact scaled_con wa (.inr ha) k x k0 hx (.inl (by omega))
theorem single_reg {b : VSet} (h : singleN b = true) : b.t = false ∧ b.e = false ∧ b.st = 0 := by
  unfold singleN at h
  simp only [Bool.and_eq_true, Bool.not_eq_true', beq_iff_eq] at h
  exact h
theorem single_con {b : VSet} (vb : validL b = true) (h : singleN b = true) (y : Int) (hy : containsN b y = true) : y = b.lo := by
  obtain ⟨h1, h2, h3⟩ := single_reg h
  rcases reg_kinds vb with rfl | rfl | hb
  · cases h1
  · cases h2
  · obtain ⟨k1, k2, k3⟩ := (con_reg hb y).1 hy
    rw [h3, Int.zero_dvd] at k3; omega
theorem con_bd {s : VSet} (ws : s.wf) (vs : validL s = true) (h : s.t = false) (x : Int) (hx : containsN s x = true) : s.lo ≤ x ∧ x ≤ s.hi := by
  rcases reg_kinds vs with rfl | rfl | hs
  · cases h
  · cases hx
  · have := (con_reg hs x).1 hx; exact ⟨this.1, this.2.1⟩
theorem add_con {a b : VSet} (wa : a.wf) (wb : b.wf) (ha : a = topV ∨ reg a) (hb : b = topV ∨ reg b) (x y : Int) (x0 : 0 ≤ x) (y0 : 0 ≤ y) (hx : containsN a x = true) (hy : containsN b y = true) :
    containsN (addN' a b) ((x + y) % 4294967296) = true := by
  unfold addN'
  rcases ha with rfl | ha
  · rfl
  · rcases hb with rfl | hb
    · simp only [topV, Bool.or_true, if_true]; rfl
    · simp only [ha.1, hb.1, Bool.or_self, Bool.false_eq_true, if_false]
      by_cases c : 4294967295 < a.hi + b.hi
      · rw [if_pos c]; rfl
      · rw [if_neg c]
        obtain ⟨k1, k2, k3⟩ := (con_reg ha x).1 hx
        obtain ⟨l1, l2, l3⟩ := (con_reg hb y).1 hy
        have e : (x + y) % 4294967296 = x + y := Int.emod_eq_of_lt (by omega) (by omega)
        rw [e, con_between _ _ _ _ (gcdL_nonneg _ _) (by omega) (by omega)]
        refine ⟨by omega, by omega, ?_⟩
        have : x + y - (a.lo + b.lo) = (x - a.lo) + (y - b.lo) := by omega
        rw [this]
        exact Int.dvd_add (Int.dvd_trans (gcdL_dvd_left _ _ wa.2.2.2.2.1) k3) (Int.dvd_trans (gcdL_dvd_right _ _ wb.2.2.2.2.1) l3)
theorem sub_con {a b : VSet} (wa : a.wf) (wb : b.wf) (ha : a = topV ∨ reg a) (hb : b = topV ∨ reg b) (x y : Int) (x1 : x < 4294967296) (y0 : 0 ≤ y) (hx : containsN a x = true) (hy : containsN b y = true) :
    containsN (subN' a b) ((x - y) % 4294967296) = true := by
  unfold subN'
  rcases ha with rfl | ha
  · rfl
  · rcases hb with rfl | hb
    · simp only [topV, Bool.or_true, if_true]; rfl
    · simp only [ha.1, hb.1, Bool.or_self, Bool.false_eq_true, if_false]
      by_cases c : a.lo < b.hi
      · rw [if_pos c]; rfl
      · rw [if_neg c]
        obtain ⟨k1, k2, k3⟩ := (con_reg ha x).1 hx
        obtain ⟨l1, l2, l3⟩ := (con_reg hb y).1 hy
        have e : (x - y) % 4294967296 = x - y := Int.emod_eq_of_lt (by omega) (by omega)
        rw [e, con_between _ _ _ _ (gcdL_nonneg _ _) (by omega) (by omega)]
        refine ⟨by omega, by omega, ?_⟩
        have : x - y - (a.lo - b.hi) = (x - a.lo) + ((b.hi - b.lo) - (y - b.lo)) := by omega
        rw [this]
        exact Int.dvd_add (Int.dvd_trans (gcdL_dvd_left _ _ wa.2.2.2.2.1) k3) (Int.dvd_trans (gcdL_dvd_right _ _ wb.2.2.2.2.1) (Int.dvd_sub hb.2.2.2.1 l3))
/-- Apply covers the results. -/
theorem apply_con (op : Int) (o1 : 3 ≤ op) (o2 : op ≤ 15) {a b : VSet} (wa : a.wf) (wb : b.wf) (va : validL a = true) (vb : validL b = true) (x y : Int) (x0 : 0 ≤ x) (x1 : x < 4294967296) (y0 : 0 ≤ y) (y1 : y < 4294967296) (hx : containsN a x = true) (hy : containsN b y = true) :
    containsN (applyN op a b) (applyK (op - 3).toNat x y) = true := by
  have ha : a = topV ∨ reg a := by
    rcases reg_kinds va with h | rfl | h
    · exact .inl h
    · cases hx
    · exact .inr h
  have hb : b = topV ∨ reg b := by
    rcases reg_kinds vb with h | rfl | h
    · exact .inl h
    · cases hy
    · exact .inr h
  have ea : a.e = false := by rcases ha with rfl | h; rfl; exact h.2.1
  have eb : b.e = false := by rcases hb with rfl | h; rfl; exact h.2.1
  have kb := applyK_bd (op - 3).toNat x y x0 x1 y0 y1
  unfold applyN
  rw [if_neg (by omega)]
  simp only [ea, eb, Bool.or_self, Bool.false_eq_true, if_false]
  cases sb : singleN b
  · simp only [Bool.and_false, Bool.false_eq_true, if_false]
    by_cases c1 : 12 ≤ op
    · rw [if_pos c1, con_between _ _ _ _ (by omega) kb.1 kb.2]
      have : (op - 3).toNat = 9 ∨ (op - 3).toNat = 10 ∨ (op - 3).toNat = 11 ∨ (op - 3).toNat = 12 := by omega
      have hb : applyK (op - 3).toNat x y ≤ 1 := by rcases this with e | e | e | e <;> rw [e] <;> exact (tr_bd _).2
      exact ⟨kb.1, hb, Int.one_dvd _⟩
    rw [if_neg c1]
    by_cases c2 : op = 3
    · rw [if_pos c2]; subst c2; exact add_con wa wb ha hb x y x0 y0 hx hy
    rw [if_neg c2]
    by_cases c3 : op = 4
    · rw [if_pos c3]; subst c3; exact sub_con wa wb ha hb x y x1 y0 hx hy
    rw [if_neg c3]; rfl
  · have ey := single_con vb sb y hy
    cases sa : singleN a
    · simp only [Bool.false_and, Bool.false_eq_true, if_false]
      by_cases c1 : 12 ≤ op
      · rw [if_pos c1, con_between _ _ _ _ (by omega) kb.1 kb.2]
        have : (op - 3).toNat = 9 ∨ (op - 3).toNat = 10 ∨ (op - 3).toNat = 11 ∨ (op - 3).toNat = 12 := by omega
        have hb : applyK (op - 3).toNat x y ≤ 1 := by rcases this with e | e | e | e <;> rw [e] <;> exact (tr_bd _).2
        exact ⟨kb.1, hb, Int.one_dvd _⟩
      rw [if_neg c1]
      by_cases c2 : op = 3
      · rw [if_pos c2]; subst c2; exact add_con wa wb ha hb x y x0 y0 hx hy
      rw [if_neg c2]
      by_cases c3 : op = 4
      · rw [if_pos c3]; subst c3; exact sub_con wa wb ha hb x y x1 y0 hx hy
      rw [if_neg c3, if_pos trivial]
      subst ey
      by_cases c4 : op = 5
      · rw [if_pos c4]; subst c4; exact scaled_con' wa ha _ x y0 hx
      rw [if_neg c4]
      by_cases c5 : op = 9
      · rw [if_pos c5]; subst c5; exact scaled_con' wa ha _ x (by have := pow32_bd b.lo y0; omega) hx
      rw [if_neg c5]
      by_cases c6 : op = 6
      · rw [if_pos c6]; subst c6
        show containsN (maskedN a b.lo) (bits .and .u32 x b.lo) = true
        obtain ⟨g1, g2, g3, g4⟩ := and_low x b.lo x0 x1 y0 y1
        unfold maskedN
        have lb := low_bd b.lo y0 y1
        rw [con_between _ _ _ _ lb.1 g1 (by omega), Int.sub_zero]
        refine ⟨g1, ?_, g4⟩
        rcases ha with rfl | h
        · exact g3
        · have := (con_reg h x).1 hx
          simp only [h.1, Bool.false_eq_true, if_false]; omega
      rw [if_neg c6]
      by_cases c7 : op = 10
      · rw [if_pos c7]; subst c7
        show containsN (shrN' a b) (shrL x b.lo) = true
        unfold shrN'
        rcases ha with rfl | h
        · rfl
        · simp only [h.1, Bool.false_eq_true, if_false]
          have := (con_reg h x).1 hx
          have p := pow32_bd b.lo y0
          have q : 0 ≤ shrL x b.lo ∧ shrL x b.lo < 4294967296 := kb
          rw [con_between _ _ _ _ (by omega) q.1 q.2]
          exact ⟨Int.ediv_le_ediv (by omega) this.1, Int.ediv_le_ediv (by omega) this.2.1, Int.one_dvd _⟩
      rw [if_neg c7]; rfl
    · simp only [Bool.and_self, if_true]
      rw [single_con va sa x hx, ey, con_one]

theorem oneV_wf {n : Int} (h0 : 0 ≤ n) (h1 : n < 4294967296) : (oneV n).wf := mk_wf h0 h1 h0 h1 (by omega) (by omega)
theorem oneV_valid (n : Int) : validL (oneV n) = true := by show (n == n) = true; exact beq_self_eq_true n
theorem scaledN_ok {a : VSet} (wa : a.wf) (k : Int) (k0 : 0 ≤ k) (st : 4294967295 < a.hi * k ∨ a.st * k < 4294967296) (lo : 4294967295 < a.hi * k ∨ a.lo * k < 4294967296) : (scaledN a k).wf ∧ validL (scaledN a k) = true := by
  unfold scaledN
  cases a.t
  · simp only [Bool.false_eq_true, if_false]
    by_cases c : 4294967295 < a.hi * k
    · rw [if_pos c]; exact ⟨topV_wf, rfl⟩
    · rw [if_neg c]
      obtain ⟨a0, a1, a2, a3, a4, a5⟩ := wa
      have m1 := Int.mul_nonneg a0 k0
      have m2 := Int.mul_nonneg a2 k0
      have m3 := Int.mul_nonneg a4 k0
      exact ⟨betweenL_wf _ _ _ m1 (by omega) m2 (by omega) m3 (by omega), betweenL_valid _ _ _ m1 (by omega) m3⟩
  · exact ⟨topV_wf, rfl⟩
theorem reg_bd {a : VSet} (wa : a.wf) (ha : reg a) (k : Int) (k0 : 0 ≤ k) : a.lo * k ≤ a.hi * k ∧ a.st * k ≤ a.hi * k := by
  obtain ⟨a0, a1, a2, a3, a4, a5⟩ := wa
  obtain ⟨_, _, h3, h4, h5, _⟩ := ha
  refine ⟨Int.mul_le_mul_of_nonneg_right h3 k0, Int.mul_le_mul_of_nonneg_right ?_ k0⟩
  by_cases c : a.lo = a.hi
  · rw [h5.2 c]; omega
  · have := Int.le_of_dvd (by omega) h4; omega
theorem scaledN_ok' {a : VSet} (wa : a.wf) (ha : a = topV ∨ reg a) (k : Int) (k0 : 0 ≤ k) : (scaledN a k).wf ∧ validL (scaledN a k) = true := by
  rcases ha with rfl | ha
  · exact ⟨topV_wf, rfl⟩
  · have b := reg_bd wa ha k k0
    exact scaledN_ok wa k k0 (by omega) (by omega)
theorem add_ok {a b : VSet} (wa : a.wf) (wb : b.wf) (ha : a = topV ∨ reg a) (hb : b = topV ∨ reg b) : (addN' a b).wf ∧ validL (addN' a b) = true := by
  unfold addN'
  rcases ha with rfl | ha
  · exact ⟨topV_wf, rfl⟩
  · rcases hb with rfl | hb
    · simp only [topV, Bool.or_true, if_true]; exact ⟨topV_wf, rfl⟩
    · simp only [ha.1, hb.1, Bool.or_self, Bool.false_eq_true, if_false]
      obtain ⟨a0, a1, a2, a3, a4, a5⟩ := wa
      obtain ⟨b0, b1, b2, b3, b4, b5⟩ := wb
      have g0 := gcdL_nonneg a.st b.st
      have g1 := gcdL_le a.st b.st 4294967295 a4 b4 (by omega) (by omega)
      have := ha.2.2.1
      have := hb.2.2.1
      by_cases c : 4294967295 < a.hi + b.hi
      · rw [if_pos c]; exact ⟨topV_wf, rfl⟩
      · rw [if_neg c]
        exact ⟨betweenL_wf _ _ _ (by omega) (by omega) (by omega) (by omega) g0 (by omega), betweenL_valid _ _ _ (by omega) (by omega) g0⟩
theorem sub_ok {a b : VSet} (wa : a.wf) (wb : b.wf) (ha : a = topV ∨ reg a) (hb : b = topV ∨ reg b) : (subN' a b).wf ∧ validL (subN' a b) = true := by
  unfold subN'
  rcases ha with rfl | ha
  · exact ⟨topV_wf, rfl⟩
  · rcases hb with rfl | hb
    · simp only [topV, Bool.or_true, if_true]; exact ⟨topV_wf, rfl⟩
    · simp only [ha.1, hb.1, Bool.or_self, Bool.false_eq_true, if_false]
      obtain ⟨a0, a1, a2, a3, a4, a5⟩ := wa
      obtain ⟨b0, b1, b2, b3, b4, b5⟩ := wb
      have g0 := gcdL_nonneg a.st b.st
      have g1 := gcdL_le a.st b.st 4294967295 a4 b4 (by omega) (by omega)
      have := ha.2.2.1
      have := hb.2.2.1
      by_cases c : a.lo < b.hi
      · rw [if_pos c]; exact ⟨topV_wf, rfl⟩
      · rw [if_neg c]
        exact ⟨betweenL_wf _ _ _ (by omega) (by omega) (by omega) (by omega) g0 (by omega), betweenL_valid _ _ _ (by omega) (by omega) g0⟩
theorem applyN_ok (op : Int) {a b : VSet} (wa : a.wf) (wb : b.wf) (va : validL a = true) (vb : validL b = true) : (applyN op a b).wf ∧ validL (applyN op a b) = true := by
  unfold applyN
  by_cases c0 : op < 3 ∨ 15 < op
  · rw [if_pos c0]; exact ⟨topV_wf, rfl⟩
  rw [if_neg c0]
  cases ea : a.e
  · cases eb : b.e
    · simp only [Bool.or_self, Bool.false_eq_true, if_false]
      have ha : a = topV ∨ reg a := by
        rcases reg_kinds va with h | rfl | h
        · exact .inl h
        · cases ea
        · exact .inr h
      have hb : b = topV ∨ reg b := by
        rcases reg_kinds vb with h | rfl | h
        · exact .inl h
        · cases eb
        · exact .inr h
      obtain ⟨a0, a1, a2, a3, a4, a5⟩ := wa
      obtain ⟨b0, b1, b2, b3, b4, b5⟩ := wb
      cases q : singleN a && singleN b
      · simp only [Bool.false_eq_true, if_false]
        by_cases c1 : 12 ≤ op
        · rw [if_pos c1]; exact ⟨betweenL_wf _ _ _ (by omega) (by omega) (by omega) (by omega) (by omega) (by omega), betweenL_valid _ _ _ (by omega) (by omega) (by omega)⟩
        rw [if_neg c1]
        have g0 := gcdL_nonneg a.st b.st
        have g1 := gcdL_le a.st b.st 4294967295 a4 b4 (by omega) (by omega)
        by_cases c2 : op = 3
        · rw [if_pos c2]; exact add_ok ⟨a0, a1, a2, a3, a4, a5⟩ ⟨b0, b1, b2, b3, b4, b5⟩ ha hb
        rw [if_neg c2]
        by_cases c3 : op = 4
        · rw [if_pos c3]; exact sub_ok ⟨a0, a1, a2, a3, a4, a5⟩ ⟨b0, b1, b2, b3, b4, b5⟩ ha hb
        rw [if_neg c3]
        cases singleN b
        · exact ⟨topV_wf, rfl⟩
        · simp only [if_true]
          have p := pow32_bd b.lo b0
          by_cases c4 : op = 5
          · rw [if_pos c4]; exact scaledN_ok' ⟨a0, a1, a2, a3, a4, a5⟩ ha _ b0
          rw [if_neg c4]
          by_cases c5 : op = 9
          · rw [if_pos c5]; exact scaledN_ok' ⟨a0, a1, a2, a3, a4, a5⟩ ha _ (by omega)
          rw [if_neg c5]
          by_cases c6 : op = 6
          · rw [if_pos c6]
            unfold maskedN
            have lb := low_bd b.lo b0 b1
            cases a.t
            · simp only [Bool.false_eq_true, if_false]
              exact ⟨betweenL_wf _ _ _ (by omega) (by omega) (by omega) (by omega) (by omega) (by omega), betweenL_valid _ _ _ (by omega) (by omega) (by omega)⟩
            · simp only [if_true]
              exact ⟨betweenL_wf _ _ _ (by omega) (by omega) (by omega) (by omega) (by omega) (by omega), betweenL_valid _ _ _ (by omega) (by omega) (by omega)⟩
          rw [if_neg c6]
          by_cases c7 : op = 10
          · rw [if_pos c7]; unfold shrN'
            cases a.t
            · simp only [Bool.false_eq_true, if_false]
              have d1 := applyK_bd 7 a.lo b.lo a0 a1 b0 b1
              have d2 := applyK_bd 7 a.hi b.lo a2 a3 b0 b1
              have e1 : applyK 7 a.lo b.lo = shrL a.lo b.lo := rfl
              have e2 : applyK 7 a.hi b.lo = shrL a.hi b.lo := rfl
              rw [e1] at d1
              rw [e2] at d2
              exact ⟨betweenL_wf _ _ _ d1.1 d1.2 d2.1 d2.2 (by omega) (by omega), betweenL_valid _ _ _ d1.1 d2.2 (by omega)⟩
            · exact ⟨topV_wf, rfl⟩
          rw [if_neg c7]; exact ⟨topV_wf, rfl⟩
      · simp only [if_true]
        have k := applyK_bd (op - 3).toNat a.lo b.lo a0 a1 b0 b1
        exact ⟨oneV_wf k.1 k.2, oneV_valid _⟩
    · simp only [Bool.or_true, if_true]; exact ⟨emptyV_wf, rfl⟩
  · simp only [Bool.true_or, if_true]; exact ⟨emptyV_wf, rfl⟩

/-! ### The elements of a small set; Meet. -/
def elemN (s : VSet) (i : Nat) : Int := s.lo + i * s.st
def elemsN (s : VSet) : List Int := (List.range (countN s).toNat).map (elemN s)
def coverStep (b out : VSet) (n : Int) : VSet := if containsN b n then joinL out (oneV n) else out
def coverN (a b : VSet) : VSet := (elemsN a).foldl (coverStep b) emptyV
def firstN (a : VSet) (lo : Int) : Int := a.lo + (lo - a.lo + a.st - 1) / a.st * a.st
def meetN (a b : VSet) : VSet :=
  if b.t then a else if a.t then b
  else if countN a ≤ 64 then coverN a b else if countN b ≤ 64 then coverN b a
  else if (if a.hi < b.hi then a.hi else b.hi) < firstN a (if a.lo < b.lo then b.lo else a.lo) then emptyV
  else betweenL (firstN a (if a.lo < b.lo then b.lo else a.lo)) (if a.hi < b.hi then a.hi else b.hi) a.st
def meetL (a b : VSet) : VSet := meetN (normL a) (normL b)
theorem count_reg {s : VSet} (ws : s.wf) (h : reg s) : 1 ≤ countN s ∧ countN s = (s.hi - s.lo) / s.st + 1 := by
  have e : countN s = (s.hi - s.lo) / s.st + 1 := by
    unfold countN
    simp only [h.1, h.2.1, Bool.false_eq_true, if_false]
    by_cases c : s.st = 0
    · rw [c]; simp
    · have : (s.st == 0) = false := by rw [beq_eq_false_iff_ne]; exact c
      rw [this]; simp
  have := Int.ediv_nonneg (a := s.hi - s.lo) (b := s.st) (by have := h.2.2.1; omega) ws.2.2.2.2.1
  omega
/-- The i-th element of a set that is neither Top nor Empty. -/
theorem elem_con {s : VSet} (ws : s.wf) (h : reg s) (i : Nat) (hi : (i : Int) < countN s) : containsN s (elemN s i) = true ∧ s.lo ≤ elemN s i ∧ elemN s i ≤ s.hi := by
  obtain ⟨l0, l1, h0, h1, s0, s1⟩ := ws
  rw [(count_reg ⟨l0, l1, h0, h1, s0, s1⟩ h).2] at hi
  have hd := h.2.2.2.1
  have hle := h.2.2.1
  have k : (i : Int) * s.st ≤ s.hi - s.lo := by
    have e := Int.ediv_mul_cancel hd
    have := Int.mul_le_mul_of_nonneg_right (show (i : Int) ≤ (s.hi - s.lo) / s.st by omega) s0
    omega
  have k2 := Int.mul_nonneg (Int.natCast_nonneg i) s0
  unfold elemN
  refine ⟨(con_reg h _).2 ⟨by omega, by omega, ?_⟩, by omega, by omega⟩
  have : s.lo + (i : Int) * s.st - s.lo = (i : Int) * s.st := by omega
  rw [this]; exact Int.dvd_mul_left _ _
theorem con_elem {s : VSet} (ws : s.wf) (h : reg s) (x : Int) (hx : containsN s x = true) : ∃ i : Nat, (i : Int) < countN s ∧ x = elemN s i := by
  obtain ⟨k1, k2, k3⟩ := (con_reg h x).1 hx
  obtain ⟨l0, l1, h0, h1, s0, s1⟩ := ws
  have q := Int.ediv_nonneg (a := x - s.lo) (b := s.st) (by omega) s0
  refine ⟨((x - s.lo) / s.st).toNat, ?_, ?_⟩
  · rw [(count_reg ⟨l0, l1, h0, h1, s0, s1⟩ h).2, Int.toNat_of_nonneg q]
    by_cases c : s.st = 0
    · rw [c]; simp
    · have := Int.ediv_le_ediv (c := s.st) (by omega) (show x - s.lo ≤ s.hi - s.lo by omega)
      omega
  · unfold elemN
    rw [Int.toNat_of_nonneg q, Int.ediv_mul_cancel k3]; omega
theorem elem_lt {s : VSet} (i : Nat) (h : 0 < s.st) : elemN s i < elemN s (i + 1) := by
  unfold elemN
  have : ((i + 1 : Nat) : Int) * s.st = (i : Int) * s.st + s.st := by rw [Int.natCast_add, Int.add_mul]; simp
  omega
theorem elem_bd {s : VSet} (ws : s.wf) (vs : validL s = true) (i : Nat) (hi : (i : Int) < countN s) (hc : countN s ≤ 64) : 0 ≤ elemN s i ∧ elemN s i < 4294967296 ∧ containsN s (elemN s i) = true ∧ reg s := by
  rcases reg_kinds vs with rfl | rfl | hs
  · have : countN topV = 4294967296 := rfl
    omega
  · have : countN emptyV = 0 := rfl
    omega
  · have := elem_con ws hs i hi
    obtain ⟨l0, l1, h0, h1, s0, s1⟩ := ws
    exact ⟨by omega, by omega, this.1, hs⟩
theorem mem_elems {s : VSet} (ws : s.wf) (vs : validL s = true) (hc : countN s ≤ 64) (x : Int) (hx : containsN s x = true) : x ∈ elemsN s := by
  rcases reg_kinds vs with rfl | rfl | hs
  · have : countN topV = 4294967296 := rfl
    omega
  · cases hx
  · obtain ⟨i, hi, rfl⟩ := con_elem ws hs x hx
    exact List.mem_map.2 ⟨i, List.mem_range.2 (by omega), rfl⟩
theorem elems_mem {s : VSet} (ws : s.wf) (vs : validL s = true) (hc : countN s ≤ 64) (x : Int) (hx : x ∈ elemsN s) : 0 ≤ x ∧ x < 4294967296 ∧ containsN s x = true := by
  obtain ⟨i, hi, rfl⟩ := List.mem_map.1 hx
  rw [List.mem_range] at hi
  have := elem_bd ws vs i (by omega) hc
  exact ⟨this.1, this.2.1, this.2.2.1⟩
theorem joinL_eq {a b : VSet} (va : validL a = true) (vb : validL b = true) : joinL a b = joinN a b := by unfold joinL; rw [normL_of va, normL_of vb]
theorem step_ok {b out : VSet} (wo : out.wf) (vo : validL out = true) (n : Int) (n0 : 0 ≤ n) (n1 : n < 4294967296) : (coverStep b out n).wf ∧ validL (coverStep b out n) = true := by
  unfold coverStep
  cases containsN b n
  · exact ⟨wo, vo⟩
  · simp only [if_true]
    rw [joinL_eq vo (oneV_valid n)]
    exact ⟨joinN_wf wo (oneV_wf n0 n1), joinN_valid wo (oneV_wf n0 n1) vo (oneV_valid n)⟩
theorem step_con {b out : VSet} (wo : out.wf) (vo : validL out = true) (n : Int) (n0 : 0 ≤ n) (n1 : n < 4294967296) (x : Int) (x0 : 0 ≤ x) (x1 : x < 4294967296) (h : containsN out x = true ∨ (x = n ∧ containsN b x = true)) : containsN (coverStep b out n) x = true := by
  unfold coverStep
  cases q : containsN b n
  · simp only [Bool.false_eq_true, if_false]
    rcases h with h | ⟨rfl, h⟩
    · exact h
    · rw [h] at q; cases q
  · simp only [if_true]
    rw [joinL_eq vo (oneV_valid n)]
    refine join_con wo (oneV_wf n0 n1) vo (oneV_valid n) x x0 x1 ?_
    rcases h with h | ⟨rfl, _⟩
    · exact .inl h
    · exact .inr ((con_one _ _).2 rfl)
theorem fold_ok (b : VSet) : ∀ (l : List Int) (out : VSet), out.wf → validL out = true → (∀ x ∈ l, 0 ≤ x ∧ x < 4294967296) → (l.foldl (coverStep b) out).wf ∧ validL (l.foldl (coverStep b) out) = true
  | [], out, wo, vo, _ => ⟨wo, vo⟩
  | n :: l, out, wo, vo, hl => by
    have hn := hl n (List.mem_cons.2 (.inl rfl))
    have s := step_ok (b := b) wo vo n hn.1 hn.2
    exact fold_ok b l _ s.1 s.2 fun x hx => hl x (List.mem_cons.2 (.inr hx))
theorem fold_con (b : VSet) (x : Int) (x0 : 0 ≤ x) (x1 : x < 4294967296) : ∀ (l : List Int) (out : VSet), out.wf → validL out = true → (∀ x ∈ l, 0 ≤ x ∧ x < 4294967296) →
    (containsN out x = true ∨ (x ∈ l ∧ containsN b x = true)) → containsN (l.foldl (coverStep b) out) x = true
  | [], out, wo, vo, _, h => by
    rcases h with h | ⟨h, _⟩
    · exact h
    · cases h
  | n :: l, out, wo, vo, hl, h => by
    have hn := hl n (List.mem_cons.2 (.inl rfl))
    have s := step_ok (b := b) wo vo n hn.1 hn.2
    refine fold_con b x x0 x1 l _ s.1 s.2 (fun x hx => hl x (List.mem_cons.2 (.inr hx))) ?_
    rcases h with h | ⟨h, hb⟩
    · exact .inl (step_con wo vo n hn.1 hn.2 x x0 x1 (.inl h))
    · rcases List.mem_cons.1 h with rfl | h
      · exact .inl (step_con wo vo x hn.1 hn.2 x x0 x1 (.inr ⟨rfl, hb⟩))
      · exact .inr ⟨h, hb⟩
theorem coverN_ok {a b : VSet} (wa : a.wf) (va : validL a = true) (hc : countN a ≤ 64) : (coverN a b).wf ∧ validL (coverN a b) = true :=
  fold_ok b _ _ emptyV_wf rfl fun x hx => by have := elems_mem wa va hc x hx; exact ⟨this.1, this.2.1⟩
theorem coverN_con {a b : VSet} (wa : a.wf) (va : validL a = true) (hc : countN a ≤ 64) (x : Int) (x0 : 0 ≤ x) (x1 : x < 4294967296) (ha : containsN a x = true) (hb : containsN b x = true) : containsN (coverN a b) x = true :=
  fold_con b x x0 x1 _ _ emptyV_wf rfl (fun x hx => by have := elems_mem wa va hc x hx; exact ⟨this.1, this.2.1⟩) (.inr ⟨mem_elems wa va hc x ha, hb⟩)
theorem first_bd {a : VSet} (wa : a.wf) (st : a.st ≠ 0) (lo : Int) (hl : a.lo ≤ lo) (h1 : lo < 4294967296) : lo ≤ firstN a lo ∧ firstN a lo < lo + a.st ∧ a.st ∣ firstN a lo - a.lo ∧ 0 ≤ (lo - a.lo + a.st - 1) / a.st * a.st ∧ (lo - a.lo + a.st - 1) / a.st * a.st ≤ lo - a.lo + a.st - 1 ∧ 0 ≤ (lo - a.lo + a.st - 1) / a.st ∧ (lo - a.lo + a.st - 1) / a.st ≤ lo - a.lo + a.st - 1 := by
  obtain ⟨l0, l1, h0, h2, s0, s1⟩ := wa
  unfold firstN
  have e := Int.mul_ediv_add_emod (lo - a.lo + a.st - 1) a.st
  rw [Int.mul_comm] at e
  have m1 := Int.emod_nonneg (lo - a.lo + a.st - 1) st
  have m2 := Int.emod_lt_of_pos (lo - a.lo + a.st - 1) (by omega : 0 < a.st)
  have m3 := Int.ediv_nonneg (a := lo - a.lo + a.st - 1) (b := a.st) (by omega) s0
  have m4 := Int.ediv_le_self (b := a.st) (a := lo - a.lo + a.st - 1) (by omega)
  have m5 := Int.mul_nonneg m3 s0
  refine ⟨by omega, by omega, ?_, m5, by omega, m3, m4⟩
  have : a.lo + (lo - a.lo + a.st - 1) / a.st * a.st - a.lo = (lo - a.lo + a.st - 1) / a.st * a.st := by omega
  rw [this]; exact Int.dvd_mul_left _ _
theorem many_st {a : VSet} (wa : a.wf) (va : validL a = true) (h : ¬ countN a ≤ 64) (ht : a.t = false) : reg a ∧ a.st ≠ 0 := by
  rcases reg_kinds va with rfl | rfl | ha
  · cases ht
  · have : countN emptyV = 0 := rfl
    omega
  · refine ⟨ha, fun c => ?_⟩
    have := (count_reg wa ha).2
    rw [c, Int.ediv_zero] at this
    omega
theorem meetN_ok {a b : VSet} (wa : a.wf) (wb : b.wf) (va : validL a = true) (vb : validL b = true) : (meetN a b).wf ∧ validL (meetN a b) = true := by
  unfold meetN
  cases tb : b.t
  · cases ta : a.t
    · simp only [Bool.false_eq_true, if_false]
      by_cases c1 : countN a ≤ 64
      · rw [if_pos c1]; exact coverN_ok wa va c1
      rw [if_neg c1]
      by_cases c2 : countN b ≤ 64
      · rw [if_pos c2]; exact coverN_ok wb vb c2
      rw [if_neg c2]
      obtain ⟨ha, sa⟩ := many_st wa va c1 ta
      obtain ⟨hb, sb⟩ := many_st wb vb c2 tb
      have f := first_bd wa sa (if a.lo < b.lo then b.lo else a.lo) (by omega) (by have := wa.2.1; have := wb.2.1; omega)
      obtain ⟨l0, l1, h0, h1, s0, s1⟩ := wa
      obtain ⟨m0, m1, n0, n1, t0, t1⟩ := wb
      by_cases c3 : (if a.hi < b.hi then a.hi else b.hi) < firstN a (if a.lo < b.lo then b.lo else a.lo)
      · rw [if_pos c3]; exact ⟨emptyV_wf, rfl⟩
      · rw [if_neg c3]
        exact ⟨betweenL_wf _ _ _ (by omega) (by omega) (by omega) (by omega) s0 s1, betweenL_valid _ _ _ (by omega) (by omega) s0⟩
    · simp only [Bool.false_eq_true, if_false, if_true]; exact ⟨wb, vb⟩
  · simp only [if_true]; exact ⟨wa, va⟩
theorem meet_con {a b : VSet} (wa : a.wf) (wb : b.wf) (va : validL a = true) (vb : validL b = true) (x : Int) (x0 : 0 ≤ x) (x1 : x < 4294967296) (ha : containsN a x = true) (hb : containsN b x = true) : containsN (meetN a b) x = true := by
  unfold meetN
  cases tb : b.t
  · cases ta : a.t
    · simp only [Bool.false_eq_true, if_false]
      by_cases c1 : countN a ≤ 64
      · rw [if_pos c1]; exact coverN_con wa va c1 x x0 x1 ha hb
      rw [if_neg c1]
      by_cases c2 : countN b ≤ 64
      · rw [if_pos c2]; exact coverN_con wb vb c2 x x0 x1 hb ha
      rw [if_neg c2]
      obtain ⟨ra, sa⟩ := many_st wa va c1 ta
      obtain ⟨rb, sb⟩ := many_st wb vb c2 tb
      have f := first_bd wa sa (if a.lo < b.lo then b.lo else a.lo) (by omega) (by have := wa.2.1; have := wb.2.1; omega)
      obtain ⟨k1, k2, k3⟩ := (con_reg ra x).1 ha
      obtain ⟨g1, g2, g3⟩ := (con_reg rb x).1 hb
      have s0 := wa.2.2.2.2.1
      have fx : firstN a (if a.lo < b.lo then b.lo else a.lo) ≤ x := by
        rcases Int.lt_or_le x (firstN a (if a.lo < b.lo then b.lo else a.lo)) with h | h
        · exfalso
          have d : a.st ∣ firstN a (if a.lo < b.lo then b.lo else a.lo) - x := by
            have : firstN a (if a.lo < b.lo then b.lo else a.lo) - x = (firstN a (if a.lo < b.lo then b.lo else a.lo) - a.lo) - (x - a.lo) := by omega
            rw [this]; exact Int.dvd_sub f.2.2.1 k3
          have := Int.le_of_dvd (by omega) d
          omega
        · exact h
      rw [if_neg (by omega), con_between _ _ _ _ s0 x0 x1]
      refine ⟨fx, by omega, ?_⟩
      have : x - firstN a (if a.lo < b.lo then b.lo else a.lo) = (x - a.lo) - (firstN a (if a.lo < b.lo then b.lo else a.lo) - a.lo) := by omega
      rw [this]; exact Int.dvd_sub k3 f.2.2.1
    · simp only [Bool.false_eq_true, if_false, if_true]; exact hb
  · simp only [if_true]; exact ha
end Go.Proofs.Ytjhdjclcfmcilaa
