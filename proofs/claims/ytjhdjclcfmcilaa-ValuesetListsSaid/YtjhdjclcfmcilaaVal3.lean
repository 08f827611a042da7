/-
  What Valid, known, single of package valueset return, and Valid, norm, between, Between of decompilerref14.
-/
import Derived.Test.YtjhdjclcfmcilaaVal2
namespace Go.Proofs.Ytjhdjclcfmcilaa
open Go.ChangeShapes Go.WideShapes Go.ChangeAt Go.RowKit
set_option linter.unusedVariables false

theorem eq_topV (e t : Bool) (lo hi st : Int) (h : ((⟨e, t, lo, hi, st⟩ : VSet) == topV) = true) : t = true := by
  have := of_decide_eq_true h
  simp only [topV, VSet.mk.injEq] at this
  exact this.2.1
theorem eq_emptyV (e t : Bool) (lo hi st : Int) (h : ((⟨e, t, lo, hi, st⟩ : VSet) == emptyV) = true) : e = true := by
  have := of_decide_eq_true h
  simp only [emptyV, VSet.mk.injEq] at this
  exact this.1
set_option maxHeartbeats 1000000 in
theorem valid_te (e t : Bool) (lo hi st : Int) (h : t = true ∨ e = true) (w : World) : Calls Try.prog 22 #[.agg #[.bool e, .bool t, .int .u32 lo, .int .u32 hi, .int .u32 st]] w (Ret (.bool ((⟨e, t, lo, hi, st⟩ : VSet) == topV || (⟨e, t, lo, hi, st⟩ : VSet) == emptyV)) w) := by
  have q1 := run_eql_set ⟨e, t, lo, hi, st⟩ topV
  have q2 := run_eql_set ⟨e, t, lo, hi, st⟩ emptyV
  cases q : ((⟨e, t, lo, hi, st⟩ : VSet) == topV)
  · rw [q] at q1
    cases t
    · have e1 : e = true := by simpa using h
      subst e1
      clear h
      go_enter Try.func22, Try.ntmps22
      go_wp2_with fail
      go_region_held3 (fun w' => (∀ o, w'.cell? ⟨w.heap.size, o, none⟩ = (#[.bool true, .bool false, .int .u32 lo, .int .u32 hi, .int .u32 st] : Array Value)[o]?) ∧ w.heap.size < w'.heap.size ∧ Below w.heap.size w w')
        (first | exact ⟨((Blk.new _ _ _).drew).walk.1, by simp, by go_grown⟩ | (go_split_ands; exact ⟨fun o => ((bcell hb2).1 _ _ (by assumption)).trans (by apply_assumption), by have := hb2.size; omega, after (by assumption) hb2⟩))
        (first | (go_at_call 16; (with_reducible refine (top_any _).mono ?_); rintro e w2 ⟨rfl, hb2⟩) | (go_at_call 18; (with_reducible refine (empty_any _).mono ?_); rintro e w2 ⟨rfl, hb2⟩))
      go_split_ands
      go_wp2
      go_returns
      exact ⟨rfl, by assumption⟩
    · clear h
      go_enter Try.func22, Try.ntmps22
      go_wp2_with fail
      go_region_held3 (fun w' => (∀ o, w'.cell? ⟨w.heap.size, o, none⟩ = (#[.bool e, .bool true, .int .u32 lo, .int .u32 hi, .int .u32 st] : Array Value)[o]?) ∧ w.heap.size < w'.heap.size ∧ Below w.heap.size w w')
        (first | exact ⟨((Blk.new _ _ _).drew).walk.1, by simp, by go_grown⟩ | (go_split_ands; exact ⟨fun o => ((bcell hb2).1 _ _ (by assumption)).trans (by apply_assumption), by have := hb2.size; omega, after (by assumption) hb2⟩))
        (first | (go_at_call 16; (with_reducible refine (top_any _).mono ?_); rintro e w2 ⟨rfl, hb2⟩) | (go_at_call 18; (with_reducible refine (empty_any _).mono ?_); rintro e w2 ⟨rfl, hb2⟩))
      go_split_ands
      go_wp2
      go_returns
      exact ⟨rfl, by assumption⟩
  · have e1 : t = true := eq_topV e t lo hi st q
    subst e1
    rw [q] at q1
    clear h
    go_enter Try.func22, Try.ntmps22
    go_wp2_with fail
    go_region_with (first | (go_at_call 16; (with_reducible refine (top_any _).mono ?_); rintro e w2 ⟨rfl, hb2⟩; (have hg2 := after (w := w) (by go_grown) hb2); (have hk2 := (((Blk.new _ _ _).drew).call hb2).walk.1)))
    all_goals (go_wp2; go_returns; exact ⟨rfl, by assumption⟩)

theorem validL_te (e t : Bool) (lo hi st : Int) (h : t = true ∨ e = true) : validL ⟨e, t, lo, hi, st⟩ = ((⟨e, t, lo, hi, st⟩ : VSet) == topV || (⟨e, t, lo, hi, st⟩ : VSet) == emptyV) := by
  unfold validL
  have : (t || e) = true := by rcases h with rfl | rfl <;> simp
  simp only [this, if_true]
theorem validL_z (lo hi : Int) : validL ⟨false, false, lo, hi, 0⟩ = (lo == hi) := rfl
theorem validL_s (lo hi st : Int) (h : st ≠ 0) : validL ⟨false, false, lo, hi, st⟩ = (decide (lo < hi) && ((hi - lo) % st == 0) && (decide (0 < lo) || decide (hi < 4294967295) || decide (1 < st))) := by
  unfold validL
  have : (st == 0) = false := by rw [beq_eq_false_iff_ne]; exact h
  simp only [Bool.or_self, Bool.false_eq_true, if_false, this]

set_option maxHeartbeats 1000000 in
theorem valid_any (s : VSet) (hs : s.wf) (w : World) : Calls Try.prog 22 #[s.val] w (Ret (.bool (validL s)) w) := by
  obtain ⟨e, t, lo, hi, st⟩ := s
  by_cases h : t = true ∨ e = true
  · rw [validL_te e t lo hi st h]; exact valid_te e t lo hi st h w
  obtain ⟨l0, l1, h0, h1, s0, s1⟩ := hs
  dsimp only at l0 l1 h0 h1 s0 s1
  obtain rfl : t = false := by cases t <;> simp_all
  obtain rfl : e = false := by cases e <;> simp_all
  clear h
  by_cases c : st = 0
  · subst c
    rw [validL_z]
    show Calls Try.prog 22 #[.agg #[.bool false, .bool false, .int .u32 lo, .int .u32 hi, .int .u32 0]] w _
    go_enter Try.func22, Try.ntmps22
    go_wp2
    go_returns
    exact ⟨rfl, by go_grown⟩
  rw [validL_s lo hi st c]
  have c1 : (st == 0) = false := by rw [beq_eq_false_iff_ne]; exact c
  show Calls Try.prog 22 #[.agg #[.bool false, .bool false, .int .u32 lo, .int .u32 hi, .int .u32 st]] w _
  by_cases d : lo < hi
  · have d2 : 0 ≤ hi - lo := by omega
    rw [decide_eq_true d]
    cases m : ((hi - lo) % st == 0)
    · show Calls Try.prog 22 _ _ (Ret (.bool false) w)
      go_enter Try.func22, Try.ntmps22
      go_wp2
      go_returns
      exact ⟨rfl, by go_grown⟩
    · by_cases x1 : 0 < lo
      · rw [decide_eq_true x1]
        show Calls Try.prog 22 _ _ (Ret (.bool true) w)
        go_enter Try.func22, Try.ntmps22
        go_wp2
        go_returns
        exact ⟨rfl, by go_grown⟩
      · rw [decide_eq_false x1]
        by_cases x2 : hi < 4294967295
        · rw [decide_eq_true x2]
          show Calls Try.prog 22 _ _ (Ret (.bool true) w)
          go_enter Try.func22, Try.ntmps22
          go_wp2
          go_returns
          exact ⟨rfl, by go_grown⟩
        · rw [decide_eq_false x2]
          show Calls Try.prog 22 _ _ (Ret (.bool (decide (1 < st))) w)
          go_enter Try.func22, Try.ntmps22
          go_wp2
          go_returns
          exact ⟨rfl, by go_grown⟩
  · rw [decide_eq_false d]
    show Calls Try.prog 22 _ _ (Ret (.bool false) w)
    go_enter Try.func22, Try.ntmps22
    go_wp2
    go_returns
    exact ⟨rfl, by go_grown⟩

theorem known_any (s : VSet) (hs : s.wf) (w : World) : Calls Try.prog 41 #[s.val] w (Ret (normL s).val w) := by
  have x := valid_any s hs
  unfold normL
  cases h : validL s
  · rw [h] at x
    go_enter Try.func41, Try.ntmps41
    go_wp2_with (first | (go_at_call 22; (with_reducible refine (x _).mono ?_); rintro e w1 ⟨rfl, hb1⟩; (have hR := (Blk.new _ _ _).call hb1); simp only [World.size_alloc] at hR; obtain ⟨hc, hf⟩ := hR.walk; (have hg := after (w := w) (by go_grown) hb1); (have hs1 := hg.size)))
    go_wp2_with (first | (go_at_call 16; (with_reducible refine (top_any _).mono ?_); rintro e w2 ⟨rfl, hb2⟩; (have hR2 := hR.call hb2); obtain ⟨hc2, hf2⟩ := hR2.walk; (have hg2 := after hg hb2); (have hs2 := hg2.size)))
    exact bodyPost_ret (v := topV.val) (results_set rfl rfl (hR2.put (a := ⟨false, false, 0, 0, 0⟩) topV)) rfl ⟨rfl, below_put hg2 (by omega) _⟩
  · rw [h] at x
    go_enter Try.func41, Try.ntmps41
    go_wp2_with (first | (go_at_call 22; (with_reducible refine (x _).mono ?_); rintro e w1 ⟨rfl, hb1⟩; (have hS := ((Blk.new _ _ _).alloc _).call hb1); (have hR := (Blk.new _ _ _).call hb1); simp only [World.size_alloc] at hR; obtain ⟨hc, hf⟩ := hR.walk; obtain ⟨hc2, hf2⟩ := hS.walk; (have hg := after (w := w) (by go_grown) hb1); (have hs1 := hg.size)))
    exact bodyPost_ret (v := s.val) (results_set rfl rfl (hR.put (a := ⟨false, false, 0, 0, 0⟩) s)) rfl ⟨rfl, below_put hg (by omega) _⟩

/-! ### The reference -/
set_option maxHeartbeats 1000000 in
theorem rvalid_te (e t : Bool) (lo hi st : Int) (h : t = true ∨ e = true) (w : World) : Calls Try.prog 24 #[.agg #[.bool e, .bool t, .int .u32 lo, .int .u32 hi, .int .u32 st]] w (Ret (.bool ((⟨e, t, lo, hi, st⟩ : VSet) == topV || (⟨e, t, lo, hi, st⟩ : VSet) == emptyV)) w) := by
  have q1 := run_eql_set ⟨e, t, lo, hi, st⟩ topV
  have q2 := run_eql_set ⟨e, t, lo, hi, st⟩ emptyV
  cases q : ((⟨e, t, lo, hi, st⟩ : VSet) == topV)
  · rw [q] at q1
    cases t
    · have e1 : e = true := by simpa using h
      subst e1
      clear h
      go_enter Try.func24, Try.ntmps24
      go_wp2_with fail
      go_region_held3 (fun w' => (∀ o, w'.cell? ⟨w.heap.size, o, none⟩ = (#[.bool true, .bool false, .int .u32 lo, .int .u32 hi, .int .u32 st] : Array Value)[o]?) ∧ w.heap.size < w'.heap.size ∧ Below w.heap.size w w')
        (first | exact ⟨((Blk.new _ _ _).drew).walk.1, by simp, by go_grown⟩ | (go_split_ands; exact ⟨fun o => ((bcell hb2).1 _ _ (by assumption)).trans (by apply_assumption), by have := hb2.size; omega, after (by assumption) hb2⟩))
        (first | (go_at_call 17; (with_reducible refine (rtop_any _).mono ?_); rintro e w2 ⟨rfl, hb2⟩) | (go_at_call 19; (with_reducible refine (rempty_any _).mono ?_); rintro e w2 ⟨rfl, hb2⟩))
      go_split_ands
      go_wp2
      go_returns
      exact ⟨rfl, by assumption⟩
    · clear h
      go_enter Try.func24, Try.ntmps24
      go_wp2_with fail
      go_region_held3 (fun w' => (∀ o, w'.cell? ⟨w.heap.size, o, none⟩ = (#[.bool e, .bool true, .int .u32 lo, .int .u32 hi, .int .u32 st] : Array Value)[o]?) ∧ w.heap.size < w'.heap.size ∧ Below w.heap.size w w')
        (first | exact ⟨((Blk.new _ _ _).drew).walk.1, by simp, by go_grown⟩ | (go_split_ands; exact ⟨fun o => ((bcell hb2).1 _ _ (by assumption)).trans (by apply_assumption), by have := hb2.size; omega, after (by assumption) hb2⟩))
        (first | (go_at_call 17; (with_reducible refine (rtop_any _).mono ?_); rintro e w2 ⟨rfl, hb2⟩) | (go_at_call 19; (with_reducible refine (rempty_any _).mono ?_); rintro e w2 ⟨rfl, hb2⟩))
      go_split_ands
      go_wp2
      go_returns
      exact ⟨rfl, by assumption⟩
  · have e1 : t = true := eq_topV e t lo hi st q
    subst e1
    rw [q] at q1
    clear h
    go_enter Try.func24, Try.ntmps24
    go_wp2_with fail
    go_region_with (first | (go_at_call 17; (with_reducible refine (rtop_any _).mono ?_); rintro e w2 ⟨rfl, hb2⟩; (have hg2 := after (w := w) (by go_grown) hb2); (have hk2 := (((Blk.new _ _ _).drew).call hb2).walk.1)))
    all_goals (go_wp2; go_returns; exact ⟨rfl, by assumption⟩)
set_option maxHeartbeats 1000000 in
theorem rvalid_any (s : VSet) (hs : s.wf) (w : World) : Calls Try.prog 24 #[s.val] w (Ret (.bool (validL s)) w) := by
  obtain ⟨e, t, lo, hi, st⟩ := s
  by_cases h : t = true ∨ e = true
  · rw [validL_te e t lo hi st h]; exact rvalid_te e t lo hi st h w
  obtain ⟨l0, l1, h0, h1, s0, s1⟩ := hs
  dsimp only at l0 l1 h0 h1 s0 s1
  obtain rfl : t = false := by cases t <;> simp_all
  obtain rfl : e = false := by cases e <;> simp_all
  clear h
  show Calls Try.prog 24 #[.agg #[.bool false, .bool false, .int .u32 lo, .int .u32 hi, .int .u32 st]] w _
  by_cases c : st = 0
  · subst c
    rw [validL_z]
    by_cases d : lo < hi
    · have E : (lo == hi) = false := by rw [beq_eq_false_iff_ne]; omega
      rw [E]
      clear E
      go_enter Try.func24, Try.ntmps24
      go_wp2
      go_returns
      exact ⟨rfl, by go_grown⟩
    · cases q : (lo == hi)
      · go_enter Try.func24, Try.ntmps24
        go_wp2
        go_returns
        exact ⟨rfl, by go_grown⟩
      · go_enter Try.func24, Try.ntmps24
        go_wp2
        go_returns
        exact ⟨rfl, by go_grown⟩
  rw [validL_s lo hi st c]
  have c1 : (st == 0) = false := by rw [beq_eq_false_iff_ne]; exact c
  have c2 : 0 < st := by omega
  by_cases d : lo < hi
  · have d2 : 0 ≤ hi - lo := by omega
    rw [decide_eq_true d]
    cases m : ((hi - lo) % st == 0)
    · show Calls Try.prog 24 _ _ (Ret (.bool false) w)
      go_enter Try.func24, Try.ntmps24
      go_wp2
      go_returns
      exact ⟨rfl, by go_grown⟩
    · by_cases x1 : 0 < lo
      · rw [decide_eq_true x1]
        have y1 : (lo != 0) = true := by simp; omega
        show Calls Try.prog 24 _ _ (Ret (.bool true) w)
        go_enter Try.func24, Try.ntmps24
        go_wp2
        go_returns
        exact ⟨rfl, by go_grown⟩
      · rw [decide_eq_false x1]
        have y1 : lo = 0 := by omega
        subst y1
        rw [Int.sub_zero] at m
        by_cases x2 : hi < 4294967295
        · rw [decide_eq_true x2]
          have y2 : (hi != 4294967295) = true := by simp; omega
          show Calls Try.prog 24 _ _ (Ret (.bool true) w)
          go_enter Try.func24, Try.ntmps24
          go_wp2
          go_returns
          exact ⟨rfl, by go_grown⟩
        · rw [decide_eq_false x2]
          have y2 : hi = 4294967295 := by omega
          subst y2
          have y3 : (st != 1) = decide (1 < st) := by rw [Bool.eq_iff_iff]; simp; omega
          show Calls Try.prog 24 _ _ (Ret (.bool (decide (1 < st))) w)
          rw [← y3]
          clear y3
          go_enter Try.func24, Try.ntmps24
          go_wp2
          go_returns
          exact ⟨rfl, by go_grown⟩
  · rw [decide_eq_false d]
    have y : (lo == hi && st == 0) = false := by rw [c1, Bool.and_false]
    show Calls Try.prog 24 _ _ (Ret (.bool false) w)
    cases q : (lo == hi)
    · go_enter Try.func24, Try.ntmps24
      go_wp2
      go_returns
      exact ⟨rfl, by go_grown⟩
    · go_enter Try.func24, Try.ntmps24
      go_wp2
      go_returns
      exact ⟨rfl, by go_grown⟩

theorem norm_any (s : VSet) (hs : s.wf) (w : World) : Calls Try.prog 42 #[s.val] w (Ret (normL s).val w) := by
  have x := rvalid_any s hs
  unfold normL
  cases h : validL s
  · rw [h] at x
    go_enter Try.func42, Try.ntmps42
    go_wp2_with (first | (go_at_call 24; (with_reducible refine (x _).mono ?_); rintro e w1 ⟨rfl, hb1⟩; (have hR := (Blk.new _ _ _).call hb1); simp only [World.size_alloc] at hR; obtain ⟨hc, hf⟩ := hR.walk; (have hg := after (w := w) (by go_grown) hb1); (have hs1 := hg.size)))
    go_wp2_with (first | (go_at_call 17; (with_reducible refine (rtop_any _).mono ?_); rintro e w2 ⟨rfl, hb2⟩; (have hR2 := hR.call hb2); obtain ⟨hc2, hf2⟩ := hR2.walk; (have hg2 := after hg hb2); (have hs2 := hg2.size)))
    exact bodyPost_ret (v := topV.val) (results_set rfl rfl (hR2.put (a := ⟨false, false, 0, 0, 0⟩) topV)) rfl ⟨rfl, below_put hg2 (by omega) _⟩
  · rw [h] at x
    go_enter Try.func42, Try.ntmps42
    go_wp2_with (first | (go_at_call 24; (with_reducible refine (x _).mono ?_); rintro e w1 ⟨rfl, hb1⟩; (have hS := ((Blk.new _ _ _).alloc _).call hb1); (have hR := (Blk.new _ _ _).call hb1); simp only [World.size_alloc] at hR; obtain ⟨hc, hf⟩ := hR.walk; obtain ⟨hc2, hf2⟩ := hS.walk; (have hg := after (w := w) (by go_grown) hb1); (have hs1 := hg.size)))
    exact bodyPost_ret (v := s.val) (results_set rfl rfl (hR.put (a := ⟨false, false, 0, 0, 0⟩) s)) rfl ⟨rfl, below_put hg (by omega) _⟩
end Go.Proofs.Ytjhdjclcfmcilaa
