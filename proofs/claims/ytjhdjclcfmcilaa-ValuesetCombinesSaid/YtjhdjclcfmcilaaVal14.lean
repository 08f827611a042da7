/-
  What Meet of decompilerref14 returns.
-/
import Derived.Test.YtjhdjclcfmcilaaVal13
namespace Go.Proofs.Ytjhdjclcfmcilaa
open Go.ChangeShapes Go.WideShapes Go.ChangeAt Go.RowKit
set_option linter.unusedVariables false

/-- The last case of Meet. -/
theorem meet_last {a b : VSet} (ta : a.t = false) (tb : b.t = false) (c1 : ¬ countN a ≤ 64) (c2 : ¬ countN b ≤ 64) :
    meetN a b = betweenL (firstN a (if a.lo < b.lo then b.lo else a.lo)) (if a.hi < b.hi then a.hi else b.hi) a.st := by
  unfold meetN
  simp only [ta, tb, Bool.false_eq_true, if_false]
  rw [if_neg c1, if_neg c2]
  by_cases c : (if a.hi < b.hi then a.hi else b.hi) < firstN a (if a.lo < b.lo then b.lo else a.lo)
  · rw [if_pos c]; unfold betweenL; rw [if_pos c]
  · rw [if_neg c]
theorem first_self {a : VSet} (h : 0 < a.st) : firstN a a.lo = a.lo := by
  unfold firstN
  have : a.lo - a.lo + a.st - 1 = a.st - 1 := by omega
  rw [this, Int.ediv_eq_zero_of_lt (by omega) (by omega)]; omega

set_option maxHeartbeats 4000000 in
theorem rmeet_core (a b n m : VSet) (hn : n.wf) (hm : m.wf) (R : VSet) (hR : Hid (meetN n m = R))
    (x : ∀ w, Calls Try.prog 42 #[a.val] w (Ret n.val w)) (y : ∀ w, Calls Try.prog 42 #[b.val] w (Ret m.val w))
    (k1 : ∀ w, Calls Try.prog 28 #[n.val] w (Ret (.int .i64 (countN n)) w)) (k2 : ∀ w, Calls Try.prog 28 #[m.val] w (Ret (.int .i64 (countN m)) w))
    (v1 : validL n = true) (v2 : validL m = true)
    (d1 : countN n ≤ 64 → ∀ w, Calls Try.prog 46 #[n.val, m.val] w (Ret (coverN n m).val w)) (d2 : countN m ≤ 64 → ∀ w, Calls Try.prog 46 #[m.val, n.val] w (Ret (coverN m n).val w)) (w : World) :
    Calls Try.prog 35 #[a.val, b.val] w (Ret R.val w) := by
  have wn := hide hn
  have wm := hide hm
  obtain ⟨n0, n1, n2, n3, n4, n5⟩ := hn
  obtain ⟨m0, m1, m2, m3, m4, m5⟩ := hm
  go_enter Try.func35, Try.ntmps35
  go_upto_region 1 with fail
  go_cut [4] (fun s4 wx => s4 = .pointer (some ⟨w.heap.size + 1 + 1, 0, none⟩) ∧ Blk wx w.heap.size 24 n.cs ∧ Blk wx (w.heap.size + 1) 24 b.cs ∧ Blk wx (w.heap.size + 1 + 1) 24 zeroV.cs ∧ Below w.heap.size w wx)
  case first =>
    go_wp2_with (go_at_call 42; (with_reducible refine (x _).mono ?_); rintro e w1 ⟨rfl, hb1⟩; (have hA1 := (((Blk.new _ _ _).alloc _).alloc _).call hb1); (have hB1 := ((Blk.new _ _ _).alloc _).call hb1); (have hC1 := (Blk.new _ _ _).call hb1); simp only [World.size_alloc] at hB1 hC1; obtain ⟨hc1, hf1⟩ := hA1.walk; obtain ⟨hc2, hf2⟩ := hB1.walk; (have hg1 := after (w := w) (by go_grown) hb1); (have hs1 := hg1.size); (have hz1 : w.heap.size + 1 + 1 < w1.heap.size := hC1.lt))
    go_meet
    exact ⟨rfl, Blk.put (a := a) hA1 n, Blk.put_far hB1 (by omega) n, Blk.put_far hC1 (by omega) n, below_put hg1 (by omega) n⟩
  obtain ⟨rfl, hA, hB, hC, hg⟩ := hcut
  obtain ⟨hc, hf⟩ := hA.walk
  obtain ⟨hc2, hf2⟩ := hB.walk
  obtain ⟨hc3, hf3⟩ := hC.walk
  have hs := hg.size
  have hz : w.heap.size + 1 + 1 < wc.heap.size := hC.lt
  go_upto_region 2 with fail
  go_cut [4] (fun s4 wx => s4 = .pointer (some ⟨w.heap.size + 1 + 1, 0, none⟩) ∧ Blk wx w.heap.size 24 n.cs ∧ Blk wx (w.heap.size + 1) 24 m.cs ∧ Blk wx (w.heap.size + 1 + 1) 24 zeroV.cs ∧ Below w.heap.size w wx)
  case first =>
    go_wp2_with (go_at_call 42; (with_reducible refine (y _).mono ?_); rintro e w2 ⟨rfl, hb2⟩; (have hA2 := hA.call hb2); (have hB2 := hB.call hb2); (have hC2 := hC.call hb2); clear hc hf hc2 hf2 hc3 hf3; obtain ⟨hc, hf⟩ := hA2.walk; obtain ⟨hc2, hf2⟩ := hB2.walk; obtain ⟨hc3, hf3⟩ := hC2.walk; (have hg2 := after hg hb2); (have hs2 := hg2.size); (have hz2 : w.heap.size + 1 + 1 < w2.heap.size := hC2.lt))
    go_meet
    exact ⟨rfl, Blk.put_far hA2 (by omega) m, Blk.put (a := b) hB2 m, Blk.put_far hC2 (by omega) m, below_put hg2 (by omega) m⟩
  clear hA hB hC hg hc hf hc2 hf2 hc3 hf3 hs hz x y
  obtain ⟨rfl, hA, hB, hC, hg⟩ := hcut
  obtain ⟨hc, hf⟩ := hA.walk
  obtain ⟨hc2, hf2⟩ := hB.walk
  obtain ⟨hc3, hf3⟩ := hC.walk
  have hs := hg.size
  have hz : w.heap.size + 1 + 1 < wc.heap.size := hC.lt
  have VN := hide v1
  have VM := hide v2
  clear v1 v2
  cases tm : m.t
  · cases tn : n.t
    · by_cases c1 : countN n ≤ 64
      · have H : Hid (coverN n m = R) := hide (hR.out ▸ by unfold meetN; simp only [tm, tn, Bool.false_eq_true, if_false]; rw [if_pos c1])
        have d := d1 c1
        rw [H.out] at d
        clear d1 d2 k2
        generalize countN n = N at *
        obtain ⟨ne, nt, nlo, nhi, nst⟩ := n
        obtain ⟨me, mt, mlo, mhi, mst⟩ := m
        dsimp only at tn tm
        subst tn tm
        dsimp only at n0 n1 n2 n3 n4 n5 m0 m1 m2 m3 m4 m5
        simp only [VSet.cs] at hc hc2 hc3
        go_wp2_with (first | (go_at_call 28; (with_reducible refine (k1 _).mono ?_); rintro e w1 ⟨rfl, hb1⟩; (have hA1 := hA.call hb1); (have hB1 := hB.call hb1); (have hC1 := hC.call hb1); obtain ⟨hc4, hf4⟩ := hA1.walk; obtain ⟨hc5, hf5⟩ := hB1.walk; (have hg1 := after hg hb1)) | (go_at_call 46; (with_reducible refine (d _).mono ?_); rintro e w2 ⟨rfl, hb2⟩; (have hC2 := hC1.call hb2); obtain ⟨hc6, hf6⟩ := hC2.walk; (have hg2 := after hg1 hb2)))
        exact bodyPost_ret (v := R.val) (results_set rfl rfl (hC2.put (a := zeroV) R)) rfl ⟨rfl, below_put hg2 (by omega) R⟩
      · have c1' : 64 < countN n := by omega
        by_cases c2 : countN m ≤ 64
        · have H : Hid (coverN m n = R) := hide (hR.out ▸ by unfold meetN; simp only [tm, tn, Bool.false_eq_true, if_false]; rw [if_neg c1, if_pos c2])
          have d := d2 c2
          rw [H.out] at d
          clear d1 d2 c1
          generalize countN n = N at *
          generalize countN m = M at *
          obtain ⟨ne, nt, nlo, nhi, nst⟩ := n
          obtain ⟨me, mt, mlo, mhi, mst⟩ := m
          dsimp only at tn tm
          subst tn tm
          dsimp only at n0 n1 n2 n3 n4 n5 m0 m1 m2 m3 m4 m5
          simp only [VSet.cs] at hc hc2 hc3
          go_wp2_with (first | (go_at_call 28; (with_reducible refine (k1 _).mono ?_); rintro e w1 ⟨rfl, hb1⟩; (have hA1 := hA.call hb1); (have hB1 := hB.call hb1); (have hC1 := hC.call hb1); obtain ⟨hc4, hf4⟩ := hA1.walk; obtain ⟨hc5, hf5⟩ := hB1.walk; (have hg1 := after hg hb1)) | (go_at_call 28; (with_reducible refine (k2 _).mono ?_); rintro e w2 ⟨rfl, hb2⟩; (have hA2 := hA1.call hb2); (have hB2 := hB1.call hb2); (have hC2 := hC1.call hb2); obtain ⟨hc6, hf6⟩ := hA2.walk; obtain ⟨hc7, hf7⟩ := hB2.walk; (have hg2 := after hg1 hb2)) | (go_at_call 46; (with_reducible refine (d _).mono ?_); rintro e w3 ⟨rfl, hb3⟩; (have hC3 := hC2.call hb3); obtain ⟨hc9, hf9⟩ := hC3.walk; (have hg3 := after hg2 hb3)))
          exact bodyPost_ret (v := R.val) (results_set rfl rfl (hC3.put (a := zeroV) R)) rfl ⟨rfl, below_put hg3 (by omega) R⟩
        · have c2' : 64 < countN m := by omega
          have L := meet_last tn tm c1 c2
          rw [hR.out] at L
          obtain ⟨ra, sa⟩ := many_st wn.out VN.out c1 tn
          have F := first_bd wn.out sa (if n.lo < m.lo then m.lo else n.lo) (by omega) (by omega)
          have F0 := first_self (a := n) (by omega)
          have s1 : 0 < n.st := by omega
          clear d1 d2 c1 c2 ra hR sa
          by_cases g1 : n.lo < m.lo
          · rw [if_pos g1] at L F
            obtain ⟨f1, f2, _, f3, f4, f5, f6⟩ := F
            by_cases g2 : n.hi < m.hi
            · have g2' : ¬ m.hi < n.hi := by omega
              rw [if_pos g2] at L
              have B := rbetween_any (firstN n m.lo) n.hi n.st (by omega) (by omega) n2 n3 n4 n5
              rw [← L] at B
              have LL := hide L
              clear L F0 wn wm VN VM
              generalize countN n = N at *
              generalize countN m = M at *
              unfold firstN at *
              obtain ⟨ne, nt, nlo, nhi, nst⟩ := n
              obtain ⟨me, mt, mlo, mhi, mst⟩ := m
              dsimp only at tn tm
              subst tn tm
              dsimp only at n0 n1 n2 n3 n4 n5 m0 m1 m2 m3 m4 m5
              simp only [VSet.cs] at hc hc2 hc3
              dsimp only at *
              go_wp2_with (first | (go_at_call 28; (with_reducible refine (k1 _).mono ?_); rintro e w1 ⟨rfl, hb1⟩; (have hA1 := hA.call hb1); (have hB1 := hB.call hb1); (have hC1 := hC.call hb1); obtain ⟨hc4, hf4⟩ := hA1.walk; obtain ⟨hc5, hf5⟩ := hB1.walk; (have hg1 := after hg hb1)) | (go_at_call 28; (with_reducible refine (k2 _).mono ?_); rintro e w2 ⟨rfl, hb2⟩; (have hA2 := hA1.call hb2); (have hB2 := hB1.call hb2); (have hC2 := hC1.call hb2); obtain ⟨hc6, hf6⟩ := hA2.walk; obtain ⟨hc7, hf7⟩ := hB2.walk; (have hg2 := after hg1 hb2)) | (go_at_call 40; (with_reducible refine (B _).mono ?_); rintro e w3 ⟨rfl, hb3⟩; (have hC3 := hC2.call hb3); obtain ⟨hc9, hf9⟩ := hC3.walk; (have hg3 := after hg2 hb3)))
              exact bodyPost_ret (v := R.val) (results_set rfl rfl (hC3.put (a := zeroV) R)) rfl ⟨rfl, below_put hg3 (by omega) R⟩
            · rw [if_neg g2] at L
              have B := rbetween_any (firstN n m.lo) m.hi n.st (by omega) (by omega) m2 m3 n4 n5
              rw [← L] at B
              by_cases g3 : m.hi < n.hi
              · skip
                have LL := hide L
                clear L F0 wn wm VN VM
                generalize countN n = N at *
                generalize countN m = M at *
                unfold firstN at *
                obtain ⟨ne, nt, nlo, nhi, nst⟩ := n
                obtain ⟨me, mt, mlo, mhi, mst⟩ := m
                dsimp only at tn tm
                subst tn tm
                dsimp only at n0 n1 n2 n3 n4 n5 m0 m1 m2 m3 m4 m5
                simp only [VSet.cs] at hc hc2 hc3
                dsimp only at *
                go_wp2_with (first | (go_at_call 28; (with_reducible refine (k1 _).mono ?_); rintro e w1 ⟨rfl, hb1⟩; (have hA1 := hA.call hb1); (have hB1 := hB.call hb1); (have hC1 := hC.call hb1); obtain ⟨hc4, hf4⟩ := hA1.walk; obtain ⟨hc5, hf5⟩ := hB1.walk; (have hg1 := after hg hb1)) | (go_at_call 28; (with_reducible refine (k2 _).mono ?_); rintro e w2 ⟨rfl, hb2⟩; (have hA2 := hA1.call hb2); (have hB2 := hB1.call hb2); (have hC2 := hC1.call hb2); obtain ⟨hc6, hf6⟩ := hA2.walk; obtain ⟨hc7, hf7⟩ := hB2.walk; (have hg2 := after hg1 hb2)) | (go_at_call 40; (with_reducible refine (B _).mono ?_); rintro e w3 ⟨rfl, hb3⟩; (have hC3 := hC2.call hb3); obtain ⟨hc9, hf9⟩ := hC3.walk; (have hg3 := after hg2 hb3)))
                exact bodyPost_ret (v := R.val) (results_set rfl rfl (hC3.put (a := zeroV) R)) rfl ⟨rfl, below_put hg3 (by omega) R⟩
              · have e3 : m.hi = n.hi := by omega
                rw [e3] at B
                clear e3
                have LL := hide L
                clear L F0 wn wm VN VM
                generalize countN n = N at *
                generalize countN m = M at *
                unfold firstN at *
                obtain ⟨ne, nt, nlo, nhi, nst⟩ := n
                obtain ⟨me, mt, mlo, mhi, mst⟩ := m
                dsimp only at tn tm
                subst tn tm
                dsimp only at n0 n1 n2 n3 n4 n5 m0 m1 m2 m3 m4 m5
                simp only [VSet.cs] at hc hc2 hc3
                dsimp only at *
                go_wp2_with (first | (go_at_call 28; (with_reducible refine (k1 _).mono ?_); rintro e w1 ⟨rfl, hb1⟩; (have hA1 := hA.call hb1); (have hB1 := hB.call hb1); (have hC1 := hC.call hb1); obtain ⟨hc4, hf4⟩ := hA1.walk; obtain ⟨hc5, hf5⟩ := hB1.walk; (have hg1 := after hg hb1)) | (go_at_call 28; (with_reducible refine (k2 _).mono ?_); rintro e w2 ⟨rfl, hb2⟩; (have hA2 := hA1.call hb2); (have hB2 := hB1.call hb2); (have hC2 := hC1.call hb2); obtain ⟨hc6, hf6⟩ := hA2.walk; obtain ⟨hc7, hf7⟩ := hB2.walk; (have hg2 := after hg1 hb2)) | (go_at_call 40; (with_reducible refine (B _).mono ?_); rintro e w3 ⟨rfl, hb3⟩; (have hC3 := hC2.call hb3); obtain ⟨hc9, hf9⟩ := hC3.walk; (have hg3 := after hg2 hb3)))
                exact bodyPost_ret (v := R.val) (results_set rfl rfl (hC3.put (a := zeroV) R)) rfl ⟨rfl, below_put hg3 (by omega) R⟩
          · rw [if_neg g1, F0] at L
            clear F
            by_cases g2 : n.hi < m.hi
            · have g2' : ¬ m.hi < n.hi := by omega
              rw [if_pos g2] at L
              have B := rbetween_any n.lo n.hi n.st (by omega) (by omega) n2 n3 n4 n5
              rw [← L] at B
              have LL := hide L
              clear L F0 wn wm VN VM
              generalize countN n = N at *
              generalize countN m = M at *
              unfold firstN at *
              obtain ⟨ne, nt, nlo, nhi, nst⟩ := n
              obtain ⟨me, mt, mlo, mhi, mst⟩ := m
              dsimp only at tn tm
              subst tn tm
              dsimp only at n0 n1 n2 n3 n4 n5 m0 m1 m2 m3 m4 m5
              simp only [VSet.cs] at hc hc2 hc3
              dsimp only at *
              go_wp2_with (first | (go_at_call 28; (with_reducible refine (k1 _).mono ?_); rintro e w1 ⟨rfl, hb1⟩; (have hA1 := hA.call hb1); (have hB1 := hB.call hb1); (have hC1 := hC.call hb1); obtain ⟨hc4, hf4⟩ := hA1.walk; obtain ⟨hc5, hf5⟩ := hB1.walk; (have hg1 := after hg hb1)) | (go_at_call 28; (with_reducible refine (k2 _).mono ?_); rintro e w2 ⟨rfl, hb2⟩; (have hA2 := hA1.call hb2); (have hB2 := hB1.call hb2); (have hC2 := hC1.call hb2); obtain ⟨hc6, hf6⟩ := hA2.walk; obtain ⟨hc7, hf7⟩ := hB2.walk; (have hg2 := after hg1 hb2)) | (go_at_call 40; (with_reducible refine (B _).mono ?_); rintro e w3 ⟨rfl, hb3⟩; (have hC3 := hC2.call hb3); obtain ⟨hc9, hf9⟩ := hC3.walk; (have hg3 := after hg2 hb3)))
              exact bodyPost_ret (v := R.val) (results_set rfl rfl (hC3.put (a := zeroV) R)) rfl ⟨rfl, below_put hg3 (by omega) R⟩
            · rw [if_neg g2] at L
              have B := rbetween_any n.lo m.hi n.st (by omega) (by omega) m2 m3 n4 n5
              rw [← L] at B
              by_cases g3 : m.hi < n.hi
              · skip
                have LL := hide L
                clear L F0 wn wm VN VM
                generalize countN n = N at *
                generalize countN m = M at *
                unfold firstN at *
                obtain ⟨ne, nt, nlo, nhi, nst⟩ := n
                obtain ⟨me, mt, mlo, mhi, mst⟩ := m
                dsimp only at tn tm
                subst tn tm
                dsimp only at n0 n1 n2 n3 n4 n5 m0 m1 m2 m3 m4 m5
                simp only [VSet.cs] at hc hc2 hc3
                dsimp only at *
                go_wp2_with (first | (go_at_call 28; (with_reducible refine (k1 _).mono ?_); rintro e w1 ⟨rfl, hb1⟩; (have hA1 := hA.call hb1); (have hB1 := hB.call hb1); (have hC1 := hC.call hb1); obtain ⟨hc4, hf4⟩ := hA1.walk; obtain ⟨hc5, hf5⟩ := hB1.walk; (have hg1 := after hg hb1)) | (go_at_call 28; (with_reducible refine (k2 _).mono ?_); rintro e w2 ⟨rfl, hb2⟩; (have hA2 := hA1.call hb2); (have hB2 := hB1.call hb2); (have hC2 := hC1.call hb2); obtain ⟨hc6, hf6⟩ := hA2.walk; obtain ⟨hc7, hf7⟩ := hB2.walk; (have hg2 := after hg1 hb2)) | (go_at_call 40; (with_reducible refine (B _).mono ?_); rintro e w3 ⟨rfl, hb3⟩; (have hC3 := hC2.call hb3); obtain ⟨hc9, hf9⟩ := hC3.walk; (have hg3 := after hg2 hb3)))
                exact bodyPost_ret (v := R.val) (results_set rfl rfl (hC3.put (a := zeroV) R)) rfl ⟨rfl, below_put hg3 (by omega) R⟩
              · have e3 : m.hi = n.hi := by omega
                rw [e3] at B
                clear e3
                have LL := hide L
                clear L F0 wn wm VN VM
                generalize countN n = N at *
                generalize countN m = M at *
                unfold firstN at *
                obtain ⟨ne, nt, nlo, nhi, nst⟩ := n
                obtain ⟨me, mt, mlo, mhi, mst⟩ := m
                dsimp only at tn tm
                subst tn tm
                dsimp only at n0 n1 n2 n3 n4 n5 m0 m1 m2 m3 m4 m5
                simp only [VSet.cs] at hc hc2 hc3
                dsimp only at *
                go_wp2_with (first | (go_at_call 28; (with_reducible refine (k1 _).mono ?_); rintro e w1 ⟨rfl, hb1⟩; (have hA1 := hA.call hb1); (have hB1 := hB.call hb1); (have hC1 := hC.call hb1); obtain ⟨hc4, hf4⟩ := hA1.walk; obtain ⟨hc5, hf5⟩ := hB1.walk; (have hg1 := after hg hb1)) | (go_at_call 28; (with_reducible refine (k2 _).mono ?_); rintro e w2 ⟨rfl, hb2⟩; (have hA2 := hA1.call hb2); (have hB2 := hB1.call hb2); (have hC2 := hC1.call hb2); obtain ⟨hc6, hf6⟩ := hA2.walk; obtain ⟨hc7, hf7⟩ := hB2.walk; (have hg2 := after hg1 hb2)) | (go_at_call 40; (with_reducible refine (B _).mono ?_); rintro e w3 ⟨rfl, hb3⟩; (have hC3 := hC2.call hb3); obtain ⟨hc9, hf9⟩ := hC3.walk; (have hg3 := after hg2 hb3)))
                exact bodyPost_ret (v := R.val) (results_set rfl rfl (hC3.put (a := zeroV) R)) rfl ⟨rfl, below_put hg3 (by omega) R⟩
    · have H : Hid (m = R) := hide (hR.out ▸ by unfold meetN; simp only [tm, tn, Bool.false_eq_true, if_false, if_true])
      have HR := H.out
      clear H hR k1 k2 d1 d2
      subst HR
      obtain ⟨ne, nt, nlo, nhi, nst⟩ := n
      obtain ⟨me, mt, mlo, mhi, mst⟩ := m
      dsimp only at tn tm
      subst tn tm
      dsimp only at n0 n1 n2 n3 n4 n5 m0 m1 m2 m3 m4 m5
      simp only [VSet.cs] at hc hc2 hc3
      go_wp2
      exact bodyPost_ret (v := VSet.val ⟨me, false, mlo, mhi, mst⟩) (results_set rfl rfl (hC.put (a := zeroV) ⟨me, false, mlo, mhi, mst⟩)) rfl ⟨rfl, below_put hg (by omega) ⟨me, false, mlo, mhi, mst⟩⟩
  · have H : Hid (n = R) := hide (hR.out ▸ by unfold meetN; simp only [tm, if_true])
    have HR := H.out
    clear H hR k1 k2 d1 d2
    subst HR
    obtain ⟨ne, nt, nlo, nhi, nst⟩ := n
    obtain ⟨me, mt, mlo, mhi, mst⟩ := m
    dsimp only at tm
    subst tm
    dsimp only at n0 n1 n2 n3 n4 n5 m0 m1 m2 m3 m4 m5
    simp only [VSet.cs] at hc hc2 hc3
    go_wp2
    exact bodyPost_ret (v := VSet.val ⟨ne, nt, nlo, nhi, nst⟩) (results_set rfl rfl (hC.put (a := zeroV) ⟨ne, nt, nlo, nhi, nst⟩)) rfl ⟨rfl, below_put hg (by omega) ⟨ne, nt, nlo, nhi, nst⟩⟩
theorem rcover_any (a b : VSet) (ha : a.wf) (hb : b.wf) (va : validL a = true) (vb : validL b = true) (hc : countN a ≤ 64) (w : World) : Calls Try.prog 46 #[a.val, b.val] w (Ret (coverN a b).val w) :=
  cover_core a b hb (elemsN a) (fun x hx => by have := elems_mem ha va hc x hx; exact ⟨this.1, this.2.1⟩)
    (by rw [elems_len]; omega) (rlist_any a ha va hc)
    (fun x w x0 x1 => by have := rcontains_any b hb x x0 x1 w; unfold containsL at this; rwa [normL_of vb] at this)
    (fun o x w wo x0 x1 => rjoin_any o (oneV x) wo (oneV_wf x0 x1) w) w
theorem rmeet_any (a b : VSet) (ha : a.wf) (hb : b.wf) (w : World) : Calls Try.prog 35 #[a.val, b.val] w (Ret (meetL a b).val w) := by
  have na := normL_wf ha
  have nb := normL_wf hb
  have va := normL_valid a
  have vb := normL_valid b
  refine rmeet_core a b (normL a) (normL b) na nb _ (hide rfl) (norm_any a ha) (norm_any b hb) (fun w => ?_) (fun w => ?_) va vb (fun h => rcover_any _ _ na nb va vb h) (fun h => rcover_any _ _ nb na vb va h) w
  · have := rcount_any (normL a) na w
    unfold countL at this
    rwa [normL_of va] at this
  · have := rcount_any (normL b) nb w
    unfold countL at this
    rwa [normL_of vb] at this
end Go.Proofs.Ytjhdjclcfmcilaa
