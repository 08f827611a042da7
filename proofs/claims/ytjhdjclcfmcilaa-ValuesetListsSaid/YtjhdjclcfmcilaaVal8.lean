/-
  What Widen of package valueset returns.
-/
import Derived.Test.YtjhdjclcfmcilaaPl14
namespace Go.Proofs.Ytjhdjclcfmcilaa
open Go.ChangeShapes Go.WideShapes Go.ChangeAt Go.RowKit
set_option linter.unusedVariables false

def widenN (a b : VSet) : VSet :=
  if withinN b a then a else if a.e then b else if a.t || b.t then topV
  else if (joinN a b).t then joinN a b
  else betweenL (if (joinN a b).lo < a.lo then (joinN a b).lo % (joinN a b).st else (joinN a b).lo) (if a.hi < (joinN a b).hi then 4294967295 else (joinN a b).hi) (joinN a b).st
def widenL (a b : VSet) : VSet := widenN (normL a) (normL b)
abbrev zeroV : VSet := ⟨false, false, 0, 0, 0⟩

set_option maxHeartbeats 4000000 in
theorem widen_core (a b n m c : VSet) (hn : n.wf) (hm : m.wf) (hc : c.wf) (hcd : Hid (c.t = false → n.t = false → m.t = false → n.e = false → m.e = false → c.lo < n.lo → c.st ≠ 0)) (r : Bool) (hre : m.e = true → r = true) (R : VSet)
    (hR : Hid (R = if r then n else if n.e then m else if n.t || m.t then topV else if c.t then c
      else betweenL (if c.lo < n.lo then c.lo % c.st else c.lo) (if n.hi < c.hi then 4294967295 else c.hi) c.st))
    (x : ∀ w, Calls Try.prog 41 #[a.val] w (Ret n.val w)) (y : ∀ w, Calls Try.prog 41 #[b.val] w (Ret m.val w))
    (z : ∀ w, Calls Try.prog 21 #[m.val, n.val] w (Ret (.bool r) w)) (j : ∀ w, Calls Try.prog 32 #[n.val, m.val] w (Ret c.val w)) (w : World) :
    Calls Try.prog 23 #[a.val, b.val] w (Ret R.val w) := by
  obtain ⟨n0, n1, n2, n3, n4, n5⟩ := hn
  obtain ⟨m0, m1, m2, m3, m4, m5⟩ := hm
  obtain ⟨c0, c1, c2, c3, c4, c5⟩ := hc
  go_enter Try.func23, Try.ntmps23
  go_upto_region 1 with fail
  go_cut [4] (fun s4 wx => s4 = .pointer (some ⟨w.heap.size + 1 + 1, 0, none⟩) ∧ Blk wx w.heap.size 24 n.cs ∧ Blk wx (w.heap.size + 1) 24 m.cs ∧ Blk wx (w.heap.size + 1 + 1) 24 zeroV.cs ∧ Below w.heap.size w wx)
  case first =>
    go_region_with (first | (go_at_call 41; (with_reducible refine (x _).mono ?_); rintro e w1 ⟨rfl, hb1⟩; (have hA := (((Blk.new _ _ _).alloc _).alloc _).drew.call hb1); (have hB := ((Blk.new _ _ _).alloc _).drew.call hb1); (have hC := (Blk.new _ _ _).drew.call hb1); simp only [World.size_alloc] at hB hC; obtain ⟨hc, hf⟩ := hA.walk; obtain ⟨hc2, hf2⟩ := hB.walk; (have hg := after (w := w) (by go_grown) hb1); (have hs1 := hg.size)) | (go_at_call 41; (with_reducible refine (y _).mono ?_); rintro e w2 ⟨rfl, hb2⟩; (have hA2 := hA.call hb2); (have hB2 := hB.call hb2); (have hC2 := hC.call hb2); obtain ⟨hc3, hf3⟩ := hA2.walk; obtain ⟨hc4, hf4⟩ := hB2.walk; (have hg2 := after hg hb2); (have hs2 := hg2.size)))
    all_goals (go_wp2_with fail; go_meet; exact ⟨rfl, (Blk.put (a := a) hA2 n).put_far (by omega) m, (Blk.put_far hB2 (by omega) n).put (a := b) m, (Blk.put_far hC2 (by omega) n).put_far (by omega) m, below_put (below_put hg2 (by omega) _) (by omega) _⟩)
  case rest =>
    obtain ⟨rfl, hA, hB, hC, hg⟩ := hcut
    obtain ⟨hd1, hf⟩ := hA.walk
    obtain ⟨hd2, hf2⟩ := hB.walk
    obtain ⟨hd3, hf3⟩ := hC.walk
    have hs := hg.size
    clear x y
    obtain ⟨ne, nt, nlo, nhi, nst⟩ := n
    obtain ⟨me, mt, mlo, mhi, mst⟩ := m
    obtain ⟨ce, ct, clo, chi, cst⟩ := c
    dsimp only at n0 n1 n2 n3 n4 n5 m0 m1 m2 m3 m4 m5 c0 c1 c2 c3 c4 c5 hre hcd
    simp only [VSet.cs] at hd1 hd2 hd3
    simp only [VSet.val] at z j
    cases r
    · obtain rfl : me = false := by cases me; rfl; exact absurd (hre rfl) (by simp)
      clear hre
      cases ne
      · cases nt
        · cases mt
          · cases ct
            · have hcd' := hide (hcd.out rfl rfl rfl rfl rfl)
              clear hcd
              by_cases g1 : clo < nlo
              · have gs : ¬ cst = 0 := hcd'.out g1
                have gm0 : 0 ≤ clo % cst := Int.emod_nonneg _ gs
                have gm1 : clo % cst < 4294967296 := by have := Int.emod_lt_of_pos clo (by omega : 0 < cst); omega
                have hR1 : Hid (R = betweenL (clo % cst) (if nhi < chi then 4294967295 else chi) cst) := hide (hR.out.trans (by show betweenL (if clo < nlo then clo % cst else clo) (if nhi < chi then 4294967295 else chi) cst = _; rw [if_pos g1]))
                clear hR hcd'
                by_cases g2 : nhi < chi
                · have B : ∀ w, Calls Try.prog 14 #[.int .u32 (clo % cst), .int .u32 4294967295, .int .u32 cst] w (Ret R.val w) := fun w => by
                    rw [hR1.out, if_pos g2]; exact between_any _ _ _ gm0 gm1 (by omega) (by omega) c4 c5 w
                  clear hR1
                  go_wp2_with (first | (go_at_call 21; (with_reducible refine (z _).mono ?_); rintro e w1 ⟨rfl, hb1⟩; (have hA1 := hA.call hb1); (have hB1 := hB.call hb1); (have hC1 := hC.call hb1); obtain ⟨hd4, hf4⟩ := hA1.walk; obtain ⟨hd5, hf5⟩ := hB1.walk; obtain ⟨hd6, hf6⟩ := hC1.walk; (have hg1 := after hg hb1); (have hs1 := hg1.size)) | (go_at_call 32; (with_reducible refine (j _).mono ?_); rintro e w2 ⟨rfl, hb2⟩; (have hA2 := hA1.call hb2); (have hC2 := hC1.call hb2); obtain ⟨hd7, hf7⟩ := hC2.walk; obtain ⟨hd8, hf8⟩ := hA2.walk; (have hg2 := after hg1 hb2); (have hs2 := hg2.size); (have hz2 : w.heap.size + 1 + 1 < w2.heap.size := hC2.lt); (have hz3 : w.heap.size < w2.heap.size := hA2.lt)))
                  go_quiet (fail)
                  go_wp2_with (go_at_call 14; (with_reducible refine (B _).mono ?_); rintro e w3 ⟨rfl, hb3⟩; (have hC4 := (blk_drewN (hC2.alloc _) nq).call hb3); obtain ⟨hd9, hf9⟩ := hC4.walk; (have hg4 := after (below_drewN (hg2.alloc hs2 _) nq) hb3))
                  exact bodyPost_ret (v := R.val) (results_set rfl rfl (hC4.put (a := zeroV) R)) rfl ⟨rfl, below_put hg4 (by omega) R⟩
                · have B : ∀ w, Calls Try.prog 14 #[.int .u32 (clo % cst), .int .u32 chi, .int .u32 cst] w (Ret R.val w) := fun w => by
                    rw [hR1.out, if_neg g2]; exact between_any _ _ _ gm0 gm1 c2 c3 c4 c5 w
                  clear hR1
                  go_wp2_with (first | (go_at_call 21; (with_reducible refine (z _).mono ?_); rintro e w1 ⟨rfl, hb1⟩; (have hA1 := hA.call hb1); (have hB1 := hB.call hb1); (have hC1 := hC.call hb1); obtain ⟨hd4, hf4⟩ := hA1.walk; obtain ⟨hd5, hf5⟩ := hB1.walk; obtain ⟨hd6, hf6⟩ := hC1.walk; (have hg1 := after hg hb1); (have hs1 := hg1.size)) | (go_at_call 32; (with_reducible refine (j _).mono ?_); rintro e w2 ⟨rfl, hb2⟩; (have hA2 := hA1.call hb2); (have hC2 := hC1.call hb2); obtain ⟨hd7, hf7⟩ := hC2.walk; obtain ⟨hd8, hf8⟩ := hA2.walk; (have hg2 := after hg1 hb2); (have hs2 := hg2.size); (have hz2 : w.heap.size + 1 + 1 < w2.heap.size := hC2.lt); (have hz3 : w.heap.size < w2.heap.size := hA2.lt)))
                  go_quiet (fail)
                  go_wp2_with (go_at_call 14; (with_reducible refine (B _).mono ?_); rintro e w3 ⟨rfl, hb3⟩; (have hC4 := (blk_drewN (hC2.alloc _) nq).call hb3); obtain ⟨hd9, hf9⟩ := hC4.walk; (have hg4 := after (below_drewN (hg2.alloc hs2 _) nq) hb3))
                  exact bodyPost_ret (v := R.val) (results_set rfl rfl (hC4.put (a := zeroV) R)) rfl ⟨rfl, below_put hg4 (by omega) R⟩
              · have hR1 : Hid (R = betweenL clo (if nhi < chi then 4294967295 else chi) cst) := hide (hR.out.trans (by show betweenL (if clo < nlo then clo % cst else clo) (if nhi < chi then 4294967295 else chi) cst = _; rw [if_neg g1]))
                clear hR hcd'
                by_cases g2 : nhi < chi
                · have B : ∀ w, Calls Try.prog 14 #[.int .u32 clo, .int .u32 4294967295, .int .u32 cst] w (Ret R.val w) := fun w => by
                    rw [hR1.out, if_pos g2]; exact between_any _ _ _ c0 c1 (by omega) (by omega) c4 c5 w
                  clear hR1
                  go_wp2_with (first | (go_at_call 21; (with_reducible refine (z _).mono ?_); rintro e w1 ⟨rfl, hb1⟩; (have hA1 := hA.call hb1); (have hB1 := hB.call hb1); (have hC1 := hC.call hb1); obtain ⟨hd4, hf4⟩ := hA1.walk; obtain ⟨hd5, hf5⟩ := hB1.walk; obtain ⟨hd6, hf6⟩ := hC1.walk; (have hg1 := after hg hb1); (have hs1 := hg1.size)) | (go_at_call 32; (with_reducible refine (j _).mono ?_); rintro e w2 ⟨rfl, hb2⟩; (have hA2 := hA1.call hb2); (have hC2 := hC1.call hb2); obtain ⟨hd7, hf7⟩ := hC2.walk; obtain ⟨hd8, hf8⟩ := hA2.walk; (have hg2 := after hg1 hb2); (have hs2 := hg2.size); (have hz2 : w.heap.size + 1 + 1 < w2.heap.size := hC2.lt); (have hz3 : w.heap.size < w2.heap.size := hA2.lt)))
                  go_quiet (fail)
                  go_wp2_with (go_at_call 14; (with_reducible refine (B _).mono ?_); rintro e w3 ⟨rfl, hb3⟩; (have hC4 := (blk_drewN (hC2.alloc _) nq).call hb3); obtain ⟨hd9, hf9⟩ := hC4.walk; (have hg4 := after (below_drewN (hg2.alloc hs2 _) nq) hb3))
                  exact bodyPost_ret (v := R.val) (results_set rfl rfl (hC4.put (a := zeroV) R)) rfl ⟨rfl, below_put hg4 (by omega) R⟩
                · have B : ∀ w, Calls Try.prog 14 #[.int .u32 clo, .int .u32 chi, .int .u32 cst] w (Ret R.val w) := fun w => by
                    rw [hR1.out, if_neg g2]; exact between_any _ _ _ c0 c1 c2 c3 c4 c5 w
                  clear hR1
                  go_wp2_with (first | (go_at_call 21; (with_reducible refine (z _).mono ?_); rintro e w1 ⟨rfl, hb1⟩; (have hA1 := hA.call hb1); (have hB1 := hB.call hb1); (have hC1 := hC.call hb1); obtain ⟨hd4, hf4⟩ := hA1.walk; obtain ⟨hd5, hf5⟩ := hB1.walk; obtain ⟨hd6, hf6⟩ := hC1.walk; (have hg1 := after hg hb1); (have hs1 := hg1.size)) | (go_at_call 32; (with_reducible refine (j _).mono ?_); rintro e w2 ⟨rfl, hb2⟩; (have hA2 := hA1.call hb2); (have hC2 := hC1.call hb2); obtain ⟨hd7, hf7⟩ := hC2.walk; obtain ⟨hd8, hf8⟩ := hA2.walk; (have hg2 := after hg1 hb2); (have hs2 := hg2.size); (have hz2 : w.heap.size + 1 + 1 < w2.heap.size := hC2.lt); (have hz3 : w.heap.size < w2.heap.size := hA2.lt)))
                  go_quiet (fail)
                  go_wp2_with (go_at_call 14; (with_reducible refine (B _).mono ?_); rintro e w3 ⟨rfl, hb3⟩; (have hC4 := (blk_drewN (hC2.alloc _) nq).call hb3); obtain ⟨hd9, hf9⟩ := hC4.walk; (have hg4 := after (below_drewN (hg2.alloc hs2 _) nq) hb3))
                  exact bodyPost_ret (v := R.val) (results_set rfl rfl (hC4.put (a := zeroV) R)) rfl ⟨rfl, below_put hg4 (by omega) R⟩
            · have H : Hid (R = ⟨ce, true, clo, chi, cst⟩) := hR
              go_wp2_with (first | (go_at_call 21; (with_reducible refine (z _).mono ?_); rintro e w1 ⟨rfl, hb1⟩; (have hA1 := hA.call hb1); (have hB1 := hB.call hb1); (have hC1 := hC.call hb1); obtain ⟨hd4, hf4⟩ := hA1.walk; obtain ⟨hd5, hf5⟩ := hB1.walk; obtain ⟨hd6, hf6⟩ := hC1.walk; (have hg1 := after hg hb1); (have hs1 := hg1.size)) | (go_at_call 32; (with_reducible refine (j _).mono ?_); rintro e w2 ⟨rfl, hb2⟩; (have hC2 := hC1.call hb2); obtain ⟨hd7, hf7⟩ := hC2.walk; (have hg2 := after hg1 hb2); (have hs2 := hg2.size); (have hz2 : w.heap.size + 1 + 1 < w2.heap.size := hC2.lt)))
              rw [H.out]
              exact bodyPost_ret (v := VSet.val ⟨ce, true, clo, chi, cst⟩) (results_set rfl rfl ((hC2.put (a := zeroV) ⟨ce, true, clo, chi, cst⟩).alloc _)) rfl ⟨rfl, by go_grown⟩
          · have H : Hid (R = topV) := hR
            go_wp2_with (first | (go_at_call 21; (with_reducible refine (z _).mono ?_); rintro e w1 ⟨rfl, hb1⟩; (have hA1 := hA.call hb1); (have hB1 := hB.call hb1); (have hC1 := hC.call hb1); obtain ⟨hd4, hf4⟩ := hA1.walk; obtain ⟨hd5, hf5⟩ := hB1.walk; obtain ⟨hd6, hf6⟩ := hC1.walk; (have hg1 := after hg hb1); (have hs1 := hg1.size)) | (go_at_call 16; (with_reducible refine (top_any _).mono ?_); rintro e w2 ⟨rfl, hb2⟩; (have hC2 := hC1.call hb2); obtain ⟨hd7, hf7⟩ := hC2.walk; (have hg2 := after hg1 hb2)))
            rw [H.out]
            exact bodyPost_ret (v := topV.val) (results_set rfl rfl (hC2.put (a := zeroV) topV)) rfl ⟨rfl, below_put hg2 (by omega) topV⟩
        · have H : Hid (R = topV) := hR
          go_wp2_with (first | (go_at_call 21; (with_reducible refine (z _).mono ?_); rintro e w1 ⟨rfl, hb1⟩; (have hA1 := hA.call hb1); (have hB1 := hB.call hb1); (have hC1 := hC.call hb1); obtain ⟨hd4, hf4⟩ := hA1.walk; obtain ⟨hd5, hf5⟩ := hB1.walk; obtain ⟨hd6, hf6⟩ := hC1.walk; (have hg1 := after hg hb1); (have hs1 := hg1.size)) | (go_at_call 16; (with_reducible refine (top_any _).mono ?_); rintro e w2 ⟨rfl, hb2⟩; (have hC2 := hC1.call hb2); obtain ⟨hd7, hf7⟩ := hC2.walk; (have hg2 := after hg1 hb2)))
          rw [H.out]
          exact bodyPost_ret (v := topV.val) (results_set rfl rfl (hC2.put (a := zeroV) topV)) rfl ⟨rfl, below_put hg2 (by omega) topV⟩
      · have H : Hid (R = ⟨false, mt, mlo, mhi, mst⟩) := hR
        go_wp2_with (first | (go_at_call 21; (with_reducible refine (z _).mono ?_); rintro e w1 ⟨rfl, hb1⟩; (have hA1 := hA.call hb1); (have hB1 := hB.call hb1); (have hC1 := hC.call hb1); obtain ⟨hd4, hf4⟩ := hA1.walk; obtain ⟨hd5, hf5⟩ := hB1.walk; obtain ⟨hd6, hf6⟩ := hC1.walk; (have hg1 := after hg hb1); (have hs1 := hg1.size)))
        rw [H.out]
        exact bodyPost_ret (v := VSet.val ⟨false, mt, mlo, mhi, mst⟩) (results_set rfl rfl (hC1.put (a := zeroV) ⟨false, mt, mlo, mhi, mst⟩)) rfl ⟨rfl, below_put hg1 (by omega) ⟨false, mt, mlo, mhi, mst⟩⟩
    · have H : Hid (R = ⟨ne, nt, nlo, nhi, nst⟩) := hR
      go_wp2_with (first | (go_at_call 21; (with_reducible refine (z _).mono ?_); rintro e w1 ⟨rfl, hb1⟩; (have hA1 := hA.call hb1); (have hB1 := hB.call hb1); (have hC1 := hC.call hb1); obtain ⟨hd4, hf4⟩ := hA1.walk; obtain ⟨hd5, hf5⟩ := hB1.walk; obtain ⟨hd6, hf6⟩ := hC1.walk; (have hg1 := after hg hb1); (have hs1 := hg1.size)))
      rw [H.out]
      exact bodyPost_ret (v := VSet.val ⟨ne, nt, nlo, nhi, nst⟩) (results_set rfl rfl (hC1.put (a := zeroV) ⟨ne, nt, nlo, nhi, nst⟩)) rfl ⟨rfl, below_put hg1 (by omega) ⟨ne, nt, nlo, nhi, nst⟩⟩
theorem widen_any (a b : VSet) (ha : a.wf) (hb : b.wf) (w : World) : Calls Try.prog 23 #[a.val, b.val] w (Ret (widenL a b).val w) := by
  have na := normL_wf ha
  have nb := normL_wf hb
  have va := normL_valid a
  have vb := normL_valid b
  refine widen_core a b (normL a) (normL b) (joinN (normL a) (normL b)) na nb (joinN_wf na nb) (hide (fun h1 h2 h3 h4 h5 h6 => joinN_st va vb h2 h4 h3 h5 h1 h6)) (withinN (normL b) (normL a)) (fun h => by unfold withinN; simp only [h, Bool.true_or, if_true]) _ (hide rfl)
    (known_any a ha) (known_any b hb) (fun w => ?_) (fun w => ?_) w
  · have := within_any (normL b) (normL a) nb na w
    unfold withinL at this
    rwa [normL_of va, normL_of vb] at this
  · have := join_any (normL a) (normL b) na nb w
    unfold joinL at this
    rwa [normL_of va, normL_of vb] at this
end Go.Proofs.Ytjhdjclcfmcilaa
