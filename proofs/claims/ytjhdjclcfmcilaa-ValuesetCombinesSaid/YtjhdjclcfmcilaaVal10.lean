/-
  What Join of decompilerref14 returns.
-/
import Derived.Test.YtjhdjclcfmcilaaVal8
namespace Go.Proofs.Ytjhdjclcfmcilaa
open Go.ChangeShapes Go.WideShapes Go.ChangeAt Go.RowKit
set_option linter.unusedVariables false
theorem rgcd_same (a b : Int) (a0 : 0 ≤ a) (a1 : a < 4294967296) (b0 : 0 ≤ b) (b1 : b < 4294967296) (w : World) :
    Calls Try.prog 45 #[.int .i64 a, .int .i64 b] w fun e w' => e = .returned (.int .i64 (gcdL a b)) ∧ w = w' := by
  have HS := hide gcdL_step
  have HZ := hide gcdL_zero
  go_enter Try.func45, Try.ntmps45
  go_wp2
  go_loop [0, 1] (fun x y => ∃ p q : Int, x = .int .i64 p ∧ y = .int .i64 q ∧ 0 ≤ p ∧ p < 4294967296 ∧ 0 ≤ q ∧ q < 4294967296 ∧ Hid (gcdL p q = gcdL a b)) (fun _ y => (intOf y).toNat)
  case atStart => exact ⟨a, b, rfl, rfl, a0, a1, b0, b1, hide rfl⟩
  case round =>
    obtain ⟨p, q, rfl, rfl, p0, p1, q0, q1, hg⟩ := hrel
    by_cases hq : q = 0
    · subst hq
      go_wp2
      go_returns
      have e := hg.out
      rw [HZ.out p p0] at e
      subst e
      exact ⟨rfl, rfl⟩
    · have c1 : (q == 0) = false := by rw [beq_eq_false_iff_ne]; exact hq
      have c2 : 0 < q := by omega
      have m1 : 0 ≤ p % q := Int.emod_nonneg _ hq
      have m2 : p % q < q := Int.emod_lt_of_pos p (by omega)
      have HR := hide ((HS.out p q p0 (by omega)).trans hg.out)
      clear hq
      go_wp2
      go_round
      case rel => exact ⟨q, p % q, rfl, rfl, q0, q1, m1, by omega, HR⟩
      case measure => simp [intOf]; omega


/-- The three calls of gcd in the reference's Join, and its bounds. -/
theorem rjoin_plain (nlo nhi nst mlo mhi mst : Int) (n0 : 0 ≤ nlo) (n1 : nlo < 4294967296) (n2 : 0 ≤ nhi) (n3 : nhi < 4294967296) (n4 : 0 ≤ nst) (n5 : nst < 4294967296) (m0 : 0 ≤ mlo) (m1 : mlo < 4294967296) (m2 : 0 ≤ mhi) (m3 : mhi < 4294967296) (m4 : 0 ≤ mst) (m5 : mst < 4294967296) (L : Int) (hL : L = if mlo < nlo then mlo else nlo) :
    gcdL (gcdL (gcdL nst mst) (nlo - L)) (mlo - L) = gcdL (gcdL nst mst) ((if nlo < mlo then mlo else nlo) - L) := by
  have g0 := gcdL_nonneg nst mst
  by_cases c1 : mlo < nlo
  · rw [if_pos c1] at hL
    rw [hL]
    rw [if_neg (by omega), Int.sub_self, gcdL_zero _ (gcdL_nonneg _ _)]
  · rw [if_neg c1] at hL
    rw [hL]
    rw [Int.sub_self, gcdL_zero _ g0]
    by_cases c : nlo < mlo
    · rw [if_pos c]
    · rw [if_neg c]
      have : mlo = nlo := by omega
      rw [this]
set_option maxHeartbeats 4000000 in
theorem rjoin_core (a b n m : VSet) (hn : n.wf) (hm : m.wf)
    (x : ∀ w, Calls Try.prog 42 #[a.val] w (Ret n.val w)) (y : ∀ w, Calls Try.prog 42 #[b.val] w (Ret m.val w)) (w : World) :
    Calls Try.prog 33 #[a.val, b.val] w (Ret (joinN n m).val w) := by
  obtain ⟨n0, n1, n2, n3, n4, n5⟩ := hn
  obtain ⟨m0, m1, m2, m3, m4, m5⟩ := hm
  go_enter Try.func33, Try.ntmps33
  go_upto_region 1 with fail
  go_cut [4] (fun s4 wx => s4 = .pointer (some ⟨w.heap.size + 1 + 1, 0, none⟩) ∧ Blk wx w.heap.size 24 n.cs ∧ Blk wx (w.heap.size + 1) 24 b.cs ∧ Blk wx (w.heap.size + 1 + 1) 24 zeroV.cs ∧ Below w.heap.size w wx)
  case first =>
    go_wp2_with (go_at_call 42; (with_reducible refine (x _).mono ?_); rintro e w1 ⟨rfl, hb1⟩; (have hA1 := (((Blk.new _ _ _).alloc _).alloc _).call hb1); (have hB1 := ((Blk.new _ _ _).alloc _).call hb1); (have hC1 := (Blk.new _ _ _).call hb1); simp only [World.size_alloc] at hB1 hC1; obtain ⟨hc1, hf1⟩ := hA1.walk; obtain ⟨hc2, hf2⟩ := hB1.walk; (have hg1 := after (w := w) (by go_grown) hb1); (have hs1 := hg1.size); (have hz1 : w.heap.size + 1 + 1 < w1.heap.size := hC1.lt))
    go_meet
    exact ⟨rfl, Blk.put (a := a) hA1 n, Blk.put_far hB1 (by omega) n, Blk.put_far hC1 (by omega) n, below_put hg1 (by omega) n⟩
  obtain ⟨rfl, hA, hB, hC, hg⟩ := hcut
  obtain ⟨hc, hf⟩ := hA.walk
  obtain ⟨hc2, hf2⟩ := hB.walk
  obtain ⟨hc3, hf3⟩ := hC.walk
  have hs := hg.size
  have hz : w.heap.size + 1 + 1 < wc.heap.size := hC.lt
  go_upto_region 2 with fail
  go_cut [4] (fun s4 wx => s4 = .pointer (some ⟨w.heap.size + 1 + 1, 0, none⟩) ∧ Blk wx w.heap.size 24 n.cs ∧ Blk wx (w.heap.size + 1) 24 m.cs ∧ Blk wx (w.heap.size + 1 + 1) 24 zeroV.cs ∧ Below w.heap.size w wx)
  case first =>
    go_wp2_with (go_at_call 42; (with_reducible refine (y _).mono ?_); rintro e w2 ⟨rfl, hb2⟩; (have hA2 := hA.call hb2); (have hB2 := hB.call hb2); (have hC2 := hC.call hb2); clear hc hf hc2 hf2 hc3 hf3; obtain ⟨hc, hf⟩ := hA2.walk; obtain ⟨hc2, hf2⟩ := hB2.walk; obtain ⟨hc3, hf3⟩ := hC2.walk; (have hg2 := after hg hb2); (have hs2 := hg2.size); (have hz2 : w.heap.size + 1 + 1 < w2.heap.size := hC2.lt))
    go_meet
    exact ⟨rfl, Blk.put_far hA2 (by omega) m, Blk.put (a := b) hB2 m, Blk.put_far hC2 (by omega) m, below_put hg2 (by omega) m⟩
  clear hA hB hC hg hc hf hc2 hf2 hc3 hf3 hs hz x y
  obtain ⟨rfl, hA, hB, hC, hg⟩ := hcut
  obtain ⟨hc, hf⟩ := hA.walk
  obtain ⟨hc2, hf2⟩ := hB.walk
  obtain ⟨hc3, hf3⟩ := hC.walk
  have hs := hg.size
  have hz : w.heap.size + 1 + 1 < wc.heap.size := hC.lt
  obtain ⟨ne, nt, nlo, nhi, nst⟩ := n
  obtain ⟨me, mt, mlo, mhi, mst⟩ := m
  dsimp only at n0 n1 n2 n3 n4 n5 m0 m1 m2 m3 m4 m5
  simp only [VSet.cs] at hc hc2 hc3
  cases nt
  · cases mt
    · cases ne
      · cases me
        · have P := rjoin_plain nlo nhi nst mlo mhi mst n0 n1 n2 n3 n4 n5 m0 m1 m2 m3 m4 m5
          have H : ∀ L U, L = (if mlo < nlo then mlo else nlo) → U = (if nhi < mhi then mhi else nhi) → joinN ⟨false, false, nlo, nhi, nst⟩ ⟨false, false, mlo, mhi, mst⟩ = betweenL L U (gcdL (gcdL (gcdL nst mst) (nlo - L)) (mlo - L)) := fun L U hL hU => by
            rw [P L hL, hL, hU]; rfl
          obtain ⟨J, hJ⟩ : ∃ J, J = joinN ⟨false, false, nlo, nhi, nst⟩ ⟨false, false, mlo, mhi, mst⟩ := ⟨_, rfl⟩
          have HJ := hide hJ.symm
          rw [← hJ] at H
          clear hJ P
          have g0 := gcdL_nonneg nst mst
          have g1 := gcdL_le nst mst 4294967295 n4 m4 (by omega) (by omega)
          have z1 := rgcd_same nst mst n4 n5 m4 m5
          generalize gcdL nst mst = G at *
          have HH := hide H
          clear H
          by_cases c1 : mlo < nlo
          · have d0 : 0 ≤ nlo - mlo := by omega
            have k0 := gcdL_nonneg G (nlo - mlo)
            have k1 := gcdL_le G (nlo - mlo) 4294967295 g0 d0 (by omega) (by omega)
            have z2 := rgcd_same G (nlo - mlo) g0 (by omega) d0 (by omega)
            have H1 : ∀ U, U = (if nhi < mhi then mhi else nhi) → J = betweenL mlo U (gcdL G (nlo - mlo)) := fun U hU => by
              rw [HH.out mlo U (by rw [if_pos c1]) hU, Int.sub_self, gcdL_zero _ k0]
            generalize gcdL G (nlo - mlo) = K at *
            have z3 := rgcd_same K 0 k0 (by omega) (by omega) (by omega)
            rw [gcdL_zero K k0] at z3
            by_cases c2 : nhi < mhi
            · have B := rbetween_any mlo mhi K (by omega) (by omega) (by omega) (by omega) k0 (by omega)
              rw [← H1 mhi (by rw [if_pos c2])] at B
              clear H1 HH
              go_wp2_with (first | (go_at_call 45; (first | (with_reducible refine (z1 _).mono ?_) | (with_reducible refine (z2 _).mono ?_) | (with_reducible refine (z3 _).mono ?_)); rintro e w3 ⟨rfl, rfl⟩) | (go_at_call 40; (with_reducible refine (B _).mono ?_); rintro e w4 ⟨rfl, hb4⟩; (have hC4 := hC.call hb4); obtain ⟨hc4, hf4⟩ := hC4.walk; (have hg4 := after hg hb4)))
              rw [HJ.out]
              exact bodyPost_ret (v := J.val) (results_set rfl rfl (hC4.put (a := zeroV) J)) rfl ⟨rfl, below_put hg4 (by omega) J⟩
            · have B := rbetween_any mlo nhi K (by omega) (by omega) (by omega) (by omega) k0 (by omega)
              rw [← H1 nhi (by rw [if_neg c2])] at B
              clear H1 HH
              go_wp2_with (first | (go_at_call 45; (first | (with_reducible refine (z1 _).mono ?_) | (with_reducible refine (z2 _).mono ?_) | (with_reducible refine (z3 _).mono ?_)); rintro e w3 ⟨rfl, rfl⟩) | (go_at_call 40; (with_reducible refine (B _).mono ?_); rintro e w4 ⟨rfl, hb4⟩; (have hC4 := hC.call hb4); obtain ⟨hc4, hf4⟩ := hC4.walk; (have hg4 := after hg hb4)))
              rw [HJ.out]
              exact bodyPost_ret (v := J.val) (results_set rfl rfl (hC4.put (a := zeroV) J)) rfl ⟨rfl, below_put hg4 (by omega) J⟩
          · have d0 : 0 ≤ mlo - nlo := by omega
            have k0 := gcdL_nonneg G (mlo - nlo)
            have k1 := gcdL_le G (mlo - nlo) 4294967295 g0 d0 (by omega) (by omega)
            have z2 := rgcd_same G 0 g0 (by omega) (by omega) (by omega)
            rw [gcdL_zero G g0] at z2
            have z3 := rgcd_same G (mlo - nlo) g0 (by omega) d0 (by omega)
            have H1 : ∀ U, U = (if nhi < mhi then mhi else nhi) → J = betweenL nlo U (gcdL G (mlo - nlo)) := fun U hU => by
              rw [HH.out nlo U (by rw [if_neg c1]) hU, Int.sub_self, gcdL_zero _ g0]
            generalize gcdL G (mlo - nlo) = K at *
            by_cases c2 : nhi < mhi
            · have B := rbetween_any nlo mhi K (by omega) (by omega) (by omega) (by omega) k0 (by omega)
              rw [← H1 mhi (by rw [if_pos c2])] at B
              clear H1 HH
              go_wp2_with (first | (go_at_call 45; (first | (with_reducible refine (z1 _).mono ?_) | (with_reducible refine (z2 _).mono ?_) | (with_reducible refine (z3 _).mono ?_)); rintro e w3 ⟨rfl, rfl⟩) | (go_at_call 40; (with_reducible refine (B _).mono ?_); rintro e w4 ⟨rfl, hb4⟩; (have hC4 := hC.call hb4); obtain ⟨hc4, hf4⟩ := hC4.walk; (have hg4 := after hg hb4)))
              rw [HJ.out]
              exact bodyPost_ret (v := J.val) (results_set rfl rfl (hC4.put (a := zeroV) J)) rfl ⟨rfl, below_put hg4 (by omega) J⟩
            · have B := rbetween_any nlo nhi K (by omega) (by omega) (by omega) (by omega) k0 (by omega)
              rw [← H1 nhi (by rw [if_neg c2])] at B
              clear H1 HH
              go_wp2_with (first | (go_at_call 45; (first | (with_reducible refine (z1 _).mono ?_) | (with_reducible refine (z2 _).mono ?_) | (with_reducible refine (z3 _).mono ?_)); rintro e w3 ⟨rfl, rfl⟩) | (go_at_call 40; (with_reducible refine (B _).mono ?_); rintro e w4 ⟨rfl, hb4⟩; (have hC4 := hC.call hb4); obtain ⟨hc4, hf4⟩ := hC4.walk; (have hg4 := after hg hb4)))
              rw [HJ.out]
              exact bodyPost_ret (v := J.val) (results_set rfl rfl (hC4.put (a := zeroV) J)) rfl ⟨rfl, below_put hg4 (by omega) J⟩
        · have H : Hid (joinN ⟨false, false, nlo, nhi, nst⟩ ⟨true, false, mlo, mhi, mst⟩ = ⟨false, false, nlo, nhi, nst⟩) := hide rfl
          go_wp2
          rw [H.out]
          exact bodyPost_ret (v := VSet.val ⟨false, false, nlo, nhi, nst⟩) (results_set rfl rfl (hC.put (a := zeroV) ⟨false, false, nlo, nhi, nst⟩)) rfl ⟨rfl, below_put hg (by omega) ⟨false, false, nlo, nhi, nst⟩⟩
      · have H : Hid (joinN ⟨true, false, nlo, nhi, nst⟩ ⟨me, false, mlo, mhi, mst⟩ = ⟨me, false, mlo, mhi, mst⟩) := hide rfl
        go_wp2
        rw [H.out]
        exact bodyPost_ret (v := VSet.val ⟨me, false, mlo, mhi, mst⟩) (results_set rfl rfl (hC.put (a := zeroV) ⟨me, false, mlo, mhi, mst⟩)) rfl ⟨rfl, below_put hg (by omega) ⟨me, false, mlo, mhi, mst⟩⟩
    · have H : Hid (joinN ⟨ne, false, nlo, nhi, nst⟩ ⟨me, true, mlo, mhi, mst⟩ = topV) := hide rfl
      go_wp2_with (go_at_call 17; (with_reducible refine (rtop_any _).mono ?_); rintro e w1 ⟨rfl, hb1⟩; (have hC1 := hC.call hb1); obtain ⟨hc4, hf4⟩ := hC1.walk; (have hg1 := after hg hb1))
      rw [H.out]
      exact bodyPost_ret (v := topV.val) (results_set rfl rfl (hC1.put (a := zeroV) topV)) rfl ⟨rfl, below_put hg1 (by omega) topV⟩
  · have H : Hid (joinN ⟨ne, true, nlo, nhi, nst⟩ ⟨me, mt, mlo, mhi, mst⟩ = topV) := hide rfl
    go_wp2_with (go_at_call 17; (with_reducible refine (rtop_any _).mono ?_); rintro e w1 ⟨rfl, hb1⟩; (have hC1 := hC.call hb1); obtain ⟨hc4, hf4⟩ := hC1.walk; (have hg1 := after hg hb1))
    rw [H.out]
    exact bodyPost_ret (v := topV.val) (results_set rfl rfl (hC1.put (a := zeroV) topV)) rfl ⟨rfl, below_put hg1 (by omega) topV⟩
theorem rjoin_any (a b : VSet) (ha : a.wf) (hb : b.wf) (w : World) : Calls Try.prog 33 #[a.val, b.val] w (Ret (joinL a b).val w) :=
  rjoin_core a b _ _ (normL_wf ha) (normL_wf hb) (norm_any a ha) (norm_any b hb) w
end Go.Proofs.Ytjhdjclcfmcilaa
