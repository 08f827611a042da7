/-
  What Join of package valueset returns.
-/
import Derived.Test.YtjhdjclcfmcilaaVal6
namespace Go.Proofs.Ytjhdjclcfmcilaa
open Go.ChangeShapes Go.WideShapes Go.ChangeAt Go.RowKit
set_option linter.unusedVariables false

theorem below_drewN {B : Nat} {a w : World} (h : Below B a w) (n : Nat) : Below B a (w.drewN n) := ⟨h.os, h.tape, h.output, h.size, h.block⟩
theorem blk_drewN {w : World} {g : Nat} {t : TypeId} {cs : Array Value} (h : Blk w g t cs) (n : Nat) : Blk (w.drewN n) g t cs := h
/-- A call that only reads: it returns v; nothing but draws has happened. -/
theorem gcd_quiet (a b : Int) (a0 : 0 ≤ a) (a1 : a < 4294967296) (b0 : 0 ≤ b) (b1 : b < 4294967296) (w : World) :
    Calls Try.prog 44 #[.int .u32 a, .int .u32 b] w fun e w' => e = .returned (.int .u32 (gcdL a b)) ∧ ∃ n, w' = w.drewN n := by
  have HS := hide gcdL_step
  have HZ := hide gcdL_zero
  go_enter Try.func44, Try.ntmps44
  go_wp2
  go_loopw [0, 1] (fun x y wr => ∃ p q : Int, x = .int .u32 p ∧ y = .int .u32 q ∧ 0 ≤ p ∧ p < 4294967296 ∧ 0 ≤ q ∧ q < 4294967296 ∧ Hid (gcdL p q = gcdL a b) ∧ Hid (∃ n, wr = w.drewN n)) (fun _ y _ => (intOf y).toNat)
  case atStart => exact ⟨a, b, rfl, rfl, a0, a1, b0, b1, hide rfl, hide ⟨0, rfl⟩⟩
  case round =>
    obtain ⟨p, q, rfl, rfl, p0, p1, q0, q1, hg, hb⟩ := hrel
    by_cases hq : q = 0
    · subst hq
      go_wp2
      go_returns
      have e := hg.out
      rw [HZ.out p p0] at e
      subst e
      exact ⟨rfl, hb.out⟩
    · have c1 : (q == 0) = false := by rw [beq_eq_false_iff_ne]; exact hq
      have c2 : (q != 0) = true := by simp [hq]
      have m1 : 0 ≤ p % q := Int.emod_nonneg _ hq
      have m2 : p % q < q := Int.emod_lt_of_pos p (by omega)
      have HR := hide ((HS.out p q p0 (by omega)).trans hg.out)
      clear hq
      go_wp2
      go_quiet (fail)
      go_wp2
      go_roundw
      case rel => exact ⟨q, p % q, rfl, rfl, q0, q1, m1, by omega, HR, by obtain ⟨k, hk⟩ := hb.out; subst hk; exact hide ⟨k + nq, by rw [World.drewN_drewN]⟩⟩
      case measure => simp [intOf]; omega

def joinN (a b : VSet) : VSet :=
  if a.t || b.t then topV else if a.e then b else if b.e then a
  else betweenL (if b.lo < a.lo then b.lo else a.lo) (if a.hi < b.hi then b.hi else a.hi) (gcdL (gcdL a.st b.st) ((if a.lo < b.lo then b.lo else a.lo) - if b.lo < a.lo then b.lo else a.lo))
def joinL (a b : VSet) : VSet := joinN (normL a) (normL b)
set_option maxHeartbeats 2000000 in
theorem join_core (a b n m : VSet) (hn : n.wf) (hm : m.wf)
    (x : ∀ w, Calls Try.prog 41 #[a.val] w (Ret n.val w)) (y : ∀ w, Calls Try.prog 41 #[b.val] w (Ret m.val w)) (w : World) :
    Calls Try.prog 32 #[a.val, b.val] w (Ret (joinN n m).val w) := by
  obtain ⟨n0, n1, n2, n3, n4, n5⟩ := hn
  obtain ⟨m0, m1, m2, m3, m4, m5⟩ := hm
  go_enter Try.func32, Try.ntmps32
  go_upto_region 1 with fail
  go_cut [4] (fun s4 wx => s4 = .pointer (some ⟨w.heap.size + 1 + 1, 0, none⟩) ∧ Blk wx w.heap.size 24 n.cs ∧ Blk wx (w.heap.size + 1) 24 m.cs ∧ Blk wx (w.heap.size + 1 + 1) 24 (⟨false, false, 0, 0, 0⟩ : VSet).cs ∧ Below w.heap.size w wx)
  case first =>
    go_region_with (first | (go_at_call 41; (with_reducible refine (x _).mono ?_); rintro e w1 ⟨rfl, hb1⟩; (have hA := (((Blk.new _ _ _).alloc _).alloc _).drew.call hb1); (have hB := ((Blk.new _ _ _).alloc _).drew.call hb1); (have hC := (Blk.new _ _ _).drew.call hb1); simp only [World.size_alloc] at hB hC; obtain ⟨hc, hf⟩ := hA.walk; obtain ⟨hc2, hf2⟩ := hB.walk; (have hg := after (w := w) (by go_grown) hb1); (have hs1 := hg.size)) | (go_at_call 41; (with_reducible refine (y _).mono ?_); rintro e w2 ⟨rfl, hb2⟩; (have hA2 := hA.call hb2); (have hB2 := hB.call hb2); (have hC2 := hC.call hb2); obtain ⟨hc3, hf3⟩ := hA2.walk; obtain ⟨hc4, hf4⟩ := hB2.walk; (have hg2 := after hg hb2); (have hs2 := hg2.size)))
    all_goals (go_wp2_with fail; go_meet; exact ⟨rfl, (Blk.put (a := a) hA2 n).put_far (by omega) m, (Blk.put_far hB2 (by omega) n).put (a := b) m, (Blk.put_far hC2 (by omega) n).put_far (by omega) m, below_put (below_put hg2 (by omega) _) (by omega) _⟩)
  case rest =>
    obtain ⟨rfl, hA, hB, hC, hg⟩ := hcut
    obtain ⟨hc, hf⟩ := hA.walk
    obtain ⟨hc2, hf2⟩ := hB.walk
    obtain ⟨hc3, hf3⟩ := hC.walk
    have hs := hg.size
    clear x y
    obtain ⟨ne, nt, nlo, nhi, nst⟩ := n
    obtain ⟨me, mt, mlo, mhi, mst⟩ := m
    dsimp only at n0 n1 n2 n3 n4 n5 m0 m1 m2 m3 m4 m5
    simp only [VSet.cs] at hc hc2 hc3
    cases nt
    · cases mt
      · cases ne
        · cases me
          · have g0 := gcdL_nonneg nst mst
            have g1 := gcdL_le nst mst 4294967295 n4 m4 (by omega) (by omega)
            have g2 := gcdL_nonneg (gcdL nst mst) ((if nlo < mlo then mlo else nlo) - if mlo < nlo then mlo else nlo)
            have g3 := gcdL_le (gcdL nst mst) ((if nlo < mlo then mlo else nlo) - if mlo < nlo then mlo else nlo) 4294967295 g0 (by omega) g1 (by omega)
            go_wp2_with fail
            go_quiet ((go_at_call 44; exact Calls.quiet_of (gcd_quiet _ _ (by omega) (by omega) (by omega) (by omega) _)))
            obtain ⟨J, hJ⟩ : ∃ J, J = (betweenL (if mlo < nlo then mlo else nlo) (if nhi < mhi then mhi else nhi) (gcdL (gcdL nst mst) ((if nlo < mlo then mlo else nlo) - if mlo < nlo then mlo else nlo))) := ⟨_, rfl⟩
            have H : Hid (joinN ⟨false, false, nlo, nhi, nst⟩ ⟨false, false, mlo, mhi, mst⟩ = J) := hide (by rw [hJ]; rfl)
            have B := between_any (if mlo < nlo then mlo else nlo) (if nhi < mhi then mhi else nhi) (gcdL (gcdL nst mst) ((if nlo < mlo then mlo else nlo) - if mlo < nlo then mlo else nlo)) (by omega) (by omega) (by omega) (by omega) g2 (by omega)
            rw [← hJ] at B
            clear hJ
            have B2 : ∀ (x y : Int) (w : World), x = (if mlo < nlo then mlo else nlo) → y = (if nhi < mhi then mhi else nhi) → Calls Try.prog 14 #[.int .u32 x, .int .u32 y, .int .u32 (gcdL (gcdL nst mst) ((if nlo < mlo then mlo else nlo) - if mlo < nlo then mlo else nlo))] w (Ret J.val w) := fun x y w hx hy => by subst hx hy; exact B w
            clear B
            generalize gcdL (gcdL nst mst) ((if nlo < mlo then mlo else nlo) - if mlo < nlo then mlo else nlo) = G at B2 g2 g3 ⊢
            have hA1 := blk_drewN hA nq
            have hB1 := blk_drewN hB nq
            have hC1 := blk_drewN hC nq
            have hg1 := below_drewN hg nq
            clear hA hB hC hg
            go_wp2_with (go_at_call 14; (with_reducible refine (B2 _ _ _ (by omega) (by omega)).mono ?_); rintro e w1 ⟨rfl, hb1⟩; (have hC2 := hC1.call hb1); obtain ⟨hc5, hf5⟩ := hC2.walk; (have hg2 := after hg1 hb1))
            all_goals rw [H.out]
            all_goals exact bodyPost_ret (v := J.val) (results_set rfl rfl (hC2.put (a := ⟨false, false, 0, 0, 0⟩) J)) rfl ⟨rfl, below_put hg2 (by omega) J⟩
          · have H : Hid (joinN ⟨false, false, nlo, nhi, nst⟩ ⟨true, false, mlo, mhi, mst⟩ = ⟨false, false, nlo, nhi, nst⟩) := hide rfl
            go_wp2
            rw [H.out]
            exact bodyPost_ret (v := VSet.val ⟨false, false, nlo, nhi, nst⟩) (results_set rfl rfl (hC.put (a := ⟨false, false, 0, 0, 0⟩) ⟨false, false, nlo, nhi, nst⟩)) rfl ⟨rfl, below_put hg (by omega) ⟨false, false, nlo, nhi, nst⟩⟩
        · have H : Hid (joinN ⟨true, false, nlo, nhi, nst⟩ ⟨me, false, mlo, mhi, mst⟩ = ⟨me, false, mlo, mhi, mst⟩) := hide rfl
          go_wp2
          rw [H.out]
          exact bodyPost_ret (v := VSet.val ⟨me, false, mlo, mhi, mst⟩) (results_set rfl rfl (hC.put (a := ⟨false, false, 0, 0, 0⟩) ⟨me, false, mlo, mhi, mst⟩)) rfl ⟨rfl, below_put hg (by omega) ⟨me, false, mlo, mhi, mst⟩⟩
      · have H : Hid (joinN ⟨ne, false, nlo, nhi, nst⟩ ⟨me, true, mlo, mhi, mst⟩ = topV) := hide rfl
        go_wp2_with (go_at_call 16; (with_reducible refine (top_any _).mono ?_); rintro e w1 ⟨rfl, hb1⟩; (have hC1 := hC.call hb1); obtain ⟨hc4, hf4⟩ := hC1.walk; (have hg1 := after hg hb1))
        rw [H.out]
        exact bodyPost_ret (v := topV.val) (results_set rfl rfl (hC1.put (a := ⟨false, false, 0, 0, 0⟩) topV)) rfl ⟨rfl, below_put hg1 (by omega) topV⟩
    · have H : Hid (joinN ⟨ne, true, nlo, nhi, nst⟩ ⟨me, mt, mlo, mhi, mst⟩ = topV) := hide rfl
      go_wp2_with (go_at_call 16; (with_reducible refine (top_any _).mono ?_); rintro e w1 ⟨rfl, hb1⟩; (have hC1 := hC.call hb1); obtain ⟨hc4, hf4⟩ := hC1.walk; (have hg1 := after hg hb1))
      rw [H.out]
      exact bodyPost_ret (v := topV.val) (results_set rfl rfl (hC1.put (a := ⟨false, false, 0, 0, 0⟩) topV)) rfl ⟨rfl, below_put hg1 (by omega) topV⟩
theorem join_any (a b : VSet) (ha : a.wf) (hb : b.wf) (w : World) : Calls Try.prog 32 #[a.val, b.val] w (Ret (joinL a b).val w) :=
  join_core a b _ _ (normL_wf ha) (normL_wf hb) (known_any a ha) (known_any b hb) w
end Go.Proofs.Ytjhdjclcfmcilaa
