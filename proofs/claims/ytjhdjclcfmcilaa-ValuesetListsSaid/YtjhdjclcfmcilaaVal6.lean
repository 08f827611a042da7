/-
  What Within and Join of package valueset return.
-/
import Derived.Test.YtjhdjclcfmcilaaVal5
import Derived.Deep.DeepCutAuto
namespace Go.Proofs.Ytjhdjclcfmcilaa
open Go.ChangeShapes Go.WideShapes Go.ChangeAt Go.RowKit
set_option linter.unusedVariables false

def withinN (a b : VSet) : Bool :=
  if a.e || b.t then true else if a.t || b.e then false
  else containsN b a.lo && (containsN b a.hi && (a.st == 0 || (decide (0 < b.st) && (a.st % b.st == 0))))
def withinL (a b : VSet) : Bool := withinN (normL a) (normL b)
theorem containsN_of {n : VSet} (h : validL n = true) (k : Int) : containsL n k = containsN n k := by unfold containsL; rw [normL_of h]

set_option maxHeartbeats 2000000 in
theorem within_core (a b n m : VSet) (hn : n.wf) (hm : m.wf) (hm2 : validL m = true)
    (x : ∀ w, Calls Try.prog 41 #[a.val] w (Ret n.val w)) (y : ∀ w, Calls Try.prog 41 #[b.val] w (Ret m.val w)) (w : World) :
    Calls Try.prog 21 #[a.val, b.val] w (Ret (.bool (withinN n m)) w) := by
  have z1 : ∀ w, Calls Try.prog 25 #[m.val, .int .u32 n.lo] w (Ret (.bool (containsN m n.lo)) w) := fun w => by
    have := contains_any m hm n.lo hn.1 hn.2.1 w
    rwa [containsN_of hm2] at this
  have z2 : ∀ w, Calls Try.prog 25 #[m.val, .int .u32 n.hi] w (Ret (.bool (containsN m n.hi)) w) := fun w => by
    have := contains_any m hm n.hi hn.2.2.1 hn.2.2.2.1 w
    rwa [containsN_of hm2] at this
  go_enter Try.func21, Try.ntmps21
  go_upto_region 1 with fail
  go_cut [4] (fun s4 wx => s4 = .bool false ∧ Blk wx w.heap.size 24 n.cs ∧ Blk wx (w.heap.size + 1) 24 m.cs ∧ Below w.heap.size w wx)
  case first =>
    go_region_with (first | (go_at_call 41; (with_reducible refine (x _).mono ?_); rintro e w1 ⟨rfl, hb1⟩; (have hA := ((Blk.new _ _ _).alloc _).drew.call hb1); (have hB := ((Blk.new _ _ _).drew).call hb1); simp only [World.size_alloc] at hB; obtain ⟨hc, hf⟩ := hA.walk; obtain ⟨hc2, hf2⟩ := hB.walk; (have hg := after (w := w) (by go_grown) hb1); (have hs1 := hg.size)) | (go_at_call 41; (with_reducible refine (y _).mono ?_); rintro e w2 ⟨rfl, hb2⟩; (have hA2 := hA.call hb2); (have hB2 := hB.call hb2); obtain ⟨hc3, hf3⟩ := hA2.walk; obtain ⟨hc4, hf4⟩ := hB2.walk; (have hg2 := after hg hb2); (have hs2 := hg2.size)))
    all_goals (go_wp2_with fail; go_meet; exact ⟨rfl, (Blk.put (a := a) hA2 n).put_far (by omega) m, (Blk.put_far hB2 (by omega) n).put (a := b) m, below_put (below_put hg2 (by omega) _) (by omega) _⟩)
  case rest =>
    obtain ⟨rfl, hA, hB, hg⟩ := hcut
    obtain ⟨hc, hf⟩ := hA.walk
    obtain ⟨hc2, hf2⟩ := hB.walk
    have hs := hg.size
    clear x y
    obtain ⟨n0, n1, n2, n3, n4, n5⟩ := hn
    obtain ⟨m0, m1, m2, m3, m4, m5⟩ := hm
    cases he1 : n.e
    · cases ht2 : m.t
      · cases ht1 : n.t
        · cases he2 : m.e
          · have E : withinN n m = (containsN m n.lo && (containsN m n.hi && (n.st == 0 || (decide (0 < m.st) && (n.st % m.st == 0))))) := by
              unfold withinN; simp only [he1, ht2, ht1, he2, Bool.or_self, Bool.false_eq_true, if_false]
            simp only [VSet.val, he2, ht2] at z1 z2
            cases c1 : containsN m n.lo
            · have H := hide (E.trans (by rw [c1]; rfl : _ = false))
              clear E
              rw [c1] at z1
              go_wp2_with (first | (go_at_call 25; (with_reducible refine (z1 _).mono ?_); rintro e w1 ⟨rfl, hb1⟩; (have hA1 := hA.call hb1); (have hB1 := hB.call hb1); obtain ⟨hc3, hf3⟩ := hA1.walk; obtain ⟨hc4, hf4⟩ := hB1.walk; (have hg1 := after hg hb1)) | (go_at_call 25; (with_reducible refine (z2 _).mono ?_); rintro e w2 ⟨rfl, hb2⟩; (have hA2 := hA1.call hb2); (have hB2 := hB1.call hb2); obtain ⟨hc5, hf5⟩ := hA2.walk; obtain ⟨hc6, hf6⟩ := hB2.walk; (have hg2 := after hg1 hb2)))
              go_returns
              exact ⟨ret_bool H.out.symm, hg1⟩
            · cases c2 : containsN m n.hi
              · have H := hide (E.trans (by rw [c1, c2]; rfl : _ = false))
                clear E
                rw [c1] at z1
                rw [c2] at z2
                go_wp2_with (first | (go_at_call 25; (with_reducible refine (z1 _).mono ?_); rintro e w1 ⟨rfl, hb1⟩; (have hA1 := hA.call hb1); (have hB1 := hB.call hb1); obtain ⟨hc3, hf3⟩ := hA1.walk; obtain ⟨hc4, hf4⟩ := hB1.walk; (have hg1 := after hg hb1)) | (go_at_call 25; (with_reducible refine (z2 _).mono ?_); rintro e w2 ⟨rfl, hb2⟩; (have hA2 := hA1.call hb2); (have hB2 := hB1.call hb2); obtain ⟨hc5, hf5⟩ := hA2.walk; obtain ⟨hc6, hf6⟩ := hB2.walk; (have hg2 := after hg1 hb2)))
                go_returns
                exact ⟨ret_bool H.out.symm, hg2⟩
              · rw [c1] at z1
                rw [c2] at z2
                cases c3 : (n.st == 0)
                · by_cases c4 : 0 < m.st
                  · have c5 : ¬ m.st = 0 := by omega
                    have H := hide (E.trans (by rw [c1, c2, c3, decide_eq_true c4]; rfl : _ = (n.st % m.st == 0)))
                    clear E
                    go_wp2_with (first | (go_at_call 25; (with_reducible refine (z1 _).mono ?_); rintro e w1 ⟨rfl, hb1⟩; (have hA1 := hA.call hb1); (have hB1 := hB.call hb1); obtain ⟨hc3, hf3⟩ := hA1.walk; obtain ⟨hc4, hf4⟩ := hB1.walk; (have hg1 := after hg hb1)) | (go_at_call 25; (with_reducible refine (z2 _).mono ?_); rintro e w2 ⟨rfl, hb2⟩; (have hA2 := hA1.call hb2); (have hB2 := hB1.call hb2); obtain ⟨hc5, hf5⟩ := hA2.walk; obtain ⟨hc6, hf6⟩ := hB2.walk; (have hg2 := after hg1 hb2)))
                    go_returns
                    exact ⟨ret_bool H.out.symm, hg2⟩
                  · have H := hide (E.trans (by rw [c1, c2, c3, decide_eq_false c4]; rfl : _ = false))
                    clear E
                    go_wp2_with (first | (go_at_call 25; (with_reducible refine (z1 _).mono ?_); rintro e w1 ⟨rfl, hb1⟩; (have hA1 := hA.call hb1); (have hB1 := hB.call hb1); obtain ⟨hc3, hf3⟩ := hA1.walk; obtain ⟨hc4, hf4⟩ := hB1.walk; (have hg1 := after hg hb1)) | (go_at_call 25; (with_reducible refine (z2 _).mono ?_); rintro e w2 ⟨rfl, hb2⟩; (have hA2 := hA1.call hb2); (have hB2 := hB1.call hb2); obtain ⟨hc5, hf5⟩ := hA2.walk; obtain ⟨hc6, hf6⟩ := hB2.walk; (have hg2 := after hg1 hb2)))
                    go_returns
                    exact ⟨ret_bool H.out.symm, hg2⟩
                · have H := hide (E.trans (by rw [c1, c2, c3]; rfl : _ = true))
                  clear E
                  go_wp2_with (first | (go_at_call 25; (with_reducible refine (z1 _).mono ?_); rintro e w1 ⟨rfl, hb1⟩; (have hA1 := hA.call hb1); (have hB1 := hB.call hb1); obtain ⟨hc3, hf3⟩ := hA1.walk; obtain ⟨hc4, hf4⟩ := hB1.walk; (have hg1 := after hg hb1)) | (go_at_call 25; (with_reducible refine (z2 _).mono ?_); rintro e w2 ⟨rfl, hb2⟩; (have hA2 := hA1.call hb2); (have hB2 := hB1.call hb2); obtain ⟨hc5, hf5⟩ := hA2.walk; obtain ⟨hc6, hf6⟩ := hB2.walk; (have hg2 := after hg1 hb2)))
                  go_returns
                  exact ⟨ret_bool H.out.symm, hg2⟩
          · have H : Hid (withinN n m = false) := hide (by unfold withinN; simp only [he1, ht2, he2, Bool.or_self, Bool.false_eq_true, if_false, Bool.or_true, if_true])
            go_wp2
            go_returns
            exact ⟨ret_bool H.out.symm, hg⟩
        · have H : Hid (withinN n m = false) := hide (by unfold withinN; simp only [he1, ht2, ht1, Bool.or_self, Bool.false_eq_true, if_false, Bool.true_or, if_true])
          go_wp2
          go_returns
          exact ⟨ret_bool H.out.symm, hg⟩
      · have H : Hid (withinN n m = true) := hide (by unfold withinN; simp only [ht2, Bool.or_true, if_true])
        go_wp2
        go_returns
        exact ⟨ret_bool H.out.symm, hg⟩
    · have H : Hid (withinN n m = true) := hide (by unfold withinN; simp only [he1, Bool.true_or, if_true])
      go_wp2
      go_returns
      exact ⟨ret_bool H.out.symm, hg⟩
theorem within_any (a b : VSet) (ha : a.wf) (hb : b.wf) (w : World) : Calls Try.prog 21 #[a.val, b.val] w (Ret (.bool (withinL a b)) w) :=
  within_core a b _ _ (normL_wf ha) (normL_wf hb) (normL_valid b) (known_any a ha) (known_any b hb) w
end Go.Proofs.Ytjhdjclcfmcilaa
