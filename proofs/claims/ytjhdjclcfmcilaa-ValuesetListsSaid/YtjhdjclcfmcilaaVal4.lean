/-
  What Contains, Count of package valueset return, and between, Between, Contains, Count of decompilerref14.
-/
import Derived.Test.YtjhdjclcfmcilaaVal3
namespace Go.Proofs.Ytjhdjclcfmcilaa
open Go.ChangeShapes Go.WideShapes Go.ChangeAt Go.RowKit
set_option linter.unusedVariables false

theorem normL_wf {s : VSet} (h : s.wf) : (normL s).wf := by
  unfold normL
  cases validL s
  · show (0 : Int) ≤ 0 ∧ (0 : Int) < 4294967296 ∧ (0 : Int) ≤ 0 ∧ (0 : Int) < 4294967296 ∧ (0 : Int) ≤ 0 ∧ (0 : Int) < 4294967296; omega
  · exact h
theorem normL_valid (s : VSet) : validL (normL s) = true := by
  unfold normL
  cases h : validL s
  · rfl
  · exact h
theorem normL_of {s : VSet} (h : validL s = true) : normL s = s := by unfold normL; rw [h]; rfl
/-- What is known of a valid set that is neither Top nor Empty. -/
theorem valid_cases (lo hi st : Int) (hv : validL ⟨false, false, lo, hi, st⟩ = true) : (st = 0 ∧ lo = hi) ∨ (st ≠ 0 ∧ lo < hi ∧ (hi - lo) % st = 0 ∧ (0 < lo ∨ hi < 4294967295 ∨ 1 < st)) := by
  by_cases c : st = 0
  · subst c; rw [validL_z, beq_iff_eq] at hv; exact .inl ⟨rfl, hv⟩
  · rw [validL_s lo hi st c] at hv
    simp only [Bool.and_eq_true, Bool.or_eq_true, decide_eq_true_eq, beq_iff_eq] at hv
    exact .inr ⟨c, hv.1.1, hv.1.2, by rcases hv.2 with (h | h) | h; exact .inl h; exact .inr (.inl h); exact .inr (.inr h)⟩

def containsN (s : VSet) (n : Int) : Bool :=
  if s.t || s.e then s.t else if s.st == 0 then n == s.lo else decide (s.lo ≤ n) && (decide (n ≤ s.hi) && ((n - s.lo) % s.st == 0))
def containsL (s : VSet) (n : Int) : Bool := containsN (normL s) n
def countN (s : VSet) : Int := if s.t then 4294967296 else if s.e then 0 else if s.st == 0 then 1 else (s.hi - s.lo) / s.st + 1
def countL (s : VSet) : Int := countN (normL s)

set_option maxHeartbeats 1000000 in
theorem contains_core (s n : VSet) (hn : n.wf) (hv : validL n = true) (x : ∀ w, Calls Try.prog 41 #[s.val] w (Ret n.val w)) (k : Int) (k0 : 0 ≤ k) (k1 : k < 4294967296) (w : World) :
    Calls Try.prog 25 #[s.val, .int .u32 k] w (Ret (.bool (containsN n k)) w) := by
  obtain ⟨e, t, lo, hi, st⟩ := n
  obtain ⟨l0, l1, h0, h1, s0, s1⟩ := hn
  dsimp only at l0 l1 h0 h1 s0 s1
  have y : ∀ w, Calls Try.prog 41 #[s.val] w (Ret (.agg #[.bool e, .bool t, .int .u32 lo, .int .u32 hi, .int .u32 st]) w) := x
  clear x
  cases t
  · cases e
    · rcases valid_cases lo hi st hv with ⟨rfl, rfl⟩ | ⟨c, d, m, _⟩
      · clear hv
        show Calls Try.prog 25 _ _ (Ret (.bool (k == lo)) w)
        go_enter Try.func25, Try.ntmps25
        go_wp2_with (first | (go_at_call 41; (with_reducible refine (y _).mono ?_); rintro e w1 ⟨rfl, hb1⟩; (have hB := (Blk.new _ _ _).call hb1); obtain ⟨hc, hf⟩ := hB.walk; (have hg := after (w := w) (by go_grown) hb1); (have hs1 := hg.size)))
        go_returns
        exact ⟨rfl, by go_grown⟩
      · clear hv
        have c1 : (st == 0) = false := by rw [beq_eq_false_iff_ne]; exact c
        have E : containsN ⟨false, false, lo, hi, st⟩ k = (decide (lo ≤ k) && (decide (k ≤ hi) && ((k - lo) % st == 0))) := by
          unfold containsN; simp only [Bool.or_self, Bool.false_eq_true, if_false, c1]
        rw [E]
        clear E m
        by_cases g1 : lo ≤ k
        · rw [decide_eq_true g1]
          have g3 : 0 ≤ k - lo := by omega
          by_cases g2 : k ≤ hi
          · rw [decide_eq_true g2]
            show Calls Try.prog 25 _ _ (Ret (.bool ((k - lo) % st == 0)) w)
            go_enter Try.func25, Try.ntmps25
            go_wp2_with (first | (go_at_call 41; (with_reducible refine (y _).mono ?_); rintro e w1 ⟨rfl, hb1⟩; (have hB := (Blk.new _ _ _).call hb1); obtain ⟨hc, hf⟩ := hB.walk; (have hg := after (w := w) (by go_grown) hb1); (have hs1 := hg.size)))
            go_returns
            exact ⟨rfl, by go_grown⟩
          · rw [decide_eq_false g2]
            show Calls Try.prog 25 _ _ (Ret (.bool false) w)
            go_enter Try.func25, Try.ntmps25
            go_wp2_with (first | (go_at_call 41; (with_reducible refine (y _).mono ?_); rintro e w1 ⟨rfl, hb1⟩; (have hB := (Blk.new _ _ _).call hb1); obtain ⟨hc, hf⟩ := hB.walk; (have hg := after (w := w) (by go_grown) hb1); (have hs1 := hg.size)))
            go_returns
            exact ⟨rfl, by go_grown⟩
        · rw [decide_eq_false g1]
          show Calls Try.prog 25 _ _ (Ret (.bool false) w)
          go_enter Try.func25, Try.ntmps25
          go_wp2_with (first | (go_at_call 41; (with_reducible refine (y _).mono ?_); rintro e w1 ⟨rfl, hb1⟩; (have hB := (Blk.new _ _ _).call hb1); obtain ⟨hc, hf⟩ := hB.walk; (have hg := after (w := w) (by go_grown) hb1); (have hs1 := hg.size)))
          go_returns
          exact ⟨rfl, by go_grown⟩
    · clear hv
      show Calls Try.prog 25 _ _ (Ret (.bool false) w)
      go_enter Try.func25, Try.ntmps25
      go_wp2_with (first | (go_at_call 41; (with_reducible refine (y _).mono ?_); rintro e w1 ⟨rfl, hb1⟩; (have hB := (Blk.new _ _ _).call hb1); obtain ⟨hc, hf⟩ := hB.walk; (have hg := after (w := w) (by go_grown) hb1); (have hs1 := hg.size)))
      go_returns
      exact ⟨rfl, by go_grown⟩
  · clear hv
    show Calls Try.prog 25 _ _ (Ret (.bool true) w)
    go_enter Try.func25, Try.ntmps25
    go_wp2_with (first | (go_at_call 41; (with_reducible refine (y _).mono ?_); rintro e w1 ⟨rfl, hb1⟩; (have hB := (Blk.new _ _ _).call hb1); obtain ⟨hc, hf⟩ := hB.walk; (have hg := after (w := w) (by go_grown) hb1); (have hs1 := hg.size)))
    go_returns
    exact ⟨rfl, by go_grown⟩
theorem contains_any (s : VSet) (hs : s.wf) (k : Int) (k0 : 0 ≤ k) (k1 : k < 4294967296) (w : World) :
    Calls Try.prog 25 #[s.val, .int .u32 k] w (Ret (.bool (containsL s k)) w) :=
  contains_core s _ (normL_wf hs) (normL_valid s) (known_any s hs) k k0 k1 w

set_option maxHeartbeats 1000000 in
theorem count_core (s n : VSet) (hn : n.wf) (hv : validL n = true) (x : ∀ w, Calls Try.prog 41 #[s.val] w (Ret n.val w)) (w : World) :
    Calls Try.prog 27 #[s.val] w (Ret (.int .i64 (countN n)) w) := by
  obtain ⟨e, t, lo, hi, st⟩ := n
  obtain ⟨l0, l1, h0, h1, s0, s1⟩ := hn
  dsimp only at l0 l1 h0 h1 s0 s1
  have y : ∀ w, Calls Try.prog 41 #[s.val] w (Ret (.agg #[.bool e, .bool t, .int .u32 lo, .int .u32 hi, .int .u32 st]) w) := x
  clear x
  cases t
  · cases e
    · rcases valid_cases lo hi st hv with ⟨rfl, rfl⟩ | ⟨c, d, m, _⟩
      · clear hv
        show Calls Try.prog 27 _ _ (Ret (.int .i64 1) w)
        go_enter Try.func27, Try.ntmps27
        go_wp2_with (first | (go_at_call 41; (with_reducible refine (y _).mono ?_); rintro e w1 ⟨rfl, hb1⟩; (have hB := (Blk.new _ _ _).call hb1); obtain ⟨hc, hf⟩ := hB.walk; (have hg := after (w := w) (by go_grown) hb1); (have hs1 := hg.size)))
        go_returns
        exact ⟨rfl, by go_grown⟩
      · clear hv
        have c1 : (st == 0) = false := by rw [beq_eq_false_iff_ne]; exact c
        have E : countN ⟨false, false, lo, hi, st⟩ = (hi - lo) / st + 1 := by
          unfold countN; simp only [Bool.false_eq_true, if_false, c1]
        rw [E]
        clear E m
        have g3 : 0 ≤ hi - lo := by omega
        have g4 : 1 ≤ st := by omega
        have g5 : 0 ≤ (hi - lo) / st := Int.ediv_nonneg g3 s0
        have g6 : (hi - lo) / st ≤ hi - lo := Int.ediv_le_self _ g3
        show Calls Try.prog 27 _ _ (Ret (.int .i64 ((hi - lo) / st + 1)) w)
        go_enter Try.func27, Try.ntmps27
        go_wp2_with (first | (go_at_call 41; (with_reducible refine (y _).mono ?_); rintro e w1 ⟨rfl, hb1⟩; (have hB := (Blk.new _ _ _).call hb1); obtain ⟨hc, hf⟩ := hB.walk; (have hg := after (w := w) (by go_grown) hb1); (have hs1 := hg.size)))
        go_returns
        exact ⟨rfl, by go_grown⟩
    · clear hv
      show Calls Try.prog 27 _ _ (Ret (.int .i64 0) w)
      go_enter Try.func27, Try.ntmps27
      go_wp2_with (first | (go_at_call 41; (with_reducible refine (y _).mono ?_); rintro e w1 ⟨rfl, hb1⟩; (have hB := (Blk.new _ _ _).call hb1); obtain ⟨hc, hf⟩ := hB.walk; (have hg := after (w := w) (by go_grown) hb1); (have hs1 := hg.size)))
      go_returns
      exact ⟨rfl, by go_grown⟩
  · clear hv
    have E : countN ⟨e, true, lo, hi, st⟩ = 4294967296 := rfl
    rw [E]
    clear E
    show Calls Try.prog 27 _ _ (Ret (.int .i64 4294967296) w)
    go_enter Try.func27, Try.ntmps27
    go_wp2_with (first | (go_at_call 41; (with_reducible refine (y _).mono ?_); rintro e w1 ⟨rfl, hb1⟩; (have hB := (Blk.new _ _ _).call hb1); obtain ⟨hc, hf⟩ := hB.walk; (have hg := after (w := w) (by go_grown) hb1); (have hs1 := hg.size)))
    go_returns
    exact ⟨rfl, by go_grown⟩
theorem count_any (s : VSet) (hs : s.wf) (w : World) :
    Calls Try.prog 27 #[s.val] w (Ret (.int .i64 (countL s)) w) :=
  count_core s _ (normL_wf hs) (normL_valid s) (known_any s hs) w
end Go.Proofs.Ytjhdjclcfmcilaa
