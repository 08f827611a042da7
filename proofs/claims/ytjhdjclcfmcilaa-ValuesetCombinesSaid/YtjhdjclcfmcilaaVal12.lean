/-
  What Elements of package valueset returns, and list and Elements of decompilerref14.
-/
import Derived.Test.YtjhdjclcfmcilaaMem
import Derived.Test.YtjhdjclcfmcilaaPl14b
namespace Go.Proofs.Ytjhdjclcfmcilaa
open Go.ChangeShapes Go.WideShapes Go.ChangeAt Go.RowKit
set_option linter.unusedVariables false
/-- The first k elements. -/
def elemsK (s : VSet) (k : Nat) : List Int := (List.range k).map (elemN s)
theorem elemsK_zero (s : VSet) : elemsK s 0 = [] := rfl
theorem elemsK_succ (s : VSet) (k : Nat) : elemsK s (k + 1) = elemsK s k ++ [elemN s k] := by
  unfold elemsK; rw [List.range_succ, List.map_append]; rfl
theorem elemsK_len (s : VSet) (k : Nat) : (elemsK s k).length = k := by simp [elemsK]
theorem elems_len (s : VSet) : (elemsN s).length = (countN s).toNat := by simp [elemsN]
theorem elemsK_own {w : World} {base : Nat} {s : VSet} {k : Nat} {v v' : Value} {w1 : World} {x : Int} (hx : x = elemN s k) (h : w1.ownsRow base 22 1 v' (k + 1) (ints (elemsK s k) ++ [.int .u32 x])) : w1.ownsRow base 22 1 v' (k + 1) (ints (elemsK s (k + 1))) := by
  rw [elemsK_succ, ints_snoc, ← hx]; exact h
theorem own_len {w : World} {base k : Nat} {s : VSet} {v : Value} (h : w.ownsRow base 22 1 v k (ints (elemsK s k))) : w.ownsRow base 22 1 v (elemsK s k).length (ints (elemsK s k)) := by
  rw [elemsK_len]; exact h
/-- The bounds of a round. -/
theorem elem_round {s : VSet} (ws : s.wf) (vs : validL s = true) (hc : countN s ≤ 64) (k : Nat) (hk : (k : Int) < countN s) : 0 ≤ (k : Int) * s.st ∧ (k : Int) * s.st < 4294967296 ∧ 0 ≤ s.lo + (k : Int) * s.st ∧ s.lo + (k : Int) * s.st < 4294967296 := by
  have h := elem_bd ws vs k hk hc
  have h2 := Int.mul_nonneg (Int.natCast_nonneg k) ws.2.2.2.2.1
  have h3 := ws.1
  unfold elemN at h
  omega

set_option maxHeartbeats 2000000 in
theorem rlist_core (n : VSet) (hn : n.wf) (hv : validL n = true) (hc : countN n ≤ 64) (x : ∀ w, Calls Try.prog 28 #[n.val] w (Ret (.int .i64 (countN n)) w)) (w : World) :
    Calls Try.prog 43 #[n.val] w (Slice32 (elemsN n) id w) := by
  have c0 : 0 ≤ countN n := by
    rcases reg_kinds hv with rfl | rfl | h
    · decide
    · decide
    · have := (count_reg hn h).1; omega
  have HR := hide (elem_round hn hv hc)
  obtain ⟨L, hL⟩ : ∃ L, L = elemsN n := ⟨_, rfl⟩
  have H : Hid (L = elemsK n (countN n).toNat) := hide hL
  rw [← hL]
  clear hL
  generalize countN n = N at *
  obtain ⟨e, t, lo, hi', st⟩ := n
  obtain ⟨l0, l1, h0, h1, s0, s1⟩ := hn
  dsimp only at l0 l1 h0 h1 s0 s1
  obtain ⟨i0, hi, hz0, hz1, hz2⟩ := info_parts u32_info
  go_enter Try.func43, Try.ntmps43
  go_wp2_with (go_at_call 28; (with_reducible refine (x _).mono ?_); rintro e w1 ⟨rfl, hb1⟩; (have hB := (Blk.new _ _ _).call hb1); (have hg := after (w := w) (by go_grown) hb1))
  have hsz : w.heap.size < w1.heap.size := hB.lt
  go_loopw [3, 5] (fun v i wr => ∃ k : Nat, (k : Int) ≤ N ∧ i = .int .i64 k ∧ wr.ownsRow (w.heap.size + 1) 22 1 v k (ints (elemsK ⟨e, t, lo, hi', st⟩ k)) ∧ Blk wr w.heap.size 24 (⟨e, t, lo, hi', st⟩ : VSet).cs ∧ Below w.heap.size w wr) (fun _ i _ => (N - intOf i).toNat)
  case atStart => exact ⟨0, by omega, rfl, World.ownsRow_nil _ _ _ _, hB, hg⟩
  case round =>
    obtain ⟨k, hk, rfl, hown, hblk, hbel⟩ := hrel
    obtain ⟨hcl, hfr⟩ := hblk.walk
    simp only [VSet.cs] at hcl
    have hs := hblk.lt
    by_cases hlt : (k : Int) < N
    · obtain ⟨p0, p1, p2, p3⟩ := HR.out k hlt
      go_wp2_with (at_builtin; refine wpList_append_own _ rfl _ _ 39 rfl (w.heap.size + 1) 22 i0 (.int .u32 0) 1 4 Try.underlying39 hi hz0 hz1 hz2 rfl (by decide) _ _ _ rfl (hown.alloc _) ⟨wr.heap.size, 0, none⟩ 1 1 [.int .u32 (lo + (k : Int) * st)] rfl rfl ?c1 ?c2 ?c3 ?c4 ?c5 ?_)
      case c1 =>
        intro j u hj
        match j, hj with
        | 0, hj => simp at hj; subst hj; simp [Addr.add]
      case c2 => intro u hu; simp at hu; subst hu; rfl
      case c3 => unfold maxLen; omega
      case c4 => omega
      case c5 => simp; omega
      intro v' w2 hown' hgrow _
      have R1 := elemsK_own (w := w) (v := .bool true) (s := ⟨e, t, lo, hi', st⟩) rfl hown'
      have R2 := (hblk.alloc _).grown hgrow (own_ge hown (by omega))
      have R3 := (hbel.alloc (by omega) _).grown hgrow (by simp; omega) (fun q hq => by have := own_le hown q hq; omega)
      clear hown' hgrow hown hblk hbel hcl hfr
      go_wp2
      go_roundw
      case rel => exact ⟨k + 1, by omega, by go_num, R1, R2, R3⟩
      case measure => simp [intOf]; omega
    · go_wp2
      have e1 : k = N.toNat := by omega
      subst e1
      rw [H.out]
      go_returns
      have hown2 := own_len hown
      exact slice_at (mk := id) hown2 (by omega) hbel rfl

theorem rlist_any (s : VSet) (hs : s.wf) (hv : validL s = true) (hc : countN s ≤ 64) (w : World) : Calls Try.prog 43 #[s.val] w (Slice32 (elemsN s) id w) :=
  rlist_core s hs hv hc (fun w => by have := rcount_any s hs w; unfold countL at this; rwa [normL_of hv] at this) w

set_option maxHeartbeats 2000000 in
theorem elements_core (a n : VSet) (hn : n.wf) (hv : validL n = true) (hc : countN n ≤ 64) (y : ∀ w, Calls Try.prog 41 #[a.val] w (Ret n.val w)) (x : ∀ w, Calls Try.prog 27 #[n.val] w (Ret (.int .i64 (countN n)) w)) (w : World) :
    Calls Try.prog 30 #[a.val] w (Slice32 (elemsN n) (fun v => .tuple #[v, .int .i64 0]) w) := by
  have c0 : 0 ≤ countN n := by
    rcases reg_kinds hv with rfl | rfl | h
    · decide
    · decide
    · have := (count_reg hn h).1; omega
  have HR := hide (elem_round hn hv hc)
  obtain ⟨L, hL⟩ : ∃ L, L = elemsN n := ⟨_, rfl⟩
  have H : Hid (L = elemsK n (countN n).toNat) := hide hL
  rw [← hL]
  clear hL
  generalize countN n = N at *
  obtain ⟨e, t, lo, hi', st⟩ := n
  obtain ⟨l0, l1, h0, h1, s0, s1⟩ := hn
  dsimp only at l0 l1 h0 h1 s0 s1
  simp only [VSet.val] at y x
  obtain ⟨i0, hi, hz0, hz1, hz2⟩ := info_parts u32_info
  go_enter Try.func30, Try.ntmps30
  go_wp2_with (first | (go_at_call 41; (with_reducible refine (y _).mono ?_); rintro e w1 ⟨rfl, hb1⟩; (have hB := (Blk.new _ _ _).call hb1); obtain ⟨hc1, hf1⟩ := hB.walk; (have hg := after (w := w) (by go_grown) hb1); (have hs1 := hg.size); (have hz : w.heap.size < w1.heap.size := hB.lt)) | (go_at_call 27; (with_reducible refine (x _).mono ?_); rintro e w2 ⟨rfl, hb2⟩; (have hB2 := (Blk.put (a := a) hB ⟨e, t, lo, hi', st⟩).call hb2); (have hg2 := after (below_put hg (by omega) ⟨e, t, lo, hi', st⟩) hb2)))
  clear hc1 hf1
  have hsz : w.heap.size < w2.heap.size := hB2.lt
  go_loopw [5, 6, 14] (fun v _ i wr => ∃ k : Nat, (k : Int) ≤ N ∧ i = .int .i64 k ∧ wr.ownsRow (w.heap.size + 1) 22 1 v k (ints (elemsK ⟨e, t, lo, hi', st⟩ k)) ∧ Blk wr w.heap.size 24 (⟨e, t, lo, hi', st⟩ : VSet).cs ∧ Below w.heap.size w wr) (fun _ _ i _ => (N - intOf i).toNat)
  case atStart => exact ⟨0, by omega, rfl, World.ownsRow_nil _ _ _ _, hB2, hg2⟩
  case round =>
    obtain ⟨k, hk, rfl, hown, hblk, hbel⟩ := hrel
    obtain ⟨hcl, hfr⟩ := hblk.walk
    simp only [VSet.cs] at hcl
    have hs := hblk.lt
    by_cases hlt : (k : Int) < N
    · obtain ⟨p0, p1, p2, p3⟩ := HR.out k hlt
      go_wp2_with (at_builtin; refine wpList_append_own _ rfl _ _ 39 rfl (w.heap.size + 1) 22 i0 (.int .u32 0) 1 4 Try.underlying39 hi hz0 hz1 hz2 rfl (by decide) _ _ _ rfl (hown.alloc _) ⟨wr.heap.size, 0, none⟩ 1 1 [.int .u32 (lo + (k : Int) * st)] rfl rfl ?c1 ?c2 ?c3 ?c4 ?c5 ?_)
      case c1 =>
        intro j u hj
        match j, hj with
        | 0, hj => simp at hj; subst hj; simp [Addr.add]
      case c2 => intro u hu; simp at hu; subst hu; rfl
      case c3 => unfold maxLen; omega
      case c4 => omega
      case c5 => simp; omega
      intro v' w2 hown' hgrow _
      have R1 := elemsK_own (w := w) (v := .bool true) (s := ⟨e, t, lo, hi', st⟩) rfl hown'
      have R2 := (hblk.alloc _).grown hgrow (own_ge hown (by omega))
      have R3 := (hbel.alloc (by omega) _).grown hgrow (by simp; omega) (fun q hq => by have := own_le hown q hq; omega)
      clear hown' hgrow hown hblk hbel hcl hfr
      go_wp2
      go_roundw
      case rel => exact ⟨k + 1, by omega, by go_num, R1, R2, R3⟩
      case measure => simp [intOf]; omega
    · go_wp2
      have e1 : k = N.toNat := by omega
      subst e1
      rw [H.out]
      go_returns
      have hown2 := own_len hown
      exact slice_at (mk := fun v => .tuple #[v, .int .i64 0]) hown2 (by omega) hbel rfl
theorem elements_few (s : VSet) (hs : s.wf) (hc : countL s ≤ 64) (w : World) : Calls Try.prog 30 #[s.val] w (Slice32 (elemsN (normL s)) (fun v => .tuple #[v, .int .i64 0]) w) :=
  elements_core s (normL s) (normL_wf hs) (normL_valid s) hc (known_any s hs) (fun w => by have := count_any (normL s) (normL_wf hs) w; unfold countL at this; rwa [normL_of (normL_valid s)] at this) w
set_option maxHeartbeats 2000000 in
theorem elements_many (a : VSet) (ha : a.wf) (hc : ¬ countL a ≤ 64) (w : World) : Calls Try.prog 30 #[a.val] w (Ret (.tuple #[.slice none 0 0, .int .i64 6]) w) := by
  have y := known_any a ha
  have x := count_any (normL a) (normL_wf ha)
  have e : countL (normL a) = countL a := by unfold countL; rw [normL_of (normL_valid a)]
  rw [e] at x
  have hc' : 64 < countL a := by omega
  clear e hc
  generalize countL a = N at *
  generalize normL a = n at *
  obtain ⟨e, t, lo, hi', st⟩ := n
  simp only [VSet.val] at y x
  go_enter Try.func30, Try.ntmps30
  go_wp2_with (first | (go_at_call 41; (with_reducible refine (y _).mono ?_); rintro e w1 ⟨rfl, hb1⟩; (have hB := (Blk.new _ _ _).call hb1); obtain ⟨hc1, hf1⟩ := hB.walk; (have hg := after (w := w) (by go_grown) hb1); (have hs1 := hg.size); (have hz : w.heap.size < w1.heap.size := hB.lt)) | (go_at_call 27; (with_reducible refine (x _).mono ?_); rintro e w2 ⟨rfl, hb2⟩; (have hg2 := after (below_put hg (by omega) ⟨e, t, lo, hi', st⟩) hb2)))
  go_returns
  exact ⟨rfl, hg2⟩
set_option maxHeartbeats 2000000 in
theorem relements_few (a : VSet) (ha : a.wf) (hc : countL a ≤ 64) (w : World) : Calls Try.prog 31 #[a.val] w (Slice32 (elemsN (normL a)) (fun v => .tuple #[v, .int .i64 0]) w) := by
  have y := norm_any a ha
  have x := rcount_any (normL a) (normL_wf ha)
  have e : countL (normL a) = countL a := by unfold countL; rw [normL_of (normL_valid a)]
  rw [e] at x
  have z := rlist_any (normL a) (normL_wf ha) (normL_valid a) hc
  clear e
  generalize elemsN (normL a) = L at *
  generalize countL a = N at *
  generalize normL a = n at *
  obtain ⟨e, t, lo, hi', st⟩ := n
  simp only [VSet.val] at y x z
  go_enter Try.func31, Try.ntmps31
  go_wp2_with (first | (go_at_call 42; (with_reducible refine (y _).mono ?_); rintro e w1 ⟨rfl, hb1⟩; (have hB := (Blk.new _ _ _).call hb1); obtain ⟨hc1, hf1⟩ := hB.walk; (have hg := after (w := w) (by go_grown) hb1); (have hs1 := hg.size); (have hz : w.heap.size < w1.heap.size := hB.lt)) | (go_at_call 28; (with_reducible refine (x _).mono ?_); rintro e w2 ⟨rfl, hb2⟩; (have hB2 := (Blk.put (a := a) hB ⟨e, t, lo, hi', st⟩).call hb2); clear hc1 hf1; obtain ⟨hc2, hf2⟩ := hB2.walk; (have hg2 := after (below_put hg (by omega) ⟨e, t, lo, hi', st⟩) hb2)) | (go_at_call 43; (with_reducible refine (z _).mono ?_); rintro e w3 ⟨A, c, rfl, hr, hb3⟩; (have hg3 := after hg2 hb3)))
  go_returns
  exact ⟨A, c, rfl, hr.more hg2.size, hg3⟩
set_option maxHeartbeats 2000000 in
theorem relements_many (a : VSet) (ha : a.wf) (hc : ¬ countL a ≤ 64) (w : World) : Calls Try.prog 31 #[a.val] w (Ret (.tuple #[.slice none 0 0, .int .i64 6]) w) := by
  have y := norm_any a ha
  have x := rcount_any (normL a) (normL_wf ha)
  have e : countL (normL a) = countL a := by unfold countL; rw [normL_of (normL_valid a)]
  rw [e] at x
  have hc' : 64 < countL a := by omega
  clear e hc
  generalize countL a = N at *
  generalize normL a = n at *
  obtain ⟨e, t, lo, hi', st⟩ := n
  simp only [VSet.val] at y x
  go_enter Try.func31, Try.ntmps31
  go_wp2_with (first | (go_at_call 42; (with_reducible refine (y _).mono ?_); rintro e w1 ⟨rfl, hb1⟩; (have hB := (Blk.new _ _ _).call hb1); obtain ⟨hc1, hf1⟩ := hB.walk; (have hg := after (w := w) (by go_grown) hb1); (have hs1 := hg.size); (have hz : w.heap.size < w1.heap.size := hB.lt)) | (go_at_call 28; (with_reducible refine (x _).mono ?_); rintro e w2 ⟨rfl, hb2⟩; (have hg2 := after (below_put hg (by omega) ⟨e, t, lo, hi', st⟩) hb2)))
  go_returns
  exact ⟨rfl, hg2⟩
end Go.Proofs.Ytjhdjclcfmcilaa
