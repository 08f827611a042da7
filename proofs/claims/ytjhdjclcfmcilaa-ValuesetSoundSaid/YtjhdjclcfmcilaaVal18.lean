/-
  What Apply of package valueset returns.
-/
import Derived.Test.YtjhdjclcfmcilaaVal23
import Derived.Deep.RegionHeld3
namespace Go.Proofs.Ytjhdjclcfmcilaa
open Go.ChangeShapes Go.WideShapes Go.ChangeAt Go.RowKit
set_option linter.unusedVariables false
set_option maxRecDepth 100000 in
set_option maxHeartbeats 8000000 in
theorem ap_out (op : Int) (ho : op < 3 ∨ (¬ op < 3 ∧ 15 < op)) (a b n m : VSet) (x : ∀ w, Calls Try.prog 41 #[a.val] w (Ret n.val w)) (y : ∀ w, Calls Try.prog 41 #[b.val] w (Ret m.val w)) (w : World) :
    Calls Try.prog 37 #[.int .i64 op, a.val, b.val] w (Ret topV.val w) := by
  go_enter Try.func37, Try.ntmps37
  go_upto_region 1 with fail
  go_cut [6] (fun s6 wx => s6 = .pointer (some ⟨w.heap.size + 1 + 1, 0, none⟩) ∧ Blk wx w.heap.size 24 n.cs ∧ Blk wx (w.heap.size + 1) 24 m.cs ∧ Blk wx (w.heap.size + 1 + 1) 24 zeroV.cs ∧ Below w.heap.size w wx)
  case first =>
    go_region_with (first | (go_at_call 41; (with_reducible refine (x _).mono ?_); rintro e w1 ⟨rfl, hb1⟩; (have hA := (((Blk.new _ _ _).alloc _).alloc _).drew.call hb1); (have hB := ((Blk.new _ _ _).alloc _).drew.call hb1); (have hC := (Blk.new _ _ _).drew.call hb1); simp only [World.size_alloc] at hB hC; obtain ⟨hc, hf⟩ := hA.walk; obtain ⟨hc2, hf2⟩ := hB.walk; (have hg := after (w := w) (by go_grown) hb1); (have hs1 := hg.size)) | (go_at_call 41; (with_reducible refine (y _).mono ?_); rintro e w2 ⟨rfl, hb2⟩; (have hA2 := hA.call hb2); (have hB2 := hB.call hb2); (have hC2 := hC.call hb2); obtain ⟨hc3, hf3⟩ := hA2.walk; obtain ⟨hc4, hf4⟩ := hB2.walk; (have hg2 := after hg hb2); (have hs2 := hg2.size)))
    all_goals (go_wp2_with fail; go_meet; exact ⟨rfl, (Blk.put (a := a) hA2 n).put_far (by omega) m, (Blk.put_far hB2 (by omega) n).put (a := b) m, (Blk.put_far hC2 (by omega) n).put_far (by omega) m, below_put (below_put hg2 (by omega) _) (by omega) _⟩)
  obtain ⟨rfl, hA, hB, hC, hg⟩ := hcut
  obtain ⟨hcA, hfA⟩ := hA.walk
  obtain ⟨hcB, hfB⟩ := hB.walk
  obtain ⟨hcC, hfC⟩ := hC.walk
  have hs := hg.size
  have hz : w.heap.size + 1 + 1 < wc.heap.size := hC.lt
  clear x y
  obtain ⟨ne, nt, nlo, nhi, nst⟩ := n
  obtain ⟨me, mt, mlo, mhi, mst⟩ := m
  try dsimp only at *
  simp only [VSet.cs] at hcA hcB hcC
  rcases ho with ho | ⟨ho, ho2⟩
  · go_wp2_with (go_at_call 16; (with_reducible refine (top_any _).mono ?_); rintro e wk ⟨rfl, hb⟩; (first | (replace HB := after HB hb) | (replace HB := after (below_drewN HB _) hb) | (have HB := hb)); clear hcA hfA hcB hfB hcC hfC; obtain ⟨hcA, hfA⟩ := (hA.call HB).walk; obtain ⟨hcB, hfB⟩ := (hB.call HB).walk; obtain ⟨hcC, hfC⟩ := (hC.call HB).walk; simp only [VSet.cs] at hcA hcB hcC)
    exact bodyPost_ret (v := (topV).val) (results_set rfl rfl ((hC.call HB).put (a := zeroV) topV)) rfl ⟨rfl, below_put (after hg HB) (by omega) topV⟩
  · go_wp2_with (go_at_call 16; (with_reducible refine (top_any _).mono ?_); rintro e wk ⟨rfl, hb⟩; (first | (replace HB := after HB hb) | (replace HB := after (below_drewN HB _) hb) | (have HB := hb)); clear hcA hfA hcB hfB hcC hfC; obtain ⟨hcA, hfA⟩ := (hA.call HB).walk; obtain ⟨hcB, hfB⟩ := (hB.call HB).walk; obtain ⟨hcC, hfC⟩ := (hC.call HB).walk; simp only [VSet.cs] at hcA hcB hcC)
    exact bodyPost_ret (v := (topV).val) (results_set rfl rfl ((hC.call HB).put (a := zeroV) topV)) rfl ⟨rfl, below_put (after hg HB) (by omega) topV⟩
set_option maxRecDepth 100000 in
set_option maxHeartbeats 8000000 in
theorem ap_empty (op : Int) (o1 : ¬ op < 3) (o2 : ¬ 15 < op) (a b n m : VSet) (he : n.e = true ∨ (n.e = false ∧ m.e = true)) (x : ∀ w, Calls Try.prog 41 #[a.val] w (Ret n.val w)) (y : ∀ w, Calls Try.prog 41 #[b.val] w (Ret m.val w)) (w : World) :
    Calls Try.prog 37 #[.int .i64 op, a.val, b.val] w (Ret emptyV.val w) := by
  go_enter Try.func37, Try.ntmps37
  go_upto_region 1 with fail
  go_cut [6] (fun s6 wx => s6 = .pointer (some ⟨w.heap.size + 1 + 1, 0, none⟩) ∧ Blk wx w.heap.size 24 n.cs ∧ Blk wx (w.heap.size + 1) 24 m.cs ∧ Blk wx (w.heap.size + 1 + 1) 24 zeroV.cs ∧ Below w.heap.size w wx)
  case first =>
    go_region_with (first | (go_at_call 41; (with_reducible refine (x _).mono ?_); rintro e w1 ⟨rfl, hb1⟩; (have hA := (((Blk.new _ _ _).alloc _).alloc _).drew.call hb1); (have hB := ((Blk.new _ _ _).alloc _).drew.call hb1); (have hC := (Blk.new _ _ _).drew.call hb1); simp only [World.size_alloc] at hB hC; obtain ⟨hc, hf⟩ := hA.walk; obtain ⟨hc2, hf2⟩ := hB.walk; (have hg := after (w := w) (by go_grown) hb1); (have hs1 := hg.size)) | (go_at_call 41; (with_reducible refine (y _).mono ?_); rintro e w2 ⟨rfl, hb2⟩; (have hA2 := hA.call hb2); (have hB2 := hB.call hb2); (have hC2 := hC.call hb2); obtain ⟨hc3, hf3⟩ := hA2.walk; obtain ⟨hc4, hf4⟩ := hB2.walk; (have hg2 := after hg hb2); (have hs2 := hg2.size)))
    all_goals (go_wp2_with fail; go_meet; exact ⟨rfl, (Blk.put (a := a) hA2 n).put_far (by omega) m, (Blk.put_far hB2 (by omega) n).put (a := b) m, (Blk.put_far hC2 (by omega) n).put_far (by omega) m, below_put (below_put hg2 (by omega) _) (by omega) _⟩)
  obtain ⟨rfl, hA, hB, hC, hg⟩ := hcut
  obtain ⟨hcA, hfA⟩ := hA.walk
  obtain ⟨hcB, hfB⟩ := hB.walk
  obtain ⟨hcC, hfC⟩ := hC.walk
  have hs := hg.size
  have hz : w.heap.size + 1 + 1 < wc.heap.size := hC.lt
  clear x y
  obtain ⟨ne, nt, nlo, nhi, nst⟩ := n
  obtain ⟨me, mt, mlo, mhi, mst⟩ := m
  try dsimp only at *
  simp only [VSet.cs] at hcA hcB hcC
  rcases he with rfl | ⟨rfl, rfl⟩
  · go_wp2_with (go_at_call 18; (with_reducible refine (empty_any _).mono ?_); rintro e wk ⟨rfl, hb⟩; (first | (replace HB := after HB hb) | (replace HB := after (below_drewN HB _) hb) | (have HB := hb)); clear hcA hfA hcB hfB hcC hfC; obtain ⟨hcA, hfA⟩ := (hA.call HB).walk; obtain ⟨hcB, hfB⟩ := (hB.call HB).walk; obtain ⟨hcC, hfC⟩ := (hC.call HB).walk; simp only [VSet.cs] at hcA hcB hcC)
    exact bodyPost_ret (v := (emptyV).val) (results_set rfl rfl ((hC.call HB).put (a := zeroV) emptyV)) rfl ⟨rfl, below_put (after hg HB) (by omega) emptyV⟩
  · go_wp2_with (go_at_call 18; (with_reducible refine (empty_any _).mono ?_); rintro e wk ⟨rfl, hb⟩; (first | (replace HB := after HB hb) | (replace HB := after (below_drewN HB _) hb) | (have HB := hb)); clear hcA hfA hcB hfB hcC hfC; obtain ⟨hcA, hfA⟩ := (hA.call HB).walk; obtain ⟨hcB, hfB⟩ := (hB.call HB).walk; obtain ⟨hcC, hfC⟩ := (hC.call HB).walk; simp only [VSet.cs] at hcA hcB hcC)
    exact bodyPost_ret (v := (emptyV).val) (results_set rfl rfl ((hC.call HB).put (a := zeroV) emptyV)) rfl ⟨rfl, below_put (after hg HB) (by omega) emptyV⟩
set_option maxRecDepth 100000 in
set_option maxHeartbeats 8000000 in
theorem ap_one (op : Int) (o1 : ¬ op < 3) (o2 : ¬ 15 < op) (a b n m : VSet) (en : Hid (n.e = false)) (em : Hid (m.e = false)) (s1 : ∀ w, Calls Try.prog 47 #[n.val] w (Ret (.bool true) w)) (s2 : ∀ w, Calls Try.prog 47 #[m.val] w (Ret (.bool true) w)) (V : Int)
    (z : ∀ w, Calls Try.prog 39 #[.int .i64 op, .int .u32 n.lo, .int .u32 m.lo] w (Ret (.tuple #[.int .u32 V, .int .i64 0]) w)) (x : ∀ w, Calls Try.prog 41 #[a.val] w (Ret n.val w)) (y : ∀ w, Calls Try.prog 41 #[b.val] w (Ret m.val w)) (w : World) :
    Calls Try.prog 37 #[.int .i64 op, a.val, b.val] w (Ret (oneV V).val w) := by
  go_enter Try.func37, Try.ntmps37
  go_upto_region 1 with fail
  go_cut [6] (fun s6 wx => s6 = .pointer (some ⟨w.heap.size + 1 + 1, 0, none⟩) ∧ Blk wx w.heap.size 24 n.cs ∧ Blk wx (w.heap.size + 1) 24 m.cs ∧ Blk wx (w.heap.size + 1 + 1) 24 zeroV.cs ∧ Below w.heap.size w wx)
  case first =>
    go_region_with (first | (go_at_call 41; (with_reducible refine (x _).mono ?_); rintro e w1 ⟨rfl, hb1⟩; (have hA := (((Blk.new _ _ _).alloc _).alloc _).drew.call hb1); (have hB := ((Blk.new _ _ _).alloc _).drew.call hb1); (have hC := (Blk.new _ _ _).drew.call hb1); simp only [World.size_alloc] at hB hC; obtain ⟨hc, hf⟩ := hA.walk; obtain ⟨hc2, hf2⟩ := hB.walk; (have hg := after (w := w) (by go_grown) hb1); (have hs1 := hg.size)) | (go_at_call 41; (with_reducible refine (y _).mono ?_); rintro e w2 ⟨rfl, hb2⟩; (have hA2 := hA.call hb2); (have hB2 := hB.call hb2); (have hC2 := hC.call hb2); obtain ⟨hc3, hf3⟩ := hA2.walk; obtain ⟨hc4, hf4⟩ := hB2.walk; (have hg2 := after hg hb2); (have hs2 := hg2.size)))
    all_goals (go_wp2_with fail; go_meet; exact ⟨rfl, (Blk.put (a := a) hA2 n).put_far (by omega) m, (Blk.put_far hB2 (by omega) n).put (a := b) m, (Blk.put_far hC2 (by omega) n).put_far (by omega) m, below_put (below_put hg2 (by omega) _) (by omega) _⟩)
  obtain ⟨rfl, hA, hB, hC, hg⟩ := hcut
  obtain ⟨hcA, hfA⟩ := hA.walk
  obtain ⟨hcB, hfB⟩ := hB.walk
  obtain ⟨hcC, hfC⟩ := hC.walk
  have hs := hg.size
  have hz : w.heap.size + 1 + 1 < wc.heap.size := hC.lt
  clear x y
  obtain ⟨ne, nt, nlo, nhi, nst⟩ := n
  obtain ⟨me, mt, mlo, mhi, mst⟩ := m
  try dsimp only at *
  simp only [VSet.cs] at hcA hcB hcC
  replace en := en.out
  try dsimp only at en
  replace em := em.out
  try dsimp only at em
  subst en em
  simp only [VSet.val] at s1 s2
  go_wp2_with (first | (go_at_call 47; (with_reducible refine (s1 _).mono ?_); rintro e wk ⟨rfl, hb⟩; (first | (replace HB := after HB hb) | (replace HB := after (below_drewN HB _) hb) | (have HB := hb)); clear hcA hfA hcB hfB hcC hfC; obtain ⟨hcA, hfA⟩ := (hA.call HB).walk; obtain ⟨hcB, hfB⟩ := (hB.call HB).walk; obtain ⟨hcC, hfC⟩ := (hC.call HB).walk; simp only [VSet.cs] at hcA hcB hcC) | (go_at_call 47; (with_reducible refine (s2 _).mono ?_); rintro e wk ⟨rfl, hb⟩; (first | (replace HB := after HB hb) | (replace HB := after (below_drewN HB _) hb) | (have HB := hb)); clear hcA hfA hcB hfB hcC hfC; obtain ⟨hcA, hfA⟩ := (hA.call HB).walk; obtain ⟨hcB, hfB⟩ := (hB.call HB).walk; obtain ⟨hcC, hfC⟩ := (hC.call HB).walk; simp only [VSet.cs] at hcA hcB hcC) | (go_at_call 39; (with_reducible refine (z _).mono ?_); rintro e wk ⟨rfl, hb⟩; (first | (replace HB := after HB hb) | (replace HB := after (below_drewN HB _) hb) | (have HB := hb)); clear hcA hfA hcB hfB hcC hfC; obtain ⟨hcA, hfA⟩ := (hA.call HB).walk; obtain ⟨hcB, hfB⟩ := (hB.call HB).walk; obtain ⟨hcC, hfC⟩ := (hC.call HB).walk; simp only [VSet.cs] at hcA hcB hcC) | (go_at_call 12; (with_reducible refine (const_any _ _).mono ?_); rintro e wk ⟨rfl, hb⟩; (first | (replace HB := after HB hb) | (replace HB := after (below_drewN HB _) hb) | (have HB := hb)); clear hcA hfA hcB hfB hcC hfC; obtain ⟨hcA, hfA⟩ := (hA.call HB).walk; obtain ⟨hcB, hfB⟩ := (hB.call HB).walk; obtain ⟨hcC, hfC⟩ := (hC.call HB).walk; simp only [VSet.cs] at hcA hcB hcC))
  exact bodyPost_ret (v := ((oneV V)).val) (results_set rfl rfl ((hC.call HB).put (a := zeroV) (oneV V))) rfl ⟨rfl, below_put (after hg HB) (by omega) (oneV V)⟩
set_option maxRecDepth 100000 in
set_option maxHeartbeats 8000000 in
theorem ap_cmp (op : Int) (ho : op = 12 ∨ op = 13 ∨ op = 14 ∨ op = 15) (a b n m : VSet) (en : Hid (n.e = false)) (em : Hid (m.e = false)) (sn sm : Bool) (s1 : ∀ w, Calls Try.prog 47 #[n.val] w (Ret (.bool sn) w)) (s2 : ∀ w, Calls Try.prog 47 #[m.val] w (Ret (.bool sm) w)) (hss : Hid ((sn && sm) = false)) (x : ∀ w, Calls Try.prog 41 #[a.val] w (Ret n.val w)) (y : ∀ w, Calls Try.prog 41 #[b.val] w (Ret m.val w)) (w : World) :
    Calls Try.prog 37 #[.int .i64 op, a.val, b.val] w (Ret (betweenL 0 1 1).val w) := by
  have B := between_any 0 1 1 (by omega) (by omega) (by omega) (by omega) (by omega) (by omega)
  generalize betweenL 0 1 1 = R at *
  go_enter Try.func37, Try.ntmps37
  go_upto_region 1 with fail
  go_cut [6] (fun s6 wx => s6 = .pointer (some ⟨w.heap.size + 1 + 1, 0, none⟩) ∧ Blk wx w.heap.size 24 n.cs ∧ Blk wx (w.heap.size + 1) 24 m.cs ∧ Blk wx (w.heap.size + 1 + 1) 24 zeroV.cs ∧ Below w.heap.size w wx)
  case first =>
    go_region_with (first | (go_at_call 41; (with_reducible refine (x _).mono ?_); rintro e w1 ⟨rfl, hb1⟩; (have hA := (((Blk.new _ _ _).alloc _).alloc _).drew.call hb1); (have hB := ((Blk.new _ _ _).alloc _).drew.call hb1); (have hC := (Blk.new _ _ _).drew.call hb1); simp only [World.size_alloc] at hB hC; obtain ⟨hc, hf⟩ := hA.walk; obtain ⟨hc2, hf2⟩ := hB.walk; (have hg := after (w := w) (by go_grown) hb1); (have hs1 := hg.size)) | (go_at_call 41; (with_reducible refine (y _).mono ?_); rintro e w2 ⟨rfl, hb2⟩; (have hA2 := hA.call hb2); (have hB2 := hB.call hb2); (have hC2 := hC.call hb2); obtain ⟨hc3, hf3⟩ := hA2.walk; obtain ⟨hc4, hf4⟩ := hB2.walk; (have hg2 := after hg hb2); (have hs2 := hg2.size)))
    all_goals (go_wp2_with fail; go_meet; exact ⟨rfl, (Blk.put (a := a) hA2 n).put_far (by omega) m, (Blk.put_far hB2 (by omega) n).put (a := b) m, (Blk.put_far hC2 (by omega) n).put_far (by omega) m, below_put (below_put hg2 (by omega) _) (by omega) _⟩)
  obtain ⟨rfl, hA, hB, hC, hg⟩ := hcut
  obtain ⟨hcA, hfA⟩ := hA.walk
  obtain ⟨hcB, hfB⟩ := hB.walk
  obtain ⟨hcC, hfC⟩ := hC.walk
  have hs := hg.size
  have hz : w.heap.size + 1 + 1 < wc.heap.size := hC.lt
  clear x y
  obtain ⟨ne, nt, nlo, nhi, nst⟩ := n
  obtain ⟨me, mt, mlo, mhi, mst⟩ := m
  try dsimp only at *
  simp only [VSet.cs] at hcA hcB hcC
  replace en := en.out
  try dsimp only at en
  replace em := em.out
  try dsimp only at em
  subst en em
  simp only [VSet.val] at s1 s2
  have hs' := hss.out
  rcases ho with rfl | rfl | rfl | rfl
  all_goals
    cases sn
    all_goals
      (try cases sm)
      all_goals first
        | (exfalso; simp at hs'; done)
        | (clear hs'
           go_wp2_with (first | (go_at_call 47; (with_reducible refine (s1 _).mono ?_); rintro e wk ⟨rfl, hb⟩; (first | (replace HB := after HB hb) | (replace HB := after (below_drewN HB _) hb) | (have HB := hb)); clear hcA hfA hcB hfB hcC hfC; obtain ⟨hcA, hfA⟩ := (hA.call HB).walk; obtain ⟨hcB, hfB⟩ := (hB.call HB).walk; obtain ⟨hcC, hfC⟩ := (hC.call HB).walk; simp only [VSet.cs] at hcA hcB hcC) | (go_at_call 47; (with_reducible refine (s2 _).mono ?_); rintro e wk ⟨rfl, hb⟩; (first | (replace HB := after HB hb) | (replace HB := after (below_drewN HB _) hb) | (have HB := hb)); clear hcA hfA hcB hfB hcC hfC; obtain ⟨hcA, hfA⟩ := (hA.call HB).walk; obtain ⟨hcB, hfB⟩ := (hB.call HB).walk; obtain ⟨hcC, hfC⟩ := (hC.call HB).walk; simp only [VSet.cs] at hcA hcB hcC) | (go_at_call 14; (with_reducible refine (B _).mono ?_); rintro e wk ⟨rfl, hb⟩; (first | (replace HB := after HB hb) | (replace HB := after (below_drewN HB _) hb) | (have HB := hb)); clear hcA hfA hcB hfB hcC hfC; obtain ⟨hcA, hfA⟩ := (hA.call HB).walk; obtain ⟨hcB, hfB⟩ := (hB.call HB).walk; obtain ⟨hcC, hfC⟩ := (hC.call HB).walk; simp only [VSet.cs] at hcA hcB hcC))
           exact bodyPost_ret (v := (R).val) (results_set rfl rfl ((hC.call HB).put (a := zeroV) R)) rfl ⟨rfl, below_put (after hg HB) (by omega) R⟩
           )
set_option maxRecDepth 100000 in
set_option maxHeartbeats 8000000 in
theorem ap_top (op : Int) (ho : op = 7 ∨ op = 8 ∨ op = 11) (a b n m : VSet) (en : Hid (n.e = false)) (em : Hid (m.e = false)) (sn sm : Bool) (s1 : ∀ w, Calls Try.prog 47 #[n.val] w (Ret (.bool sn) w)) (s2 : ∀ w, Calls Try.prog 47 #[m.val] w (Ret (.bool sm) w)) (hss : Hid ((sn && sm) = false)) (x : ∀ w, Calls Try.prog 41 #[a.val] w (Ret n.val w)) (y : ∀ w, Calls Try.prog 41 #[b.val] w (Ret m.val w)) (w : World) :
    Calls Try.prog 37 #[.int .i64 op, a.val, b.val] w (Ret topV.val w) := by
  go_enter Try.func37, Try.ntmps37
  go_upto_region 1 with fail
  go_cut [6] (fun s6 wx => s6 = .pointer (some ⟨w.heap.size + 1 + 1, 0, none⟩) ∧ Blk wx w.heap.size 24 n.cs ∧ Blk wx (w.heap.size + 1) 24 m.cs ∧ Blk wx (w.heap.size + 1 + 1) 24 zeroV.cs ∧ Below w.heap.size w wx)
  case first =>
    go_region_with (first | (go_at_call 41; (with_reducible refine (x _).mono ?_); rintro e w1 ⟨rfl, hb1⟩; (have hA := (((Blk.new _ _ _).alloc _).alloc _).drew.call hb1); (have hB := ((Blk.new _ _ _).alloc _).drew.call hb1); (have hC := (Blk.new _ _ _).drew.call hb1); simp only [World.size_alloc] at hB hC; obtain ⟨hc, hf⟩ := hA.walk; obtain ⟨hc2, hf2⟩ := hB.walk; (have hg := after (w := w) (by go_grown) hb1); (have hs1 := hg.size)) | (go_at_call 41; (with_reducible refine (y _).mono ?_); rintro e w2 ⟨rfl, hb2⟩; (have hA2 := hA.call hb2); (have hB2 := hB.call hb2); (have hC2 := hC.call hb2); obtain ⟨hc3, hf3⟩ := hA2.walk; obtain ⟨hc4, hf4⟩ := hB2.walk; (have hg2 := after hg hb2); (have hs2 := hg2.size)))
    all_goals (go_wp2_with fail; go_meet; exact ⟨rfl, (Blk.put (a := a) hA2 n).put_far (by omega) m, (Blk.put_far hB2 (by omega) n).put (a := b) m, (Blk.put_far hC2 (by omega) n).put_far (by omega) m, below_put (below_put hg2 (by omega) _) (by omega) _⟩)
  obtain ⟨rfl, hA, hB, hC, hg⟩ := hcut
  obtain ⟨hcA, hfA⟩ := hA.walk
  obtain ⟨hcB, hfB⟩ := hB.walk
  obtain ⟨hcC, hfC⟩ := hC.walk
  have hs := hg.size
  have hz : w.heap.size + 1 + 1 < wc.heap.size := hC.lt
  clear x y
  obtain ⟨ne, nt, nlo, nhi, nst⟩ := n
  obtain ⟨me, mt, mlo, mhi, mst⟩ := m
  try dsimp only at *
  simp only [VSet.cs] at hcA hcB hcC
  replace en := en.out
  try dsimp only at en
  replace em := em.out
  try dsimp only at em
  subst en em
  simp only [VSet.val] at s1 s2
  have hs' := hss.out
  rcases ho with rfl | rfl | rfl
  all_goals
    cases sn
    all_goals
      cases sm
      all_goals first
        | (exfalso; simp at hs'; done)
        | (clear hs'
           go_wp2_with (first | (go_at_call 47; (with_reducible refine (s1 _).mono ?_); rintro e wk ⟨rfl, hb⟩; (first | (replace HB := after HB hb) | (replace HB := after (below_drewN HB _) hb) | (have HB := hb)); clear hcA hfA hcB hfB hcC hfC; obtain ⟨hcA, hfA⟩ := (hA.call HB).walk; obtain ⟨hcB, hfB⟩ := (hB.call HB).walk; obtain ⟨hcC, hfC⟩ := (hC.call HB).walk; simp only [VSet.cs] at hcA hcB hcC) | (go_at_call 47; (with_reducible refine (s2 _).mono ?_); rintro e wk ⟨rfl, hb⟩; (first | (replace HB := after HB hb) | (replace HB := after (below_drewN HB _) hb) | (have HB := hb)); clear hcA hfA hcB hfB hcC hfC; obtain ⟨hcA, hfA⟩ := (hA.call HB).walk; obtain ⟨hcB, hfB⟩ := (hB.call HB).walk; obtain ⟨hcC, hfC⟩ := (hC.call HB).walk; simp only [VSet.cs] at hcA hcB hcC) | (go_at_call 16; (with_reducible refine (top_any _).mono ?_); rintro e wk ⟨rfl, hb⟩; (first | (replace HB := after HB hb) | (replace HB := after (below_drewN HB _) hb) | (have HB := hb)); clear hcA hfA hcB hfB hcC hfC; obtain ⟨hcA, hfA⟩ := (hA.call HB).walk; obtain ⟨hcB, hfB⟩ := (hB.call HB).walk; obtain ⟨hcC, hfC⟩ := (hC.call HB).walk; simp only [VSet.cs] at hcA hcB hcC))
           exact bodyPost_ret (v := (topV).val) (results_set rfl rfl ((hC.call HB).put (a := zeroV) topV)) rfl ⟨rfl, below_put (after hg HB) (by omega) topV⟩
           )
set_option maxRecDepth 100000 in
set_option maxHeartbeats 8000000 in
theorem ap_many (op : Int) (ho : op = 5 ∨ op = 9 ∨ op = 6 ∨ op = 10) (a b n m : VSet) (en : Hid (n.e = false)) (em : Hid (m.e = false)) (sn : Bool) (s1 : ∀ w, Calls Try.prog 47 #[n.val] w (Ret (.bool sn) w)) (s2 : ∀ w, Calls Try.prog 47 #[m.val] w (Ret (.bool false) w)) (x : ∀ w, Calls Try.prog 41 #[a.val] w (Ret n.val w)) (y : ∀ w, Calls Try.prog 41 #[b.val] w (Ret m.val w)) (w : World) :
    Calls Try.prog 37 #[.int .i64 op, a.val, b.val] w (Ret topV.val w) := by
  go_enter Try.func37, Try.ntmps37
  go_upto_region 1 with fail
  go_cut [6] (fun s6 wx => s6 = .pointer (some ⟨w.heap.size + 1 + 1, 0, none⟩) ∧ Blk wx w.heap.size 24 n.cs ∧ Blk wx (w.heap.size + 1) 24 m.cs ∧ Blk wx (w.heap.size + 1 + 1) 24 zeroV.cs ∧ Below w.heap.size w wx)
  case first =>
    go_region_with (first | (go_at_call 41; (with_reducible refine (x _).mono ?_); rintro e w1 ⟨rfl, hb1⟩; (have hA := (((Blk.new _ _ _).alloc _).alloc _).drew.call hb1); (have hB := ((Blk.new _ _ _).alloc _).drew.call hb1); (have hC := (Blk.new _ _ _).drew.call hb1); simp only [World.size_alloc] at hB hC; obtain ⟨hc, hf⟩ := hA.walk; obtain ⟨hc2, hf2⟩ := hB.walk; (have hg := after (w := w) (by go_grown) hb1); (have hs1 := hg.size)) | (go_at_call 41; (with_reducible refine (y _).mono ?_); rintro e w2 ⟨rfl, hb2⟩; (have hA2 := hA.call hb2); (have hB2 := hB.call hb2); (have hC2 := hC.call hb2); obtain ⟨hc3, hf3⟩ := hA2.walk; obtain ⟨hc4, hf4⟩ := hB2.walk; (have hg2 := after hg hb2); (have hs2 := hg2.size)))
    all_goals (go_wp2_with fail; go_meet; exact ⟨rfl, (Blk.put (a := a) hA2 n).put_far (by omega) m, (Blk.put_far hB2 (by omega) n).put (a := b) m, (Blk.put_far hC2 (by omega) n).put_far (by omega) m, below_put (below_put hg2 (by omega) _) (by omega) _⟩)
  obtain ⟨rfl, hA, hB, hC, hg⟩ := hcut
  obtain ⟨hcA, hfA⟩ := hA.walk
  obtain ⟨hcB, hfB⟩ := hB.walk
  obtain ⟨hcC, hfC⟩ := hC.walk
  have hs := hg.size
  have hz : w.heap.size + 1 + 1 < wc.heap.size := hC.lt
  clear x y
  obtain ⟨ne, nt, nlo, nhi, nst⟩ := n
  obtain ⟨me, mt, mlo, mhi, mst⟩ := m
  try dsimp only at *
  simp only [VSet.cs] at hcA hcB hcC
  replace en := en.out
  try dsimp only at en
  replace em := em.out
  try dsimp only at em
  subst en em
  simp only [VSet.val] at s1 s2
  rcases ho with rfl | rfl | rfl | rfl
  all_goals
    cases sn
    all_goals
      go_wp2_with (first | (go_at_call 47; (with_reducible refine (s1 _).mono ?_); rintro e wk ⟨rfl, hb⟩; (first | (replace HB := after HB hb) | (replace HB := after (below_drewN HB _) hb) | (have HB := hb)); clear hcA hfA hcB hfB hcC hfC; obtain ⟨hcA, hfA⟩ := (hA.call HB).walk; obtain ⟨hcB, hfB⟩ := (hB.call HB).walk; obtain ⟨hcC, hfC⟩ := (hC.call HB).walk; simp only [VSet.cs] at hcA hcB hcC) | (go_at_call 47; (with_reducible refine (s2 _).mono ?_); rintro e wk ⟨rfl, hb⟩; (first | (replace HB := after HB hb) | (replace HB := after (below_drewN HB _) hb) | (have HB := hb)); clear hcA hfA hcB hfB hcC hfC; obtain ⟨hcA, hfA⟩ := (hA.call HB).walk; obtain ⟨hcB, hfB⟩ := (hB.call HB).walk; obtain ⟨hcC, hfC⟩ := (hC.call HB).walk; simp only [VSet.cs] at hcA hcB hcC) | (go_at_call 16; (with_reducible refine (top_any _).mono ?_); rintro e wk ⟨rfl, hb⟩; (first | (replace HB := after HB hb) | (replace HB := after (below_drewN HB _) hb) | (have HB := hb)); clear hcA hfA hcB hfB hcC hfC; obtain ⟨hcA, hfA⟩ := (hA.call HB).walk; obtain ⟨hcB, hfB⟩ := (hB.call HB).walk; obtain ⟨hcC, hfC⟩ := (hC.call HB).walk; simp only [VSet.cs] at hcA hcB hcC))
      exact bodyPost_ret (v := (topV).val) (results_set rfl rfl ((hC.call HB).put (a := zeroV) topV)) rfl ⟨rfl, below_put (after hg HB) (by omega) topV⟩
set_option maxRecDepth 100000 in
set_option maxHeartbeats 8000000 in
theorem ap_mul (a b n m : VSet) (en : Hid (n.e = false)) (em : Hid (m.e = false)) (s1 : ∀ w, Calls Try.prog 47 #[n.val] w (Ret (.bool false) w)) (s2 : ∀ w, Calls Try.prog 47 #[m.val] w (Ret (.bool true) w)) (R : VSet) (z : ∀ w, Calls Try.prog 48 #[n.val, .int .u32 m.lo] w (Ret R.val w)) (x : ∀ w, Calls Try.prog 41 #[a.val] w (Ret n.val w)) (y : ∀ w, Calls Try.prog 41 #[b.val] w (Ret m.val w)) (w : World) :
    Calls Try.prog 37 #[.int .i64 5, a.val, b.val] w (Ret R.val w) := by
  go_enter Try.func37, Try.ntmps37
  go_upto_region 1 with fail
  go_cut [6] (fun s6 wx => s6 = .pointer (some ⟨w.heap.size + 1 + 1, 0, none⟩) ∧ Blk wx w.heap.size 24 n.cs ∧ Blk wx (w.heap.size + 1) 24 m.cs ∧ Blk wx (w.heap.size + 1 + 1) 24 zeroV.cs ∧ Below w.heap.size w wx)
  case first =>
    go_region_with (first | (go_at_call 41; (with_reducible refine (x _).mono ?_); rintro e w1 ⟨rfl, hb1⟩; (have hA := (((Blk.new _ _ _).alloc _).alloc _).drew.call hb1); (have hB := ((Blk.new _ _ _).alloc _).drew.call hb1); (have hC := (Blk.new _ _ _).drew.call hb1); simp only [World.size_alloc] at hB hC; obtain ⟨hc, hf⟩ := hA.walk; obtain ⟨hc2, hf2⟩ := hB.walk; (have hg := after (w := w) (by go_grown) hb1); (have hs1 := hg.size)) | (go_at_call 41; (with_reducible refine (y _).mono ?_); rintro e w2 ⟨rfl, hb2⟩; (have hA2 := hA.call hb2); (have hB2 := hB.call hb2); (have hC2 := hC.call hb2); obtain ⟨hc3, hf3⟩ := hA2.walk; obtain ⟨hc4, hf4⟩ := hB2.walk; (have hg2 := after hg hb2); (have hs2 := hg2.size)))
    all_goals (go_wp2_with fail; go_meet; exact ⟨rfl, (Blk.put (a := a) hA2 n).put_far (by omega) m, (Blk.put_far hB2 (by omega) n).put (a := b) m, (Blk.put_far hC2 (by omega) n).put_far (by omega) m, below_put (below_put hg2 (by omega) _) (by omega) _⟩)
  obtain ⟨rfl, hA, hB, hC, hg⟩ := hcut
  obtain ⟨hcA, hfA⟩ := hA.walk
  obtain ⟨hcB, hfB⟩ := hB.walk
  obtain ⟨hcC, hfC⟩ := hC.walk
  have hs := hg.size
  have hz : w.heap.size + 1 + 1 < wc.heap.size := hC.lt
  clear x y
  obtain ⟨ne, nt, nlo, nhi, nst⟩ := n
  obtain ⟨me, mt, mlo, mhi, mst⟩ := m
  try dsimp only at *
  simp only [VSet.cs] at hcA hcB hcC
  replace en := en.out
  try dsimp only at en
  replace em := em.out
  try dsimp only at em
  subst en em
  simp only [VSet.val] at s1 s2 z
  go_wp2_with (first | (go_at_call 47; (with_reducible refine (s1 _).mono ?_); rintro e wk ⟨rfl, hb⟩; (first | (replace HB := after HB hb) | (replace HB := after (below_drewN HB _) hb) | (have HB := hb)); clear hcA hfA hcB hfB hcC hfC; obtain ⟨hcA, hfA⟩ := (hA.call HB).walk; obtain ⟨hcB, hfB⟩ := (hB.call HB).walk; obtain ⟨hcC, hfC⟩ := (hC.call HB).walk; simp only [VSet.cs] at hcA hcB hcC) | (go_at_call 47; (with_reducible refine (s2 _).mono ?_); rintro e wk ⟨rfl, hb⟩; (first | (replace HB := after HB hb) | (replace HB := after (below_drewN HB _) hb) | (have HB := hb)); clear hcA hfA hcB hfB hcC hfC; obtain ⟨hcA, hfA⟩ := (hA.call HB).walk; obtain ⟨hcB, hfB⟩ := (hB.call HB).walk; obtain ⟨hcC, hfC⟩ := (hC.call HB).walk; simp only [VSet.cs] at hcA hcB hcC) | (go_at_call 48; (with_reducible refine (z _).mono ?_); rintro e wk ⟨rfl, hb⟩; (first | (replace HB := after HB hb) | (replace HB := after (below_drewN HB _) hb) | (have HB := hb)); clear hcA hfA hcB hfB hcC hfC; obtain ⟨hcA, hfA⟩ := (hA.call HB).walk; obtain ⟨hcB, hfB⟩ := (hB.call HB).walk; obtain ⟨hcC, hfC⟩ := (hC.call HB).walk; simp only [VSet.cs] at hcA hcB hcC))
  exact bodyPost_ret (v := (R).val) (results_set rfl rfl ((hC.call HB).put (a := zeroV) R)) rfl ⟨rfl, below_put (after hg HB) (by omega) R⟩
set_option maxRecDepth 100000 in
set_option maxHeartbeats 8000000 in
theorem ap_and (a b n m : VSet) (en : Hid (n.e = false)) (em : Hid (m.e = false)) (s1 : ∀ w, Calls Try.prog 47 #[n.val] w (Ret (.bool false) w)) (s2 : ∀ w, Calls Try.prog 47 #[m.val] w (Ret (.bool true) w)) (R : VSet) (z : ∀ w, Calls Try.prog 50 #[n.val, .int .u32 m.lo] w (Ret R.val w)) (x : ∀ w, Calls Try.prog 41 #[a.val] w (Ret n.val w)) (y : ∀ w, Calls Try.prog 41 #[b.val] w (Ret m.val w)) (w : World) :
    Calls Try.prog 37 #[.int .i64 6, a.val, b.val] w (Ret R.val w) := by
  go_enter Try.func37, Try.ntmps37
  go_upto_region 1 with fail
  go_cut [6] (fun s6 wx => s6 = .pointer (some ⟨w.heap.size + 1 + 1, 0, none⟩) ∧ Blk wx w.heap.size 24 n.cs ∧ Blk wx (w.heap.size + 1) 24 m.cs ∧ Blk wx (w.heap.size + 1 + 1) 24 zeroV.cs ∧ Below w.heap.size w wx)
  case first =>
    go_region_with (first | (go_at_call 41; (with_reducible refine (x _).mono ?_); rintro e w1 ⟨rfl, hb1⟩; (have hA := (((Blk.new _ _ _).alloc _).alloc _).drew.call hb1); (have hB := ((Blk.new _ _ _).alloc _).drew.call hb1); (have hC := (Blk.new _ _ _).drew.call hb1); simp only [World.size_alloc] at hB hC; obtain ⟨hc, hf⟩ := hA.walk; obtain ⟨hc2, hf2⟩ := hB.walk; (have hg := after (w := w) (by go_grown) hb1); (have hs1 := hg.size)) | (go_at_call 41; (with_reducible refine (y _).mono ?_); rintro e w2 ⟨rfl, hb2⟩; (have hA2 := hA.call hb2); (have hB2 := hB.call hb2); (have hC2 := hC.call hb2); obtain ⟨hc3, hf3⟩ := hA2.walk; obtain ⟨hc4, hf4⟩ := hB2.walk; (have hg2 := after hg hb2); (have hs2 := hg2.size)))
    all_goals (go_wp2_with fail; go_meet; exact ⟨rfl, (Blk.put (a := a) hA2 n).put_far (by omega) m, (Blk.put_far hB2 (by omega) n).put (a := b) m, (Blk.put_far hC2 (by omega) n).put_far (by omega) m, below_put (below_put hg2 (by omega) _) (by omega) _⟩)
  obtain ⟨rfl, hA, hB, hC, hg⟩ := hcut
  obtain ⟨hcA, hfA⟩ := hA.walk
  obtain ⟨hcB, hfB⟩ := hB.walk
  obtain ⟨hcC, hfC⟩ := hC.walk
  have hs := hg.size
  have hz : w.heap.size + 1 + 1 < wc.heap.size := hC.lt
  clear x y
  obtain ⟨ne, nt, nlo, nhi, nst⟩ := n
  obtain ⟨me, mt, mlo, mhi, mst⟩ := m
  try dsimp only at *
  simp only [VSet.cs] at hcA hcB hcC
  replace en := en.out
  try dsimp only at en
  replace em := em.out
  try dsimp only at em
  subst en em
  simp only [VSet.val] at s1 s2 z
  go_wp2_with (first | (go_at_call 47; (with_reducible refine (s1 _).mono ?_); rintro e wk ⟨rfl, hb⟩; (first | (replace HB := after HB hb) | (replace HB := after (below_drewN HB _) hb) | (have HB := hb)); clear hcA hfA hcB hfB hcC hfC; obtain ⟨hcA, hfA⟩ := (hA.call HB).walk; obtain ⟨hcB, hfB⟩ := (hB.call HB).walk; obtain ⟨hcC, hfC⟩ := (hC.call HB).walk; simp only [VSet.cs] at hcA hcB hcC) | (go_at_call 47; (with_reducible refine (s2 _).mono ?_); rintro e wk ⟨rfl, hb⟩; (first | (replace HB := after HB hb) | (replace HB := after (below_drewN HB _) hb) | (have HB := hb)); clear hcA hfA hcB hfB hcC hfC; obtain ⟨hcA, hfA⟩ := (hA.call HB).walk; obtain ⟨hcB, hfB⟩ := (hB.call HB).walk; obtain ⟨hcC, hfC⟩ := (hC.call HB).walk; simp only [VSet.cs] at hcA hcB hcC) | (go_at_call 50; (with_reducible refine (z _).mono ?_); rintro e wk ⟨rfl, hb⟩; (first | (replace HB := after HB hb) | (replace HB := after (below_drewN HB _) hb) | (have HB := hb)); clear hcA hfA hcB hfB hcC hfC; obtain ⟨hcA, hfA⟩ := (hA.call HB).walk; obtain ⟨hcB, hfB⟩ := (hB.call HB).walk; obtain ⟨hcC, hfC⟩ := (hC.call HB).walk; simp only [VSet.cs] at hcA hcB hcC))
  exact bodyPost_ret (v := (R).val) (results_set rfl rfl ((hC.call HB).put (a := zeroV) R)) rfl ⟨rfl, below_put (after hg HB) (by omega) R⟩
set_option maxRecDepth 100000 in
set_option maxHeartbeats 8000000 in
theorem ap_shr_top (a b n m : VSet) (en : Hid (n.e = false)) (em : Hid (m.e = false)) (tn : Hid (n.t = true)) (s1 : ∀ w, Calls Try.prog 47 #[n.val] w (Ret (.bool false) w)) (s2 : ∀ w, Calls Try.prog 47 #[m.val] w (Ret (.bool true) w)) (x : ∀ w, Calls Try.prog 41 #[a.val] w (Ret n.val w)) (y : ∀ w, Calls Try.prog 41 #[b.val] w (Ret m.val w)) (w : World) :
    Calls Try.prog 37 #[.int .i64 10, a.val, b.val] w (Ret topV.val w) := by
  go_enter Try.func37, Try.ntmps37
  go_upto_region 1 with fail
  go_cut [6] (fun s6 wx => s6 = .pointer (some ⟨w.heap.size + 1 + 1, 0, none⟩) ∧ Blk wx w.heap.size 24 n.cs ∧ Blk wx (w.heap.size + 1) 24 m.cs ∧ Blk wx (w.heap.size + 1 + 1) 24 zeroV.cs ∧ Below w.heap.size w wx)
  case first =>
    go_region_with (first | (go_at_call 41; (with_reducible refine (x _).mono ?_); rintro e w1 ⟨rfl, hb1⟩; (have hA := (((Blk.new _ _ _).alloc _).alloc _).drew.call hb1); (have hB := ((Blk.new _ _ _).alloc _).drew.call hb1); (have hC := (Blk.new _ _ _).drew.call hb1); simp only [World.size_alloc] at hB hC; obtain ⟨hc, hf⟩ := hA.walk; obtain ⟨hc2, hf2⟩ := hB.walk; (have hg := after (w := w) (by go_grown) hb1); (have hs1 := hg.size)) | (go_at_call 41; (with_reducible refine (y _).mono ?_); rintro e w2 ⟨rfl, hb2⟩; (have hA2 := hA.call hb2); (have hB2 := hB.call hb2); (have hC2 := hC.call hb2); obtain ⟨hc3, hf3⟩ := hA2.walk; obtain ⟨hc4, hf4⟩ := hB2.walk; (have hg2 := after hg hb2); (have hs2 := hg2.size)))
    all_goals (go_wp2_with fail; go_meet; exact ⟨rfl, (Blk.put (a := a) hA2 n).put_far (by omega) m, (Blk.put_far hB2 (by omega) n).put (a := b) m, (Blk.put_far hC2 (by omega) n).put_far (by omega) m, below_put (below_put hg2 (by omega) _) (by omega) _⟩)
  obtain ⟨rfl, hA, hB, hC, hg⟩ := hcut
  obtain ⟨hcA, hfA⟩ := hA.walk
  obtain ⟨hcB, hfB⟩ := hB.walk
  obtain ⟨hcC, hfC⟩ := hC.walk
  have hs := hg.size
  have hz : w.heap.size + 1 + 1 < wc.heap.size := hC.lt
  clear x y
  obtain ⟨ne, nt, nlo, nhi, nst⟩ := n
  obtain ⟨me, mt, mlo, mhi, mst⟩ := m
  try dsimp only at *
  simp only [VSet.cs] at hcA hcB hcC
  replace en := en.out
  try dsimp only at en
  replace em := em.out
  try dsimp only at em
  subst en em
  replace tn := tn.out
  try dsimp only at tn
  subst tn
  simp only [VSet.val] at s1 s2
  go_wp2_with (first | (go_at_call 47; (with_reducible refine (s1 _).mono ?_); rintro e wk ⟨rfl, hb⟩; (first | (replace HB := after HB hb) | (replace HB := after (below_drewN HB _) hb) | (have HB := hb)); clear hcA hfA hcB hfB hcC hfC; obtain ⟨hcA, hfA⟩ := (hA.call HB).walk; obtain ⟨hcB, hfB⟩ := (hB.call HB).walk; obtain ⟨hcC, hfC⟩ := (hC.call HB).walk; simp only [VSet.cs] at hcA hcB hcC) | (go_at_call 47; (with_reducible refine (s2 _).mono ?_); rintro e wk ⟨rfl, hb⟩; (first | (replace HB := after HB hb) | (replace HB := after (below_drewN HB _) hb) | (have HB := hb)); clear hcA hfA hcB hfB hcC hfC; obtain ⟨hcA, hfA⟩ := (hA.call HB).walk; obtain ⟨hcB, hfB⟩ := (hB.call HB).walk; obtain ⟨hcC, hfC⟩ := (hC.call HB).walk; simp only [VSet.cs] at hcA hcB hcC) | (go_at_call 16; (with_reducible refine (top_any _).mono ?_); rintro e wk ⟨rfl, hb⟩; (first | (replace HB := after HB hb) | (replace HB := after (below_drewN HB _) hb) | (have HB := hb)); clear hcA hfA hcB hfB hcC hfC; obtain ⟨hcA, hfA⟩ := (hA.call HB).walk; obtain ⟨hcB, hfB⟩ := (hB.call HB).walk; obtain ⟨hcC, hfC⟩ := (hC.call HB).walk; simp only [VSet.cs] at hcA hcB hcC))
  exact bodyPost_ret (v := (topV).val) (results_set rfl rfl ((hC.call HB).put (a := zeroV) topV)) rfl ⟨rfl, below_put (after hg HB) (by omega) topV⟩
end Go.Proofs.Ytjhdjclcfmcilaa
