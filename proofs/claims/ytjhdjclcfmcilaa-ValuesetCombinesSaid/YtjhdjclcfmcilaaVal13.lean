/-
  What cover and Meet of decompilerref14 return.
-/
import Derived.Test.YtjhdjclcfmcilaaVal12
import Derived.Test.YtjhdjclcfmcilaaVal10
import Derived.Deep.LoopGhost
namespace Go.Proofs.Ytjhdjclcfmcilaa
open Go.ChangeShapes Go.WideShapes Go.ChangeAt Go.RowKit
set_option linter.unusedVariables false
/-- What has been joined after k elements. -/
def outK (b : VSet) (l : List Int) (k : Nat) : VSet := (l.take k).foldl (coverStep b) emptyV
theorem outK_all (b : VSet) (l : List Int) : outK b l l.length = l.foldl (coverStep b) emptyV := by unfold outK; rw [List.take_length]
theorem outK_succ (b : VSet) (l : List Int) (k : Nat) (x : Int) (h : l[k]? = some x) : outK b l (k + 1) = coverStep b (outK b l k) x := by
  unfold outK
  rw [List.take_add_one, h, List.foldl_append]; rfl
theorem outK_ok (b : VSet) (l : List Int) (hl : ∀ x ∈ l, 0 ≤ x ∧ x < 4294967296) (k : Nat) : (outK b l k).wf ∧ validL (outK b l k) = true :=
  fold_ok b _ _ emptyV_wf rfl fun x hx => hl x (List.mem_of_mem_take hx)
theorem outK_yes {b : VSet} {l : List Int} {k : Nat} {x : Int} (h : l[k]? = some x) (c : containsN b x = true) : outK b l (k + 1) = joinL (outK b l k) (oneV x) := by
  rw [outK_succ b l k x h]; unfold coverStep; rw [c]; rfl
theorem outK_no {b : VSet} {l : List Int} {k : Nat} {x : Int} (h : l[k]? = some x) (c : containsN b x = false) : outK b l (k + 1) = outK b l k := by
  rw [outK_succ b l k x h]; unfold coverStep; rw [c]; rfl

set_option maxHeartbeats 4000000 in
theorem cover_core (a b : VSet) (wb : b.wf) (l : List Int) (hl : ∀ x ∈ l, 0 ≤ x ∧ x < 4294967296) (hn : l.length ≤ 64)
    (xl : ∀ w, Calls Try.prog 43 #[a.val] w (Slice32 l id w))
    (xc : ∀ x w, 0 ≤ x → x < 4294967296 → Calls Try.prog 26 #[b.val, .int .u32 x] w (Ret (.bool (containsN b x)) w))
    (xj : ∀ (o : VSet) x w, o.wf → 0 ≤ x → x < 4294967296 → Calls Try.prog 33 #[o.val, (oneV x).val] w (Ret (joinL o (oneV x)).val w)) (w : World) :
    Calls Try.prog 46 #[a.val, b.val] w (Ret (l.foldl (coverStep b) emptyV).val w) := by
  have HL := hide hl
  clear hl
  obtain ⟨R, hR⟩ : ∃ R, R = l.foldl (coverStep b) emptyV := ⟨_, rfl⟩
  have H : Hid (R = outK b l l.length) := hide (by rw [hR, outK_all])
  rw [← hR]
  clear hR
  go_enter Try.func46, Try.ntmps46
  go_wp2_with (first | (go_at_call 19; (with_reducible refine (rempty_any _).mono ?_); rintro e w1 ⟨rfl, hb1⟩; (have hA := (((Blk.new _ _ _).alloc _).alloc _).call hb1); (have hB := ((Blk.new _ _ _).alloc _).call hb1); (have hC := (Blk.new _ _ _).call hb1); simp only [World.size_alloc] at hB hC; obtain ⟨hc, hf⟩ := hA.walk; (have hg := after (w := w) (by go_grown) hb1); (have hs := hg.size); (have hz : w.heap.size + 1 + 1 < w1.heap.size := hC.lt); (have hz0 : w.heap.size < w1.heap.size := hA.lt); (have hz1 : w.heap.size + 1 < w1.heap.size := hB.lt)) | (go_at_call 43; (with_reducible refine (xl _).mono ?_); rintro e w2 ⟨A, c, rfl, hr, hb2⟩; (have hD2 := (Blk.new w1 24 emptyV.cs).call hb2); (have hB2 := (hB.alloc _).call hb2); (have hC2 := (hC.alloc _).call hb2); (have hg2 := after (hg.alloc hs _) hb2)))
  clear hc hf hA hB hC
  have hr2 : Rd w2 (w1.heap.size + 1) A l := by simpa using hr
  clear hr
  go_loopg [7] l.length (fun g i wr => ∃ k : Nat, Hid (k + g = l.length) ∧ k ≤ l.length ∧ i = .int .i64 k ∧ Blk wr (w.heap.size + 1) 24 b.cs ∧ Blk wr (w.heap.size + 1 + 1) 24 zeroV.cs ∧ Blk wr w1.heap.size 24 (outK b l k).cs ∧ Rd wr (w1.heap.size + 1) A l ∧ Below w.heap.size w wr)
  case atStart => exact ⟨0, hide (by omega), by omega, rfl, hB2, hC2, hD2, hr2, hg2⟩
  case round =>
    obtain ⟨k, hkg, hk, rfl, hB, hC, hD, hr, hg⟩ := hrel
    clear hB2 hC2 hD2 hr2 hg2
    by_cases hlt : k < l.length
    · obtain ⟨x, hx⟩ : ∃ x, l[k]? = some x := ⟨_, List.getElem?_eq_getElem hlt⟩
      obtain ⟨ad, rfl, hlo, hhi, hcell⟩ := hr k x hx
      obtain ⟨x0, x1⟩ := HL.out x (List.mem_of_getElem? hx)
      have HX := hide hx
      clear hx
      obtain ⟨hcb, hfb⟩ := hB.walk
      obtain ⟨hcd, hfd⟩ := hD.walk
      have hsb := hB.lt
      have hsd := hD.lt
      have hsc := hC.lt
      have O := outK_ok b l HL.out k
      generalize hO : outK b l k = o at *
      have HO := hide hO
      clear hO
      have kg := hkg.out
      cases hcon : containsN b x
      · have z := xc x
        rw [hcon] at z
        have hst := hide (outK_no HX.out hcon)
        clear hcon kg
        go_upto_region 6 with fail
        go_cut [22] (fun s22 wx => s22 = .bool false ∧ Below wr.heap.size wr wx)
        case first =>
          go_region_with (go_at_call 26; (with_reducible refine (z _ x0 x1).mono ?_); rintro e w3 ⟨rfl, hb3⟩; (have hg3 := after (w := wr) (by go_grown) hb3))
          all_goals (go_wp2_with fail; go_meet; exact ⟨rfl, hg3⟩)
        obtain ⟨rfl, hg3⟩ := hcut
        have hB3 := hB.call hg3
        have hC3 := hC.call hg3
        have hD3 := hD.call hg3
        have hr3 := hr.below hg3
        have hg4 := after hg hg3
        clear hcb hfb hcd hfd
        go_wp2
        go_roundg (l.length - (k + 1))
        case measure => have := hkg.out; omega
        case rel => exact ⟨k + 1, hide (by omega), by omega, by go_num, hB3, hC3, by rw [hst.out, HO.out]; exact hD3, hr3, hg4⟩
      · have z := xc x
        rw [hcon] at z
        have hst := hide (outK_yes HX.out hcon)
        clear hcon kg
        obtain ⟨J, hJ⟩ : ∃ J, J = joinL o (oneV x) := ⟨_, rfl⟩
        have zj : ∀ w, Calls Try.prog 33 #[o.val, .agg #[.bool false, .bool false, .int .u32 x, .int .u32 x, .int .u32 0]] w (Ret J.val w) := fun w => by rw [hJ]; exact xj o x w O.1 x0 x1
        have zc : ∀ w, Calls Try.prog 13 #[.int .u32 x] w (Ret (.agg #[.bool false, .bool false, .int .u32 x, .int .u32 x, .int .u32 0]) w) := rconst_any x
        have HJ : Hid (outK b l (k + 1) = J) := hide (by rw [hst.out, HO.out, hJ])
        clear hJ hst
        go_upto_region 6 with fail
        go_cut [22] (fun s22 wx => s22 = .bool true ∧ Below wr.heap.size wr wx)
        case first =>
          go_region_with (go_at_call 26; (with_reducible refine (z _ x0 x1).mono ?_); rintro e w3 ⟨rfl, hb3⟩; (have hg3 := after (w := wr) (by go_grown) hb3))
          all_goals (go_wp2_with fail; go_meet; exact ⟨rfl, hg3⟩)
        obtain ⟨rfl, hg3⟩ := hcut
        have hB3 := hB.call hg3
        have hC3 := hC.call hg3
        have hD3 := hD.call hg3
        have hr3 := hr.below hg3
        have hg4 := after hg hg3
        clear hcb hfb hcd hfd
        obtain ⟨hcd, hfd⟩ := hD3.walk
        have hs3 := hg3.size
        have hcell3 := (hg3.cell (p := ad.add k) (by rw [block_of_add]; exact hhi)).trans hcell
        go_upto_region 7 with fail
        go_region_with (first | (go_at_call 13; (with_reducible refine (zc _).mono ?_); rintro e w4 ⟨rfl, hb4⟩; (have hB4 := hB3.drew.call hb4); (have hC4 := hC3.drew.call hb4); (have hD4 := hD3.drew.call hb4); (have hr4 := hr3.drew.below hb4); obtain ⟨hcd4, hfd4⟩ := hD4.walk; (have hg5 := after hg4.drew hb4); (have hs5 := hg5.size)) | (go_at_call 33; (with_reducible refine (zj _).mono ?_); rintro e w5 ⟨rfl, hb5⟩; (have hB5 := hB4.call hb5); (have hC5 := hC4.call hb5); (have hD5 := hD4.call hb5); (have hr5 := hr4.below hb5); obtain ⟨hcd5, hfd5⟩ := hD5.walk; (have hg6 := after hg5 hb5)))
        all_goals
          have hB6 := hB5.put_far (g' := w1.heap.size) (by omega) J
          have hC6 := hC5.put_far (g' := w1.heap.size) (by omega) J
          have hD6 := hD5.put (a := o) J
          have hr6 := hr5.put (g := w1.heap.size) (by omega) J
          have hg7 := below_put (g := w1.heap.size) hg6 (by omega) J
          clear hcd4 hfd4 hcd5 hfd5 hcd hfd
          go_wp2_with fail
          go_roundg (l.length - (k + 1))
          case measure => have := hkg.out; omega
          case rel => exact ⟨k + 1, hide (by omega), by omega, by go_num, hB6, hC6, by rw [HJ.out]; exact hD6, hr6, hg7⟩
    · obtain ⟨hcd, hfd⟩ := hD.walk
      have hsd := hD.lt
      have hsc := hC.lt
      have e1 : k = l.length := by omega
      obtain ⟨hcc, hfc⟩ := hC.walk
      have hh : Blk wr w1.heap.size 24 R.cs := by rw [H.out, ← e1]; exact hD
      subst e1
      clear hD hcd hfd
      obtain ⟨hcd, hfd⟩ := hh.walk
      go_wp2
      exact bodyPost_ret (v := R.val) (results_set rfl rfl (hC.put (a := zeroV) R)) rfl ⟨rfl, below_put hg (by omega) R⟩
end Go.Proofs.Ytjhdjclcfmcilaa
