/-
  BitsApplyFlags: for all a and b the call returns true: comparisons by Apply are the conditions after Sub. No condition on the inputs.
-/
import Derived.Test.YtdcpechhjfbipaaLaw01a
import Derived.Deep.RegionHeld3
namespace Go.Proofs.Ytdcpechhjfbipaa
open Go.ChangeShapes Go.WideShapes Go.ChangeAt Go.RowKit
set_option linter.unusedVariables false
theorem tr_le (r : Bool) : decide (1 < tr r) = false := by cases r <;> rfl
theorem tr_one (r : Bool) : (tr r == 1) = r := by cases r <;> rfl
def AFS (a b : Int) (w w1 v : World) : Prop := v.cell? ⟨w1.heap.size, 0, none⟩ = some (.bool (subZ a b)) ∧ v.cell? ⟨w1.heap.size, 1, none⟩ = some (.bool (subN a b)) ∧ v.cell? ⟨w1.heap.size, 2, none⟩ = some (.bool (subC a b)) ∧ v.cell? ⟨w1.heap.size, 3, none⟩ = some (.bool (subV a b)) ∧ v.cell? ⟨w1.heap.size + 1, 0, none⟩ = some (.int .i64 12) ∧ v.cell? ⟨w1.heap.size + 1, 1, none⟩ = some (.int .i64 13) ∧ v.cell? ⟨w1.heap.size + 1, 2, none⟩ = some (.int .i64 14) ∧ v.cell? ⟨w1.heap.size + 1, 3, none⟩ = some (.int .i64 15) ∧ v.cell? ⟨w1.heap.size + 1 + 1, 0, none⟩ = some (.int .i64 1) ∧ v.cell? ⟨w1.heap.size + 1 + 1, 1, none⟩ = some (.int .i64 2) ∧ v.cell? ⟨w1.heap.size + 1 + 1, 2, none⟩ = some (.int .i64 3) ∧ v.cell? ⟨w1.heap.size + 1 + 1, 3, none⟩ = some (.int .i64 7) ∧ w1.heap.size + 1 + 1 < v.heap.size ∧ Below w.heap.size w v
theorem AFS.drew {a b : Int} {w w1 v : World} (h : AFS a b w w1 v) : AFS a b w w1 v.drew := ⟨h.1, h.2.1, h.2.2.1, h.2.2.2.1, h.2.2.2.2.1, h.2.2.2.2.2.1, h.2.2.2.2.2.2.1, h.2.2.2.2.2.2.2.1, h.2.2.2.2.2.2.2.2.1, h.2.2.2.2.2.2.2.2.2.1, h.2.2.2.2.2.2.2.2.2.2.1, h.2.2.2.2.2.2.2.2.2.2.2.1, h.2.2.2.2.2.2.2.2.2.2.2.2.1, Below.drew h.2.2.2.2.2.2.2.2.2.2.2.2.2⟩
theorem AFS.next {a b : Int} {w w1 v v' : World} (h : AFS a b w w1 v) (hb : Below v.heap.size v v') : AFS a b w w1 v' := by
  obtain ⟨h0, h1, h2, h3, h4, h5, h6, h7, h8, h9, h10, h11, hz, hg⟩ := h
  have hc := (bcell hb).1
  exact ⟨(hc _ _ (by omega)).trans h0, (hc _ _ (by omega)).trans h1, (hc _ _ (by omega)).trans h2, (hc _ _ (by omega)).trans h3, (hc _ _ (by omega)).trans h4, (hc _ _ (by omega)).trans h5, (hc _ _ (by omega)).trans h6, (hc _ _ (by omega)).trans h7, (hc _ _ (by omega)).trans h8, (hc _ _ (by omega)).trans h9, (hc _ _ (by omega)).trans h10, (hc _ _ (by omega)).trans h11, by have := hb.size; omega, after hg hb⟩
theorem AFS.start {a b : Int} {w w1 v : World} (h : Below w.heap.size w w1) (hb : Below ((((w1.alloc (.cells #[.bool (subZ a b), .bool (subN a b), .bool (subC a b), .bool (subV a b)] 24)).alloc (.cells #[.int .i64 12, .int .i64 13, .int .i64 14, .int .i64 15] 3)).alloc (.cells #[.int .i64 1, .int .i64 2, .int .i64 3, .int .i64 7] 3))).heap.size (((w1.alloc (.cells #[.bool (subZ a b), .bool (subN a b), .bool (subC a b), .bool (subV a b)] 24)).alloc (.cells #[.int .i64 12, .int .i64 13, .int .i64 14, .int .i64 15] 3)).alloc (.cells #[.int .i64 1, .int .i64 2, .int .i64 3, .int .i64 7] 3)) v) : AFS a b w w1 v := by
  have hc := (bcell hb).1
  have hz := hb.size
  have hs := h.size
  simp only [World.size_alloc] at hz hc
  exact ⟨by rw [hc _ _ (by omega)]; go_simp, by rw [hc _ _ (by omega)]; go_simp, by rw [hc _ _ (by omega)]; go_simp, by rw [hc _ _ (by omega)]; go_simp, by rw [hc _ _ (by omega)]; go_simp, by rw [hc _ _ (by omega)]; go_simp, by rw [hc _ _ (by omega)]; go_simp, by rw [hc _ _ (by omega)]; go_simp, by rw [hc _ _ (by omega)]; go_simp, by rw [hc _ _ (by omega)]; go_simp, by rw [hc _ _ (by omega)]; go_simp, by rw [hc _ _ (by omega)]; go_simp, by omega, after (by go_grown) hb⟩
set_option maxHeartbeats 4000000 in
theorem bitsApplyFlags_walk (a : Int) (ha : 0 ≤ a ∧ a < 4294967296) (b : Int) (hb : 0 ≤ b ∧ b < 4294967296) (w : World) : Calls Try.prog 10 #[.int .u32 a, .int .u32 b] w (Ret (.bool true) w) := by
  obtain ⟨a0, a1⟩ := ha
  obtain ⟨b0, b1⟩ := hb
  obtain ⟨e1, e2, e3, _, _, _, e7, _, _, _⟩ := subCond a b a0 a1 b0 b1
  have x0 : ∀ w, Calls Try.prog 22 #[.int .i64 12, .int .u32 a, .int .u32 b] w (Ret (.tuple #[.int .u32 (tr (a == b)), .int .i64 0]) w) := fun w => apply_in 12 a b (by omega) (by omega) a0 a1 b0 b1 w
  have y0 := holds_sub a b 1 _ e1
  have t0 := tr_le (a == b)
  have u0 := tr_one (a == b)
  have x1 : ∀ w, Calls Try.prog 22 #[.int .i64 13, .int .u32 a, .int .u32 b] w (Ret (.tuple #[.int .u32 (tr (a != b)), .int .i64 0]) w) := fun w => apply_in 13 a b (by omega) (by omega) a0 a1 b0 b1 w
  have y1 := holds_sub a b 2 _ e2
  have t1 := tr_le (a != b)
  have u1 := tr_one (a != b)
  have x2 : ∀ w, Calls Try.prog 22 #[.int .i64 14, .int .u32 a, .int .u32 b] w (Ret (.tuple #[.int .u32 (tr (decide (wrap32 a < wrap32 b))), .int .i64 0]) w) := fun w => apply_in 14 a b (by omega) (by omega) a0 a1 b0 b1 w
  have y2 := holds_sub a b 3 _ e3
  have t2 := tr_le (decide (wrap32 a < wrap32 b))
  have u2 := tr_one (decide (wrap32 a < wrap32 b))
  have x3 : ∀ w, Calls Try.prog 22 #[.int .i64 15, .int .u32 a, .int .u32 b] w (Ret (.tuple #[.int .u32 (tr (decide (a < b))), .int .i64 0]) w) := fun w => apply_in 15 a b (by omega) (by omega) a0 a1 b0 b1 w
  have y3 := holds_sub a b 7 _ e7
  have t3 := tr_le (decide (a < b))
  have u3 := tr_one (decide (a < b))
  clear e1 e2 e3 e7
  go_enter Try.func10, Try.ntmps10
  go_wp2_with (first | (go_at_call 12; (with_reducible refine (sub_any _ _ _ a0 a1 b0 b1).mono ?_); rintro e w1 ⟨rfl, hb1⟩; (have hs1 := hb1.size)))
  refine wp_loop_rounds 5 ?_
  rw [rounds_succ]
  go_wp2_with (first | (go_at_call 22; (with_reducible refine (x0 _).mono ?_); rintro e w2 ⟨rfl, hb2⟩; (have hA := AFS.start hb1 hb2)))
  go_region_held3 (fun v => v.cell? ⟨w1.heap.size, 0, none⟩ = some (.bool (subZ a b)) ∧ v.cell? ⟨w1.heap.size, 1, none⟩ = some (.bool (subN a b)) ∧ v.cell? ⟨w1.heap.size, 2, none⟩ = some (.bool (subC a b)) ∧ v.cell? ⟨w1.heap.size, 3, none⟩ = some (.bool (subV a b)) ∧ v.cell? ⟨w1.heap.size + 1, 0, none⟩ = some (.int .i64 12) ∧ v.cell? ⟨w1.heap.size + 1, 1, none⟩ = some (.int .i64 13) ∧ v.cell? ⟨w1.heap.size + 1, 2, none⟩ = some (.int .i64 14) ∧ v.cell? ⟨w1.heap.size + 1, 3, none⟩ = some (.int .i64 15) ∧ v.cell? ⟨w1.heap.size + 1 + 1, 0, none⟩ = some (.int .i64 1) ∧ v.cell? ⟨w1.heap.size + 1 + 1, 1, none⟩ = some (.int .i64 2) ∧ v.cell? ⟨w1.heap.size + 1 + 1, 2, none⟩ = some (.int .i64 3) ∧ v.cell? ⟨w1.heap.size + 1 + 1, 3, none⟩ = some (.int .i64 7) ∧ w1.heap.size + 1 + 1 < v.heap.size ∧ Below w.heap.size w v)
    (first | exact AFS.drew hA | exact AFS.next (by assumption) hb2)
    (first | (go_at_call 13; (with_reducible refine (y0 _).mono ?_); rintro e w3 ⟨rfl, hb2⟩))
  have hA : AFS a b w w1 w3 := by assumption
  go_split_ands
  go_wp2_with fail
  rw [rounds_succ]
  go_wp2_with (first | (go_at_call 22; (with_reducible refine (x1 _).mono ?_); rintro e w2 ⟨rfl, hb2⟩; (have hA := AFS.next hA hb2)))
  go_region_held3 (fun v => v.cell? ⟨w1.heap.size, 0, none⟩ = some (.bool (subZ a b)) ∧ v.cell? ⟨w1.heap.size, 1, none⟩ = some (.bool (subN a b)) ∧ v.cell? ⟨w1.heap.size, 2, none⟩ = some (.bool (subC a b)) ∧ v.cell? ⟨w1.heap.size, 3, none⟩ = some (.bool (subV a b)) ∧ v.cell? ⟨w1.heap.size + 1, 0, none⟩ = some (.int .i64 12) ∧ v.cell? ⟨w1.heap.size + 1, 1, none⟩ = some (.int .i64 13) ∧ v.cell? ⟨w1.heap.size + 1, 2, none⟩ = some (.int .i64 14) ∧ v.cell? ⟨w1.heap.size + 1, 3, none⟩ = some (.int .i64 15) ∧ v.cell? ⟨w1.heap.size + 1 + 1, 0, none⟩ = some (.int .i64 1) ∧ v.cell? ⟨w1.heap.size + 1 + 1, 1, none⟩ = some (.int .i64 2) ∧ v.cell? ⟨w1.heap.size + 1 + 1, 2, none⟩ = some (.int .i64 3) ∧ v.cell? ⟨w1.heap.size + 1 + 1, 3, none⟩ = some (.int .i64 7) ∧ w1.heap.size + 1 + 1 < v.heap.size ∧ Below w.heap.size w v)
    (first | exact AFS.drew hA | exact AFS.next (by assumption) hb2)
    (first | (go_at_call 13; (with_reducible refine (y1 _).mono ?_); rintro e w3 ⟨rfl, hb2⟩))
  have hA : AFS a b w w1 w3 := by assumption
  go_split_ands
  go_wp2_with fail
  rw [rounds_succ]
  go_wp2_with (first | (go_at_call 22; (with_reducible refine (x2 _).mono ?_); rintro e w2 ⟨rfl, hb2⟩; (have hA := AFS.next hA hb2)))
  go_region_held3 (fun v => v.cell? ⟨w1.heap.size, 0, none⟩ = some (.bool (subZ a b)) ∧ v.cell? ⟨w1.heap.size, 1, none⟩ = some (.bool (subN a b)) ∧ v.cell? ⟨w1.heap.size, 2, none⟩ = some (.bool (subC a b)) ∧ v.cell? ⟨w1.heap.size, 3, none⟩ = some (.bool (subV a b)) ∧ v.cell? ⟨w1.heap.size + 1, 0, none⟩ = some (.int .i64 12) ∧ v.cell? ⟨w1.heap.size + 1, 1, none⟩ = some (.int .i64 13) ∧ v.cell? ⟨w1.heap.size + 1, 2, none⟩ = some (.int .i64 14) ∧ v.cell? ⟨w1.heap.size + 1, 3, none⟩ = some (.int .i64 15) ∧ v.cell? ⟨w1.heap.size + 1 + 1, 0, none⟩ = some (.int .i64 1) ∧ v.cell? ⟨w1.heap.size + 1 + 1, 1, none⟩ = some (.int .i64 2) ∧ v.cell? ⟨w1.heap.size + 1 + 1, 2, none⟩ = some (.int .i64 3) ∧ v.cell? ⟨w1.heap.size + 1 + 1, 3, none⟩ = some (.int .i64 7) ∧ w1.heap.size + 1 + 1 < v.heap.size ∧ Below w.heap.size w v)
    (first | exact AFS.drew hA | exact AFS.next (by assumption) hb2)
    (first | (go_at_call 13; (with_reducible refine (y2 _).mono ?_); rintro e w3 ⟨rfl, hb2⟩))
  have hA : AFS a b w w1 w3 := by assumption
  go_split_ands
  go_wp2_with fail
  rw [rounds_succ]
  go_wp2_with (first | (go_at_call 22; (with_reducible refine (x3 _).mono ?_); rintro e w2 ⟨rfl, hb2⟩; (have hA := AFS.next hA hb2)))
  go_region_held3 (fun v => v.cell? ⟨w1.heap.size, 0, none⟩ = some (.bool (subZ a b)) ∧ v.cell? ⟨w1.heap.size, 1, none⟩ = some (.bool (subN a b)) ∧ v.cell? ⟨w1.heap.size, 2, none⟩ = some (.bool (subC a b)) ∧ v.cell? ⟨w1.heap.size, 3, none⟩ = some (.bool (subV a b)) ∧ v.cell? ⟨w1.heap.size + 1, 0, none⟩ = some (.int .i64 12) ∧ v.cell? ⟨w1.heap.size + 1, 1, none⟩ = some (.int .i64 13) ∧ v.cell? ⟨w1.heap.size + 1, 2, none⟩ = some (.int .i64 14) ∧ v.cell? ⟨w1.heap.size + 1, 3, none⟩ = some (.int .i64 15) ∧ v.cell? ⟨w1.heap.size + 1 + 1, 0, none⟩ = some (.int .i64 1) ∧ v.cell? ⟨w1.heap.size + 1 + 1, 1, none⟩ = some (.int .i64 2) ∧ v.cell? ⟨w1.heap.size + 1 + 1, 2, none⟩ = some (.int .i64 3) ∧ v.cell? ⟨w1.heap.size + 1 + 1, 3, none⟩ = some (.int .i64 7) ∧ w1.heap.size + 1 + 1 < v.heap.size ∧ Below w.heap.size w v)
    (first | exact AFS.drew hA | exact AFS.next (by assumption) hb2)
    (first | (go_at_call 13; (with_reducible refine (y3 _).mono ?_); rintro e w3 ⟨rfl, hb2⟩))
  have hA : AFS a b w w1 w3 := by assumption
  go_split_ands
  go_wp2_with fail
  rw [rounds_succ]
  go_wp2_with (first | (go_at_call 14; (with_reducible refine (ex01_any _).mono ?_); rintro e w4 ⟨rfl, hb4⟩))
  go_returns
  exact ⟨rfl, after hA.2.2.2.2.2.2.2.2.2.2.2.2.2 hb4⟩
theorem bitsApplyFlags_own : ownKnob Try.prog.godebug = none := by kernel_rfl
set_option maxRecDepth 100000 in
theorem bitsApplyFlags_lifted (os : Os) (started : os.Started) (H : Type) (enc : TypeId × Value → H) :
    ReturnsInHanded {} Try.checked os 10 .any (Rows.bitsApplyFlagsSpec.pre6 enc Try.prog Try.f10 Rows.bitsApplyFlagsRow.domain false) (Rows.bitsApplyFlagsSpec.post enc Try.prog Try.f10 false true false false) := by
  refine returnsInHanded_of_change (C := Try.checked) bitsApplyFlags_own started (by kernel_rfl) Try.func10
    (ChangeSpec.witness6 (enc := enc) (C := Try.checked) false ⟨#[], #[.int .u32 0, .int .u32 0], []⟩ 8 (by kernel_rfl) (by kernel_rfl) (by kernel_rfl) (by kernel_rfl)) ?_
  intro W base args ds gs before hval0 hW hcnd _
  have hval : ∀ (j : Nat) t v, Try.f10.params[j]? = some t → args[j]? = some v → Value.okWide Try.prog W .any base t v := hval0
  have hW' := hW
  obtain ⟨p, q, hA0, hV, rfl, hfz, hnd⟩ := hW
  have hA : DataW.TrodAll enc Try.prog W 0 (fun _ => true) true Try.f10.params.toList args.toList ds p := hA0
  have hA1 := hA
  obtain ⟨rfl, rfl⟩ := trodVars_none hV
  rw [Try.params10] at hA hval
  obtain ⟨v0, vs0, d0, ds0, p0, q0, hargs, hd0, hp0, h0, r0⟩ := trodAll_cons hA
  obtain ⟨v1, vs1, d1, ds1, p1, q1, hv1, hd1, hp1, h1, r1⟩ := trodAll_cons r0
  obtain ⟨hvn, hdn, hpn⟩ := trodAll_nil r1
  subst hdn hd1 hd0
  obtain rfl : args = #[v0, v1] := by cases args; simp_all
  clear hargs hvn hv1
  obtain ⟨a0, rfl, _, _, w0⟩ := open_int Try.underlying22 (hval 0 22 v0 rfl rfl) h0
  obtain ⟨a1, rfl, _, _, w1⟩ := open_int Try.underlying22 (hval 1 22 v1 rfl rfl) h1
  simp only [List.append_nil] at hW'
  refine (bitsApplyFlags_walk a0 (wf_u32 w0) a1 (wf_u32 w1) W).mono fun e W' hr => ?_
  obtain ⟨rfl, hb⟩ := hr
  exact ⟨_, rfl, post_of_below (pa := p) (pv := []) hW' (fun _ _ _ => (trodAll_cons_mk (shut_bool Try.underlying4 _) trodAll_mk0)) (fun sp hsp => trodAll_stays Try_laidOut hb _ _ _ _ (by kernel_rfl) hA1 (fun x hx => hW'.lt x hx) hsp) (fun _ _ => rfl) (by simp)
    hb (ok_one (by kernel_rfl) rfl (okWide_bool_mk Try.underlying4 _))⟩
theorem bitsApplyFlags_over : Rows.bitsApplyFlagsRow.holds Try.pinned (OpenSpec.ofChange Rows.bitsApplyFlagsSpec) :=
  OpenClaim.holds_of_wide 10 Try.f10 rfl rfl rfl rfl rfl rfl rfl ⟨rfl, rfl, rfl, rfl, rfl⟩ rfl rfl rfl rfl rfl (by kernel_rfl) Try.func10 (by kernel_rfl)
    (of_decide_eq_true (by kernel_rfl)) (by unfold Func.isWrapper; first | (rw [if_pos (by decide +kernel)]; kernel_rfl) | (rw [if_neg (by decide +kernel)]; exact ⟨rfl, rfl⟩))
    (fun os started H enc _ => bitsApplyFlags_lifted os started H enc)
/-- THE STATEMENT -/
theorem bitsApplyFlags_proved : Rows.BitsApplyFlagsSaid := bitsApplyFlags_over
#print axioms bitsApplyFlags_proved
end Go.Proofs.Ytdcpechhjfbipaa
