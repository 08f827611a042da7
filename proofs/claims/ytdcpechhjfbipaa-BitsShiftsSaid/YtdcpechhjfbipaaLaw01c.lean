/-
  BitsConditions, BitsApply, BitsShifts: for all inputs the calls return true. No condition on the inputs.
-/
import Derived.Test.YtdcpechhjfbipaaRows
import Derived.Test.YtdcpechhjfbipaaEx01
import Derived.Deep.RegionHeld3
namespace Go.Proofs.Ytdcpechhjfbipaa
open Go.ChangeShapes Go.WideShapes Go.ChangeAt Go.RowKit
set_option linter.unusedVariables false
theorem Try_laidOut : laidOutB Try.prog = true := by kernel_rfl

theorem neg_law (k : Int) (h0 : 1 ≤ k) (h1 : k < 15) (z n c v : Bool) : holdsL (negL k) z n c v = !holdsL k z n c v ∧ negL (negL k) = k ∧ (negL k != k) = true := by
  have hk : k = 1 ∨ k = 2 ∨ k = 3 ∨ k = 4 ∨ k = 5 ∨ k = 6 ∨ k = 7 ∨ k = 8 ∨ k = 9 ∨ k = 10 ∨ k = 11 ∨ k = 12 ∨ k = 13 ∨ k = 14 := by omega
  rcases hk with rfl | rfl | rfl | rfl | rfl | rfl | rfl | rfl | rfl | rfl | rfl | rfl | rfl | rfl
  all_goals (cases z <;> cases n <;> cases c <;> cases v <;> exact ⟨rfl, rfl, rfl⟩)
set_option maxHeartbeats 2000000 in
theorem cond_in (k : Int) (h0 : 1 ≤ k) (h1 : k < 15) (z n c v : Bool) (w : World) : Calls Try.prog 8 #[.int .i64 k, .agg #[.bool z, .bool n, .bool c, .bool v]] w (Ret (.bool true) w) := by
  obtain ⟨e1, e2, e3⟩ := neg_law k h0 h1 z n c v
  go_enter Try.func8, Try.ntmps8
  go_wp2_with (first | (go_at_call 20; (with_reducible refine (negate_any _ _).mono ?_); rintro e w1 ⟨rfl, hb1⟩; (have hg1 := after (w := w) (by go_grown) hb1); obtain ⟨hc1, hf1⟩ := bcell hb1; (have hz1 : w.heap.size < w1.heap.size := by have := hb1.size; simp at this; omega)))
  go_region_held3 (fun w' => w'.cell? ⟨w.heap.size, 0, none⟩ = some (.bool z) ∧ w'.cell? ⟨w.heap.size, 1, none⟩ = some (.bool n) ∧ w'.cell? ⟨w.heap.size, 2, none⟩ = some (.bool c) ∧ w'.cell? ⟨w.heap.size, 3, none⟩ = some (.bool v) ∧ w.heap.size < w'.heap.size ∧ Below w.heap.size w w')
      (first | (go_keep; done) | (go_split_ands; refine ⟨by go_keep, by go_keep, by go_keep, by go_keep, by go_keep, Below.drew (by assumption)⟩) | (go_split_ands; refine ⟨?_, ?_, ?_, ?_, ?_, ?_⟩; (rw [(bcell hb2).1 _ _ (by assumption)]; assumption); (rw [(bcell hb2).1 _ _ (by assumption)]; assumption); (rw [(bcell hb2).1 _ _ (by assumption)]; assumption); (rw [(bcell hb2).1 _ _ (by assumption)]; assumption); (have := hb2.size; omega); (exact after (by assumption) hb2)))
      (first | (go_at_call 13; (with_reducible refine (holds_any _ _ _ _ _ _).mono ?_); rintro e w2 ⟨rfl, hb2⟩) | (go_at_call 21; (with_reducible refine (rholds_any _ _ _ _ _ _).mono ?_); rintro e w2 ⟨rfl, hb2⟩))
  go_wp2_with fail
  go_region_held3 (fun w' => w'.cell? ⟨w.heap.size, 0, none⟩ = some (.bool z) ∧ w'.cell? ⟨w.heap.size, 1, none⟩ = some (.bool n) ∧ w'.cell? ⟨w.heap.size, 2, none⟩ = some (.bool c) ∧ w'.cell? ⟨w.heap.size, 3, none⟩ = some (.bool v) ∧ w.heap.size < w'.heap.size ∧ Below w.heap.size w w')
      (first | (go_keep; done) | (go_split_ands; refine ⟨by go_keep, by go_keep, by go_keep, by go_keep, by go_keep, Below.drew (by assumption)⟩) | (go_split_ands; refine ⟨?_, ?_, ?_, ?_, ?_, ?_⟩; (rw [(bcell hb2).1 _ _ (by assumption)]; assumption); (rw [(bcell hb2).1 _ _ (by assumption)]; assumption); (rw [(bcell hb2).1 _ _ (by assumption)]; assumption); (rw [(bcell hb2).1 _ _ (by assumption)]; assumption); (have := hb2.size; omega); (exact after (by assumption) hb2)))
      (first | (go_at_call 13; (with_reducible refine (holds_any _ _ _ _ _ _).mono ?_); rintro e w2 ⟨rfl, hb2⟩) | (go_at_call 20; (with_reducible refine (negate_any _ _).mono ?_); rintro e w2 ⟨rfl, hb2⟩) | (go_at_call 14; (with_reducible refine (ex01_any _).mono ?_); rintro e w2 ⟨rfl, hb2⟩))
  go_wp2
  go_returns
  go_split_ands
  exact ⟨rfl, by assumption⟩
set_option maxHeartbeats 2000000 in
theorem cond_out (k : Int) (h : k < 1 ∨ 15 ≤ k) (z n c v : Bool) (w : World) : Calls Try.prog 8 #[.int .i64 k, .agg #[.bool z, .bool n, .bool c, .bool v]] w (Ret (.bool true) w) := by
  have x1 := negate_any k
  rw [negL_out k h] at x1
  have h' : k < 1 ∨ (¬ k < 1 ∧ 14 < k) := by omega
  clear h
  rcases h' with h | ⟨h, h2⟩
  · go_enter Try.func8, Try.ntmps8
    go_wp2_with (first | (go_at_call 20; (with_reducible refine (x1 _).mono ?_); rintro e w1 ⟨rfl, hb1⟩; (have hg1 := after (w := w) (by go_grown) hb1); obtain ⟨hc1, hf1⟩ := bcell hb1; (have hz1 : w.heap.size < w1.heap.size := by have := hb1.size; simp at this; omega)))
    go_region_held3 (fun w' => w'.cell? ⟨w.heap.size, 0, none⟩ = some (.bool z) ∧ w'.cell? ⟨w.heap.size, 1, none⟩ = some (.bool n) ∧ w'.cell? ⟨w.heap.size, 2, none⟩ = some (.bool c) ∧ w'.cell? ⟨w.heap.size, 3, none⟩ = some (.bool v) ∧ w.heap.size < w'.heap.size ∧ Below w.heap.size w w')
      (first | (go_keep; done) | (go_split_ands; refine ⟨by go_keep, by go_keep, by go_keep, by go_keep, by go_keep, Below.drew (by assumption)⟩) | (go_split_ands; refine ⟨?_, ?_, ?_, ?_, ?_, ?_⟩; (rw [(bcell hb2).1 _ _ (by assumption)]; assumption); (rw [(bcell hb2).1 _ _ (by assumption)]; assumption); (rw [(bcell hb2).1 _ _ (by assumption)]; assumption); (rw [(bcell hb2).1 _ _ (by assumption)]; assumption); (have := hb2.size; omega); (exact after (by assumption) hb2)))
      (first | (go_at_call 13; (with_reducible refine (holds_any _ _ _ _ _ _).mono ?_); rintro e w2 ⟨rfl, hb2⟩) | (go_at_call 21; (with_reducible refine (rholds_any _ _ _ _ _ _).mono ?_); rintro e w2 ⟨rfl, hb2⟩))
    go_split_ands
    go_wp2_with (first | (go_at_call 14; (with_reducible refine (ex01_any _).mono ?_); rintro e w3 ⟨rfl, hb3⟩))
    go_returns
    exact ⟨rfl, after (by assumption) hb3⟩
  · go_enter Try.func8, Try.ntmps8
    go_wp2_with (first | (go_at_call 20; (with_reducible refine (x1 _).mono ?_); rintro e w1 ⟨rfl, hb1⟩; (have hg1 := after (w := w) (by go_grown) hb1); obtain ⟨hc1, hf1⟩ := bcell hb1; (have hz1 : w.heap.size < w1.heap.size := by have := hb1.size; simp at this; omega)))
    go_region_held3 (fun w' => w'.cell? ⟨w.heap.size, 0, none⟩ = some (.bool z) ∧ w'.cell? ⟨w.heap.size, 1, none⟩ = some (.bool n) ∧ w'.cell? ⟨w.heap.size, 2, none⟩ = some (.bool c) ∧ w'.cell? ⟨w.heap.size, 3, none⟩ = some (.bool v) ∧ w.heap.size < w'.heap.size ∧ Below w.heap.size w w')
      (first | (go_keep; done) | (go_split_ands; refine ⟨by go_keep, by go_keep, by go_keep, by go_keep, by go_keep, Below.drew (by assumption)⟩) | (go_split_ands; refine ⟨?_, ?_, ?_, ?_, ?_, ?_⟩; (rw [(bcell hb2).1 _ _ (by assumption)]; assumption); (rw [(bcell hb2).1 _ _ (by assumption)]; assumption); (rw [(bcell hb2).1 _ _ (by assumption)]; assumption); (rw [(bcell hb2).1 _ _ (by assumption)]; assumption); (have := hb2.size; omega); (exact after (by assumption) hb2)))
      (first | (go_at_call 13; (with_reducible refine (holds_any _ _ _ _ _ _).mono ?_); rintro e w2 ⟨rfl, hb2⟩) | (go_at_call 21; (with_reducible refine (rholds_any _ _ _ _ _ _).mono ?_); rintro e w2 ⟨rfl, hb2⟩))
    go_split_ands
    go_wp2_with (first | (go_at_call 14; (with_reducible refine (ex01_any _).mono ?_); rintro e w3 ⟨rfl, hb3⟩))
    go_returns
    exact ⟨rfl, after (by assumption) hb3⟩
theorem bitsConditions_walk (k : Int) (hk : -9223372036854775808 ≤ k ∧ k ≤ 9223372036854775807) (z n c v : Bool) (w : World) : Calls Try.prog 8 #[.int .i64 k, .agg #[.bool z, .bool n, .bool c, .bool v]] w (Ret (.bool true) w) := by
  by_cases h : k < 1 ∨ 15 ≤ k
  · exact cond_out k h z n c v w
  · exact cond_in k (by omega) (by omega) z n c v w
theorem bitsConditions_own : ownKnob Try.prog.godebug = none := by kernel_rfl
set_option maxRecDepth 100000 in
theorem bitsConditions_lifted (os : Os) (started : os.Started) (H : Type) (enc : TypeId × Value → H) :
    ReturnsInHanded {} Try.checked os 8 .any (Rows.bitsConditionsSpec.pre6 enc Try.prog Try.f8 Rows.bitsConditionsRow.domain false) (Rows.bitsConditionsSpec.post enc Try.prog Try.f8 false true false false) := by
  refine returnsInHanded_of_change (C := Try.checked) bitsConditions_own started (by kernel_rfl) Try.func8
    (ChangeSpec.witness6 (enc := enc) (C := Try.checked) false ⟨#[], #[.int .i64 0, .agg #[.bool false, .bool false, .bool false, .bool false]], []⟩ 8 (by kernel_rfl) (by kernel_rfl) (by kernel_rfl) (by kernel_rfl)) ?_
  intro W base args ds gs before hval0 hW hcnd _
  have hval : ∀ (j : Nat) t v, Try.f8.params[j]? = some t → args[j]? = some v → Value.okWide Try.prog W .any base t v := hval0
  have hW' := hW
  obtain ⟨p, q, hA0, hV, rfl, hfz, hnd⟩ := hW
  have hA : DataW.TrodAll enc Try.prog W 0 (fun _ => true) true Try.f8.params.toList args.toList ds p := hA0
  have hA1 := hA
  obtain ⟨rfl, rfl⟩ := trodVars_none hV
  rw [Try.params8] at hA hval
  obtain ⟨v0, vs0, d0, ds0, p0, q0, hargs, hd0, hp0, h0, r0⟩ := trodAll_cons hA
  obtain ⟨v1, vs1, d1, ds1, p1, q1, hv1, hd1, hp1, h1, r1⟩ := trodAll_cons r0
  obtain ⟨hvn, hdn, hpn⟩ := trodAll_nil r1
  subst hdn hd1 hd0
  obtain rfl : args = #[v0, v1] := by cases args; simp_all
  clear hargs hvn hv1
  obtain ⟨a0, rfl, _, _, w0⟩ := open_int Try.underlying3 (hval 0 3 v0 rfl rfl) h0
  obtain ⟨cs1, rfl, l1⟩ := open_flat [none, none, none, none] 5 Try.underlying24 (by kernel_rfl) (by kernel_rfl) (hval 1 24 v1 rfl rfl) h1
  obtain ⟨z1, n1, c1, o1, rfl⟩ := leaves_flags l1
  simp only [List.append_nil] at hW'
  refine (bitsConditions_walk a0 (wf_i64 w0) z1 n1 c1 o1 W).mono fun e W' hr => ?_
  obtain ⟨rfl, hb⟩ := hr
  exact ⟨_, rfl, post_of_below (pa := p) (pv := []) hW' (fun _ _ _ => (trodAll_cons_mk (shut_bool Try.underlying4 _) trodAll_mk0)) (fun sp hsp => trodAll_stays Try_laidOut hb _ _ _ _ (by kernel_rfl) hA1 (fun x hx => hW'.lt x hx) hsp) (fun _ _ => rfl) (by simp)
    hb (ok_one (by kernel_rfl) rfl (okWide_bool_mk Try.underlying4 _))⟩
theorem bitsConditions_over : Rows.bitsConditionsRow.holds Try.pinned (OpenSpec.ofChange Rows.bitsConditionsSpec) :=
  OpenClaim.holds_of_wide 8 Try.f8 rfl rfl rfl rfl rfl rfl rfl ⟨rfl, rfl, rfl, rfl, rfl⟩ rfl rfl rfl rfl rfl (by kernel_rfl) Try.func8 (by kernel_rfl)
    (of_decide_eq_true (by kernel_rfl)) (by unfold Func.isWrapper; first | (rw [if_pos (by decide +kernel)]; kernel_rfl) | (rw [if_neg (by decide +kernel)]; exact ⟨rfl, rfl⟩))
    (fun os started H enc _ => bitsConditions_lifted os started H enc)
/-- THE STATEMENT -/
theorem bitsConditions_proved : Rows.BitsConditionsSaid := bitsConditions_over
#print axioms bitsConditions_proved

theorem bitsApply_walk (k : Int) (hk : -9223372036854775808 ≤ k ∧ k ≤ 9223372036854775807) (a : Int) (ha : 0 ≤ a ∧ a < 4294967296) (b : Int) (hb : 0 ≤ b ∧ b < 4294967296) (w : World) :
    Calls Try.prog 9 #[.int .i64 k, .int .u32 a, .int .u32 b] w (Ret (.bool true) w) := by
  obtain ⟨a0, a1⟩ := ha
  obtain ⟨b0, b1⟩ := hb
  clear hk
  by_cases h : k < 3 ∨ 16 ≤ k
  · have x1 := apply_out k a b h
    have x2 := rapply_out k a b h
    clear h
    go_enter Try.func9, Try.ntmps9
    go_wp2_with (first | (go_at_call 22; (with_reducible refine (x1 _).mono ?_); rintro e w1 ⟨rfl, hb⟩; have HB := hb) | (go_at_call 23; (with_reducible refine (x2 _).mono ?_); rintro e w1 ⟨rfl, hb⟩; replace HB := HB.trans (hb.mono HB.size)) | (go_at_call 14; (with_reducible refine (ex01_any _).mono ?_); rintro e w3 ⟨rfl, hb⟩; replace HB := HB.trans (hb.mono HB.size)))
    go_returns
    exact ⟨rfl, HB⟩
  · have x1 := apply_in k a b (by omega) (by omega) a0 a1 b0 b1
    have x2 := rapply_in k a b (by omega) (by omega) a0 a1 b0 b1
    clear h
    go_enter Try.func9, Try.ntmps9
    go_wp2_with (first | (go_at_call 22; (with_reducible refine (x1 _).mono ?_); rintro e w1 ⟨rfl, hb⟩; have HB := hb) | (go_at_call 23; (with_reducible refine (x2 _).mono ?_); rintro e w1 ⟨rfl, hb⟩; replace HB := HB.trans (hb.mono HB.size)) | (go_at_call 14; (with_reducible refine (ex01_any _).mono ?_); rintro e w3 ⟨rfl, hb⟩; replace HB := HB.trans (hb.mono HB.size)))
    go_returns
    exact ⟨rfl, HB⟩
theorem bitsApply_own : ownKnob Try.prog.godebug = none := by kernel_rfl
set_option maxRecDepth 100000 in
theorem bitsApply_lifted (os : Os) (started : os.Started) (H : Type) (enc : TypeId × Value → H) :
    ReturnsInHanded {} Try.checked os 9 .any (Rows.bitsApplySpec.pre6 enc Try.prog Try.f9 Rows.bitsApplyRow.domain false) (Rows.bitsApplySpec.post enc Try.prog Try.f9 false true false false) := by
  refine returnsInHanded_of_change (C := Try.checked) bitsApply_own started (by kernel_rfl) Try.func9
    (ChangeSpec.witness6 (enc := enc) (C := Try.checked) false ⟨#[], #[.int .i64 0, .int .u32 0, .int .u32 0], []⟩ 8 (by kernel_rfl) (by kernel_rfl) (by kernel_rfl) (by kernel_rfl)) ?_
  intro W base args ds gs before hval0 hW hcnd _
  have hval : ∀ (j : Nat) t v, Try.f9.params[j]? = some t → args[j]? = some v → Value.okWide Try.prog W .any base t v := hval0
  have hW' := hW
  obtain ⟨p, q, hA0, hV, rfl, hfz, hnd⟩ := hW
  have hA : DataW.TrodAll enc Try.prog W 0 (fun _ => true) true Try.f9.params.toList args.toList ds p := hA0
  have hA1 := hA
  obtain ⟨rfl, rfl⟩ := trodVars_none hV
  rw [Try.params9] at hA hval
  obtain ⟨v0, vs0, d0, ds0, p0, q0, hargs, hd0, hp0, h0, r0⟩ := trodAll_cons hA
  obtain ⟨v1, vs1, d1, ds1, p1, q1, hv1, hd1, hp1, h1, r1⟩ := trodAll_cons r0
  obtain ⟨v2, vs2, d2, ds2, p2, q2, hv2, hd2, hp2, h2, r2⟩ := trodAll_cons r1
  obtain ⟨hvn, hdn, hpn⟩ := trodAll_nil r2
  subst hdn hd2 hd1 hd0
  obtain rfl : args = #[v0, v1, v2] := by cases args; simp_all
  clear hargs hvn hv1 hv2
  obtain ⟨a0, rfl, _, _, w0⟩ := open_int Try.underlying3 (hval 0 3 v0 rfl rfl) h0
  obtain ⟨a1, rfl, _, _, w1⟩ := open_int Try.underlying22 (hval 1 22 v1 rfl rfl) h1
  obtain ⟨a2, rfl, _, _, w2⟩ := open_int Try.underlying22 (hval 2 22 v2 rfl rfl) h2
  simp only [List.append_nil] at hW'
  refine (bitsApply_walk a0 (wf_i64 w0) a1 (wf_u32 w1) a2 (wf_u32 w2) W).mono fun e W' hr => ?_
  obtain ⟨rfl, hb⟩ := hr
  exact ⟨_, rfl, post_of_below (pa := p) (pv := []) hW' (fun _ _ _ => (trodAll_cons_mk (shut_bool Try.underlying4 _) trodAll_mk0)) (fun sp hsp => trodAll_stays Try_laidOut hb _ _ _ _ (by kernel_rfl) hA1 (fun x hx => hW'.lt x hx) hsp) (fun _ _ => rfl) (by simp)
    hb (ok_one (by kernel_rfl) rfl (okWide_bool_mk Try.underlying4 _))⟩
theorem bitsApply_over : Rows.bitsApplyRow.holds Try.pinned (OpenSpec.ofChange Rows.bitsApplySpec) :=
  OpenClaim.holds_of_wide 9 Try.f9 rfl rfl rfl rfl rfl rfl rfl ⟨rfl, rfl, rfl, rfl, rfl⟩ rfl rfl rfl rfl rfl (by kernel_rfl) Try.func9 (by kernel_rfl)
    (of_decide_eq_true (by kernel_rfl)) (by unfold Func.isWrapper; first | (rw [if_pos (by decide +kernel)]; kernel_rfl) | (rw [if_neg (by decide +kernel)]; exact ⟨rfl, rfl⟩))
    (fun os started H enc _ => bitsApply_lifted os started H enc)
/-- THE STATEMENT -/
theorem bitsApply_proved : Rows.BitsApplySaid := bitsApply_over
#print axioms bitsApply_proved

set_option maxHeartbeats 2000000 in
theorem bitsShifts_walk (a : Int) (ha : 0 ≤ a ∧ a < 4294967296) (n : Int) (hn : 0 ≤ n ∧ n < 4294967296) (w : World) : Calls Try.prog 11 #[.int .u32 a, .int .u32 n] w (Ret (.bool true) w) := by
  obtain ⟨a0, a1⟩ := ha
  obtain ⟨n0, n1⟩ := hn
  have em : n % 32 % 32 = n % 32 := by omega
  have e1 : shlL a (n % 32) = shlL a n := by unfold shlL; rw [em]
  have e2 : sarL a (n % 32) = sarL a n := by unfold sarL; rw [em]
  have m0 : 0 ≤ n % 32 := by omega
  have m1 : n % 32 < 4294967296 := by omega
  clear em
  go_enter Try.func11, Try.ntmps11
  go_wp2_with ((first | (go_at_call 24; (with_reducible refine (logic_any _ _ a0 a1).mono ?_)) | (go_at_call 25; (with_reducible refine (rlogic_any _ _).mono ?_)) | (go_at_call 26; (with_reducible refine (shl_any _ _ _ n0 n1).mono ?_)) | (go_at_call 26; (with_reducible refine (shl_any _ _ _ m0 m1).mono ?_)) | (go_at_call 27; (with_reducible refine (rshl_any _ _ _ a0 a1 n0 n1).mono ?_)) | (go_at_call 28; (with_reducible refine (shr_any _ _ _ n0 n1).mono ?_)) | (go_at_call 29; (with_reducible refine (rshr_any _ _ _ a0 a1 n0 n1).mono ?_)) | (go_at_call 30; (with_reducible refine (sar_any _ _ _ n0 n1).mono ?_)) | (go_at_call 30; (with_reducible refine (sar_any _ _ _ m0 m1).mono ?_)) | (go_at_call 31; (with_reducible refine (rsar_any _ _ _ a0 a1 n0 n1).mono ?_)) | (go_at_call 14; (with_reducible refine (ex01_any _).mono ?_))); rintro e w1 ⟨rfl, hb⟩; first | (replace HB := HB.trans (hb.mono HB.size)) | have HB := hb)
  go_returns
  exact ⟨rfl, HB⟩
theorem bitsShifts_own : ownKnob Try.prog.godebug = none := by kernel_rfl
set_option maxRecDepth 100000 in
theorem bitsShifts_lifted (os : Os) (started : os.Started) (H : Type) (enc : TypeId × Value → H) :
    ReturnsInHanded {} Try.checked os 11 .any (Rows.bitsShiftsSpec.pre6 enc Try.prog Try.f11 Rows.bitsShiftsRow.domain false) (Rows.bitsShiftsSpec.post enc Try.prog Try.f11 false true false false) := by
  refine returnsInHanded_of_change (C := Try.checked) bitsShifts_own started (by kernel_rfl) Try.func11
    (ChangeSpec.witness6 (enc := enc) (C := Try.checked) false ⟨#[], #[.int .u32 0, .int .u32 0], []⟩ 8 (by kernel_rfl) (by kernel_rfl) (by kernel_rfl) (by kernel_rfl)) ?_
  intro W base args ds gs before hval0 hW hcnd _
  have hval : ∀ (j : Nat) t v, Try.f11.params[j]? = some t → args[j]? = some v → Value.okWide Try.prog W .any base t v := hval0
  have hW' := hW
  obtain ⟨p, q, hA0, hV, rfl, hfz, hnd⟩ := hW
  have hA : DataW.TrodAll enc Try.prog W 0 (fun _ => true) true Try.f11.params.toList args.toList ds p := hA0
  have hA1 := hA
  obtain ⟨rfl, rfl⟩ := trodVars_none hV
  rw [Try.params11] at hA hval
  obtain ⟨v0, vs0, d0, ds0, p0, q0, hargs, hd0, hp0, h0, r0⟩ := trodAll_cons hA
  obtain ⟨v1, vs1, d1, ds1, p1, q1, hv1, hd1, hp1, h1, r1⟩ := trodAll_cons r0
  obtain ⟨hvn, hdn, hpn⟩ := trodAll_nil r1
  subst hdn hd1 hd0
  obtain rfl : args = #[v0, v1] := by cases args; simp_all
  clear hargs hvn hv1
  obtain ⟨a0, rfl, _, _, w0⟩ := open_int Try.underlying22 (hval 0 22 v0 rfl rfl) h0
  obtain ⟨a1, rfl, _, _, w1⟩ := open_int Try.underlying22 (hval 1 22 v1 rfl rfl) h1
  simp only [List.append_nil] at hW'
  refine (bitsShifts_walk a0 (wf_u32 w0) a1 (wf_u32 w1) W).mono fun e W' hr => ?_
  obtain ⟨rfl, hb⟩ := hr
  exact ⟨_, rfl, post_of_below (pa := p) (pv := []) hW' (fun _ _ _ => (trodAll_cons_mk (shut_bool Try.underlying4 _) trodAll_mk0)) (fun sp hsp => trodAll_stays Try_laidOut hb _ _ _ _ (by kernel_rfl) hA1 (fun x hx => hW'.lt x hx) hsp) (fun _ _ => rfl) (by simp)
    hb (ok_one (by kernel_rfl) rfl (okWide_bool_mk Try.underlying4 _))⟩
theorem bitsShifts_over : Rows.bitsShiftsRow.holds Try.pinned (OpenSpec.ofChange Rows.bitsShiftsSpec) :=
  OpenClaim.holds_of_wide 11 Try.f11 rfl rfl rfl rfl rfl rfl rfl ⟨rfl, rfl, rfl, rfl, rfl⟩ rfl rfl rfl rfl rfl (by kernel_rfl) Try.func11 (by kernel_rfl)
    (of_decide_eq_true (by kernel_rfl)) (by unfold Func.isWrapper; first | (rw [if_pos (by decide +kernel)]; kernel_rfl) | (rw [if_neg (by decide +kernel)]; exact ⟨rfl, rfl⟩))
    (fun os started H enc _ => bitsShifts_lifted os started H enc)
/-- THE STATEMENT -/
theorem bitsShifts_proved : Rows.BitsShiftsSaid := bitsShifts_over
#print axioms bitsShifts_proved
end Go.Proofs.Ytdcpechhjfbipaa
