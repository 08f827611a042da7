/-
  BitsAdd, BitsSub, BitsBack, BitsWidths: for all inputs the calls return true. No condition on the inputs.
-/
import Derived.Test.YtdcpechhjfbipaaLaw01a
namespace Go.Proofs.Ytdcpechhjfbipaa
open Go.ChangeShapes Go.WideShapes Go.ChangeAt Go.RowKit
set_option linter.unusedVariables false

theorem addC_eq (a b : Int) (a0 : 0 ≤ a) (a1 : a < 4294967296) (b0 : 0 ≤ b) (b1 : b < 4294967296) : addC a b = decide (4294967296 ≤ a + b) := by
  unfold addC; rw [decide_eq_decide]; omega
theorem wrap64_32 (a : Int) : wrap64 (wrap32 a) = wrap32 a := by unfold wrap64 wrap32; omega
theorem addV_eq (a b : Int) (a0 : 0 ≤ a) (a1 : a < 4294967296) (b0 : 0 ≤ b) (b1 : b < 4294967296) :
    addV a b = (wrap64 (wrap64 (wrap32 a) + wrap64 (wrap32 b)) != wrap64 (wrap32 ((a + b) % 4294967296))) := by
  rw [wrap64_32, wrap64_32, wrap64_32, Bool.eq_iff_iff]
  unfold addV
  simp only [sg, wrap32, wrap64, Bool.and_eq_true, bne_iff_ne, ne_eq, decide_eq_decide]
  omega
theorem subV_eq (a b : Int) (a0 : 0 ≤ a) (a1 : a < 4294967296) (b0 : 0 ≤ b) (b1 : b < 4294967296) :
    subV a b = (wrap64 (wrap64 (wrap32 a) - wrap64 (wrap32 b)) != wrap64 (wrap32 ((a - b) % 4294967296))) := by
  rw [wrap64_32, wrap64_32, wrap64_32, Bool.eq_iff_iff]
  unfold subV
  simp only [sg, wrap32, wrap64, Bool.and_eq_true, bne_iff_ne, ne_eq, decide_eq_decide]
  omega
theorem back_c (a b : Int) (a0 : 0 ≤ a) (a1 : a < 4294967296) (b0 : 0 ≤ b) (b1 : b < 4294967296) : addC ((a - b) % 4294967296) b = subC a b := by
  unfold addC subC; rw [decide_eq_decide]; omega

theorem bitsAdd_walk (a : Int) (ha : 0 ≤ a ∧ a < 4294967296) (b : Int) (hb : 0 ≤ b ∧ b < 4294967296) (w : World) : Calls Try.prog 4 #[.int .u32 a, .int .u32 b] w (Ret (.bool true) w) := by
  obtain ⟨a0, a1⟩ := ha
  obtain ⟨b0, b1⟩ := hb
  have e1 : addZ a b = ((a + b) % 4294967296 == 0) := rfl
  have e2 : addN a b = decide (2147483648 ≤ (a + b) % 4294967296) := rfl
  have e3 := addC_eq a b a0 a1 b0 b1
  have e4 := addV_eq a b a0 a1 b0 b1
  go_enter Try.func4, Try.ntmps4
  go_wp2_with (first | (go_at_call 15; (with_reducible refine (add_any _ _ _ a0 a1 b0 b1).mono ?_); rintro e w1 ⟨rfl, hb1⟩; (have hs1 := hb1.size)) | (go_at_call 14; (with_reducible refine (ex01_any _).mono ?_); rintro e w3 ⟨rfl, hb3⟩))
  go_returns
  exact ⟨rfl, after (by go_grown) hb3⟩
theorem bitsAdd_own : ownKnob Try.prog.godebug = none := by kernel_rfl
set_option maxRecDepth 100000 in
theorem bitsAdd_lifted (os : Os) (started : os.Started) (H : Type) (enc : TypeId × Value → H) :
    ReturnsInHanded {} Try.checked os 4 .any (Rows.bitsAddSpec.pre6 enc Try.prog Try.f4 Rows.bitsAddRow.domain false) (Rows.bitsAddSpec.post enc Try.prog Try.f4 false true false false) := by
  refine returnsInHanded_of_change (C := Try.checked) bitsAdd_own started (by kernel_rfl) Try.func4
    (ChangeSpec.witness6 (enc := enc) (C := Try.checked) false ⟨#[], #[.int .u32 0, .int .u32 0], []⟩ 8 (by kernel_rfl) (by kernel_rfl) (by kernel_rfl) (by kernel_rfl)) ?_
  intro W base args ds gs before hval0 hW hcnd _
  have hval : ∀ (j : Nat) t v, Try.f4.params[j]? = some t → args[j]? = some v → Value.okWide Try.prog W .any base t v := hval0
  have hW' := hW
  obtain ⟨p, q, hA0, hV, rfl, hfz, hnd⟩ := hW
  have hA : DataW.TrodAll enc Try.prog W 0 (fun _ => true) true Try.f4.params.toList args.toList ds p := hA0
  have hA1 := hA
  obtain ⟨rfl, rfl⟩ := trodVars_none hV
  rw [Try.params4] at hA hval
  obtain ⟨v0, vs0, d0, ds0, p0, q0, hargs, hd0, hp0, h0, r0⟩ := trodAll_cons hA
  obtain ⟨v1, vs1, d1, ds1, p1, q1, hv1, hd1, hp1, h1, r1⟩ := trodAll_cons r0
  obtain ⟨hvn, hdn, hpn⟩ := trodAll_nil r1
  subst hdn hd1 hd0
  obtain rfl : args = #[v0, v1] := by cases args; simp_all
  clear hargs hvn hv1
  obtain ⟨a0, rfl, _, _, w0⟩ := open_int Try.underlying22 (hval 0 22 v0 rfl rfl) h0
  obtain ⟨a1, rfl, _, _, w1⟩ := open_int Try.underlying22 (hval 1 22 v1 rfl rfl) h1
  simp only [List.append_nil] at hW'
  refine (bitsAdd_walk a0 (wf_u32 w0) a1 (wf_u32 w1) W).mono fun e W' hr => ?_
  obtain ⟨rfl, hb⟩ := hr
  exact ⟨_, rfl, post_of_below (pa := p) (pv := []) hW' (fun _ _ _ => (trodAll_cons_mk (shut_bool Try.underlying4 _) trodAll_mk0)) (fun sp hsp => trodAll_stays Try_laidOut hb _ _ _ _ (by kernel_rfl) hA1 (fun x hx => hW'.lt x hx) hsp) (fun _ _ => rfl) (by simp)
    hb (ok_one (by kernel_rfl) rfl (okWide_bool_mk Try.underlying4 _))⟩
theorem bitsAdd_over : Rows.bitsAddRow.holds Try.pinned (OpenSpec.ofChange Rows.bitsAddSpec) :=
  OpenClaim.holds_of_wide 4 Try.f4 rfl rfl rfl rfl rfl rfl rfl ⟨rfl, rfl, rfl, rfl, rfl⟩ rfl rfl rfl rfl rfl (by kernel_rfl) Try.func4 (by kernel_rfl)
    (of_decide_eq_true (by kernel_rfl)) (by unfold Func.isWrapper; first | (rw [if_pos (by decide +kernel)]; kernel_rfl) | (rw [if_neg (by decide +kernel)]; exact ⟨rfl, rfl⟩))
    (fun os started H enc _ => bitsAdd_lifted os started H enc)
/-- THE STATEMENT -/
theorem bitsAdd_proved : Rows.BitsAddSaid := bitsAdd_over
#print axioms bitsAdd_proved

theorem bitsSub_walk (a : Int) (ha : 0 ≤ a ∧ a < 4294967296) (b : Int) (hb : 0 ≤ b ∧ b < 4294967296) (w : World) : Calls Try.prog 5 #[.int .u32 a, .int .u32 b] w (Ret (.bool true) w) := by
  obtain ⟨a0, a1⟩ := ha
  obtain ⟨b0, b1⟩ := hb
  have e1 : subZ a b = ((a - b) % 4294967296 == 0) := rfl
  have e2 : subN a b = decide (2147483648 ≤ (a - b) % 4294967296) := rfl
  have e3 : subC a b = decide (a < b) := rfl
  have e4 := subV_eq a b a0 a1 b0 b1
  go_enter Try.func5, Try.ntmps5
  go_wp2_with (first | (go_at_call 12; (with_reducible refine (sub_any _ _ _ a0 a1 b0 b1).mono ?_); rintro e w1 ⟨rfl, hb1⟩; (have hs1 := hb1.size)) | (go_at_call 14; (with_reducible refine (ex01_any _).mono ?_); rintro e w3 ⟨rfl, hb3⟩))
  go_returns
  exact ⟨rfl, after (by go_grown) hb3⟩
theorem bitsSub_own : ownKnob Try.prog.godebug = none := by kernel_rfl
set_option maxRecDepth 100000 in
theorem bitsSub_lifted (os : Os) (started : os.Started) (H : Type) (enc : TypeId × Value → H) :
    ReturnsInHanded {} Try.checked os 5 .any (Rows.bitsSubSpec.pre6 enc Try.prog Try.f5 Rows.bitsSubRow.domain false) (Rows.bitsSubSpec.post enc Try.prog Try.f5 false true false false) := by
  refine returnsInHanded_of_change (C := Try.checked) bitsSub_own started (by kernel_rfl) Try.func5
    (ChangeSpec.witness6 (enc := enc) (C := Try.checked) false ⟨#[], #[.int .u32 0, .int .u32 0], []⟩ 8 (by kernel_rfl) (by kernel_rfl) (by kernel_rfl) (by kernel_rfl)) ?_
  intro W base args ds gs before hval0 hW hcnd _
  have hval : ∀ (j : Nat) t v, Try.f5.params[j]? = some t → args[j]? = some v → Value.okWide Try.prog W .any base t v := hval0
  have hW' := hW
  obtain ⟨p, q, hA0, hV, rfl, hfz, hnd⟩ := hW
  have hA : DataW.TrodAll enc Try.prog W 0 (fun _ => true) true Try.f5.params.toList args.toList ds p := hA0
  have hA1 := hA
  obtain ⟨rfl, rfl⟩ := trodVars_none hV
  rw [Try.params5] at hA hval
  obtain ⟨v0, vs0, d0, ds0, p0, q0, hargs, hd0, hp0, h0, r0⟩ := trodAll_cons hA
  obtain ⟨v1, vs1, d1, ds1, p1, q1, hv1, hd1, hp1, h1, r1⟩ := trodAll_cons r0
  obtain ⟨hvn, hdn, hpn⟩ := trodAll_nil r1
  subst hdn hd1 hd0
  obtain rfl : args = #[v0, v1] := by cases args; simp_all
  clear hargs hvn hv1
  obtain ⟨a0, rfl, _, _, w0⟩ := open_int Try.underlying22 (hval 0 22 v0 rfl rfl) h0
  obtain ⟨a1, rfl, _, _, w1⟩ := open_int Try.underlying22 (hval 1 22 v1 rfl rfl) h1
  simp only [List.append_nil] at hW'
  refine (bitsSub_walk a0 (wf_u32 w0) a1 (wf_u32 w1) W).mono fun e W' hr => ?_
  obtain ⟨rfl, hb⟩ := hr
  exact ⟨_, rfl, post_of_below (pa := p) (pv := []) hW' (fun _ _ _ => (trodAll_cons_mk (shut_bool Try.underlying4 _) trodAll_mk0)) (fun sp hsp => trodAll_stays Try_laidOut hb _ _ _ _ (by kernel_rfl) hA1 (fun x hx => hW'.lt x hx) hsp) (fun _ _ => rfl) (by simp)
    hb (ok_one (by kernel_rfl) rfl (okWide_bool_mk Try.underlying4 _))⟩
theorem bitsSub_over : Rows.bitsSubRow.holds Try.pinned (OpenSpec.ofChange Rows.bitsSubSpec) :=
  OpenClaim.holds_of_wide 5 Try.f5 rfl rfl rfl rfl rfl rfl rfl ⟨rfl, rfl, rfl, rfl, rfl⟩ rfl rfl rfl rfl rfl (by kernel_rfl) Try.func5 (by kernel_rfl)
    (of_decide_eq_true (by kernel_rfl)) (by unfold Func.isWrapper; first | (rw [if_pos (by decide +kernel)]; kernel_rfl) | (rw [if_neg (by decide +kernel)]; exact ⟨rfl, rfl⟩))
    (fun os started H enc _ => bitsSub_lifted os started H enc)
/-- THE STATEMENT -/
theorem bitsSub_proved : Rows.BitsSubSaid := bitsSub_over
#print axioms bitsSub_proved

theorem bitsBack_walk (a : Int) (ha : 0 ≤ a ∧ a < 4294967296) (b : Int) (hb : 0 ≤ b ∧ b < 4294967296) (w : World) : Calls Try.prog 6 #[.int .u32 a, .int .u32 b] w (Ret (.bool true) w) := by
  obtain ⟨a0, a1⟩ := ha
  obtain ⟨b0, b1⟩ := hb
  have e1 := back_c a b a0 a1 b0 b1
  have e2 : a % 4294967296 = a := by omega
  go_enter Try.func6, Try.ntmps6
  go_wp2_with (first | (go_at_call 12; (with_reducible refine (sub_any _ _ _ a0 a1 b0 b1).mono ?_); rintro e w1 ⟨rfl, hb1⟩; (have hs1 := hb1.size)) | (go_at_call 15; (with_reducible refine (add_any _ _ _ (by omega) (by omega) b0 b1).mono ?_); rintro e w2 ⟨rfl, hb2⟩; (have hg2 := after (w := w) (by go_grown) hb2); (have hs2 := hg2.size); obtain ⟨hc2, hf2⟩ := bcell hb2; (have hz2 : w1.heap.size < w2.heap.size := by have := hb2.size; simp at this; omega)) | (go_at_call 14; (with_reducible refine (ex01_any _).mono ?_); rintro e w3 ⟨rfl, hb3⟩))
  go_returns
  exact ⟨rfl, after (by go_grown) hb3⟩
theorem bitsBack_own : ownKnob Try.prog.godebug = none := by kernel_rfl
set_option maxRecDepth 100000 in
theorem bitsBack_lifted (os : Os) (started : os.Started) (H : Type) (enc : TypeId × Value → H) :
    ReturnsInHanded {} Try.checked os 6 .any (Rows.bitsBackSpec.pre6 enc Try.prog Try.f6 Rows.bitsBackRow.domain false) (Rows.bitsBackSpec.post enc Try.prog Try.f6 false true false false) := by
  refine returnsInHanded_of_change (C := Try.checked) bitsBack_own started (by kernel_rfl) Try.func6
    (ChangeSpec.witness6 (enc := enc) (C := Try.checked) false ⟨#[], #[.int .u32 0, .int .u32 0], []⟩ 8 (by kernel_rfl) (by kernel_rfl) (by kernel_rfl) (by kernel_rfl)) ?_
  intro W base args ds gs before hval0 hW hcnd _
  have hval : ∀ (j : Nat) t v, Try.f6.params[j]? = some t → args[j]? = some v → Value.okWide Try.prog W .any base t v := hval0
  have hW' := hW
  obtain ⟨p, q, hA0, hV, rfl, hfz, hnd⟩ := hW
  have hA : DataW.TrodAll enc Try.prog W 0 (fun _ => true) true Try.f6.params.toList args.toList ds p := hA0
  have hA1 := hA
  obtain ⟨rfl, rfl⟩ := trodVars_none hV
  rw [Try.params6] at hA hval
  obtain ⟨v0, vs0, d0, ds0, p0, q0, hargs, hd0, hp0, h0, r0⟩ := trodAll_cons hA
  obtain ⟨v1, vs1, d1, ds1, p1, q1, hv1, hd1, hp1, h1, r1⟩ := trodAll_cons r0
  obtain ⟨hvn, hdn, hpn⟩ := trodAll_nil r1
  subst hdn hd1 hd0
  obtain rfl : args = #[v0, v1] := by cases args; simp_all
  clear hargs hvn hv1
  obtain ⟨a0, rfl, _, _, w0⟩ := open_int Try.underlying22 (hval 0 22 v0 rfl rfl) h0
  obtain ⟨a1, rfl, _, _, w1⟩ := open_int Try.underlying22 (hval 1 22 v1 rfl rfl) h1
  simp only [List.append_nil] at hW'
  refine (bitsBack_walk a0 (wf_u32 w0) a1 (wf_u32 w1) W).mono fun e W' hr => ?_
  obtain ⟨rfl, hb⟩ := hr
  exact ⟨_, rfl, post_of_below (pa := p) (pv := []) hW' (fun _ _ _ => (trodAll_cons_mk (shut_bool Try.underlying4 _) trodAll_mk0)) (fun sp hsp => trodAll_stays Try_laidOut hb _ _ _ _ (by kernel_rfl) hA1 (fun x hx => hW'.lt x hx) hsp) (fun _ _ => rfl) (by simp)
    hb (ok_one (by kernel_rfl) rfl (okWide_bool_mk Try.underlying4 _))⟩
theorem bitsBack_over : Rows.bitsBackRow.holds Try.pinned (OpenSpec.ofChange Rows.bitsBackSpec) :=
  OpenClaim.holds_of_wide 6 Try.f6 rfl rfl rfl rfl rfl rfl rfl ⟨rfl, rfl, rfl, rfl, rfl⟩ rfl rfl rfl rfl rfl (by kernel_rfl) Try.func6 (by kernel_rfl)
    (of_decide_eq_true (by kernel_rfl)) (by unfold Func.isWrapper; first | (rw [if_pos (by decide +kernel)]; kernel_rfl) | (rw [if_neg (by decide +kernel)]; exact ⟨rfl, rfl⟩))
    (fun os started H enc _ => bitsBack_lifted os started H enc)
/-- THE STATEMENT -/
theorem bitsBack_proved : Rows.BitsBackSaid := bitsBack_over
#print axioms bitsBack_proved

theorem bitsWidths_walk (a : Int) (ha : 0 ≤ a ∧ a < 4294967296) (k : Int) (hk : -9223372036854775808 ≤ k ∧ k ≤ 9223372036854775807) (w : World) : Calls Try.prog 7 #[.int .u32 a, .int .i64 k] w (Ret (.bool true) w) := by
  obtain ⟨a0, a1⟩ := ha
  clear hk
  have te := width_te a k a0 a1
  have et := width_et a k a0 a1
  have h12 : k = 1 ∨ k = 2 ∨ (k ≠ 1 ∧ k ≠ 2) := by omega
  rcases h12 with rfl | rfl | ⟨h1, h2⟩
  · go_enter Try.func7, Try.ntmps7
    go_wp2_with (first | (go_at_call 16; (with_reducible refine (extend_any _ _ _).mono ?_); rintro e w1 ⟨rfl, hb⟩; first | (replace HB := HB.trans (hb.mono HB.size)) | have HB := hb) | (go_at_call 17; (with_reducible refine (truncate_any _ _ _).mono ?_); rintro e w1 ⟨rfl, hb⟩; replace HB := HB.trans (hb.mono HB.size)) | (go_at_call 18; (with_reducible refine (rextend_any _ _ _ a0 a1).mono ?_); rintro e w1 ⟨rfl, hb⟩; replace HB := HB.trans (hb.mono HB.size)) | (go_at_call 19; (with_reducible refine (rtruncate_any _ _ _ a0 a1).mono ?_); rintro e w1 ⟨rfl, hb⟩; replace HB := HB.trans (hb.mono HB.size)) | (go_at_call 14; (with_reducible refine (ex01_any _).mono ?_); rintro e w3 ⟨rfl, hb⟩; replace HB := HB.trans (hb.mono HB.size)))
    go_returns
    exact ⟨rfl, HB⟩
  · go_enter Try.func7, Try.ntmps7
    go_wp2_with (first | (go_at_call 16; (with_reducible refine (extend_any _ _ _).mono ?_); rintro e w1 ⟨rfl, hb⟩; first | (replace HB := HB.trans (hb.mono HB.size)) | have HB := hb) | (go_at_call 17; (with_reducible refine (truncate_any _ _ _).mono ?_); rintro e w1 ⟨rfl, hb⟩; replace HB := HB.trans (hb.mono HB.size)) | (go_at_call 18; (with_reducible refine (rextend_any _ _ _ a0 a1).mono ?_); rintro e w1 ⟨rfl, hb⟩; replace HB := HB.trans (hb.mono HB.size)) | (go_at_call 19; (with_reducible refine (rtruncate_any _ _ _ a0 a1).mono ?_); rintro e w1 ⟨rfl, hb⟩; replace HB := HB.trans (hb.mono HB.size)) | (go_at_call 14; (with_reducible refine (ex01_any _).mono ?_); rintro e w3 ⟨rfl, hb⟩; replace HB := HB.trans (hb.mono HB.size)))
    go_returns
    exact ⟨rfl, HB⟩
  · obtain ⟨eo, to⟩ := width_other a k h1 h2
    have g1 : (k == 1) = false := by rw [beq_eq_false_iff_ne]; exact h1
    have g2 : (k == 2) = false := by rw [beq_eq_false_iff_ne]; exact h2
    clear te et h1 h2
    go_enter Try.func7, Try.ntmps7
    go_wp2_with (first | (go_at_call 16; (with_reducible refine (extend_any _ _ _).mono ?_); rintro e w1 ⟨rfl, hb⟩; first | (replace HB := HB.trans (hb.mono HB.size)) | have HB := hb) | (go_at_call 17; (with_reducible refine (truncate_any _ _ _).mono ?_); rintro e w1 ⟨rfl, hb⟩; replace HB := HB.trans (hb.mono HB.size)) | (go_at_call 18; (with_reducible refine (rextend_any _ _ _ a0 a1).mono ?_); rintro e w1 ⟨rfl, hb⟩; replace HB := HB.trans (hb.mono HB.size)) | (go_at_call 19; (with_reducible refine (rtruncate_any _ _ _ a0 a1).mono ?_); rintro e w1 ⟨rfl, hb⟩; replace HB := HB.trans (hb.mono HB.size)) | (go_at_call 14; (with_reducible refine (ex01_any _).mono ?_); rintro e w3 ⟨rfl, hb⟩; replace HB := HB.trans (hb.mono HB.size)))
    go_returns
    exact ⟨rfl, HB⟩
theorem bitsWidths_own : ownKnob Try.prog.godebug = none := by kernel_rfl
set_option maxRecDepth 100000 in
theorem bitsWidths_lifted (os : Os) (started : os.Started) (H : Type) (enc : TypeId × Value → H) :
    ReturnsInHanded {} Try.checked os 7 .any (Rows.bitsWidthsSpec.pre6 enc Try.prog Try.f7 Rows.bitsWidthsRow.domain false) (Rows.bitsWidthsSpec.post enc Try.prog Try.f7 false true false false) := by
  refine returnsInHanded_of_change (C := Try.checked) bitsWidths_own started (by kernel_rfl) Try.func7
    (ChangeSpec.witness6 (enc := enc) (C := Try.checked) false ⟨#[], #[.int .u32 0, .int .i64 0], []⟩ 8 (by kernel_rfl) (by kernel_rfl) (by kernel_rfl) (by kernel_rfl)) ?_
  intro W base args ds gs before hval0 hW hcnd _
  have hval : ∀ (j : Nat) t v, Try.f7.params[j]? = some t → args[j]? = some v → Value.okWide Try.prog W .any base t v := hval0
  have hW' := hW
  obtain ⟨p, q, hA0, hV, rfl, hfz, hnd⟩ := hW
  have hA : DataW.TrodAll enc Try.prog W 0 (fun _ => true) true Try.f7.params.toList args.toList ds p := hA0
  have hA1 := hA
  obtain ⟨rfl, rfl⟩ := trodVars_none hV
  rw [Try.params7] at hA hval
  obtain ⟨v0, vs0, d0, ds0, p0, q0, hargs, hd0, hp0, h0, r0⟩ := trodAll_cons hA
  obtain ⟨v1, vs1, d1, ds1, p1, q1, hv1, hd1, hp1, h1, r1⟩ := trodAll_cons r0
  obtain ⟨hvn, hdn, hpn⟩ := trodAll_nil r1
  subst hdn hd1 hd0
  obtain rfl : args = #[v0, v1] := by cases args; simp_all
  clear hargs hvn hv1
  obtain ⟨a0, rfl, _, _, w0⟩ := open_int Try.underlying22 (hval 0 22 v0 rfl rfl) h0
  obtain ⟨a1, rfl, _, _, w1⟩ := open_int Try.underlying3 (hval 1 3 v1 rfl rfl) h1
  simp only [List.append_nil] at hW'
  refine (bitsWidths_walk a0 (wf_u32 w0) a1 (wf_i64 w1) W).mono fun e W' hr => ?_
  obtain ⟨rfl, hb⟩ := hr
  exact ⟨_, rfl, post_of_below (pa := p) (pv := []) hW' (fun _ _ _ => (trodAll_cons_mk (shut_bool Try.underlying4 _) trodAll_mk0)) (fun sp hsp => trodAll_stays Try_laidOut hb _ _ _ _ (by kernel_rfl) hA1 (fun x hx => hW'.lt x hx) hsp) (fun _ _ => rfl) (by simp)
    hb (ok_one (by kernel_rfl) rfl (okWide_bool_mk Try.underlying4 _))⟩
theorem bitsWidths_over : Rows.bitsWidthsRow.holds Try.pinned (OpenSpec.ofChange Rows.bitsWidthsSpec) :=
  OpenClaim.holds_of_wide 7 Try.f7 rfl rfl rfl rfl rfl rfl rfl ⟨rfl, rfl, rfl, rfl, rfl⟩ rfl rfl rfl rfl rfl (by kernel_rfl) Try.func7 (by kernel_rfl)
    (of_decide_eq_true (by kernel_rfl)) (by unfold Func.isWrapper; first | (rw [if_pos (by decide +kernel)]; kernel_rfl) | (rw [if_neg (by decide +kernel)]; exact ⟨rfl, rfl⟩))
    (fun os started H enc _ => bitsWidths_lifted os started H enc)
/-- THE STATEMENT -/
theorem bitsWidths_proved : Rows.BitsWidthsSaid := bitsWidths_over
#print axioms bitsWidths_proved
end Go.Proofs.Ytdcpechhjfbipaa
