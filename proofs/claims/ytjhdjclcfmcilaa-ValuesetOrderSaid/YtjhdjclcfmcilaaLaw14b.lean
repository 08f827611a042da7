/-
  ValuesetOrder: for all sets a, b, c the call returns true: Within is reflexive and transitive, and two valid sets that are within each other are equal. No condition on the inputs.
-/
import Derived.Test.YtjhdjclcfmcilaaRows
import Derived.Test.YtjhdjclcfmcilaaEx14
import Derived.Test.YtjhdjclcfmcilaaPl14b
namespace Go.Proofs.Ytjhdjclcfmcilaa
open Go.ChangeShapes Go.WideShapes Go.ChangeAt Go.RowKit
set_option linter.unusedVariables false
theorem Try_laidOut : laidOutB Try.prog = true := by kernel_rfl
set_option maxHeartbeats 4000000 in
theorem order_core (a b c : VSet) (r1 r2 r3 r4 v1 v2 d : Bool) (h1 : Hid (r1 = true → r2 = true → r3 = true)) (h2 : Hid (v1 = true → v2 = true → r1 = true → r4 = true → d = false))
    (z0 : ∀ w, Calls Try.prog 21 #[a.val, a.val] w (Ret (.bool true) w)) (z1 : ∀ w, Calls Try.prog 21 #[a.val, b.val] w (Ret (.bool r1) w)) (z2 : ∀ w, Calls Try.prog 21 #[b.val, c.val] w (Ret (.bool r2) w))
    (z3 : ∀ w, Calls Try.prog 21 #[a.val, c.val] w (Ret (.bool r3) w)) (z4 : ∀ w, Calls Try.prog 21 #[b.val, a.val] w (Ret (.bool r4) w))
    (k1 : ∀ w, Calls Try.prog 22 #[a.val] w (Ret (.bool v1) w)) (k2 : ∀ w, Calls Try.prog 22 #[b.val] w (Ret (.bool v2) w))
    (q : ∀ w, (binOp .neq 24 a.val b.val).run Try.prog w = .ok (.bool d) w) (w : World) :
    Calls Try.prog 4 #[a.val, b.val, c.val] w (Ret (.bool true) w) := by
  go_enter Try.func4, Try.ntmps4
  go_wp2_with ((first | (go_at_call 21; (first | (with_reducible refine (z0 _).mono ?_) | (with_reducible refine (z1 _).mono ?_) | (with_reducible refine (z2 _).mono ?_) | (with_reducible refine (z3 _).mono ?_) | (with_reducible refine (z4 _).mono ?_))) | (go_at_call 22; (first | (with_reducible refine (k1 _).mono ?_) | (with_reducible refine (k2 _).mono ?_))) | (go_at_call 20; (with_reducible refine (ex14_any _).mono ?_))); rintro e w1 ⟨rfl, hb⟩; (first | (replace HB := HB.trans (hb.mono HB.size)) | (have HB := hb)); (try clear hc hf); obtain ⟨hc, hf⟩ := bcell HB)
  all_goals go_returns
  all_goals first | exact ⟨rfl, after (by go_grown) HB⟩ | (exfalso; have h1' := h1.out; have h2' := h2.out; simp_all)
theorem valuesetOrder_walk (a : VSet) (ha : a.wf) (b : VSet) (hb : b.wf) (c : VSet) (hc : c.wf) (w : World) :
    Calls Try.prog 4 #[a.val, b.val, c.val] w (Ret (.bool true) w) := by
  refine order_core a b c (withinL a b) (withinL b c) (withinL a c) (withinL b a) (validL a) (validL b) (a != b) (hide ?_) (hide ?_) (fun w => ?_) (within_any a b ha hb) (within_any b c hb hc) (within_any a c ha hc) (within_any b a hb ha) (valid_any a ha) (valid_any b hb) (run_neq_set a b) w
  · exact within_trans (normL_wf ha) (normL_wf hb) (normL_wf hc) (normL_valid a) (normL_valid b) (normL_valid c)
  · intro va vb h1 h2
    unfold withinL at h1 h2
    rw [normL_of va, normL_of vb] at h1 h2
    have := within_anti ha hb va vb h1 h2
    subst this
    simp
  · have := within_any a a ha ha w
    rwa [show withinL a a = true from within_refl (normL_wf ha) (normL_valid a)] at this
theorem valuesetOrder_own : ownKnob Try.prog.godebug = none := by kernel_rfl
set_option maxRecDepth 100000 in
theorem valuesetOrder_lifted (os : Os) (started : os.Started) (H : Type) (enc : TypeId × Value → H) :
    ReturnsInHanded {} Try.checked os 4 .any (Rows.valuesetOrderSpec.pre6 enc Try.prog Try.f4 Rows.valuesetOrderRow.domain false) (Rows.valuesetOrderSpec.post enc Try.prog Try.f4 false true false false) := by
  refine returnsInHanded_of_change (C := Try.checked) valuesetOrder_own started (by kernel_rfl) Try.func4
    (ChangeSpec.witness6 (enc := enc) (C := Try.checked) false ⟨#[], #[.agg #[.bool false, .bool false, .int .u32 0, .int .u32 0, .int .u32 0], .agg #[.bool false, .bool false, .int .u32 0, .int .u32 0, .int .u32 0], .agg #[.bool false, .bool false, .int .u32 0, .int .u32 0, .int .u32 0]], []⟩ 8 (by kernel_rfl) (by kernel_rfl) (by kernel_rfl) (by kernel_rfl)) ?_
  intro W base args ds gs before hval0 hW hcnd _
  have hval : ∀ (j : Nat) t v, Try.f4.params[j]? = some t → args[j]? = some v → Value.okWide Try.prog W .any base t v := hval0
  have hW' := hW
  obtain ⟨p, q, hA0, hV, rfl, hfz, hnd⟩ := hW
  have hA : DataW.TrodAll enc Try.prog W 0 (fun _ => true) true Try.f4.params.toList args.toList ds p := hA0
  have hA1 := hA
  obtain ⟨rfl, rfl⟩ := trodVars_none hV
  rw [Try.params4] at hA hval
  obtain ⟨v0, vs0, d0, ds0, p0, q0, hargs, hd0, hp0, h0, r0⟩ := trodAll_cons hA
  obtain ⟨v1, vs1, d1, ds1, p1, q1, hv1, hd1, hp1, h1, r1⟩ := trodAll_cons r0
  obtain ⟨v2, vs2, d2, ds2, p2, q2, hv2, hd2, hp2, h2, r2⟩ := trodAll_cons r1
  obtain ⟨hvn, hdn, hpn⟩ := trodAll_nil r2
  subst hdn hd2 hd1 hd0
  obtain rfl : args = #[v0, v1, v2] := by cases args; simp_all
  clear hargs hvn hv1 hv2
  obtain ⟨cs0, rfl, l0⟩ := open_flat [none, none, some .u32, some .u32, some .u32] 5 Try.underlying24 (by kernel_rfl) (by kernel_rfl) (hval 0 24 v0 rfl rfl) h0
  obtain ⟨s0, hs0, rfl⟩ := leaves_set l0
  obtain ⟨cs1, rfl, l1⟩ := open_flat [none, none, some .u32, some .u32, some .u32] 5 Try.underlying24 (by kernel_rfl) (by kernel_rfl) (hval 1 24 v1 rfl rfl) h1
  obtain ⟨s1, hs1, rfl⟩ := leaves_set l1
  obtain ⟨cs2, rfl, l2⟩ := open_flat [none, none, some .u32, some .u32, some .u32] 5 Try.underlying24 (by kernel_rfl) (by kernel_rfl) (hval 2 24 v2 rfl rfl) h2
  obtain ⟨s2, hs2, rfl⟩ := leaves_set l2
  simp only [List.append_nil] at hW'
  refine (valuesetOrder_walk s0 hs0 s1 hs1 s2 hs2 W).mono fun e W' hr => ?_
  obtain ⟨rfl, hb⟩ := hr
  exact ⟨_, rfl, post_of_below (pa := p) (pv := []) hW' (fun _ _ _ => (trodAll_cons_mk (shut_bool Try.underlying4 _) trodAll_mk0)) (fun sp hsp => trodAll_stays Try_laidOut hb _ _ _ _ (by kernel_rfl) hA1 (fun x hx => hW'.lt x hx) hsp) (fun _ _ => rfl) (by simp)
    hb (ok_one (by kernel_rfl) rfl (okWide_bool_mk Try.underlying4 _))⟩
theorem valuesetOrder_over : Rows.valuesetOrderRow.holds Try.pinned (OpenSpec.ofChange Rows.valuesetOrderSpec) :=
  OpenClaim.holds_of_wide 4 Try.f4 rfl rfl rfl rfl rfl rfl rfl ⟨rfl, rfl, rfl, rfl, rfl⟩ rfl rfl rfl rfl rfl (by kernel_rfl) Try.func4 (by kernel_rfl)
    (of_decide_eq_true (by kernel_rfl)) (by unfold Func.isWrapper; first | (rw [if_pos (by decide +kernel)]; kernel_rfl) | (rw [if_neg (by decide +kernel)]; exact ⟨rfl, rfl⟩))
    (fun os started H enc _ => valuesetOrder_lifted os started H enc)
/-- THE STATEMENT -/
theorem valuesetOrder_proved : Rows.ValuesetOrderSaid := valuesetOrder_over
#print axioms valuesetOrder_proved
end Go.Proofs.Ytjhdjclcfmcilaa
