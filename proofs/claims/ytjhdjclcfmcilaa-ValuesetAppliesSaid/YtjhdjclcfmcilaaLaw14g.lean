/-
  ValuesetApplies: for all operators and sets the call returns true: Apply returns what the reference returns. No condition on the inputs.
-/
import Derived.Test.YtjhdjclcfmcilaaRows
import Derived.Test.YtjhdjclcfmcilaaEx14
import Derived.Test.YtjhdjclcfmcilaaVal25
namespace Go.Proofs.Ytjhdjclcfmcilaa
open Go.ChangeShapes Go.WideShapes Go.ChangeAt Go.RowKit
set_option linter.unusedVariables false
theorem Try_laidOut : laidOutB Try.prog = true := by kernel_rfl
set_option maxRecDepth 100000 in
set_option maxHeartbeats 4000000 in
theorem applies_core (op : Int) (a b J : VSet)
    (x1 : ∀ w, Calls Try.prog 37 #[.int .i64 op, a.val, b.val] w (Ret J.val w)) (x2 : ∀ w, Calls Try.prog 38 #[.int .i64 op, a.val, b.val] w (Ret J.val w)) (w : World) :
    Calls Try.prog 10 #[.int .i64 op, a.val, b.val] w (Ret (.bool true) w) := by
  have q1 : ∀ w, (binOp .eql 24 J.val J.val).run Try.prog w = .ok (.bool true) w := fun w => by
    have := run_eql_set J J w
    rwa [beq_self_eq_true] at this
  have hA0 := ((Blk.new w 24 a.cs).alloc (.cells b.cs 24)).drew
  have hB0 := (Blk.new (w.alloc (.cells a.cs 24)) 24 b.cs).drew
  simp only [World.size_alloc] at hB0
  have mkS : ∀ w', Below ((w.alloc (.cells a.cs 24)).alloc (.cells b.cs 24)).drew.heap.size ((w.alloc (.cells a.cs 24)).alloc (.cells b.cs 24)).drew w' → ((∀ o, w'.cell? ⟨w.heap.size, o, none⟩ = (#[.bool a.e, .bool a.t, .int .u32 a.lo, .int .u32 a.hi, .int .u32 a.st] : Array Value)[o]?) ∧ (∀ o, w'.cell? ⟨w.heap.size + 1, o, none⟩ = (#[.bool b.e, .bool b.t, .int .u32 b.lo, .int .u32 b.hi, .int .u32 b.st] : Array Value)[o]?)) := fun w' hb =>
    ⟨fun o => (hA0.call hb).walk.1 o, fun o => (hB0.call hb).walk.1 o⟩
  go_enter Try.func10, Try.ntmps10
  go_wp2_with fail
  go_region_held3 (fun w' => (∀ o, w'.cell? ⟨w.heap.size, o, none⟩ = (#[.bool a.e, .bool a.t, .int .u32 a.lo, .int .u32 a.hi, .int .u32 a.st] : Array Value)[o]?) ∧ (∀ o, w'.cell? ⟨w.heap.size + 1, o, none⟩ = (#[.bool b.e, .bool b.t, .int .u32 b.lo, .int .u32 b.hi, .int .u32 b.st] : Array Value)[o]?))
    (first | exact mkS _ (Below.refl _ _) | exact mkS _ HB)
    (first | (go_at_call 37; (with_reducible refine (x1 _).mono ?_); rintro e w2 ⟨rfl, hb2⟩; (first | (replace HB := after HB hb2) | (have HB := hb2))) | (go_at_call 38; (with_reducible refine (x2 _).mono ?_); rintro e w2 ⟨rfl, hb2⟩; (first | (replace HB := after HB hb2) | (have HB := hb2))) | (go_at_call 20; (with_reducible refine (ex14_any _).mono ?_); rintro e w2 ⟨rfl, hb2⟩; (first | (replace HB := after HB hb2) | (have HB := hb2))))
  go_wp2
  go_returns
  exact ⟨rfl, after (by go_grown) HB⟩
theorem valuesetApplies_walk (op : Int) (ho : -9223372036854775808 ≤ op ∧ op ≤ 9223372036854775807) (a : VSet) (ha : a.wf) (b : VSet) (hb : b.wf) (w : World) : Calls Try.prog 10 #[.int .i64 op, a.val, b.val] w (Ret (.bool true) w) :=
  applies_core op a b _ (apply_any op a b ha hb) (rApply_any op a b ha hb) w
theorem valuesetApplies_own : ownKnob Try.prog.godebug = none := by kernel_rfl
set_option maxRecDepth 100000 in
theorem valuesetApplies_lifted (os : Os) (started : os.Started) (H : Type) (enc : TypeId × Value → H) :
    ReturnsInHanded {} Try.checked os 10 .any (Rows.valuesetAppliesSpec.pre6 enc Try.prog Try.f10 Rows.valuesetAppliesRow.domain false) (Rows.valuesetAppliesSpec.post enc Try.prog Try.f10 false true false false) := by
  refine returnsInHanded_of_change (C := Try.checked) valuesetApplies_own started (by kernel_rfl) Try.func10
    (ChangeSpec.witness6 (enc := enc) (C := Try.checked) false ⟨#[], #[.int .i64 0, .agg #[.bool false, .bool false, .int .u32 0, .int .u32 0, .int .u32 0], .agg #[.bool false, .bool false, .int .u32 0, .int .u32 0, .int .u32 0]], []⟩ 8 (by kernel_rfl) (by kernel_rfl) (by kernel_rfl) (by kernel_rfl)) ?_
  intro W base args ds gs before hval0 hW hcnd _
  have hval : ∀ (j : Nat) t v, Try.f10.params[j]? = some t → args[j]? = some v → Value.okWide Try.prog W .any base t v := hval0
  have hW' := hW
  obtain ⟨p, q, hA0, hV, rfl, hfz, hnd⟩ := hW
  have hA : DataW.TrodAll enc Try.prog W 0 (fun _ => true) true Try.f10.params.toList args.toList ds p := hA0
  have hA1 := hA
  obtain ⟨rfl, rfl⟩ := trodVars_none hV
  rw [Try.params10] at hA hval
  obtain ⟨v0, vs0, d0, ds0, p0, q0, hargs, hd0, hp0, h0, r0⟩ := trodAll_cons hA
  obtain ⟨v1, vs1, d1, ds1, p1, q1, hv1, hd1, hp1, h1, r1⟩ := trodAll_cons r0
  obtain ⟨v2, vs2, d2, ds2, p2, q2, hv2, hd2, hp2, h2, r2⟩ := trodAll_cons r1
  obtain ⟨hvn, hdn, hpn⟩ := trodAll_nil r2
  subst hdn hd2 hd1 hd0
  obtain rfl : args = #[v0, v1, v2] := by cases args; simp_all
  clear hargs hvn hv1 hv2
  obtain ⟨a0, rfl, _, _, w0⟩ := open_int Try.underlying3 (hval 0 3 v0 rfl rfl) h0
  obtain ⟨cs1, rfl, l1⟩ := open_flat [none, none, some .u32, some .u32, some .u32] 5 Try.underlying24 (by kernel_rfl) (by kernel_rfl) (hval 1 24 v1 rfl rfl) h1
  obtain ⟨s1, hs1, rfl⟩ := leaves_set l1
  obtain ⟨cs2, rfl, l2⟩ := open_flat [none, none, some .u32, some .u32, some .u32] 5 Try.underlying24 (by kernel_rfl) (by kernel_rfl) (hval 2 24 v2 rfl rfl) h2
  obtain ⟨s2, hs2, rfl⟩ := leaves_set l2
  simp only [List.append_nil] at hW'
  refine (valuesetApplies_walk a0 (wf_i64 w0) s1 hs1 s2 hs2 W).mono fun e W' hr => ?_
  obtain ⟨rfl, hb⟩ := hr
  exact ⟨_, rfl, post_of_below (pa := p) (pv := []) hW' (fun _ _ _ => (trodAll_cons_mk (shut_bool Try.underlying4 _) trodAll_mk0)) (fun sp hsp => trodAll_stays Try_laidOut hb _ _ _ _ (by kernel_rfl) hA1 (fun x hx => hW'.lt x hx) hsp) (fun _ _ => rfl) (by simp)
    hb (ok_one (by kernel_rfl) rfl (okWide_bool_mk Try.underlying4 _))⟩
theorem valuesetApplies_over : Rows.valuesetAppliesRow.holds Try.pinned (OpenSpec.ofChange Rows.valuesetAppliesSpec) :=
  OpenClaim.holds_of_wide 10 Try.f10 rfl rfl rfl rfl rfl rfl rfl ⟨rfl, rfl, rfl, rfl, rfl⟩ rfl rfl rfl rfl rfl (by kernel_rfl) Try.func10 (by kernel_rfl)
    (of_decide_eq_true (by kernel_rfl)) (by unfold Func.isWrapper; first | (rw [if_pos (by decide +kernel)]; kernel_rfl) | (rw [if_neg (by decide +kernel)]; exact ⟨rfl, rfl⟩))
    (fun os started H enc _ => valuesetApplies_lifted os started H enc)
/-- THE STATEMENT -/
theorem valuesetApplies_proved : Rows.ValuesetAppliesSaid := valuesetApplies_over
#print axioms valuesetApplies_proved
end Go.Proofs.Ytjhdjclcfmcilaa
