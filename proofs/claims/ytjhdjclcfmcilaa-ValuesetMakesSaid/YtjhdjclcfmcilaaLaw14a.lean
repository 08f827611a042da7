/-
  ValuesetMakes: for all lo, hi and stride the call returns true. No condition on the inputs.
-/
import Derived.Test.YtjhdjclcfmcilaaRows
import Derived.Test.YtjhdjclcfmcilaaEx14
namespace Go.Proofs.Ytjhdjclcfmcilaa
open Go.ChangeShapes Go.WideShapes Go.ChangeAt Go.RowKit
set_option linter.unusedVariables false
theorem Try_laidOut : laidOutB Try.prog = true := by kernel_rfl
set_option maxHeartbeats 2000000 in
theorem valuesetMakes_walk (lo : Int) (hlo : 0 ≤ lo ∧ lo < 4294967296) (hi : Int) (hhi : 0 ≤ hi ∧ hi < 4294967296) (st : Int) (hst : 0 ≤ st ∧ st < 4294967296) (w : World) :
    Calls Try.prog 3 #[.int .u32 lo, .int .u32 hi, .int .u32 st] w (Ret (.bool true) w) := by
  have c1 := between_any lo hi st hlo.1 hlo.2 hhi.1 hhi.2 hst.1 hst.2
  have c2 := rBetween_any lo hi st hlo.1 hlo.2 hhi.1 hhi.2 hst.1 hst.2
  have q : ∀ (s : VSet) (w : World), (binOp .eql 24 s.val s.val).run Try.prog w = .ok (.bool true) w := fun s w => by
    have := run_eql_set s s w
    rwa [beq_self_eq_true] at this
  have q1 := q (betweenL lo hi st)
  have q2 := q topV
  have q3 := q emptyV
  have q4 := q (oneV lo)
  clear q
  generalize betweenL lo hi st = J at c1 c2 q1
  go_enter Try.func3, Try.ntmps3
  go_wp2_with ((first | (go_at_call 14; (with_reducible refine (c1 _).mono ?_)) | (go_at_call 15; (with_reducible refine (c2 _).mono ?_)) | (go_at_call 12; (with_reducible refine (const_any _ _).mono ?_)) | (go_at_call 13; (with_reducible refine (rconst_any _ _).mono ?_)) | (go_at_call 16; (with_reducible refine (top_any _).mono ?_)) | (go_at_call 18; (with_reducible refine (empty_any _).mono ?_)) | (go_at_call 17; (with_reducible refine (rtop_any _).mono ?_)) | (go_at_call 19; (with_reducible refine (rempty_any _).mono ?_)) | (go_at_call 20; (with_reducible refine (ex14_any _).mono ?_))); rintro e w1 ⟨rfl, hb⟩; (first | (replace HB := HB.trans (hb.mono HB.size)) | (have HB := hb)))
  go_returns
  exact ⟨rfl, HB⟩
theorem valuesetMakes_own : ownKnob Try.prog.godebug = none := by kernel_rfl
set_option maxRecDepth 100000 in
theorem valuesetMakes_lifted (os : Os) (started : os.Started) (H : Type) (enc : TypeId × Value → H) :
    ReturnsInHanded {} Try.checked os 3 .any (Rows.valuesetMakesSpec.pre6 enc Try.prog Try.f3 Rows.valuesetMakesRow.domain false) (Rows.valuesetMakesSpec.post enc Try.prog Try.f3 false true false false) := by
  refine returnsInHanded_of_change (C := Try.checked) valuesetMakes_own started (by kernel_rfl) Try.func3
    (ChangeSpec.witness6 (enc := enc) (C := Try.checked) false ⟨#[], #[.int .u32 0, .int .u32 0, .int .u32 0], []⟩ 8 (by kernel_rfl) (by kernel_rfl) (by kernel_rfl) (by kernel_rfl)) ?_
  intro W base args ds gs before hval0 hW hcnd _
  have hval : ∀ (j : Nat) t v, Try.f3.params[j]? = some t → args[j]? = some v → Value.okWide Try.prog W .any base t v := hval0
  have hW' := hW
  obtain ⟨p, q, hA0, hV, rfl, hfz, hnd⟩ := hW
  have hA : DataW.TrodAll enc Try.prog W 0 (fun _ => true) true Try.f3.params.toList args.toList ds p := hA0
  have hA1 := hA
  obtain ⟨rfl, rfl⟩ := trodVars_none hV
  rw [Try.params3] at hA hval
  obtain ⟨v0, vs0, d0, ds0, p0, q0, hargs, hd0, hp0, h0, r0⟩ := trodAll_cons hA
  obtain ⟨v1, vs1, d1, ds1, p1, q1, hv1, hd1, hp1, h1, r1⟩ := trodAll_cons r0
  obtain ⟨v2, vs2, d2, ds2, p2, q2, hv2, hd2, hp2, h2, r2⟩ := trodAll_cons r1
  obtain ⟨hvn, hdn, hpn⟩ := trodAll_nil r2
  subst hdn hd2 hd1 hd0
  obtain rfl : args = #[v0, v1, v2] := by cases args; simp_all
  clear hargs hvn hv1 hv2
  obtain ⟨a0, rfl, _, _, w0⟩ := open_int Try.underlying22 (hval 0 22 v0 rfl rfl) h0
  obtain ⟨a1, rfl, _, _, w1⟩ := open_int Try.underlying22 (hval 1 22 v1 rfl rfl) h1
  obtain ⟨a2, rfl, _, _, w2⟩ := open_int Try.underlying22 (hval 2 22 v2 rfl rfl) h2
  simp only [List.append_nil] at hW'
  refine (valuesetMakes_walk a0 (wf_u32 w0) a1 (wf_u32 w1) a2 (wf_u32 w2) W).mono fun e W' hr => ?_
  obtain ⟨rfl, hb⟩ := hr
  exact ⟨_, rfl, post_of_below (pa := p) (pv := []) hW' (fun _ _ _ => (trodAll_cons_mk (shut_bool Try.underlying4 _) trodAll_mk0)) (fun sp hsp => trodAll_stays Try_laidOut hb _ _ _ _ (by kernel_rfl) hA1 (fun x hx => hW'.lt x hx) hsp) (fun _ _ => rfl) (by simp)
    hb (ok_one (by kernel_rfl) rfl (okWide_bool_mk Try.underlying4 _))⟩
theorem valuesetMakes_over : Rows.valuesetMakesRow.holds Try.pinned (OpenSpec.ofChange Rows.valuesetMakesSpec) :=
  OpenClaim.holds_of_wide 3 Try.f3 rfl rfl rfl rfl rfl rfl rfl ⟨rfl, rfl, rfl, rfl, rfl⟩ rfl rfl rfl rfl rfl (by kernel_rfl) Try.func3 (by kernel_rfl)
    (of_decide_eq_true (by kernel_rfl)) (by unfold Func.isWrapper; first | (rw [if_pos (by decide +kernel)]; kernel_rfl) | (rw [if_neg (by decide +kernel)]; exact ⟨rfl, rfl⟩))
    (fun os started H enc _ => valuesetMakes_lifted os started H enc)
/-- THE STATEMENT -/
theorem valuesetMakes_proved : Rows.ValuesetMakesSaid := valuesetMakes_over
#print axioms valuesetMakes_proved
end Go.Proofs.Ytjhdjclcfmcilaa
