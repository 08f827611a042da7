/-
  BitsFlags: for all a and b the call returns true: after Sub(a, b) each condition from CcEq to CcAbove is the comparison that its name says. No condition on the inputs.
-/
import Derived.Test.YtdcpechhjfbipaaRows
import Derived.Test.YtdcpechhjfbipaaEx01
namespace Go.Proofs.Ytdcpechhjfbipaa
open Go.ChangeShapes Go.WideShapes Go.ChangeAt Go.RowKit
set_option linter.unusedVariables false
theorem Try_laidOut : laidOutB Try.prog = true := by kernel_rfl
theorem holds_sub (a b : Int) (k : Int) (r : Bool) (h : holdsL k (subZ a b) (subN a b) (subC a b) (subV a b) = r) (w : World) :
    Calls Try.prog 13 #[.int .i64 k, .agg #[.bool (subZ a b), .bool (subN a b), .bool (subC a b), .bool (subV a b)]] w (Ret (.bool r) w) := by
  subst h; exact holds_any k _ _ _ _ w
theorem subZ_eq (a b : Int) (a0 : 0 ≤ a) (a1 : a < 4294967296) (b0 : 0 ≤ b) (b1 : b < 4294967296) : subZ a b = (a == b) := by
  unfold subZ; rw [Bool.eq_iff_iff, beq_iff_eq, beq_iff_eq]; omega
theorem subLess (a b : Int) (a0 : 0 ≤ a) (a1 : a < 4294967296) (b0 : 0 ≤ b) (b1 : b < 4294967296) : (subN a b != subV a b) = decide (wrap32 a < wrap32 b) := by
  have e : ∀ x y : Bool, (x != y) = decide (¬ (x = true ↔ y = true)) := by intro x y; cases x <;> cases y <;> rfl
  rw [e, decide_eq_decide]
  unfold subN subV
  simp only [sg, wrap32, Bool.and_eq_true, bne_iff_ne, ne_eq, decide_eq_decide, decide_eq_true_eq]
  omega
theorem subCond (a b : Int) (a0 : 0 ≤ a) (a1 : a < 4294967296) (b0 : 0 ≤ b) (b1 : b < 4294967296) :
    holdsL 1 (subZ a b) (subN a b) (subC a b) (subV a b) = (a == b) ∧ holdsL 2 (subZ a b) (subN a b) (subC a b) (subV a b) = (a != b) ∧
    holdsL 3 (subZ a b) (subN a b) (subC a b) (subV a b) = decide (wrap32 a < wrap32 b) ∧ holdsL 4 (subZ a b) (subN a b) (subC a b) (subV a b) = decide (wrap32 b ≤ wrap32 a) ∧
    holdsL 5 (subZ a b) (subN a b) (subC a b) (subV a b) = decide (wrap32 a ≤ wrap32 b) ∧ holdsL 6 (subZ a b) (subN a b) (subC a b) (subV a b) = decide (wrap32 b < wrap32 a) ∧
    holdsL 7 (subZ a b) (subN a b) (subC a b) (subV a b) = decide (a < b) ∧ holdsL 8 (subZ a b) (subN a b) (subC a b) (subV a b) = decide (b ≤ a) ∧
    holdsL 9 (subZ a b) (subN a b) (subC a b) (subV a b) = decide (a ≤ b) ∧ holdsL 10 (subZ a b) (subN a b) (subC a b) (subV a b) = decide (b < a) := by
  have ez := subZ_eq a b a0 a1 b0 b1
  have el := subLess a b a0 a1 b0 b1
  refine ⟨ez, ?_, el, ?_, ?_, ?_, rfl, ?_, ?_, ?_⟩
  · show (!subZ a b) = _; rw [ez]; rfl
  · show (!(subN a b != subV a b)) = _; rw [el, ← decide_not, decide_eq_decide]; omega
  · show (subZ a b || subN a b != subV a b) = _; rw [el, ez, Bool.eq_iff_iff]; simp only [Bool.or_eq_true, beq_iff_eq, decide_eq_true_eq, wrap32]; omega
  · show (!subZ a b && !(subN a b != subV a b)) = _; rw [el, ez, Bool.eq_iff_iff]; simp only [Bool.and_eq_true, Bool.not_eq_true', beq_eq_false_iff_ne, decide_eq_true_eq, decide_eq_false_iff_not, wrap32]; omega
  · show (!(decide (a < b))) = _; rw [← decide_not, decide_eq_decide]; omega
  · show (decide (a < b) || subZ a b) = _; rw [ez, Bool.eq_iff_iff]; simp only [Bool.or_eq_true, beq_iff_eq, decide_eq_true_eq]; omega
  · show (!(decide (a < b)) && !subZ a b) = _; rw [ez, Bool.eq_iff_iff]; simp only [Bool.and_eq_true, Bool.not_eq_true', beq_eq_false_iff_ne, decide_eq_true_eq, decide_eq_false_iff_not]; omega
set_option maxHeartbeats 2000000 in
theorem bitsFlags_walk (a : Int) (ha : 0 ≤ a ∧ a < 4294967296) (b : Int) (hb : 0 ≤ b ∧ b < 4294967296) (w : World) : Calls Try.prog 3 #[.int .u32 a, .int .u32 b] w (Ret (.bool true) w) := by
  obtain ⟨a0, a1⟩ := ha
  obtain ⟨b0, b1⟩ := hb
  obtain ⟨e1, e2, e3, e4, e5, e6, e7, e8, e9, e10⟩ := subCond a b a0 a1 b0 b1
  have x0 := holds_sub a b 0 true rfl
  have x1 := holds_sub a b 1 _ e1
  have x2 := holds_sub a b 2 _ e2
  have x3 := holds_sub a b 3 _ e3
  have x4 := holds_sub a b 4 _ e4
  have x5 := holds_sub a b 5 _ e5
  have x6 := holds_sub a b 6 _ e6
  have x7 := holds_sub a b 7 _ e7
  have x8 := holds_sub a b 8 _ e8
  have x9 := holds_sub a b 9 _ e9
  have x10 := holds_sub a b 10 _ e10
  clear e1 e2 e3 e4 e5 e6 e7 e8 e9 e10
  go_enter Try.func3, Try.ntmps3
  go_wp2_with (first | (go_at_call 12; (with_reducible refine (sub_any _ _ _ a0 a1 b0 b1).mono ?_); rintro e w1 ⟨rfl, hb1⟩; (have hs1 := hb1.size)) | (go_at_call 13; (first | (with_reducible refine (x0 _).mono ?_) | (with_reducible refine (x1 _).mono ?_) | (with_reducible refine (x2 _).mono ?_) | (with_reducible refine (x3 _).mono ?_) | (with_reducible refine (x4 _).mono ?_) | (with_reducible refine (x5 _).mono ?_) | (with_reducible refine (x6 _).mono ?_) | (with_reducible refine (x7 _).mono ?_) | (with_reducible refine (x8 _).mono ?_) | (with_reducible refine (x9 _).mono ?_) | (with_reducible refine (x10 _).mono ?_)); rintro e w2 ⟨rfl, hb2⟩; (first | (replace HB := HB.trans (hb2.mono HB.size)) | (have HB := hb2)); (try clear hc2 hf2); obtain ⟨hc2, hf2⟩ := bcell HB) | (go_at_call 14; (with_reducible refine (ex01_any _).mono ?_); rintro e w3 ⟨rfl, hb3⟩; replace HB := HB.trans (hb3.mono HB.size)))
  go_returns
  exact ⟨rfl, after (by go_grown) HB⟩
theorem bitsFlags_own : ownKnob Try.prog.godebug = none := by kernel_rfl
set_option maxRecDepth 100000 in
theorem bitsFlags_lifted (os : Os) (started : os.Started) (H : Type) (enc : TypeId × Value → H) :
    ReturnsInHanded {} Try.checked os 3 .any (Rows.bitsFlagsSpec.pre6 enc Try.prog Try.f3 Rows.bitsFlagsRow.domain false) (Rows.bitsFlagsSpec.post enc Try.prog Try.f3 false true false false) := by
  refine returnsInHanded_of_change (C := Try.checked) bitsFlags_own started (by kernel_rfl) Try.func3
    (ChangeSpec.witness6 (enc := enc) (C := Try.checked) false ⟨#[], #[.int .u32 0, .int .u32 0], []⟩ 8 (by kernel_rfl) (by kernel_rfl) (by kernel_rfl) (by kernel_rfl)) ?_
  intro W base args ds gs before hval0 hW hcnd _
  have hval : ∀ (j : Nat) t v, Try.f3.params[j]? = some t → args[j]? = some v → Value.okWide Try.prog W .any base t v := hval0
  have hW' := hW
  obtain ⟨p, q, hA0, hV, rfl, hfz, hnd⟩ := hW
  have hA : DataW.TrodAll enc Try.prog W 0 (fun _ => true) true Try.f3.params.toList args.toList ds p := hA0
  have hA1 := hA
  obtain ⟨rfl, rfl⟩ := trodVars_none hV
  rw [Try.params3] at hA hval
  obtain ⟨v0, vs0, d0, ds0, p0, q0, hargs, hd0, hp0, h0, r0⟩ := trodAll_cons hA
  obtain ⟨v1, vs1, d1, ds1, p1, q1, hv1, hd1, hp1, h1, r1⟩ := trodAll_cons r0
  obtain ⟨hvn, hdn, hpn⟩ := trodAll_nil r1
  subst hdn hd1 hd0
  obtain rfl : args = #[v0, v1] := by cases args; simp_all
  clear hargs hvn hv1
  obtain ⟨a0, rfl, _, _, w0⟩ := open_int Try.underlying22 (hval 0 22 v0 rfl rfl) h0
  obtain ⟨a1, rfl, _, _, w1⟩ := open_int Try.underlying22 (hval 1 22 v1 rfl rfl) h1
  simp only [List.append_nil] at hW'
  refine (bitsFlags_walk a0 (wf_u32 w0) a1 (wf_u32 w1) W).mono fun e W' hr => ?_
  obtain ⟨rfl, hb⟩ := hr
  exact ⟨_, rfl, post_of_below (pa := p) (pv := []) hW' (fun _ _ _ => (trodAll_cons_mk (shut_bool Try.underlying4 _) trodAll_mk0)) (fun sp hsp => trodAll_stays Try_laidOut hb _ _ _ _ (by kernel_rfl) hA1 (fun x hx => hW'.lt x hx) hsp) (fun _ _ => rfl) (by simp)
    hb (ok_one (by kernel_rfl) rfl (okWide_bool_mk Try.underlying4 _))⟩
theorem bitsFlags_over : Rows.bitsFlagsRow.holds Try.pinned (OpenSpec.ofChange Rows.bitsFlagsSpec) :=
  OpenClaim.holds_of_wide 3 Try.f3 rfl rfl rfl rfl rfl rfl rfl ⟨rfl, rfl, rfl, rfl, rfl⟩ rfl rfl rfl rfl rfl (by kernel_rfl) Try.func3 (by kernel_rfl)
    (of_decide_eq_true (by kernel_rfl)) (by unfold Func.isWrapper; first | (rw [if_pos (by decide +kernel)]; kernel_rfl) | (rw [if_neg (by decide +kernel)]; exact ⟨rfl, rfl⟩))
    (fun os started H enc _ => bitsFlags_lifted os started H enc)
/-- THE STATEMENT -/
theorem bitsFlags_proved : Rows.BitsFlagsSaid := bitsFlags_over
#print axioms bitsFlags_proved
end Go.Proofs.Ytdcpechhjfbipaa
