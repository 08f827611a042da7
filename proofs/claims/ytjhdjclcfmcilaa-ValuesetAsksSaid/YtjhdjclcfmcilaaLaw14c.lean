/-
  ValuesetAsks: for all sets a, b and numbers n the call returns true: Valid, Contains, Count and Within return what the reference returns. No condition on the inputs.
-/
import Derived.Test.YtjhdjclcfmcilaaRows
import Derived.Test.YtjhdjclcfmcilaaEx14
import Derived.Test.YtjhdjclcfmcilaaVal9
namespace Go.Proofs.Ytjhdjclcfmcilaa
open Go.ChangeShapes Go.WideShapes Go.ChangeAt Go.RowKit
set_option linter.unusedVariables false
theorem Try_laidOut : laidOutB Try.prog = true := by kernel_rfl
theorem Blk.new2 (w : World) (t : TypeId) (o : Obj) (cs : Array Value) : Blk ((w.alloc o).alloc (.cells cs t)) (w.heap.size + 1) t cs := by
  have := Blk.new (w.alloc o) t cs
  rwa [World.size_alloc] at this
set_option maxRecDepth 100000 in
set_option maxHeartbeats 4000000 in
theorem asks_core (a b : VSet) (n : Int) (v c t : Bool) (k : Int)
    (x1 : ∀ w, Calls Try.prog 22 #[a.val] w (Ret (.bool v) w)) (x2 : ∀ w, Calls Try.prog 24 #[a.val] w (Ret (.bool v) w))
    (x3 : ∀ w, Calls Try.prog 25 #[a.val, .int .u32 n] w (Ret (.bool c) w)) (x4 : ∀ w, Calls Try.prog 26 #[a.val, .int .u32 n] w (Ret (.bool c) w))
    (x5 : ∀ w, Calls Try.prog 27 #[a.val] w (Ret (.int .i64 k) w)) (x6 : ∀ w, Calls Try.prog 28 #[a.val] w (Ret (.int .i64 k) w))
    (x7 : ∀ w, Calls Try.prog 21 #[a.val, b.val] w (Ret (.bool t) w)) (x8 : ∀ w, Calls Try.prog 29 #[a.val, b.val] w (Ret (.bool t) w)) (w : World) :
    Calls Try.prog 6 #[a.val, b.val, .int .u32 n] w (Ret (.bool true) w) := by
  go_enter Try.func6, Try.ntmps6
  go_wp2_with fail
  go_region_held3 (fun w' => (∀ o, w'.cell? ⟨w.heap.size, o, none⟩ = (#[.bool a.e, .bool a.t, .int .u32 a.lo, .int .u32 a.hi, .int .u32 a.st] : Array Value)[o]?) ∧ (∀ o, w'.cell? ⟨w.heap.size + 1, o, none⟩ = (#[.bool b.e, .bool b.t, .int .u32 b.lo, .int .u32 b.hi, .int .u32 b.st] : Array Value)[o]?) ∧ w.heap.size < w'.heap.size ∧ w.heap.size + 1 < w'.heap.size ∧ Below w.heap.size w w')
    (first | exact ⟨(((Blk.new _ _ _).alloc _).drew).walk.1, ((Blk.new2 _ _ _ _).drew).walk.1, by simp; omega, by simp, by go_grown⟩ | (go_split_ands; exact ⟨fun o => ((bcell hb2).1 _ _ (by assumption)).trans (by apply_assumption), fun o => ((bcell hb2).1 _ _ (by assumption)).trans (by apply_assumption), by have := hb2.size; omega, by have := hb2.size; omega, after (by assumption) hb2⟩))
    (first | (go_at_call 22; (with_reducible refine (x1 _).mono ?_); rintro e w2 ⟨rfl, hb2⟩) | (go_at_call 24; (with_reducible refine (x2 _).mono ?_); rintro e w2 ⟨rfl, hb2⟩) | (go_at_call 25; (with_reducible refine (x3 _).mono ?_); rintro e w2 ⟨rfl, hb2⟩) | (go_at_call 26; (with_reducible refine (x4 _).mono ?_); rintro e w2 ⟨rfl, hb2⟩) | (go_at_call 27; (with_reducible refine (x5 _).mono ?_); rintro e w2 ⟨rfl, hb2⟩) | (go_at_call 28; (with_reducible refine (x6 _).mono ?_); rintro e w2 ⟨rfl, hb2⟩) | (go_at_call 21; (with_reducible refine (x7 _).mono ?_); rintro e w2 ⟨rfl, hb2⟩) | (go_at_call 29; (with_reducible refine (x8 _).mono ?_); rintro e w2 ⟨rfl, hb2⟩) | (go_at_call 20; (with_reducible refine (ex14_any _).mono ?_); rintro e w2 ⟨rfl, hb2⟩))
  go_split_ands
  go_wp2
  go_returns
  exact ⟨rfl, by assumption⟩
theorem valuesetAsks_walk (a : VSet) (ha : a.wf) (b : VSet) (hb : b.wf) (n : Int) (hn : 0 ≤ n ∧ n < 4294967296) (w : World) :
    Calls Try.prog 6 #[a.val, b.val, .int .u32 n] w (Ret (.bool true) w) :=
  asks_core a b n (validL a) (containsL a n) (withinL a b) (countL a) (valid_any a ha) (rvalid_any a ha) (contains_any a ha n hn.1 hn.2) (rcontains_any a ha n hn.1 hn.2) (count_any a ha) (rcount_any a ha) (within_any a b ha hb) (rwithin_any a b ha hb) w
theorem valuesetAsks_own : ownKnob Try.prog.godebug = none := by kernel_rfl
set_option maxRecDepth 100000 in
theorem valuesetAsks_lifted (os : Os) (started : os.Started) (H : Type) (enc : TypeId × Value → H) :
    ReturnsInHanded {} Try.checked os 6 .any (Rows.valuesetAsksSpec.pre6 enc Try.prog Try.f6 Rows.valuesetAsksRow.domain false) (Rows.valuesetAsksSpec.post enc Try.prog Try.f6 false true false false) := by
  refine returnsInHanded_of_change (C := Try.checked) valuesetAsks_own started (by kernel_rfl) Try.func6
    (ChangeSpec.witness6 (enc := enc) (C := Try.checked) false ⟨#[], #[.agg #[.bool false, .bool false, .int .u32 0, .int .u32 0, .int .u32 0], .agg #[.bool false, .bool false, .int .u32 0, .int .u32 0, .int .u32 0], .int .u32 0], []⟩ 8 (by kernel_rfl) (by kernel_rfl) (by kernel_rfl) (by kernel_rfl)) ?_
  intro W base args ds gs before hval0 hW hcnd _
  have hval : ∀ (j : Nat) t v, Try.f6.params[j]? = some t → args[j]? = some v → Value.okWide Try.prog W .any base t v := hval0
  have hW' := hW
  obtain ⟨p, q, hA0, hV, rfl, hfz, hnd⟩ := hW
  have hA : DataW.TrodAll enc Try.prog W 0 (fun _ => true) true Try.f6.params.toList args.toList ds p := hA0
  have hA1 := hA
  obtain ⟨rfl, rfl⟩ := trodVars_none hV
  rw [Try.params6] at hA hval
  obtain ⟨v0, vs0, d0, ds0, p0, q0, hargs, hd0, hp0, h0, r0⟩ := trodAll_cons hA
  obtain ⟨v1, vs1, d1, ds1, p1, q1, hv1, hd1, hp1, h1, r1⟩ := trodAll_cons r0
  obtain ⟨v2, vs2, d2, ds2, p2, q2, hv2, hd2, hp2, h2, r2⟩ := trodAll_cons r1
  obtain ⟨hvn, hdn, hpn⟩ := trodAll_nil r2
  subst hdn hd2 hd1 hd0
  obtain rfl : args = #[v0, v1, v2] := by cases args; simp_all
  clear hargs hvn hv1 hv2
  obtain ⟨cs0, rfl, l0⟩ := open_flat [none, none, some .u32, some .u32, some .u32] 5 Try.underlying24 (by kernel_rfl) (by kernel_rfl) (hval 0 24 v0 rfl rfl) h0
  obtain ⟨s0, hs0, rfl⟩ := leaves_set l0
  obtain ⟨cs1, rfl, l1⟩ := open_flat [none, none, some .u32, some .u32, some .u32] 5 Try.underlying24 (by kernel_rfl) (by kernel_rfl) (hval 1 24 v1 rfl rfl) h1
  obtain ⟨s1, hs1, rfl⟩ := leaves_set l1
  obtain ⟨a2, rfl, _, _, w2⟩ := open_int Try.underlying22 (hval 2 22 v2 rfl rfl) h2
  simp only [List.append_nil] at hW'
  refine (valuesetAsks_walk s0 hs0 s1 hs1 a2 (wf_u32 w2) W).mono fun e W' hr => ?_
  obtain ⟨rfl, hb⟩ := hr
  exact ⟨_, rfl, post_of_below (pa := p) (pv := []) hW' (fun _ _ _ => (trodAll_cons_mk (shut_bool Try.underlying4 _) trodAll_mk0)) (fun sp hsp => trodAll_stays Try_laidOut hb _ _ _ _ (by kernel_rfl) hA1 (fun x hx => hW'.lt x hx) hsp) (fun _ _ => rfl) (by simp)
    hb (ok_one (by kernel_rfl) rfl (okWide_bool_mk Try.underlying4 _))⟩
theorem valuesetAsks_over : Rows.valuesetAsksRow.holds Try.pinned (OpenSpec.ofChange Rows.valuesetAsksSpec) :=
  OpenClaim.holds_of_wide 6 Try.f6 rfl rfl rfl rfl rfl rfl rfl ⟨rfl, rfl, rfl, rfl, rfl⟩ rfl rfl rfl rfl rfl (by kernel_rfl) Try.func6 (by kernel_rfl)
    (of_decide_eq_true (by kernel_rfl)) (by unfold Func.isWrapper; first | (rw [if_pos (by decide +kernel)]; kernel_rfl) | (rw [if_neg (by decide +kernel)]; exact ⟨rfl, rfl⟩))
    (fun os started H enc _ => valuesetAsks_lifted os started H enc)
/-- THE STATEMENT -/
theorem valuesetAsks_proved : Rows.ValuesetAsksSaid := valuesetAsks_over
#print axioms valuesetAsks_proved
end Go.Proofs.Ytjhdjclcfmcilaa
