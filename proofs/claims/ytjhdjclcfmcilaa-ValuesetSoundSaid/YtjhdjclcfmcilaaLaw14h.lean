/-
  ValuesetSound: for all operators, sets and numbers the call returns true: Apply covers the result for every pair of a number in a and a number in b. No condition on the inputs.
-/
import Derived.Test.YtjhdjclcfmcilaaRows
import Derived.Test.YtjhdjclcfmcilaaEx14
import Derived.Test.YtjhdjclcfmcilaaVal25
namespace Go.Proofs.Ytjhdjclcfmcilaa
open Go.ChangeShapes Go.WideShapes Go.ChangeAt Go.RowKit
set_option linter.unusedVariables false
theorem Try_laidOut : laidOutB Try.prog = true := by kernel_rfl
set_option maxRecDepth 100000 in
set_option maxHeartbeats 4000000 in
theorem sound_core (op : Int) (a b : VSet) (x y V E : Int) (R : VSet) (ca cb cs : Bool) (H : Hid (E = 0 → ca = true → cb = true → cs = true)) (E0 : 0 ≤ E ∧ E ≤ 2)
    (z0 : ∀ w, Calls Try.prog 39 #[.int .i64 op, .int .u32 x, .int .u32 y] w (Ret (.tuple #[.int .u32 V, .int .i64 E]) w))
    (z1 : ∀ w, Calls Try.prog 37 #[.int .i64 op, a.val, b.val] w (Ret R.val w))
    (z2 : ∀ w, Calls Try.prog 25 #[a.val, .int .u32 x] w (Ret (.bool ca) w)) (z3 : ∀ w, Calls Try.prog 25 #[b.val, .int .u32 y] w (Ret (.bool cb) w))
    (z4 : ∀ w, Calls Try.prog 22 #[R.val] w (Ret (.bool true) w)) (z5 : ∀ w, Calls Try.prog 25 #[R.val, .int .u32 V] w (Ret (.bool cs) w)) (w : World) :
    Calls Try.prog 11 #[.int .i64 op, a.val, b.val, .int .u32 x, .int .u32 y] w (Ret (.bool true) w) := by
  have EC : E = 0 ∨ (E == 0) = false := by by_cases h : E = 0; exact .inl h; exact .inr (by rw [beq_eq_false_iff_ne]; exact h)
  rcases EC with rfl | hE
  all_goals
    go_enter Try.func11, Try.ntmps11
    go_wp2_with (first | (go_at_call 39; (with_reducible refine (z0 _).mono ?_); rintro e w1 ⟨rfl, hb1⟩; (have hA1 := ((Blk.new _ _ _).alloc _).call hb1); (have hB1 := (Blk.new _ _ _).call hb1); simp only [World.size_alloc] at hB1; obtain ⟨hcA, hfA⟩ := hA1.walk; obtain ⟨hcB, hfB⟩ := hB1.walk; (have hg1 := after (w := w) (by go_grown) hb1); (have hs1 := hg1.size); (have hz0 : w.heap.size < w1.heap.size := hA1.lt); (have hz1 : w.heap.size + 1 < w1.heap.size := hB1.lt)) | (go_at_call 37; (with_reducible refine (z1 _).mono ?_); rintro e w2 ⟨rfl, hb2⟩; (have hA2 := (hA1.call hb2).alloc (.cells R.cs 24)); (have hB2 := (hB1.call hb2).alloc (.cells R.cs 24)); (have hD2 := Blk.new w2 24 R.cs); (have hg2 := (after hg1 hb2).alloc (after hg1 hb2).size (.cells R.cs 24)); clear hcA hfA hcB hfB; obtain ⟨hcA, hfA⟩ := (hA1.call hb2).walk; obtain ⟨hcB, hfB⟩ := (hB1.call hb2).walk; (have hz2 : w.heap.size < w2.heap.size := (hA1.call hb2).lt); (have hz3 : w.heap.size + 1 < w2.heap.size := (hB1.call hb2).lt)) | (go_at_call 25; (with_reducible refine (z2 _).mono ?_); rintro e wk ⟨rfl, hb⟩; (first | (replace HB := after HB hb) | (have HB := hb)); clear hcA hfA hcB hfB; (try clear hcD hfD); obtain ⟨hcA, hfA⟩ := (hA2.call HB).walk; obtain ⟨hcB, hfB⟩ := (hB2.call HB).walk; obtain ⟨hcD, hfD⟩ := (hD2.call HB).walk) | (go_at_call 25; (with_reducible refine (z3 _).mono ?_); rintro e wk ⟨rfl, hb⟩; (first | (replace HB := after HB hb) | (have HB := hb)); clear hcA hfA hcB hfB; (try clear hcD hfD); obtain ⟨hcA, hfA⟩ := (hA2.call HB).walk; obtain ⟨hcB, hfB⟩ := (hB2.call HB).walk; obtain ⟨hcD, hfD⟩ := (hD2.call HB).walk) | (go_at_call 25; (with_reducible refine (z5 _).mono ?_); rintro e wk ⟨rfl, hb⟩; (first | (replace HB := after HB hb) | (have HB := hb)); clear hcA hfA hcB hfB; (try clear hcD hfD); obtain ⟨hcA, hfA⟩ := (hA2.call HB).walk; obtain ⟨hcB, hfB⟩ := (hB2.call HB).walk; obtain ⟨hcD, hfD⟩ := (hD2.call HB).walk) | (go_at_call 22; (with_reducible refine (z4 _).mono ?_); rintro e wk ⟨rfl, hb⟩; (first | (replace HB := after HB hb) | (have HB := hb)); clear hcA hfA hcB hfB; (try clear hcD hfD); obtain ⟨hcA, hfA⟩ := (hA2.call HB).walk; obtain ⟨hcB, hfB⟩ := (hB2.call HB).walk; obtain ⟨hcD, hfD⟩ := (hD2.call HB).walk) | (go_at_call 20; (with_reducible refine (ex14_any _).mono ?_); rintro e wk ⟨rfl, hb⟩; (first | (replace HB := after HB hb) | (have HB := hb)); clear hcA hfA hcB hfB; (try clear hcD hfD); obtain ⟨hcA, hfA⟩ := (hA2.call HB).walk; obtain ⟨hcB, hfB⟩ := (hB2.call HB).walk; obtain ⟨hcD, hfD⟩ := (hD2.call HB).walk))
    all_goals go_returns
    all_goals first | exact ⟨rfl, after hg2 HB⟩ | (exfalso; have h1 := H.out; simp_all)
theorem valuesetSound_walk (op : Int) (ho : -9223372036854775808 ≤ op ∧ op ≤ 9223372036854775807) (a : VSet) (ha : a.wf) (b : VSet) (hb : b.wf) (x : Int) (hx : 0 ≤ x ∧ x < 4294967296) (y : Int) (hy : 0 ≤ y ∧ y < 4294967296) (w : World) :
    Calls Try.prog 11 #[.int .i64 op, a.val, b.val, .int .u32 x, .int .u32 y] w (Ret (.bool true) w) := by
  have na := normL_wf ha
  have nb := normL_wf hb
  have va := normL_valid a
  have vb := normL_valid b
  have ok := applyN_ok op na nb va vb
  have v0 : ∀ w, Calls Try.prog 22 #[(applyL op a b).val] w (Ret (.bool true) w) := fun w => by
    have := valid_any (applyL op a b) ok.1 w
    rwa [show validL (applyL op a b) = true from ok.2] at this
  by_cases h : op < 3 ∨ 16 ≤ op
  · exact sound_core op a b x y 0 2 (applyL op a b) (containsL a x) (containsL b y) _ (hide (by omega)) (by omega) (apply_out op x y h) (apply_any op a b ha hb) (contains_any a ha x hx.1 hx.2) (contains_any b hb y hy.1 hy.2) v0 (contains_any _ ok.1 0 (by omega) (by omega)) w
  · have kb := applyK_bd (op - 3).toNat x y hx.1 hx.2 hy.1 hy.2
    refine sound_core op a b x y _ 0 (applyL op a b) (containsL a x) (containsL b y) _ (hide (fun _ h1 h2 => ?_)) (by omega) (apply_in op x y (by omega) (by omega) hx.1 hx.2 hy.1 hy.2) (apply_any op a b ha hb) (contains_any a ha x hx.1 hx.2) (contains_any b hb y hy.1 hy.2) v0 (contains_any _ ok.1 _ kb.1 kb.2) w
    unfold containsL
    rw [normL_of ok.2]
    exact apply_con op (by omega) (by omega) na nb va vb x y hx.1 hx.2 hy.1 hy.2 h1 h2
theorem valuesetSound_own : ownKnob Try.prog.godebug = none := by kernel_rfl
set_option maxRecDepth 100000 in
theorem valuesetSound_lifted (os : Os) (started : os.Started) (H : Type) (enc : TypeId × Value → H) :
    ReturnsInHanded {} Try.checked os 11 .any (Rows.valuesetSoundSpec.pre6 enc Try.prog Try.f11 Rows.valuesetSoundRow.domain false) (Rows.valuesetSoundSpec.post enc Try.prog Try.f11 false true false false) := by
  refine returnsInHanded_of_change (C := Try.checked) valuesetSound_own started (by kernel_rfl) Try.func11
    (ChangeSpec.witness6 (enc := enc) (C := Try.checked) false ⟨#[], #[.int .i64 0, .agg #[.bool false, .bool false, .int .u32 0, .int .u32 0, .int .u32 0], .agg #[.bool false, .bool false, .int .u32 0, .int .u32 0, .int .u32 0], .int .u32 0, .int .u32 0], []⟩ 8 (by kernel_rfl) (by kernel_rfl) (by kernel_rfl) (by kernel_rfl)) ?_
  intro W base args ds gs before hval0 hW hcnd _
  have hval : ∀ (j : Nat) t v, Try.f11.params[j]? = some t → args[j]? = some v → Value.okWide Try.prog W .any base t v := hval0
  have hW' := hW
  obtain ⟨p, q, hA0, hV, rfl, hfz, hnd⟩ := hW
  have hA : DataW.TrodAll enc Try.prog W 0 (fun _ => true) true Try.f11.params.toList args.toList ds p := hA0
  have hA1 := hA
  obtain ⟨rfl, rfl⟩ := trodVars_none hV
  rw [Try.params11] at hA hval
  obtain ⟨v0, vs0, d0, ds0, p0, q0, hargs, hd0, hp0, h0, r0⟩ := trodAll_cons hA
  obtain ⟨v1, vs1, d1, ds1, p1, q1, hv1, hd1, hp1, h1, r1⟩ := trodAll_cons r0
  obtain ⟨v2, vs2, d2, ds2, p2, q2, hv2, hd2, hp2, h2, r2⟩ := trodAll_cons r1
  obtain ⟨v3, vs3, d3, ds3, p3, q3, hv3, hd3, hp3, h3, r3⟩ := trodAll_cons r2
  obtain ⟨v4, vs4, d4, ds4, p4, q4, hv4, hd4, hp4, h4, r4⟩ := trodAll_cons r3
  obtain ⟨hvn, hdn, hpn⟩ := trodAll_nil r4
  subst hdn hd4 hd3 hd2 hd1 hd0
  obtain rfl : args = #[v0, v1, v2, v3, v4] := by cases args; simp_all
  clear hargs hvn hv1 hv2 hv3 hv4
  obtain ⟨a0, rfl, _, _, w0⟩ := open_int Try.underlying3 (hval 0 3 v0 rfl rfl) h0
  obtain ⟨cs1, rfl, l1⟩ := open_flat [none, none, some .u32, some .u32, some .u32] 5 Try.underlying24 (by kernel_rfl) (by kernel_rfl) (hval 1 24 v1 rfl rfl) h1
  obtain ⟨s1, hs1, rfl⟩ := leaves_set l1
  obtain ⟨cs2, rfl, l2⟩ := open_flat [none, none, some .u32, some .u32, some .u32] 5 Try.underlying24 (by kernel_rfl) (by kernel_rfl) (hval 2 24 v2 rfl rfl) h2
  obtain ⟨s2, hs2, rfl⟩ := leaves_set l2
  obtain ⟨a3, rfl, _, _, w3⟩ := open_int Try.underlying22 (hval 3 22 v3 rfl rfl) h3
  obtain ⟨a4, rfl, _, _, w4⟩ := open_int Try.underlying22 (hval 4 22 v4 rfl rfl) h4
  simp only [List.append_nil] at hW'
  refine (valuesetSound_walk a0 (wf_i64 w0) s1 hs1 s2 hs2 a3 (wf_u32 w3) a4 (wf_u32 w4) W).mono fun e W' hr => ?_
  obtain ⟨rfl, hb⟩ := hr
  exact ⟨_, rfl, post_of_below (pa := p) (pv := []) hW' (fun _ _ _ => (trodAll_cons_mk (shut_bool Try.underlying4 _) trodAll_mk0)) (fun sp hsp => trodAll_stays Try_laidOut hb _ _ _ _ (by kernel_rfl) hA1 (fun x hx => hW'.lt x hx) hsp) (fun _ _ => rfl) (by simp)
    hb (ok_one (by kernel_rfl) rfl (okWide_bool_mk Try.underlying4 _))⟩
theorem valuesetSound_over : Rows.valuesetSoundRow.holds Try.pinned (OpenSpec.ofChange Rows.valuesetSoundSpec) :=
  OpenClaim.holds_of_wide 11 Try.f11 rfl rfl rfl rfl rfl rfl rfl ⟨rfl, rfl, rfl, rfl, rfl⟩ rfl rfl rfl rfl rfl (by kernel_rfl) Try.func11 (by kernel_rfl)
    (of_decide_eq_true (by kernel_rfl)) (by unfold Func.isWrapper; first | (rw [if_pos (by decide +kernel)]; kernel_rfl) | (rw [if_neg (by decide +kernel)]; exact ⟨rfl, rfl⟩))
    (fun os started H enc _ => valuesetSound_lifted os started H enc)
/-- THE STATEMENT -/
theorem valuesetSound_proved : Rows.ValuesetSoundSaid := valuesetSound_over
#print axioms valuesetSound_proved
end Go.Proofs.Ytjhdjclcfmcilaa
