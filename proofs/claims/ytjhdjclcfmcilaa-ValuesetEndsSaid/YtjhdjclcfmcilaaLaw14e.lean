/-
  ValuesetEnds: for every list of sets the call returns true: a sequence in which each set is Widen of the preceding one and the next of the given sets covers both and changes at most 100 times. No condition on the inputs.
-/
import Derived.Test.YtjhdjclcfmcilaaRows
import Derived.Test.YtjhdjclcfmcilaaEx14
import Derived.Test.YtjhdjclcfmcilaaPl14b
import Derived.Test.YtjhdjclcfmcilaaArr
import Derived.Deep.LoopGhost
import Derived.StillTailTactics
namespace Go.Proofs.Ytjhdjclcfmcilaa
open Go.ChangeShapes Go.WideShapes Go.ChangeAt Go.RowKit
set_option linter.unusedVariables false
theorem Try_laidOut : laidOutB Try.prog = true := by kernel_rfl
theorem region_still {P : Program} {id : Nat} {Q : Exit → Act → World → Prop} {a : Act} {w : World} {l : List Oper} (n : Nat) (hm : P.follows .mixedOrders = true) (hB : Region.lexTailB .any l.toArray n = true)
    (h : wpStill P l.toArray w.drew (fun a' => wpList P l.toArray Q (l.drop n) a' w.drew) (l.take n) a) : (Code.region id l.toArray true).wp P Q a w := wp_region_still_tail n hm hB h
theorem ends_facts {s v J : VSet} (hs : s.wf ∧ validL s = true) (hv : v.wf) (hJ : J = widenL s v) : J.wf ∧ validL J = true ∧ withinL s J = true ∧ withinL v J = true := by
  have nv := normL_wf hv
  have vv := normL_valid v
  have e : J = widenN s (normL v) := by rw [hJ]; unfold widenL; rw [normL_of hs.2]
  have h1 := widenN_wf hs.1 nv hs.2 vv
  have h2 := widenN_valid hs.1 nv hs.2 vv
  have h3 := widen_within hs.1 nv hs.2 vv
  rw [← e] at h1 h2 h3
  refine ⟨h1, h2, ?_, ?_⟩
  · unfold withinL; rw [normL_of hs.2, normL_of h2]; exact h3.2.1
  · unfold withinL; rw [normL_of h2]; exact h3.2.2
theorem setsAt_put {w : World} {A : Option Addr} {len g : Nat} {S : Nat → VSet} (h : SetsAt w A len S) (hA : ∀ ad, A = some ad → ad.block < g) (s : VSet) : SetsAt (World.put w g s) A len S := fun i hi => by
  obtain ⟨h1, ad, e, h2, h3⟩ := h i hi
  have hb : Below g w (World.put w g s) := below_put ⟨rfl, rfl, rfl, Nat.le_refl _, fun _ _ => rfl⟩ (Nat.le_refl _) s
  exact ⟨h1, ad, e, by simpa using h2, h3.below hb (by rw [block_of_add]; exact hA ad e)⟩
set_option maxRecDepth 100000 in
set_option maxHeartbeats 4000000 in
theorem ends_few (A : Option Addr) (len cap : Nat) (hl : len ≤ 20) (S : Nat → VSet) (w : World) (hS : SetsAt w A len S) :
    Calls Try.prog 5 #[.slice A len cap] w (Ret (.bool true) w) := by
  have hzA' : 0 < len → ∀ ad, A = some ad → ad.block < w.heap.size := fun h ad e => by
    obtain ⟨_, ad', e', hb, _⟩ := hS 0 h
    rw [e] at e'
    injection e' with e'
    rw [e']; exact hb
  have HZA := hide hzA'
  clear hzA'
  go_enter Try.func5, Try.ntmps5
  go_wp2_with (go_at_call 18; (with_reducible refine (empty_any _).mono ?_); rintro e w1 ⟨rfl, hb1⟩; (have hS1 := hS.below hb1))
  have hD := Blk.new w1 24 emptyV.cs
  have hg := hb1.alloc hb1.size (.cells emptyV.cs 24)
  have hz : w.heap.size ≤ w1.heap.size := hb1.size
  have hS2 := hS1.below ((Below.refl w1.heap.size w1).alloc (Nat.le_refl _) (.cells emptyV.cs 24))
  clear hS hS1 hb1
  go_loopg [4, 5] 4 (fun g s4 s5 wr => ∃ (r n : Int) (s : VSet), Hid (r + g = 4) ∧ 0 ≤ r ∧ r ≤ 4 ∧ s5 = .int .i64 r ∧ s4 = .int .i64 n ∧ 0 ≤ n ∧ n ≤ 20 * r ∧ Hid (s.wf ∧ validL s = true) ∧ Blk wr w1.heap.size 24 s.cs ∧ SetsAt wr A len S ∧ Below w.heap.size w wr)
  case atStart => exact ⟨0, 0, emptyV, hide (by omega), by omega, by omega, rfl, rfl, by omega, by omega, hide ⟨emptyV_wf, rfl⟩, hD, hS2, hg⟩
  case round =>
    obtain ⟨r, n, s, hr, r0, r1, rfl, rfl, n0, n1, hs, hD, hS2, hg⟩ := hrel
    by_cases hlt : r < 4
    · go_wp2_with fail
      obtain ⟨wo, hwo⟩ : ∃ wo : World, wo = wr := ⟨_, rfl⟩
      go_loopg [4, 6] len (fun g s4 s6 wr => ∃ (k : Nat) (q n : Int) (s : VSet), Hid (k + g = len) ∧ k ≤ len ∧ Hid (q = k) ∧ s6 = .int .i64 q ∧ s4 = .int .i64 n ∧ 0 ≤ n ∧ n ≤ 20 * r + q ∧ Hid (s.wf ∧ validL s = true) ∧ Blk wr w1.heap.size 24 s.cs ∧ SetsAt wr A len S ∧ Below w.heap.size w wr)
      case atStart => exact ⟨0, 0, n, s, hide (by omega), by omega, hide rfl, rfl, rfl, n0, by omega, hs, hD, hS2, hg⟩
      case round =>
        clear hD hS2 hg hs n0 n1
        obtain ⟨k, q, n, s, hkg, hk, hq, rfl, rfl, n0, n1, hs, hD, hS2, hg⟩ := hrel
        by_cases hkl : k < len
        · have q0 : q = (k : Int) := hq.out
          clear hq
          subst q0
          have hzA : ∀ ad, A = some ad → ad.block < w1.heap.size := fun ad e => Nat.lt_of_lt_of_le (HZA.out (by omega) ad e) hz
          obtain ⟨hw, ad, rfl, hab', hv⟩ := hS2 k hkl
          have hab : (ad.add (k * 5)).block < wr.heap.size := by rw [block_of_add]; exact hab'
          generalize hv' : S k = v at *
          have HV := hide hv'
          clear hv' hab'
          obtain ⟨hcd, hfd⟩ := hD.walk
          have hzd := hD.lt
          obtain ⟨J, hJ⟩ : ∃ J, J = widenL s v := ⟨_, rfl⟩
          have hs0 := hs.out
          have z1 := widen_any s v hs0.1 hw
          rw [← hJ] at z1
          have HJ := hide hJ
          clear hJ hs0
          have kk : ((k : Int)).toNat = k := Int.toNat_natCast k
          have mkS : ∀ w', Below wr.heap.size wr w' → (Below wr.heap.size wr w' ∧ (∀ o, w'.cell? ⟨w1.heap.size, o, none⟩ = (#[.bool s.e, .bool s.t, .int .u32 s.lo, .int .u32 s.hi, .int .u32 s.st] : Array Value)[o]?) ∧ w'.cell? (ad.add (k * 5)) = some (.bool v.e) ∧ w'.cell? ⟨(ad.add (k * 5)).block, (ad.add (k * 5)).off + 1, none⟩ = some (.bool v.t) ∧ w'.cell? ⟨(ad.add (k * 5)).block, (ad.add (k * 5)).off + 2, none⟩ = some (.int .u32 v.lo) ∧ w'.cell? ⟨(ad.add (k * 5)).block, (ad.add (k * 5)).off + 3, none⟩ = some (.int .u32 v.hi) ∧ w'.cell? ⟨(ad.add (k * 5)).block, (ad.add (k * 5)).off + 4, none⟩ = some (.int .u32 v.st)) := fun w' hb =>
            ⟨hb, fun o => (hD.call hb).walk.1 o, (hv.below hb hab).1, (hv.below hb hab).2.1, (hv.below hb hab).2.2.1, (hv.below hb hab).2.2.2.1, (hv.below hb hab).2.2.2.2⟩
          go_upto_region 11 with fail
          go_cut [7] (fun s7 wx => ∃ E, s7 = .pointer (some ⟨E, 0, none⟩) ∧ w1.heap.size < E ∧ Blk wx E 24 J.cs ∧ Below wr.heap.size wr wx)
          case first =>
            go_region_held3 (fun w' => Below wr.heap.size wr w' ∧ (∀ o, w'.cell? ⟨w1.heap.size, o, none⟩ = (#[.bool s.e, .bool s.t, .int .u32 s.lo, .int .u32 s.hi, .int .u32 s.st] : Array Value)[o]?) ∧ w'.cell? (ad.add (k * 5)) = some (.bool v.e) ∧ w'.cell? ⟨(ad.add (k * 5)).block, (ad.add (k * 5)).off + 1, none⟩ = some (.bool v.t) ∧ w'.cell? ⟨(ad.add (k * 5)).block, (ad.add (k * 5)).off + 2, none⟩ = some (.int .u32 v.lo) ∧ w'.cell? ⟨(ad.add (k * 5)).block, (ad.add (k * 5)).off + 3, none⟩ = some (.int .u32 v.hi) ∧ w'.cell? ⟨(ad.add (k * 5)).block, (ad.add (k * 5)).off + 4, none⟩ = some (.int .u32 v.st))
              (first | exact mkS _ (by go_grown) | exact mkS _ hB3 | exact mkS _ (hB3.alloc hB3.size _) | exact mkS _ (below_put hB3 (Nat.le_refl _) J))
              (first | (go_at_call 23; (with_reducible refine (z1 _).mono ?_); rintro e w3 ⟨rfl, hb3⟩; (have hB3 := after (w := wr) (by go_grown) hb3); (have hsz3 := hB3.size); (try (have hE3 : Blk w3 wr.heap.size 24 zeroV.cs := (Blk.new wr.drew 24 zeroV.cs).call hb3); obtain ⟨hce, hfe⟩ := hE3.walk)))
            all_goals (go_wp2_with fail; go_meet)
            all_goals first
              | exact ⟨wr.heap.size, rfl, hzd, Blk.put (a := zeroV) hE3 J, below_put hB3 (Nat.le_refl _) J⟩
              | exact ⟨w3.heap.size, rfl, by omega, Blk.new _ _ _, hB3.alloc hB3.size _⟩
          obtain ⟨E, rfl, hzE, hE, hg3⟩ := hcut
          have hD3 := hD.call hg3
          have hS3 := hS2.below hg3
          have hv3 := hv.below hg3 hab
          have hab3 : (ad.add (k * 5)).block < wc.heap.size := Nat.lt_of_lt_of_le hab hg3.size
          have hg4 := after hg hg3
          obtain ⟨hJ1, hJ2, hJ3, hJ4⟩ := ends_facts hs.out hw HJ.out
          have z2 := within_any s J hs.out.1 hJ1
          have z3 := within_any v J hw hJ1
          rw [hJ3] at z2
          rw [hJ4] at z3
          clear hJ3 hJ4 mkS hcd hfd hD hS2 hv hg
          have mkS : ∀ w', Below wc.heap.size wc w' → (Below wc.heap.size wc w' ∧ (∀ o, w'.cell? ⟨w1.heap.size, o, none⟩ = (#[.bool s.e, .bool s.t, .int .u32 s.lo, .int .u32 s.hi, .int .u32 s.st] : Array Value)[o]?) ∧ (∀ o, w'.cell? ⟨E, o, none⟩ = (#[.bool J.e, .bool J.t, .int .u32 J.lo, .int .u32 J.hi, .int .u32 J.st] : Array Value)[o]?) ∧ w'.cell? (ad.add (k * 5)) = some (.bool v.e) ∧ w'.cell? ⟨(ad.add (k * 5)).block, (ad.add (k * 5)).off + 1, none⟩ = some (.bool v.t) ∧ w'.cell? ⟨(ad.add (k * 5)).block, (ad.add (k * 5)).off + 2, none⟩ = some (.int .u32 v.lo) ∧ w'.cell? ⟨(ad.add (k * 5)).block, (ad.add (k * 5)).off + 3, none⟩ = some (.int .u32 v.hi) ∧ w'.cell? ⟨(ad.add (k * 5)).block, (ad.add (k * 5)).off + 4, none⟩ = some (.int .u32 v.st)) := fun w' hb =>
            ⟨hb, fun o => (hD3.call hb).walk.1 o, fun o => (hE.call hb).walk.1 o, (hv3.below hb hab3).1, (hv3.below hb hab3).2.1, (hv3.below hb hab3).2.2.1, (hv3.below hb hab3).2.2.2.1, (hv3.below hb hab3).2.2.2.2⟩
          have qq := run_neq_set J s
          go_upto_region 12 with fail
          go_cut [41] (fun s41 wx => s41 = .bool false ∧ Below wc.heap.size wc wx)
          case first =>
            go_region_held3 (fun w' => Below wc.heap.size wc w' ∧ (∀ o, w'.cell? ⟨w1.heap.size, o, none⟩ = (#[.bool s.e, .bool s.t, .int .u32 s.lo, .int .u32 s.hi, .int .u32 s.st] : Array Value)[o]?) ∧ (∀ o, w'.cell? ⟨E, o, none⟩ = (#[.bool J.e, .bool J.t, .int .u32 J.lo, .int .u32 J.hi, .int .u32 J.st] : Array Value)[o]?) ∧ w'.cell? (ad.add (k * 5)) = some (.bool v.e) ∧ w'.cell? ⟨(ad.add (k * 5)).block, (ad.add (k * 5)).off + 1, none⟩ = some (.bool v.t) ∧ w'.cell? ⟨(ad.add (k * 5)).block, (ad.add (k * 5)).off + 2, none⟩ = some (.int .u32 v.lo) ∧ w'.cell? ⟨(ad.add (k * 5)).block, (ad.add (k * 5)).off + 3, none⟩ = some (.int .u32 v.hi) ∧ w'.cell? ⟨(ad.add (k * 5)).block, (ad.add (k * 5)).off + 4, none⟩ = some (.int .u32 v.st))
              (first | exact mkS _ (by go_grown) | exact mkS _ HB)
              (first | (go_at_call 21; (first | (with_reducible refine (z2 _).mono ?_) | (with_reducible refine (z3 _).mono ?_)); rintro e w4 ⟨rfl, hb4⟩; (first | (replace HB := after HB hb4) | (have HB := after (w := wc) (by go_grown) hb4))))
            go_wp2_with fail
            go_meet
            exact ⟨rfl, HB⟩
          obtain ⟨rfl, HB⟩ := hcut
          have hD4 := hD3.call HB
          have hE4 := hE.call HB
          have hS4 := hS3.below HB
          have hg5 := after hg4 HB
          clear hD3 hE hS3 hv3 hg4 mkS
          obtain ⟨hcd, hfd⟩ := hD4.walk
          obtain ⟨hce, hfe⟩ := hE4.walk
          have hzd4 := hD4.lt
          have hze4 := hE4.lt
          go_wp2_with fail
          all_goals
            go_roundg (len - (k + 1))
            case measure => have := hkg.out; omega
            case rel => exact ⟨k + 1, (k : Int) + 1, _, J, hide (by have := hkg.out; omega), by omega, hide (by omega), by go_num, rfl, by omega, by omega, hide ⟨hJ1, hJ2⟩, hD4.put (a := s) J, setsAt_put hS4 hzA J, below_put hg5 hz J⟩
        · have q0 : q = (len : Int) := by have := hq.out; omega
          have hr' := hr.out
          clear hq
          subst q0
          go_wp2_with fail
          go_roundg (3 - r).toNat
          case measure => omega
          case rel => exact ⟨r + 1, n, s, hide (by omega), by omega, by omega, by go_num, rfl, n0, by omega, hs, hD, hS2, hg⟩
    · obtain ⟨hcd, hfd⟩ := hD.walk
      go_wp2_with (go_at_call 20; (with_reducible refine (ex14_any _).mono ?_); rintro e w3 ⟨rfl, hb3⟩; (have hg3 := after hg hb3))
      go_returns
      exact ⟨rfl, hg3⟩
theorem ends_many (A : Option Addr) (len cap : Nat) (hl : 20 < len) (hm : len ≤ maxLen) (w : World) :
    Calls Try.prog 5 #[.slice A len cap] w (Ret (.bool true) w) := by
  unfold maxLen at hm
  go_enter Try.func5, Try.ntmps5
  go_wp2_with (go_at_call 20; (with_reducible refine (ex14_any _).mono ?_); rintro e w3 ⟨rfl, hb3⟩)
  go_returns
  exact ⟨rfl, hb3⟩
theorem valuesetEnds_walk (A : Option Addr) (len cap : Nat) (hm : len ≤ maxLen) (w : World) (h : ∀ i, i < len → ∃ ad cs, A = some ad ∧ LeavesAre [none, none, some .u32, some .u32, some .u32] cs ∧ ∀ j u, cs[j]? = some u → w.cell? (ad.add (i * 5 + j)) = some u) :
    Calls Try.prog 5 #[.slice A len cap] w (Ret (.bool true) w) := by
  by_cases hl : len ≤ 20
  · obtain ⟨S, hS⟩ := sets_at h
    exact ends_few A len cap hl S w hS
  · exact ends_many A len cap (by omega) hm w
theorem valuesetEnds_own : ownKnob Try.prog.godebug = none := by kernel_rfl
set_option maxRecDepth 100000 in
theorem valuesetEnds_lifted (os : Os) (started : os.Started) (H : Type) (enc : TypeId × Value → H) :
    ReturnsInHanded {} Try.checked os 5 .any (Rows.valuesetEndsSpec.pre6 enc Try.prog Try.f5 Rows.valuesetEndsRow.domain false) (Rows.valuesetEndsSpec.post enc Try.prog Try.f5 false true false false) := by
  refine returnsInHanded_of_change (C := Try.checked) valuesetEnds_own started (by kernel_rfl) Try.func5
    (ChangeSpec.witness6 (enc := enc) (C := Try.checked) false ⟨#[], #[.slice none 0 0], []⟩ 8 (by kernel_rfl) (by kernel_rfl) (by kernel_rfl) (by kernel_rfl)) ?_
  intro W base args ds gs before hval0 hW hcnd _
  have hval : ∀ (j : Nat) t v, Try.f5.params[j]? = some t → args[j]? = some v → Value.okWide Try.prog W .any base t v := hval0
  have hW' := hW
  obtain ⟨p, q, hA0, hV, rfl, hfz, hnd⟩ := hW
  have hA : DataW.TrodAll enc Try.prog W 0 (fun _ => true) true Try.f5.params.toList args.toList ds p := hA0
  have hA1 := hA
  obtain ⟨rfl, rfl⟩ := trodVars_none hV
  rw [Try.params5] at hA hval
  obtain ⟨v0, vs0, d0, ds0, p0, q0, hargs, hd0, hp0, h0, r0⟩ := trodAll_cons hA
  obtain ⟨hvn, hdn, hpn⟩ := trodAll_nil r0
  subst hdn hd0
  obtain rfl : args = #[v0] := by cases args; simp_all
  clear hargs hvn 
  obtain ⟨A0, n0, c0, rfl, l0, r0⟩ := open_rows [none, none, some .u32, some .u32, some .u32] 5 Try.underlying33 (by kernel_rfl) (by kernel_rfl) (hval 0 33 v0 rfl rfl) h0
  simp only [List.append_nil] at hW'
  refine (valuesetEnds_walk A0 n0 c0 l0 W r0).mono fun e W' hr => ?_
  obtain ⟨rfl, hb⟩ := hr
  exact ⟨_, rfl, post_of_below (pa := p) (pv := []) hW' (fun _ _ _ => (trodAll_cons_mk (shut_bool Try.underlying4 _) trodAll_mk0)) (fun sp hsp => trodAll_stays Try_laidOut hb _ _ _ _ (by kernel_rfl) hA1 (fun x hx => hW'.lt x hx) hsp) (fun _ _ => rfl) (by simp)
    hb (ok_one (by kernel_rfl) rfl (okWide_bool_mk Try.underlying4 _))⟩
theorem valuesetEnds_over : Rows.valuesetEndsRow.holds Try.pinned (OpenSpec.ofChange Rows.valuesetEndsSpec) :=
  OpenClaim.holds_of_wide 5 Try.f5 rfl rfl rfl rfl rfl rfl rfl ⟨rfl, rfl, rfl, rfl, rfl⟩ rfl rfl rfl rfl rfl (by kernel_rfl) Try.func5 (by kernel_rfl)
    (of_decide_eq_true (by kernel_rfl)) (by unfold Func.isWrapper; first | (rw [if_pos (by decide +kernel)]; kernel_rfl) | (rw [if_neg (by decide +kernel)]; exact ⟨rfl, rfl⟩))
    (fun os started H enc _ => valuesetEnds_lifted os started H enc)
/-- THE STATEMENT -/
theorem valuesetEnds_proved : Rows.ValuesetEndsSaid := valuesetEnds_over
#print axioms valuesetEnds_proved
end Go.Proofs.Ytjhdjclcfmcilaa
