/-
  ValuesetCombines: for all sets a and b the call returns true: Join, Meet and Widen return what the reference returns. No condition on the inputs.
-/
import Derived.Test.YtjhdjclcfmcilaaRows
import Derived.Test.YtjhdjclcfmcilaaEx14
import Derived.Test.YtjhdjclcfmcilaaVal10
import Derived.Test.YtjhdjclcfmcilaaVal11
import Derived.Test.YtjhdjclcfmcilaaVal14
import Derived.Test.YtjhdjclcfmcilaaVal22
import Derived.Test.YtjhdjclcfmcilaaSx11
namespace Go.Proofs.Ytjhdjclcfmcilaa
open Go.ChangeShapes Go.WideShapes Go.ChangeAt Go.RowKit
set_option linter.unusedVariables false
set_option linter.unusedSimpArgs false
set_option maxRecDepth 100000
theorem Try_laidOut : laidOutB Try.prog = true := by kernel_rfl
theorem d14_mixed : Try.prog.follows .mixedOrders = true := by kernel_rfl
theorem join_any3 (a b : VSet) (h : a.wf ∧ b.wf) (w : World) : Calls Try.prog 32 #[a.val, b.val] w (Ret (joinL a b).val w) := join_any a b h.1 h.2 w
theorem widen_any3 (a b : VSet) (h : a.wf ∧ b.wf) (w : World) : Calls Try.prog 23 #[a.val, b.val] w (Ret (widenL a b).val w) := widen_any a b h.1 h.2 w
theorem meet_any3 (a b : VSet) (h : a.wf ∧ b.wf) (w : World) : Calls Try.prog 34 #[a.val, b.val] w (Ret (meetL a b).val w) := meet_any a b h.1 h.2 w
theorem rjoin_any3 (a b : VSet) (h : a.wf ∧ b.wf) (w : World) : Calls Try.prog 33 #[a.val, b.val] w (Ret (joinL a b).val w) := rjoin_any a b h.1 h.2 w
theorem rwiden_any3 (a b : VSet) (h : a.wf ∧ b.wf) (w : World) : Calls Try.prog 36 #[a.val, b.val] w (Ret (widenL a b).val w) := rwiden_any a b h.1 h.2 w
theorem rmeet_any3 (a b : VSet) (h : a.wf ∧ b.wf) (w : World) : Calls Try.prog 35 #[a.val, b.val] w (Ret (meetL a b).val w) := rmeet_any a b h.1 h.2 w
def d14_join : Con Try.prog := .mk' ⟨32, [.a setK, .a setK], .a setK, true⟩
  (fun ads => match ads with | [d1, d2] => (setD d1).wf ∧ (setD d2).wf | _ => False)
  (fun ads => match ads with | [d1, d2] => setInt (joinL (setD d1) (setD d2)) | _ => fun _ => 0)
  (fun ads => match ads with | [d1, d2] => setBool (joinL (setD d1) (setD d2)) | _ => fun _ => false)
  ⟨_, Try.func32, by kernel_rfl, by kernel_rfl⟩ (fun ads w hf hp => by
    obtain ⟨d1, _, rfl, f1, hf⟩ := fits_cons hf
    obtain ⟨d2, _, rfl, f2, hf⟩ := fits_cons hf
    obtain rfl := fits_nil hf
    show Calls _ _ #[d1.val, d2.val] w _
    rw [fits_set f1, fits_set f2]
    exact join_any3 (setD d1) (setD d2) hp w)
def d14_widen : Con Try.prog := .mk' ⟨23, [.a setK, .a setK], .a setK, true⟩
  (fun ads => match ads with | [d1, d2] => (setD d1).wf ∧ (setD d2).wf | _ => False)
  (fun ads => match ads with | [d1, d2] => setInt (widenL (setD d1) (setD d2)) | _ => fun _ => 0)
  (fun ads => match ads with | [d1, d2] => setBool (widenL (setD d1) (setD d2)) | _ => fun _ => false)
  ⟨_, Try.func23, by kernel_rfl, by kernel_rfl⟩ (fun ads w hf hp => by
    obtain ⟨d1, _, rfl, f1, hf⟩ := fits_cons hf
    obtain ⟨d2, _, rfl, f2, hf⟩ := fits_cons hf
    obtain rfl := fits_nil hf
    show Calls _ _ #[d1.val, d2.val] w _
    rw [fits_set f1, fits_set f2]
    exact widen_any3 (setD d1) (setD d2) hp w)
def d14_meet : Con Try.prog := .mk' ⟨34, [.a setK, .a setK], .a setK, true⟩
  (fun ads => match ads with | [d1, d2] => (setD d1).wf ∧ (setD d2).wf | _ => False)
  (fun ads => match ads with | [d1, d2] => setInt (meetL (setD d1) (setD d2)) | _ => fun _ => 0)
  (fun ads => match ads with | [d1, d2] => setBool (meetL (setD d1) (setD d2)) | _ => fun _ => false)
  ⟨_, Try.func34, by kernel_rfl, by kernel_rfl⟩ (fun ads w hf hp => by
    obtain ⟨d1, _, rfl, f1, hf⟩ := fits_cons hf
    obtain ⟨d2, _, rfl, f2, hf⟩ := fits_cons hf
    obtain rfl := fits_nil hf
    show Calls _ _ #[d1.val, d2.val] w _
    rw [fits_set f1, fits_set f2]
    exact meet_any3 (setD d1) (setD d2) hp w)
def d14_rjoin : Con Try.prog := .mk' ⟨33, [.a setK, .a setK], .a setK, true⟩
  (fun ads => match ads with | [d1, d2] => (setD d1).wf ∧ (setD d2).wf | _ => False)
  (fun ads => match ads with | [d1, d2] => setInt (joinL (setD d1) (setD d2)) | _ => fun _ => 0)
  (fun ads => match ads with | [d1, d2] => setBool (joinL (setD d1) (setD d2)) | _ => fun _ => false)
  ⟨_, Try.func33, by kernel_rfl, by kernel_rfl⟩ (fun ads w hf hp => by
    obtain ⟨d1, _, rfl, f1, hf⟩ := fits_cons hf
    obtain ⟨d2, _, rfl, f2, hf⟩ := fits_cons hf
    obtain rfl := fits_nil hf
    show Calls _ _ #[d1.val, d2.val] w _
    rw [fits_set f1, fits_set f2]
    exact rjoin_any3 (setD d1) (setD d2) hp w)
def d14_rwiden : Con Try.prog := .mk' ⟨36, [.a setK, .a setK], .a setK, true⟩
  (fun ads => match ads with | [d1, d2] => (setD d1).wf ∧ (setD d2).wf | _ => False)
  (fun ads => match ads with | [d1, d2] => setInt (widenL (setD d1) (setD d2)) | _ => fun _ => 0)
  (fun ads => match ads with | [d1, d2] => setBool (widenL (setD d1) (setD d2)) | _ => fun _ => false)
  ⟨_, Try.func36, by kernel_rfl, by kernel_rfl⟩ (fun ads w hf hp => by
    obtain ⟨d1, _, rfl, f1, hf⟩ := fits_cons hf
    obtain ⟨d2, _, rfl, f2, hf⟩ := fits_cons hf
    obtain rfl := fits_nil hf
    show Calls _ _ #[d1.val, d2.val] w _
    rw [fits_set f1, fits_set f2]
    exact rwiden_any3 (setD d1) (setD d2) hp w)
def d14_rmeet : Con Try.prog := .mk' ⟨35, [.a setK, .a setK], .a setK, true⟩
  (fun ads => match ads with | [d1, d2] => (setD d1).wf ∧ (setD d2).wf | _ => False)
  (fun ads => match ads with | [d1, d2] => setInt (meetL (setD d1) (setD d2)) | _ => fun _ => 0)
  (fun ads => match ads with | [d1, d2] => setBool (meetL (setD d1) (setD d2)) | _ => fun _ => false)
  ⟨_, Try.func35, by kernel_rfl, by kernel_rfl⟩ (fun ads w hf hp => by
    obtain ⟨d1, _, rfl, f1, hf⟩ := fits_cons hf
    obtain ⟨d2, _, rfl, f2, hf⟩ := fits_cons hf
    obtain rfl := fits_nil hf
    show Calls _ _ #[d1.val, d2.val] w _
    rw [fits_set f1, fits_set f2]
    exact rmeet_any3 (setD d1) (setD d2) hp w)
def d14_ex : Con Try.prog := .mk' ⟨20, [], .l none, true⟩
  (fun ads => match ads with | [] => True | _ => False)
  (fun ads => match ads with | [] => fun _ => 0 | _ => fun _ => 0)
  (fun ads => match ads with | [] => fun _ => true | _ => fun _ => false)
  ⟨_, Try.func20, by kernel_rfl, by kernel_rfl⟩ (fun ads w hf hp => by
    obtain rfl := fits_nil hf
    exact ex14_any  w)
-- decompiler/decompilerlaw14.ValuesetCombines: 1 ways, 7 owed
def xCombines_sg : List Sg := [⟨32, [.a setK, .a setK], .a setK, true⟩, ⟨23, [.a setK, .a setK], .a setK, true⟩, ⟨34, [.a setK, .a setK], .a setK, true⟩, ⟨33, [.a setK, .a setK], .a setK, true⟩, ⟨36, [.a setK, .a setK], .a setK, true⟩, ⟨35, [.a setK, .a setK], .a setK, true⟩, ⟨20, [], .l none, true⟩]
def xCombines_args : List PX := [.a (cellsX 0 0 setK), .a (cellsX 1 0 setK)]
def xCombines_rws : List Rw := []
def xCombines_cfg : Cfg := ⟨2, xCombines_sg, []⟩
def xCombines_ls : List Lf := [⟨[.f 31 6 [], .f 27 4 [.a (cellsX 0 0 setK), .a (cellsX 1 0 setK)], .f 24 1 [.a (cellsX 0 0 setK), .a (cellsX 1 0 setK)], .f 18 5 [.a (cellsX 0 0 setK), .a (cellsX 1 0 setK)], .f 15 2 [.a (cellsX 0 0 setK), .a (cellsX 1 0 setK)], .f 10 3 [.a (cellsX 0 0 setK), .a (cellsX 1 0 setK)], .f 7 0 [.a (cellsX 0 0 setK), .a (cellsX 1 0 setK)]], .v (.l (.t (.an (.an (.an (.an (.eq (.v 7 0) (.v 10 0)) (.an (.eq (.v 7 1) (.v 10 1)) (.an (.c .eql (.v 7 2) (.v 10 2)) (.an (.c .eql (.v 7 3) (.v 10 3)) (.c .eql (.v 7 4) (.v 10 4)))))) (.an (.eq (.v 15 0) (.v 18 0)) (.an (.eq (.v 15 1) (.v 18 1)) (.an (.c .eql (.v 15 2) (.v 18 2)) (.an (.c .eql (.v 15 3) (.v 18 3)) (.c .eql (.v 15 4) (.v 18 4))))))) (.an (.eq (.v 24 0) (.v 27 0)) (.an (.eq (.v 24 1) (.v 27 1)) (.an (.c .eql (.v 24 2) (.v 27 2)) (.an (.c .eql (.v 24 3) (.v 27 3)) (.c .eql (.v 24 4) (.v 27 4))))))) (.v 31 0))))⟩]
def xCombines_os : List Ob := [.pre [] 0 [.a (cellsX 0 0 setK), .a (cellsX 1 0 setK)],
  .pre [.f 7 0 [.a (cellsX 0 0 setK), .a (cellsX 1 0 setK)]] 3 [.a (cellsX 0 0 setK), .a (cellsX 1 0 setK)],
  .pre [.f 10 3 [.a (cellsX 0 0 setK), .a (cellsX 1 0 setK)], .f 7 0 [.a (cellsX 0 0 setK), .a (cellsX 1 0 setK)]] 2 [.a (cellsX 0 0 setK), .a (cellsX 1 0 setK)],
  .pre [.f 15 2 [.a (cellsX 0 0 setK), .a (cellsX 1 0 setK)], .f 10 3 [.a (cellsX 0 0 setK), .a (cellsX 1 0 setK)], .f 7 0 [.a (cellsX 0 0 setK), .a (cellsX 1 0 setK)]] 5 [.a (cellsX 0 0 setK), .a (cellsX 1 0 setK)],
  .pre [.f 18 5 [.a (cellsX 0 0 setK), .a (cellsX 1 0 setK)], .f 15 2 [.a (cellsX 0 0 setK), .a (cellsX 1 0 setK)], .f 10 3 [.a (cellsX 0 0 setK), .a (cellsX 1 0 setK)], .f 7 0 [.a (cellsX 0 0 setK), .a (cellsX 1 0 setK)]] 1 [.a (cellsX 0 0 setK), .a (cellsX 1 0 setK)],
  .pre [.f 24 1 [.a (cellsX 0 0 setK), .a (cellsX 1 0 setK)], .f 18 5 [.a (cellsX 0 0 setK), .a (cellsX 1 0 setK)], .f 15 2 [.a (cellsX 0 0 setK), .a (cellsX 1 0 setK)], .f 10 3 [.a (cellsX 0 0 setK), .a (cellsX 1 0 setK)], .f 7 0 [.a (cellsX 0 0 setK), .a (cellsX 1 0 setK)]] 4 [.a (cellsX 0 0 setK), .a (cellsX 1 0 setK)],
  .pre [.f 27 4 [.a (cellsX 0 0 setK), .a (cellsX 1 0 setK)], .f 24 1 [.a (cellsX 0 0 setK), .a (cellsX 1 0 setK)], .f 18 5 [.a (cellsX 0 0 setK), .a (cellsX 1 0 setK)], .f 15 2 [.a (cellsX 0 0 setK), .a (cellsX 1 0 setK)], .f 10 3 [.a (cellsX 0 0 setK), .a (cellsX 1 0 setK)], .f 7 0 [.a (cellsX 0 0 setK), .a (cellsX 1 0 setK)]] 6 []]
theorem xCombines_run : funcX Try.prog xCombines_cfg 2000 Try.f8 xCombines_args xCombines_rws = some (xCombines_ls, xCombines_os) := by kernel_rfl
def env14 (a b : VSet) : Env := ⟨fun d j => match d with | 0 => setInt a j | 1 => setInt b j | _ => 0, fun d j => match d with | 0 => setBool a j | 1 => setBool b j | _ => false, fun _ => 0, fun _ => none⟩
set_option maxHeartbeats 4000000 in
theorem valuesetCombines_walk (a : VSet) (ha : a.wf) (b : VSet) (hb : b.wf) (w : World) :
    Calls Try.prog 8 #[a.val, b.val] w (Ret (.bool true) w) := by
  refine ret_of_sx (C := [d14_join, d14_widen, d14_meet, d14_rjoin, d14_rwiden, d14_rmeet, d14_ex]) (I := []) d14_mixed rfl Try.func8 xCombines_run (env14 a b) w rfl (fun r hr => (List.not_mem_nil hr).elim) _ ?_ ?_
  · refine ⟨?_, ?_, ?_, ?_, ?_, ?_, ?_, trivial⟩
    all_goals
      intro e he hc
      have h0 : setE e 0 0 = a := setE_of (he 0 (by decide)).1 (he 0 (by decide)).2.1
      have h1 : setE e 1 0 = b := setE_of (he 1 (by decide)).1 (he 1 (by decide)).2.1
      simp only [Each, Owed, Cd.holds, SX.den, cmI, PX.den, LX.den, List.map_cons, List.map_nil, Bool.and_eq_true, Bool.and_eq_false_iff, Bool.not_eq_true', Bool.not_eq_false', List.getElem?_cons_zero, List.getElem?_cons_succ, Option.some.injEq, exists_eq_left', mk'_post, mk'_pre, setD_cells, numD_leaf, truD_leaf, d14_join, d14_widen, d14_meet, d14_rjoin, d14_rwiden, d14_rmeet, d14_ex, h0, h1]
    all_goals first | trivial | exact ⟨ha, hb⟩
  refine ⟨?_, trivial⟩
  all_goals
    intro e u he hc hs
    have h0 : setE e 0 0 = a := setE_of (he 0 (by decide)).1 (he 0 (by decide)).2.1
    have h1 : setE e 1 0 = b := setE_of (he 1 (by decide)).1 (he 1 (by decide)).2.1
    simp only [Each, Owed, Cd.holds, SX.den, cmI, PX.den, LX.den, List.map_cons, List.map_nil, Bool.and_eq_true, Bool.and_eq_false_iff, Bool.not_eq_true', Bool.not_eq_false', List.getElem?_cons_zero, List.getElem?_cons_succ, Option.some.injEq, exists_eq_left', mk'_post, mk'_pre, setD_cells, numD_leaf, truD_leaf, d14_join, d14_widen, d14_meet, d14_rjoin, d14_rwiden, d14_rmeet, d14_ex, h0, h1] at hc
    rw [sat_v hs]
    clear he hs h0 h1
    obtain ⟨⟨_, x1⟩, ⟨x2, x3⟩, ⟨x4, x5⟩, ⟨x6, x7⟩, ⟨x8, x9⟩, ⟨y2, y3⟩, ⟨y4, y5⟩, _⟩ := hc
    simp only [PX.den, LX.den, SX.den, cmI, x1, x2, x3, x4, x5, x6, x7, x8, x9, y2, y3, y4, y5, beq_self_eq_true, Bool.and_true]
theorem valuesetCombines_own : ownKnob Try.prog.godebug = none := by kernel_rfl
set_option maxRecDepth 100000 in
theorem valuesetCombines_lifted (os : Os) (started : os.Started) (H : Type) (enc : TypeId × Value → H) :
    ReturnsInHanded {} Try.checked os 8 .any (Rows.valuesetCombinesSpec.pre6 enc Try.prog Try.f8 Rows.valuesetCombinesRow.domain false) (Rows.valuesetCombinesSpec.post enc Try.prog Try.f8 false true false false) := by
  refine returnsInHanded_of_change (C := Try.checked) valuesetCombines_own started (by kernel_rfl) Try.func8
    (ChangeSpec.witness6 (enc := enc) (C := Try.checked) false ⟨#[], #[.agg #[.bool false, .bool false, .int .u32 0, .int .u32 0, .int .u32 0], .agg #[.bool false, .bool false, .int .u32 0, .int .u32 0, .int .u32 0]], []⟩ 8 (by kernel_rfl) (by kernel_rfl) (by kernel_rfl) (by kernel_rfl)) ?_
  intro W base args ds gs before hval0 hW hcnd _
  have hval : ∀ (j : Nat) t v, Try.f8.params[j]? = some t → args[j]? = some v → Value.okWide Try.prog W .any base t v := hval0
  have hW' := hW
  obtain ⟨p, q, hA0, hV, rfl, hfz, hnd⟩ := hW
  have hA : DataW.TrodAll enc Try.prog W 0 (fun _ => true) true Try.f8.params.toList args.toList ds p := hA0
  have hA1 := hA
  obtain ⟨rfl, rfl⟩ := trodVars_none hV
  rw [Try.params8] at hA hval
  obtain ⟨v0, vs0, d0, ds0, p0, q0, hargs, hd0, hp0, h0, r0⟩ := trodAll_cons hA
  obtain ⟨v1, vs1, d1, ds1, p1, q1, hv1, hd1, hp1, h1, r1⟩ := trodAll_cons r0
  obtain ⟨hvn, hdn, hpn⟩ := trodAll_nil r1
  subst hdn hd1 hd0
  obtain rfl : args = #[v0, v1] := by cases args; simp_all
  clear hargs hvn hv1
  obtain ⟨cs0, rfl, l0⟩ := open_flat [none, none, some .u32, some .u32, some .u32] 5 Try.underlying24 (by kernel_rfl) (by kernel_rfl) (hval 0 24 v0 rfl rfl) h0
  obtain ⟨s0, hs0, rfl⟩ := leaves_set l0
  obtain ⟨cs1, rfl, l1⟩ := open_flat [none, none, some .u32, some .u32, some .u32] 5 Try.underlying24 (by kernel_rfl) (by kernel_rfl) (hval 1 24 v1 rfl rfl) h1
  obtain ⟨s1, hs1, rfl⟩ := leaves_set l1
  simp only [List.append_nil] at hW'
  refine (valuesetCombines_walk s0 hs0 s1 hs1 W).mono fun e W' hr => ?_
  obtain ⟨rfl, hb⟩ := hr
  exact ⟨_, rfl, post_of_below (pa := p) (pv := []) hW' (fun _ _ _ => (trodAll_cons_mk (shut_bool Try.underlying4 _) trodAll_mk0)) (fun sp hsp => trodAll_stays Try_laidOut hb _ _ _ _ (by kernel_rfl) hA1 (fun x hx => hW'.lt x hx) hsp) (fun _ _ => rfl) (by simp)
    hb (ok_one (by kernel_rfl) rfl (okWide_bool_mk Try.underlying4 _))⟩
theorem valuesetCombines_over : Rows.valuesetCombinesRow.holds Try.pinned (OpenSpec.ofChange Rows.valuesetCombinesSpec) :=
  OpenClaim.holds_of_wide 8 Try.f8 rfl rfl rfl rfl rfl rfl rfl ⟨rfl, rfl, rfl, rfl, rfl⟩ rfl rfl rfl rfl rfl (by kernel_rfl) Try.func8 (by kernel_rfl)
    (of_decide_eq_true (by kernel_rfl)) (by unfold Func.isWrapper; first | (rw [if_pos (by decide +kernel)]; kernel_rfl) | (rw [if_neg (by decide +kernel)]; exact ⟨rfl, rfl⟩))
    (fun os started H enc _ => valuesetCombines_lifted os started H enc)
/-- THE STATEMENT -/
theorem valuesetCombines_proved : Rows.ValuesetCombinesSaid := valuesetCombines_over
#print axioms valuesetCombines_proved
end Go.Proofs.Ytjhdjclcfmcilaa
