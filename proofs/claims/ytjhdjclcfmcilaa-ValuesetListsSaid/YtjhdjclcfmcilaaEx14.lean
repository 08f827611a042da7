/-
  The examples of chapter 14 hold: exampleHolds of decompilerlaw14 returns true.
-/
import Derived.Test.YtjhdjclcfmcilaaVal8
namespace Go.Proofs.Ytjhdjclcfmcilaa
open Go.ChangeShapes Go.WideShapes Go.ChangeAt Go.RowKit
set_option linter.unusedVariables false
theorem ex_wf (lo hi st : Int) (h : 0 ≤ lo ∧ lo < 4294967296 ∧ 0 ≤ hi ∧ hi < 4294967296 ∧ 0 ≤ st ∧ st < 4294967296) : (⟨false, false, lo, hi, st⟩ : VSet).wf := h
theorem ex_between : betweenL 1 10 4 = ⟨false, false, 1, 9, 4⟩ := by kernel_rfl
theorem ex_join : joinL ⟨false, false, 4, 4, 0⟩ ⟨false, false, 10, 10, 0⟩ = ⟨false, false, 4, 10, 6⟩ := by kernel_rfl
theorem ex_widen : widenL ⟨false, false, 0, 4, 4⟩ ⟨false, false, 0, 8, 4⟩ = ⟨false, false, 0, 4294967292, 4⟩ := by kernel_rfl
set_option maxHeartbeats 2000000 in
theorem ex14_any (w : World) : Calls Try.prog 20 #[] w (Ret (.bool true) w) := by
  have c1 : ∀ w, Calls Try.prog 14 #[.int .u32 1, .int .u32 10, .int .u32 4] w (Ret (.agg #[.bool false, .bool false, .int .u32 1, .int .u32 9, .int .u32 4]) w) := fun w => by
    have := between_any 1 10 4 (by omega) (by omega) (by omega) (by omega) (by omega) (by omega) w
    rwa [ex_between] at this
  have c2 : ∀ w, Calls Try.prog 12 #[.int .u32 4] w (Ret (.agg #[.bool false, .bool false, .int .u32 4, .int .u32 4, .int .u32 0]) w) := fun w => const_any 4 w
  have c3 : ∀ w, Calls Try.prog 12 #[.int .u32 10] w (Ret (.agg #[.bool false, .bool false, .int .u32 10, .int .u32 10, .int .u32 0]) w) := fun w => const_any 10 w
  have c4 : ∀ w, Calls Try.prog 32 #[.agg #[.bool false, .bool false, .int .u32 4, .int .u32 4, .int .u32 0], .agg #[.bool false, .bool false, .int .u32 10, .int .u32 10, .int .u32 0]] w (Ret (.agg #[.bool false, .bool false, .int .u32 4, .int .u32 10, .int .u32 6]) w) := fun w => by
    have := join_any ⟨false, false, 4, 4, 0⟩ ⟨false, false, 10, 10, 0⟩ (ex_wf _ _ _ (by omega)) (ex_wf _ _ _ (by omega)) w
    rwa [ex_join] at this
  have c5 : ∀ w, Calls Try.prog 23 #[.agg #[.bool false, .bool false, .int .u32 0, .int .u32 4, .int .u32 4], .agg #[.bool false, .bool false, .int .u32 0, .int .u32 8, .int .u32 4]] w (Ret (.agg #[.bool false, .bool false, .int .u32 0, .int .u32 4294967292, .int .u32 4]) w) := fun w => by
    have := widen_any ⟨false, false, 0, 4, 4⟩ ⟨false, false, 0, 8, 4⟩ (ex_wf _ _ _ (by omega)) (ex_wf _ _ _ (by omega)) w
    rwa [ex_widen] at this
  have c6 : ∀ w, Calls Try.prog 16 #[] w (Ret (.agg #[.bool false, .bool true, .int .u32 0, .int .u32 0, .int .u32 0]) w) := top_any
  have c7 : ∀ w, Calls Try.prog 18 #[] w (Ret (.agg #[.bool true, .bool false, .int .u32 0, .int .u32 0, .int .u32 0]) w) := empty_any
  have f1 : ∀ w, (Instr.field 24 (.agg #[.bool false, .bool true, .int .u32 0, .int .u32 0, .int .u32 0]) 1).run Try.prog w = .ok (.bool true) w := fun _ => by kernel_rfl
  have f2 : ∀ w, (Instr.field 24 (.agg #[.bool true, .bool false, .int .u32 0, .int .u32 0, .int .u32 0]) 0).run Try.prog w = .ok (.bool true) w := fun _ => by kernel_rfl
  go_enter Try.func20, Try.ntmps20
  go_wp2_with ((first | (go_at_call 14; (with_reducible refine (c1 _).mono ?_)) | (go_at_call 12; (with_reducible refine (c2 _).mono ?_)) | (go_at_call 12; (with_reducible refine (c3 _).mono ?_)) | (go_at_call 32; (with_reducible refine (c4 _).mono ?_)) | (go_at_call 23; (with_reducible refine (c5 _).mono ?_)) | (go_at_call 16; (with_reducible refine (c6 _).mono ?_)) | (go_at_call 18; (with_reducible refine (c7 _).mono ?_))); rintro e w1 ⟨rfl, hb⟩; (first | (replace HB := HB.trans (hb.mono HB.size)) | (have HB := hb)); (try clear hc hf); obtain ⟨hc, hf⟩ := bcell HB)
  go_returns
  exact ⟨rfl, after (by go_grown) HB⟩
end Go.Proofs.Ytjhdjclcfmcilaa
