/-
  The examples of chapter 1 hold: exampleHolds of decompilerlaw01 returns true.
-/
import Derived.Test.YtdcpechhjfbipaaBits3
namespace Go.Proofs.Ytdcpechhjfbipaa
open Go.ChangeShapes Go.WideShapes Go.ChangeAt Go.RowKit
set_option linter.unusedVariables false
set_option maxHeartbeats 2000000 in
theorem ex01_any (w : World) : Calls Try.prog 14 #[] w (Ret (.bool true) w) := by
  have c1 : ∀ w, Calls Try.prog 15 #[.int .u32 4294967295, .int .u32 1] w (Ret (.tuple #[.int .u32 0, .agg #[.bool true, .bool false, .bool true, .bool false]]) w) := fun w => add_any 4294967295 1 w (by omega) (by omega) (by omega) (by omega)
  have c2 : ∀ w, Calls Try.prog 12 #[.int .u32 3, .int .u32 5] w (Ret (.tuple #[.int .u32 4294967294, .agg #[.bool false, .bool true, .bool true, .bool false]]) w) := fun w => sub_any 3 5 w (by omega) (by omega) (by omega) (by omega)
  have c3 : ∀ w, Calls Try.prog 22 #[.int .i64 14, .int .u32 4294967295, .int .u32 0] w (Ret (.tuple #[.int .u32 1, .int .i64 0]) w) := fun w => by
    have h := apply_in 14 4294967295 0 (by omega) (by omega) (by omega) (by omega) (by omega) (by omega) w
    have e : applyK (14 - 3 : Int).toNat 4294967295 0 = 1 := by show tr (decide (wrap32 4294967295 < wrap32 0)) = 1; simp [wrap32, tr]
    rwa [e] at h
  have c4 : ∀ w, Calls Try.prog 30 #[.int .u32 2147483648, .int .u32 33] w (Ret (.int .u32 3221225472) w) := fun w => by
    have h := sar_any 2147483648 33 w (by omega) (by omega)
    have e : sarL 2147483648 33 = 3221225472 := by unfold sarL wrap32; decide
    rwa [e] at h
  have c5 : ∀ w, Calls Try.prog 16 #[.int .u32 384, .int .i64 1] w (Ret (.int .u32 4294967168) w) := fun w => extend_any 384 1 w
  have c6 : ∀ w, Calls Try.prog 17 #[.int .u32 384, .int .i64 1] w (Ret (.int .u32 128) w) := fun w => truncate_any 384 1 w
  have c7 : ∀ w, Calls Try.prog 20 #[.int .i64 5] w (Ret (.int .i64 6) w) := fun w => negate_any 5 w
  have c8 : ∀ w, Calls Try.prog 13 #[.int .i64 3, .agg #[.bool false, .bool true, .bool true, .bool false]] w (Ret (.bool true) w) := fun w => holds_any 3 false true true false w
  have c9 : ∀ w, Calls Try.prog 13 #[.int .i64 13, .agg #[.bool false, .bool true, .bool true, .bool false]] w (Ret (.bool false) w) := fun w => holds_any 13 false true true false w
  go_enter Try.func14, Try.ntmps14
  go_wp2_with (first | (go_at_call 15; (with_reducible refine (c1 _).mono ?_); rintro e w1 ⟨rfl, hb1⟩; (have hs1 := hb1.size)) | (go_at_call 12; (with_reducible refine (c2 _).mono ?_); rintro e w2 ⟨rfl, hb2⟩; (have hg2 := after (w := w) (by go_grown) hb2); (have hs2 := hg2.size); obtain ⟨hc2, hf2⟩ := bcell hb2; (have hz2 : w1.heap.size < w2.heap.size := by have := hb2.size; simp at this; omega); (have hz3 : w1.heap.size < w2.heap.size + 1 := by omega)) | (go_at_call 22; (with_reducible refine (c3 _).mono ?_); rintro e w3 ⟨rfl, hb3⟩; (have hg3 := after (w := w) (by go_grown) hb3); (have hs3 := hg3.size); obtain ⟨hc3, hf3⟩ := bcell hb3; (have hz4 : w2.heap.size < w3.heap.size := by have := hb3.size; simp at this; omega); (have hz5 : w1.heap.size < w3.heap.size := by omega)) | ((first | (go_at_call 30; (with_reducible refine (c4 _).mono ?_)) | (go_at_call 16; (with_reducible refine (c5 _).mono ?_)) | (go_at_call 17; (with_reducible refine (c6 _).mono ?_)) | (go_at_call 20; (with_reducible refine (c7 _).mono ?_)) | (go_at_call 13; (with_reducible refine (c8 _).mono ?_)) | (go_at_call 13; (with_reducible refine (c9 _).mono ?_))); rintro e w4 ⟨rfl, hb4⟩; (first | (replace HB := HB.trans (hb4.mono HB.size)) | (have HB := hb4)); (try clear hc4 hf4); obtain ⟨hc4, hf4⟩ := bcell HB))
  go_returns
  exact ⟨rfl, after hg3 HB⟩
end Go.Proofs.Ytdcpechhjfbipaa
