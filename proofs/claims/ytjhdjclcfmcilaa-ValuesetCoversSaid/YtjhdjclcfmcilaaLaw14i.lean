/-
  ValuesetCovers: for all sets a and b and numbers n the call returns true: Join and Widen cover both arguments, Meet what is in both; the results are valid. No condition on the inputs.
-/
import Derived.Test.YtjhdjclcfmcilaaRows
import Derived.Test.YtjhdjclcfmcilaaEx14
import Derived.Test.YtjhdjclcfmcilaaVal6
import Derived.Test.YtjhdjclcfmcilaaVal8
import Derived.Test.YtjhdjclcfmcilaaVal22
import Derived.Test.YtjhdjclcfmcilaaPl14b
namespace Go.Proofs.Ytjhdjclcfmcilaa
open Go.ChangeShapes Go.WideShapes Go.ChangeAt Go.RowKit
set_option linter.unusedVariables false
set_option linter.unusedSimpArgs false
set_option maxRecDepth 100000
theorem Try_laidOut : laidOutB Try.prog = true := by kernel_rfl
theorem c14_mixed : Try.prog.follows .mixedOrders = true := by kernel_rfl
theorem join_any2 (a b : VSet) (h : a.wf ∧ b.wf) (w : World) : Calls Try.prog 32 #[a.val, b.val] w (Ret (joinL a b).val w) := join_any a b h.1 h.2 w
theorem widen_any2 (a b : VSet) (h : a.wf ∧ b.wf) (w : World) : Calls Try.prog 23 #[a.val, b.val] w (Ret (widenL a b).val w) := widen_any a b h.1 h.2 w
theorem meet_any2 (a b : VSet) (h : a.wf ∧ b.wf) (w : World) : Calls Try.prog 34 #[a.val, b.val] w (Ret (meetL a b).val w) := meet_any a b h.1 h.2 w
theorem within_any2 (a b : VSet) (h : a.wf ∧ b.wf) (w : World) : Calls Try.prog 21 #[a.val, b.val] w (Ret (.bool (withinL a b)) w) := within_any a b h.1 h.2 w
theorem contains_any2 (a : VSet) (n : Int) (h : a.wf ∧ u32R n) (w : World) : Calls Try.prog 25 #[a.val, .int .u32 n] w (Ret (.bool (containsL a n)) w) := contains_any a h.1 n h.2.1 h.2.2 w
def c14_join : Con Try.prog := .mk' ⟨32, [.a setK, .a setK], .a setK, true⟩
  (fun ads => match ads with | [d1, d2] => (setD d1).wf ∧ (setD d2).wf | _ => False)
  (fun ads => match ads with | [d1, d2] => setInt (joinL (setD d1) (setD d2)) | _ => fun _ => 0)
  (fun ads => match ads with | [d1, d2] => setBool (joinL (setD d1) (setD d2)) | _ => fun _ => false)
  ⟨_, Try.func32, by kernel_rfl, by kernel_rfl⟩ (fun ads w hf hp => by
    obtain ⟨d1, _, rfl, f1, hf⟩ := fits_cons hf
    obtain ⟨d2, _, rfl, f2, hf⟩ := fits_cons hf
    obtain rfl := fits_nil hf
    show Calls _ _ #[d1.val, d2.val] w _
    rw [fits_set f1, fits_set f2]
    exact join_any2 (setD d1) (setD d2) hp w)
def c14_widen : Con Try.prog := .mk' ⟨23, [.a setK, .a setK], .a setK, true⟩
  (fun ads => match ads with | [d1, d2] => (setD d1).wf ∧ (setD d2).wf | _ => False)
  (fun ads => match ads with | [d1, d2] => setInt (widenL (setD d1) (setD d2)) | _ => fun _ => 0)
  (fun ads => match ads with | [d1, d2] => setBool (widenL (setD d1) (setD d2)) | _ => fun _ => false)
  ⟨_, Try.func23, by kernel_rfl, by kernel_rfl⟩ (fun ads w hf hp => by
    obtain ⟨d1, _, rfl, f1, hf⟩ := fits_cons hf
    obtain ⟨d2, _, rfl, f2, hf⟩ := fits_cons hf
    obtain rfl := fits_nil hf
    show Calls _ _ #[d1.val, d2.val] w _
    rw [fits_set f1, fits_set f2]
    exact widen_any2 (setD d1) (setD d2) hp w)
def c14_meet : Con Try.prog := .mk' ⟨34, [.a setK, .a setK], .a setK, true⟩
  (fun ads => match ads with | [d1, d2] => (setD d1).wf ∧ (setD d2).wf | _ => False)
  (fun ads => match ads with | [d1, d2] => setInt (meetL (setD d1) (setD d2)) | _ => fun _ => 0)
  (fun ads => match ads with | [d1, d2] => setBool (meetL (setD d1) (setD d2)) | _ => fun _ => false)
  ⟨_, Try.func34, by kernel_rfl, by kernel_rfl⟩ (fun ads w hf hp => by
    obtain ⟨d1, _, rfl, f1, hf⟩ := fits_cons hf
    obtain ⟨d2, _, rfl, f2, hf⟩ := fits_cons hf
    obtain rfl := fits_nil hf
    show Calls _ _ #[d1.val, d2.val] w _
    rw [fits_set f1, fits_set f2]
    exact meet_any2 (setD d1) (setD d2) hp w)
def c14_valid : Con Try.prog := .mk' ⟨22, [.a setK], .l none, true⟩
  (fun ads => match ads with | [d1] => (setD d1).wf | _ => False)
  (fun ads => match ads with | [d1] => fun _ => 0 | _ => fun _ => 0)
  (fun ads => match ads with | [d1] => fun _ => validL (setD d1) | _ => fun _ => false)
  ⟨_, Try.func22, by kernel_rfl, by kernel_rfl⟩ (fun ads w hf hp => by
    obtain ⟨d1, _, rfl, f1, hf⟩ := fits_cons hf
    obtain rfl := fits_nil hf
    show Calls _ _ #[d1.val] w _
    rw [fits_set f1]
    exact valid_any (setD d1) hp w)
def c14_contains : Con Try.prog := .mk' ⟨25, [.a setK, .l (some .u32)], .l none, true⟩
  (fun ads => match ads with | [d1, d2] => (setD d1).wf ∧ u32R (numD d2) | _ => False)
  (fun ads => match ads with | [d1, d2] => fun _ => 0 | _ => fun _ => 0)
  (fun ads => match ads with | [d1, d2] => fun _ => containsL (setD d1) (numD d2) | _ => fun _ => false)
  ⟨_, Try.func25, by kernel_rfl, by kernel_rfl⟩ (fun ads w hf hp => by
    obtain ⟨d1, _, rfl, f1, hf⟩ := fits_cons hf
    obtain ⟨d2, _, rfl, f2, hf⟩ := fits_cons hf
    obtain rfl := fits_nil hf
    show Calls _ _ #[d1.val, d2.val] w _
    rw [fits_set f1, fits_num f2]
    exact contains_any2 (setD d1) (numD d2) hp w)
def c14_within : Con Try.prog := .mk' ⟨21, [.a setK, .a setK], .l none, true⟩
  (fun ads => match ads with | [d1, d2] => (setD d1).wf ∧ (setD d2).wf | _ => False)
  (fun ads => match ads with | [d1, d2] => fun _ => 0 | _ => fun _ => 0)
  (fun ads => match ads with | [d1, d2] => fun _ => withinL (setD d1) (setD d2) | _ => fun _ => false)
  ⟨_, Try.func21, by kernel_rfl, by kernel_rfl⟩ (fun ads w hf hp => by
    obtain ⟨d1, _, rfl, f1, hf⟩ := fits_cons hf
    obtain ⟨d2, _, rfl, f2, hf⟩ := fits_cons hf
    obtain rfl := fits_nil hf
    show Calls _ _ #[d1.val, d2.val] w _
    rw [fits_set f1, fits_set f2]
    exact within_any2 (setD d1) (setD d2) hp w)
def c14_ex : Con Try.prog := .mk' ⟨20, [], .l none, true⟩
  (fun ads => match ads with | [] => True | _ => False)
  (fun ads => match ads with | [] => fun _ => 0 | _ => fun _ => 0)
  (fun ads => match ads with | [] => fun _ => true | _ => fun _ => false)
  ⟨_, Try.func20, by kernel_rfl, by kernel_rfl⟩ (fun ads w hf hp => by
    obtain rfl := fits_nil hf
    exact ex14_any  w)
-- decompiler/decompilerlaw14.ValuesetCovers: 3 ways, 15 owed
def xCovers_sg : List Sg := [⟨32, [.a setK, .a setK], .a setK, true⟩, ⟨23, [.a setK, .a setK], .a setK, true⟩, ⟨34, [.a setK, .a setK], .a setK, true⟩, ⟨22, [.a setK], .l none, true⟩, ⟨25, [.a setK, .l (some .u32)], .l none, true⟩, ⟨21, [.a setK, .a setK], .l none, true⟩, ⟨20, [], .l none, true⟩]
def xCovers_args : List PX := [.a (cellsX 0 0 setK), .a (cellsX 1 0 setK), .l (.n .u32 (.v 2 0))]
def xCovers_rws : List Rw := []
def xCovers_cfg : Cfg := ⟨3, xCovers_sg, []⟩
def xCovers_ls : List Lf := [⟨[.c (.an (.an (.v 22 0) (.v 26 0)) (.v 31 0)) false, .f 31 3 [.a (cellsX 14 0 setK)], .f 26 3 [.a (cellsX 11 0 setK)], .f 22 3 [.a (cellsX 8 0 setK)], .f 14 2 [.a (cellsX 0 0 setK), .a (cellsX 1 0 setK)], .f 11 1 [.a (cellsX 0 0 setK), .a (cellsX 1 0 setK)], .f 8 0 [.a (cellsX 0 0 setK), .a (cellsX 1 0 setK)]], .v (.l (.t (.b false)))⟩,
  ⟨[.c (.an (.no (.an (.no (.an (.no (.v 36 0)) (.no (.v 39 0)))) (.no (.an (.v 49 0) (.v 54 0))))) (.no (.an (.an (.v 36 0) (.v 39 0)) (.no (.v 66 0))))) false, .f 66 4 [.a (cellsX 14 0 setK), .l (.n .u32 (.v 2 0))], .f 54 4 [.a (cellsX 11 0 setK), .l (.n .u32 (.v 2 0))], .f 49 4 [.a (cellsX 8 0 setK), .l (.n .u32 (.v 2 0))], .f 39 4 [.a (cellsX 1 0 setK), .l (.n .u32 (.v 2 0))], .f 36 4 [.a (cellsX 0 0 setK), .l (.n .u32 (.v 2 0))], .c (.v 22 0) true, .c (.v 26 0) true, .c (.v 31 0) true, .f 31 3 [.a (cellsX 14 0 setK)], .f 26 3 [.a (cellsX 11 0 setK)], .f 22 3 [.a (cellsX 8 0 setK)], .f 14 2 [.a (cellsX 0 0 setK), .a (cellsX 1 0 setK)], .f 11 1 [.a (cellsX 0 0 setK), .a (cellsX 1 0 setK)], .f 8 0 [.a (cellsX 0 0 setK), .a (cellsX 1 0 setK)]], .v (.l (.t (.b false)))⟩,
  ⟨[.f 84 6 [], .f 81 5 [.a (cellsX 8 0 setK), .a (cellsX 11 0 setK)], .f 76 5 [.a (cellsX 1 0 setK), .a (cellsX 8 0 setK)], .f 72 5 [.a (cellsX 0 0 setK), .a (cellsX 8 0 setK)], .c (.an (.no (.an (.no (.v 36 0)) (.no (.v 39 0)))) (.no (.an (.v 49 0) (.v 54 0)))) false, .c (.an (.an (.v 36 0) (.v 39 0)) (.no (.v 66 0))) false, .f 66 4 [.a (cellsX 14 0 setK), .l (.n .u32 (.v 2 0))], .f 54 4 [.a (cellsX 11 0 setK), .l (.n .u32 (.v 2 0))], .f 49 4 [.a (cellsX 8 0 setK), .l (.n .u32 (.v 2 0))], .f 39 4 [.a (cellsX 1 0 setK), .l (.n .u32 (.v 2 0))], .f 36 4 [.a (cellsX 0 0 setK), .l (.n .u32 (.v 2 0))], .c (.v 22 0) true, .c (.v 26 0) true, .c (.v 31 0) true, .f 31 3 [.a (cellsX 14 0 setK)], .f 26 3 [.a (cellsX 11 0 setK)], .f 22 3 [.a (cellsX 8 0 setK)], .f 14 2 [.a (cellsX 0 0 setK), .a (cellsX 1 0 setK)], .f 11 1 [.a (cellsX 0 0 setK), .a (cellsX 1 0 setK)], .f 8 0 [.a (cellsX 0 0 setK), .a (cellsX 1 0 setK)]], .v (.l (.t (.an (.an (.an (.v 72 0) (.v 76 0)) (.v 81 0)) (.v 84 0))))⟩]
def xCovers_os : List Ob := [.pre [] 0 [.a (cellsX 0 0 setK), .a (cellsX 1 0 setK)],
  .pre [.f 8 0 [.a (cellsX 0 0 setK), .a (cellsX 1 0 setK)]] 1 [.a (cellsX 0 0 setK), .a (cellsX 1 0 setK)],
  .pre [.f 11 1 [.a (cellsX 0 0 setK), .a (cellsX 1 0 setK)], .f 8 0 [.a (cellsX 0 0 setK), .a (cellsX 1 0 setK)]] 2 [.a (cellsX 0 0 setK), .a (cellsX 1 0 setK)],
  .pre [.f 14 2 [.a (cellsX 0 0 setK), .a (cellsX 1 0 setK)], .f 11 1 [.a (cellsX 0 0 setK), .a (cellsX 1 0 setK)], .f 8 0 [.a (cellsX 0 0 setK), .a (cellsX 1 0 setK)]] 3 [.a (cellsX 8 0 setK)],
  .pre [.f 22 3 [.a (cellsX 8 0 setK)], .f 14 2 [.a (cellsX 0 0 setK), .a (cellsX 1 0 setK)], .f 11 1 [.a (cellsX 0 0 setK), .a (cellsX 1 0 setK)], .f 8 0 [.a (cellsX 0 0 setK), .a (cellsX 1 0 setK)]] 3 [.a (cellsX 11 0 setK)],
  .pre [.f 26 3 [.a (cellsX 11 0 setK)], .f 22 3 [.a (cellsX 8 0 setK)], .f 14 2 [.a (cellsX 0 0 setK), .a (cellsX 1 0 setK)], .f 11 1 [.a (cellsX 0 0 setK), .a (cellsX 1 0 setK)], .f 8 0 [.a (cellsX 0 0 setK), .a (cellsX 1 0 setK)]] 3 [.a (cellsX 14 0 setK)],
  .pre [.c (.v 22 0) true, .c (.v 26 0) true, .c (.v 31 0) true, .f 31 3 [.a (cellsX 14 0 setK)], .f 26 3 [.a (cellsX 11 0 setK)], .f 22 3 [.a (cellsX 8 0 setK)], .f 14 2 [.a (cellsX 0 0 setK), .a (cellsX 1 0 setK)], .f 11 1 [.a (cellsX 0 0 setK), .a (cellsX 1 0 setK)], .f 8 0 [.a (cellsX 0 0 setK), .a (cellsX 1 0 setK)]] 4 [.a (cellsX 0 0 setK), .l (.n .u32 (.v 2 0))],
  .pre [.f 36 4 [.a (cellsX 0 0 setK), .l (.n .u32 (.v 2 0))], .c (.v 22 0) true, .c (.v 26 0) true, .c (.v 31 0) true, .f 31 3 [.a (cellsX 14 0 setK)], .f 26 3 [.a (cellsX 11 0 setK)], .f 22 3 [.a (cellsX 8 0 setK)], .f 14 2 [.a (cellsX 0 0 setK), .a (cellsX 1 0 setK)], .f 11 1 [.a (cellsX 0 0 setK), .a (cellsX 1 0 setK)], .f 8 0 [.a (cellsX 0 0 setK), .a (cellsX 1 0 setK)]] 4 [.a (cellsX 1 0 setK), .l (.n .u32 (.v 2 0))],
  .pre [.f 39 4 [.a (cellsX 1 0 setK), .l (.n .u32 (.v 2 0))], .f 36 4 [.a (cellsX 0 0 setK), .l (.n .u32 (.v 2 0))], .c (.v 22 0) true, .c (.v 26 0) true, .c (.v 31 0) true, .f 31 3 [.a (cellsX 14 0 setK)], .f 26 3 [.a (cellsX 11 0 setK)], .f 22 3 [.a (cellsX 8 0 setK)], .f 14 2 [.a (cellsX 0 0 setK), .a (cellsX 1 0 setK)], .f 11 1 [.a (cellsX 0 0 setK), .a (cellsX 1 0 setK)], .f 8 0 [.a (cellsX 0 0 setK), .a (cellsX 1 0 setK)]] 4 [.a (cellsX 8 0 setK), .l (.n .u32 (.v 2 0))],
  .pre [.f 49 4 [.a (cellsX 8 0 setK), .l (.n .u32 (.v 2 0))], .f 39 4 [.a (cellsX 1 0 setK), .l (.n .u32 (.v 2 0))], .f 36 4 [.a (cellsX 0 0 setK), .l (.n .u32 (.v 2 0))], .c (.v 22 0) true, .c (.v 26 0) true, .c (.v 31 0) true, .f 31 3 [.a (cellsX 14 0 setK)], .f 26 3 [.a (cellsX 11 0 setK)], .f 22 3 [.a (cellsX 8 0 setK)], .f 14 2 [.a (cellsX 0 0 setK), .a (cellsX 1 0 setK)], .f 11 1 [.a (cellsX 0 0 setK), .a (cellsX 1 0 setK)], .f 8 0 [.a (cellsX 0 0 setK), .a (cellsX 1 0 setK)]] 4 [.a (cellsX 11 0 setK), .l (.n .u32 (.v 2 0))],
  .pre [.f 54 4 [.a (cellsX 11 0 setK), .l (.n .u32 (.v 2 0))], .f 49 4 [.a (cellsX 8 0 setK), .l (.n .u32 (.v 2 0))], .f 39 4 [.a (cellsX 1 0 setK), .l (.n .u32 (.v 2 0))], .f 36 4 [.a (cellsX 0 0 setK), .l (.n .u32 (.v 2 0))], .c (.v 22 0) true, .c (.v 26 0) true, .c (.v 31 0) true, .f 31 3 [.a (cellsX 14 0 setK)], .f 26 3 [.a (cellsX 11 0 setK)], .f 22 3 [.a (cellsX 8 0 setK)], .f 14 2 [.a (cellsX 0 0 setK), .a (cellsX 1 0 setK)], .f 11 1 [.a (cellsX 0 0 setK), .a (cellsX 1 0 setK)], .f 8 0 [.a (cellsX 0 0 setK), .a (cellsX 1 0 setK)]] 4 [.a (cellsX 14 0 setK), .l (.n .u32 (.v 2 0))],
  .pre [.c (.an (.no (.an (.no (.v 36 0)) (.no (.v 39 0)))) (.no (.an (.v 49 0) (.v 54 0)))) false, .c (.an (.an (.v 36 0) (.v 39 0)) (.no (.v 66 0))) false, .f 66 4 [.a (cellsX 14 0 setK), .l (.n .u32 (.v 2 0))], .f 54 4 [.a (cellsX 11 0 setK), .l (.n .u32 (.v 2 0))], .f 49 4 [.a (cellsX 8 0 setK), .l (.n .u32 (.v 2 0))], .f 39 4 [.a (cellsX 1 0 setK), .l (.n .u32 (.v 2 0))], .f 36 4 [.a (cellsX 0 0 setK), .l (.n .u32 (.v 2 0))], .c (.v 22 0) true, .c (.v 26 0) true, .c (.v 31 0) true, .f 31 3 [.a (cellsX 14 0 setK)], .f 26 3 [.a (cellsX 11 0 setK)], .f 22 3 [.a (cellsX 8 0 setK)], .f 14 2 [.a (cellsX 0 0 setK), .a (cellsX 1 0 setK)], .f 11 1 [.a (cellsX 0 0 setK), .a (cellsX 1 0 setK)], .f 8 0 [.a (cellsX 0 0 setK), .a (cellsX 1 0 setK)]] 5 [.a (cellsX 0 0 setK), .a (cellsX 8 0 setK)],
  .pre [.f 72 5 [.a (cellsX 0 0 setK), .a (cellsX 8 0 setK)], .c (.an (.no (.an (.no (.v 36 0)) (.no (.v 39 0)))) (.no (.an (.v 49 0) (.v 54 0)))) false, .c (.an (.an (.v 36 0) (.v 39 0)) (.no (.v 66 0))) false, .f 66 4 [.a (cellsX 14 0 setK), .l (.n .u32 (.v 2 0))], .f 54 4 [.a (cellsX 11 0 setK), .l (.n .u32 (.v 2 0))], .f 49 4 [.a (cellsX 8 0 setK), .l (.n .u32 (.v 2 0))], .f 39 4 [.a (cellsX 1 0 setK), .l (.n .u32 (.v 2 0))], .f 36 4 [.a (cellsX 0 0 setK), .l (.n .u32 (.v 2 0))], .c (.v 22 0) true, .c (.v 26 0) true, .c (.v 31 0) true, .f 31 3 [.a (cellsX 14 0 setK)], .f 26 3 [.a (cellsX 11 0 setK)], .f 22 3 [.a (cellsX 8 0 setK)], .f 14 2 [.a (cellsX 0 0 setK), .a (cellsX 1 0 setK)], .f 11 1 [.a (cellsX 0 0 setK), .a (cellsX 1 0 setK)], .f 8 0 [.a (cellsX 0 0 setK), .a (cellsX 1 0 setK)]] 5 [.a (cellsX 1 0 setK), .a (cellsX 8 0 setK)],
  .pre [.f 76 5 [.a (cellsX 1 0 setK), .a (cellsX 8 0 setK)], .f 72 5 [.a (cellsX 0 0 setK), .a (cellsX 8 0 setK)], .c (.an (.no (.an (.no (.v 36 0)) (.no (.v 39 0)))) (.no (.an (.v 49 0) (.v 54 0)))) false, .c (.an (.an (.v 36 0) (.v 39 0)) (.no (.v 66 0))) false, .f 66 4 [.a (cellsX 14 0 setK), .l (.n .u32 (.v 2 0))], .f 54 4 [.a (cellsX 11 0 setK), .l (.n .u32 (.v 2 0))], .f 49 4 [.a (cellsX 8 0 setK), .l (.n .u32 (.v 2 0))], .f 39 4 [.a (cellsX 1 0 setK), .l (.n .u32 (.v 2 0))], .f 36 4 [.a (cellsX 0 0 setK), .l (.n .u32 (.v 2 0))], .c (.v 22 0) true, .c (.v 26 0) true, .c (.v 31 0) true, .f 31 3 [.a (cellsX 14 0 setK)], .f 26 3 [.a (cellsX 11 0 setK)], .f 22 3 [.a (cellsX 8 0 setK)], .f 14 2 [.a (cellsX 0 0 setK), .a (cellsX 1 0 setK)], .f 11 1 [.a (cellsX 0 0 setK), .a (cellsX 1 0 setK)], .f 8 0 [.a (cellsX 0 0 setK), .a (cellsX 1 0 setK)]] 5 [.a (cellsX 8 0 setK), .a (cellsX 11 0 setK)],
  .pre [.f 81 5 [.a (cellsX 8 0 setK), .a (cellsX 11 0 setK)], .f 76 5 [.a (cellsX 1 0 setK), .a (cellsX 8 0 setK)], .f 72 5 [.a (cellsX 0 0 setK), .a (cellsX 8 0 setK)], .c (.an (.no (.an (.no (.v 36 0)) (.no (.v 39 0)))) (.no (.an (.v 49 0) (.v 54 0)))) false, .c (.an (.an (.v 36 0) (.v 39 0)) (.no (.v 66 0))) false, .f 66 4 [.a (cellsX 14 0 setK), .l (.n .u32 (.v 2 0))], .f 54 4 [.a (cellsX 11 0 setK), .l (.n .u32 (.v 2 0))], .f 49 4 [.a (cellsX 8 0 setK), .l (.n .u32 (.v 2 0))], .f 39 4 [.a (cellsX 1 0 setK), .l (.n .u32 (.v 2 0))], .f 36 4 [.a (cellsX 0 0 setK), .l (.n .u32 (.v 2 0))], .c (.v 22 0) true, .c (.v 26 0) true, .c (.v 31 0) true, .f 31 3 [.a (cellsX 14 0 setK)], .f 26 3 [.a (cellsX 11 0 setK)], .f 22 3 [.a (cellsX 8 0 setK)], .f 14 2 [.a (cellsX 0 0 setK), .a (cellsX 1 0 setK)], .f 11 1 [.a (cellsX 0 0 setK), .a (cellsX 1 0 setK)], .f 8 0 [.a (cellsX 0 0 setK), .a (cellsX 1 0 setK)]] 6 []]
theorem xCovers_run : funcX Try.prog xCovers_cfg 2000 Try.f9 xCovers_args xCovers_rws = some (xCovers_ls, xCovers_os) := by kernel_rfl
def env14 (a b : VSet) (n : Int) : Env := ⟨fun d j => match d with | 0 => setInt a j | 1 => setInt b j | 2 => n | _ => 0, fun d j => match d with | 0 => setBool a j | 1 => setBool b j | _ => false, fun _ => 0, fun _ => none⟩
set_option maxHeartbeats 4000000 in
theorem valuesetCovers_walk (a : VSet) (ha : a.wf) (b : VSet) (hb : b.wf) (n : Int) (hn : 0 ≤ n ∧ n < 4294967296) (w : World) :
    Calls Try.prog 9 #[a.val, b.val, .int .u32 n] w (Ret (.bool true) w) := by
  have na := normL_wf ha
  have nb := normL_wf hb
  have va := normL_valid a
  have vb := normL_valid b
  have jw : (joinL a b).wf := joinN_wf na nb
  have jv : validL (joinL a b) = true := joinN_valid na nb va vb
  have ww : (widenL a b).wf := widenN_wf na nb va vb
  have wv : validL (widenL a b) = true := widenN_valid na nb va vb
  have mw : (meetL a b).wf := (meetN_ok na nb va vb).1
  have mv : validL (meetL a b) = true := (meetN_ok na nb va vb).2
  have hn' : u32R n := hn
  have c1 : containsL a n = true ∨ containsL b n = true → containsL (joinL a b) n = true := fun h => by
    unfold containsL at h ⊢
    rw [normL_of jv]
    exact join_con na nb va vb n hn.1 hn.2 h
  have c2 : containsL a n = true ∨ containsL b n = true → containsL (widenL a b) n = true := fun h => by
    unfold containsL at h ⊢
    rw [normL_of wv]
    exact widen_con na nb va vb n hn.1 hn.2 (join_con na nb va vb n hn.1 hn.2 h)
  have c3 : containsL a n = true → containsL b n = true → containsL (meetL a b) n = true := fun h h' => by
    unfold containsL at h h' ⊢
    rw [normL_of mv]
    exact meet_con na nb va vb n hn.1 hn.2 h h'
  have i1 : withinL a (joinL a b) = true := by unfold withinL; rw [normL_of jv]; exact (join_within na nb va vb).1
  have i2 : withinL b (joinL a b) = true := by unfold withinL; rw [normL_of jv]; exact (join_within na nb va vb).2
  have i3 : withinL (joinL a b) (widenL a b) = true := by unfold withinL; rw [normL_of jv, normL_of wv]; exact (widen_within na nb va vb).1
  refine ret_of_sx (C := [c14_join, c14_widen, c14_meet, c14_valid, c14_contains, c14_within, c14_ex]) (I := []) c14_mixed rfl Try.func9 xCovers_run (env14 a b n) w rfl (fun r hr => (List.not_mem_nil hr).elim) _ ?_ ?_
  · refine ⟨?_, ?_, ?_, ?_, ?_, ?_, ?_, ?_, ?_, ?_, ?_, ?_, ?_, ?_, ?_, trivial⟩
    all_goals
      intro e he hc
      have h0 : setE e 0 0 = a := setE_of (he 0 (by decide)).1 (he 0 (by decide)).2.1
      have h1 : setE e 1 0 = b := setE_of (he 1 (by decide)).1 (he 1 (by decide)).2.1
      have h2 : e.int 2 0 = n := by rw [(he 2 (by decide)).1]; rfl
      have f8 : (e.int 8 = setInt (joinL a b) ∧ e.bool 8 = setBool (joinL a b)) → (setE e 8 0).wf := fun h => by rw [setE_of h.1 h.2]; exact jw
      have f11 : (e.int 11 = setInt (widenL a b) ∧ e.bool 11 = setBool (widenL a b)) → (setE e 11 0).wf := fun h => by rw [setE_of h.1 h.2]; exact ww
      have f14 : (e.int 14 = setInt (meetL a b) ∧ e.bool 14 = setBool (meetL a b)) → (setE e 14 0).wf := fun h => by rw [setE_of h.1 h.2]; exact mw
      clear jw jv ww wv mw mv c1 c2 c3 i1 i2 i3 na nb va vb
      clear he
      simp only [Each, Owed, Cd.holds, SX.den, cmI, PX.den, LX.den, List.map_cons, List.map_nil, Bool.and_eq_true, Bool.and_eq_false_iff, Bool.not_eq_true', Bool.not_eq_false', List.getElem?_cons_zero, List.getElem?_cons_succ, Option.some.injEq, exists_eq_left', mk'_post, mk'_pre, setD_cells, numD_leaf, truD_leaf, c14_join, c14_widen, c14_meet, c14_valid, c14_contains, c14_within, c14_ex, h0, h1, h2] at hc ⊢
    all_goals grind
  refine ⟨?_, ?_, ?_, trivial⟩
  all_goals
    intro e u he hc hs
    have h0 : setE e 0 0 = a := setE_of (he 0 (by decide)).1 (he 0 (by decide)).2.1
    have h1 : setE e 1 0 = b := setE_of (he 1 (by decide)).1 (he 1 (by decide)).2.1
    have h2 : e.int 2 0 = n := by rw [(he 2 (by decide)).1]; rfl
    simp only [Each, Owed, Cd.holds, SX.den, cmI, PX.den, LX.den, List.map_cons, List.map_nil, Bool.and_eq_true, Bool.and_eq_false_iff, Bool.not_eq_true', Bool.not_eq_false', List.getElem?_cons_zero, List.getElem?_cons_succ, Option.some.injEq, exists_eq_left', mk'_post, mk'_pre, setD_cells, numD_leaf, truD_leaf, c14_join, c14_widen, c14_meet, c14_valid, c14_contains, c14_within, c14_ex, h0, h1, h2] at hc
    rw [sat_v hs]
    have f8 : (e.int 8 = setInt (joinL a b) ∧ e.bool 8 = setBool (joinL a b)) → setE e 8 0 = joinL a b := fun h => setE_of h.1 h.2
    have f11 : (e.int 11 = setInt (widenL a b) ∧ e.bool 11 = setBool (widenL a b)) → setE e 11 0 = widenL a b := fun h => setE_of h.1 h.2
    have f14 : (e.int 14 = setInt (meetL a b) ∧ e.bool 14 = setBool (meetL a b)) → setE e 14 0 = meetL a b := fun h => setE_of h.1 h.2
    clear jw ww mw na nb va vb he h0 h1 h2 hs ha hb hn
    (try simp only [PX.den, LX.den, SX.den])
    grind
theorem valuesetCovers_own : ownKnob Try.prog.godebug = none := by kernel_rfl
set_option maxRecDepth 100000 in
theorem valuesetCovers_lifted (os : Os) (started : os.Started) (H : Type) (enc : TypeId × Value → H) :
    ReturnsInHanded {} Try.checked os 9 .any (Rows.valuesetCoversSpec.pre6 enc Try.prog Try.f9 Rows.valuesetCoversRow.domain false) (Rows.valuesetCoversSpec.post enc Try.prog Try.f9 false true false false) := by
  refine returnsInHanded_of_change (C := Try.checked) valuesetCovers_own started (by kernel_rfl) Try.func9
    (ChangeSpec.witness6 (enc := enc) (C := Try.checked) false ⟨#[], #[.agg #[.bool false, .bool false, .int .u32 0, .int .u32 0, .int .u32 0], .agg #[.bool false, .bool false, .int .u32 0, .int .u32 0, .int .u32 0], .int .u32 0], []⟩ 8 (by kernel_rfl) (by kernel_rfl) (by kernel_rfl) (by kernel_rfl)) ?_
  intro W base args ds gs before hval0 hW hcnd _
  have hval : ∀ (j : Nat) t v, Try.f9.params[j]? = some t → args[j]? = some v → Value.okWide Try.prog W .any base t v := hval0
  have hW' := hW
  obtain ⟨p, q, hA0, hV, rfl, hfz, hnd⟩ := hW
  have hA : DataW.TrodAll enc Try.prog W 0 (fun _ => true) true Try.f9.params.toList args.toList ds p := hA0
  have hA1 := hA
  obtain ⟨rfl, rfl⟩ := trodVars_none hV
  rw [Try.params9] at hA hval
  obtain ⟨v0, vs0, d0, ds0, p0, q0, hargs, hd0, hp0, h0, r0⟩ := trodAll_cons hA
  obtain ⟨v1, vs1, d1, ds1, p1, q1, hv1, hd1, hp1, h1, r1⟩ := trodAll_cons r0
  obtain ⟨v2, vs2, d2, ds2, p2, q2, hv2, hd2, hp2, h2, r2⟩ := trodAll_cons r1
  obtain ⟨hvn, hdn, hpn⟩ := trodAll_nil r2
  subst hdn hd2 hd1 hd0
  obtain rfl : args = #[v0, v1, v2] := by cases args; simp_all
  clear hargs hvn hv1 hv2
  obtain ⟨cs0, rfl, l0⟩ := open_flat [none, none, some .u32, some .u32, some .u32] 5 Try.underlying24 (by kernel_rfl) (by kernel_rfl) (hval 0 24 v0 rfl rfl) h0
  obtain ⟨s0, hs0, rfl⟩ := leaves_set l0
  obtain ⟨cs1, rfl, l1⟩ := open_flat [none, none, some .u32, some .u32, some .u32] 5 Try.underlying24 (by kernel_rfl) (by kernel_rfl) (hval 1 24 v1 rfl rfl) h1
  obtain ⟨s1, hs1, rfl⟩ := leaves_set l1
  obtain ⟨a2, rfl, _, _, w2⟩ := open_int Try.underlying22 (hval 2 22 v2 rfl rfl) h2
  simp only [List.append_nil] at hW'
  refine (valuesetCovers_walk s0 hs0 s1 hs1 a2 (wf_u32 w2) W).mono fun e W' hr => ?_
  obtain ⟨rfl, hb⟩ := hr
  exact ⟨_, rfl, post_of_below (pa := p) (pv := []) hW' (fun _ _ _ => (trodAll_cons_mk (shut_bool Try.underlying4 _) trodAll_mk0)) (fun sp hsp => trodAll_stays Try_laidOut hb _ _ _ _ (by kernel_rfl) hA1 (fun x hx => hW'.lt x hx) hsp) (fun _ _ => rfl) (by simp)
    hb (ok_one (by kernel_rfl) rfl (okWide_bool_mk Try.underlying4 _))⟩
theorem valuesetCovers_over : Rows.valuesetCoversRow.holds Try.pinned (OpenSpec.ofChange Rows.valuesetCoversSpec) :=
  OpenClaim.holds_of_wide 9 Try.f9 rfl rfl rfl rfl rfl rfl rfl ⟨rfl, rfl, rfl, rfl, rfl⟩ rfl rfl rfl rfl rfl (by kernel_rfl) Try.func9 (by kernel_rfl)
    (of_decide_eq_true (by kernel_rfl)) (by unfold Func.isWrapper; first | (rw [if_pos (by decide +kernel)]; kernel_rfl) | (rw [if_neg (by decide +kernel)]; exact ⟨rfl, rfl⟩))
    (fun os started H enc _ => valuesetCovers_lifted os started H enc)
/-- THE STATEMENT -/
theorem valuesetCovers_proved : Rows.ValuesetCoversSaid := valuesetCovers_over
#print axioms valuesetCovers_proved
end Go.Proofs.Ytjhdjclcfmcilaa
