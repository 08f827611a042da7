/-
  Meet of package valueset for all sets.
-/
import Derived.Test.YtjhdjclcfmcilaaVal15
namespace Go.Proofs.Ytjhdjclcfmcilaa
open Go.ChangeShapes Go.WideShapes Go.ChangeAt Go.RowKit
set_option linter.unusedVariables false
theorem meet_any (a b : VSet) (ha : a.wf) (hb : b.wf) (w : World) : Calls Try.prog 34 #[a.val, b.val] w (Ret (meetL a b).val w) := by
  have na := normL_wf ha
  have nb := normL_wf hb
  have va := normL_valid a
  have vb := normL_valid b
  have k : ∀ s : VSet, s.wf → validL s = true → ∀ w, Calls Try.prog 27 #[s.val] w (Ret (.int .i64 (countN s)) w) := fun s ws vs w => by
    have := count_any s ws w
    unfold countL at this
    rwa [normL_of vs] at this
  have e : ∀ s : VSet, s.wf → validL s = true → countN s ≤ 64 → ∀ w, Calls Try.prog 30 #[s.val] w (Slice32 (elemsN s) (fun v => .tuple #[v, .int .i64 0]) w) := fun s ws vs hc w => by
    have := elements_few s ws (by unfold countL; rw [normL_of vs]; exact hc) w
    rwa [normL_of vs] at this
  have e' : ∀ s : VSet, s.wf → validL s = true → ¬ countN s ≤ 64 → ∀ w, Calls Try.prog 30 #[s.val] w (Ret (.tuple #[.slice none 0 0, .int .i64 6]) w) := fun s ws vs hc w =>
    elements_many s ws (by unfold countL; rw [normL_of vs]; exact hc) w
  exact meet_core a b (normL a) (normL b) na nb (hide va) (hide vb) _ (hide rfl) (k _ na va) (hide (e _ na va)) (hide (e _ nb vb)) (hide (e' _ nb vb)) (known_any a ha) (known_any b hb) w
end Go.Proofs.Ytjhdjclcfmcilaa
