/-
  Part of the proof.
-/
import Derived.Test.YteplnamfpodmlaaRVal15
set_option linter.unusedVariables false
set_option linter.unusedSimpArgs false
set_option maxRecDepth 100000
open Go.ChangeShapes Go.WideShapes Go.ChangeAt Go.RowKit
namespace Go.Proofs.Yteplnamfpodmlaa
theorem Qru(a b:Qd)(ha:a.wf)(hb:b.wf)(w:World):Calls Try.prog 75 #[a.val,b.val] w (Ret (WF a b).val w):=by
 have na:=QJ ha
 have nb:=QJ hb
 have va:=Q2 a
 have vb:=Q2 b
 have k:∀s:Qd,s.wf→Qq s=true→∀w,Calls Try.prog 121 #[s.val] w (Ret (.int .i64 (QO s)) w):=fun s ws vs w=>by
  have:=QbO s ws w
  unfold Vl at this
  rwa [Zm vs]at this
 have e:∀s:Qd,s.wf→Qq s=true→QO s≤64→∀w,Calls Try.prog 122 #[s.val] w (YY (Jv s) (fun v=> .tuple #[v,.int .i64 0]) w):=fun s ws vs hc w=>by
  have:=QfB s ws (by unfold Vl;rw [Zm vs];exact hc) w
  rwa [Zm vs]at this
 have e':∀s:Qd,s.wf→Qq s=true→¬QO s≤64→∀w,Calls Try.prog 122 #[s.val] w (Ret (.tuple #[.slice none 0 0,.int .i64 6]) w):=fun s ws vs hc w=>
  Qez s ws (by unfold Vl;rw [Zm vs];exact hc) w
 exact QoB a b (ZO a) (ZO b) na nb (QF va) (QF vb) _ (QF rfl) (k _ na va) (QF (e _ na va)) (QF (e _ nb vb)) (QF (e' _ nb vb)) (Xu a ha) (Xu b hb) w
end Go.Proofs.Yteplnamfpodmlaa
