/-
  Part of the proof.
-/
import Derived.Test.YteplnamfpodmlaaQVaF
set_option linter.unusedVariables false
set_option linter.unusedSimpArgs false
set_option maxRecDepth 100000
open Go.ChangeShapes Go.WideShapes Go.ChangeAt Go.RowKit
namespace Go.Proofs.Yteplnamfpodmlaa
theorem QoC{a b:Qd}(ta:a.t=false)(tb:b.t=false)(c1:¬QO a≤64)(c2:¬QO b≤64) :
 WG a b=Qs (Jn a (if a.lo < b.lo then b.lo else a.lo)) (if a.hi < b.hi then a.hi else b.hi) a.st:=by
 unfold WG
 simp only [ta,tb,Bool.false_eq_true,if_false]
 rw [if_neg c1,if_neg c2]
 by_cases c:(if a.hi < b.hi then a.hi else b.hi) < Jn a (if a.lo < b.lo then b.lo else a.lo)
 ·rw [if_pos c];unfold Qs;rw [if_pos c]
 ·rw [if_neg c]
end Go.Proofs.Yteplnamfpodmlaa
