/-
  Part of the proof.
-/
import Derived.Test.YteplnamfpodmlaaQVaB
set_option linter.unusedVariables false
set_option linter.unusedSimpArgs false
set_option maxRecDepth 100000
open Go.ChangeShapes Go.WideShapes Go.ChangeAt Go.RowKit
namespace Go.Proofs.Yteplnamfpodmlaa
def QaQ(n m:Qd):Prop:=m.t=true∨(m.t=false∧(m.st==0)=false)∨(m.t=false∧m.st=0∧n.t=true)∨(m.t=false∧m.st=0∧n.t=false∧(n.st==0)=false)
end Go.Proofs.Yteplnamfpodmlaa
