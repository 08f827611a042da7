/-
  Part of the proof.
-/
import Derived.Test.YteplnamfpodmlaaRKit
set_option linter.unusedVariables false
set_option linter.unusedSimpArgs false
set_option maxRecDepth 100000
open Go.ChangeShapes Go.WideShapes Go.ChangeAt Go.RowKit
namespace Go.Proofs.Yteplnamfpodmlaa
end Go.Proofs.Yteplnamfpodmlaa
