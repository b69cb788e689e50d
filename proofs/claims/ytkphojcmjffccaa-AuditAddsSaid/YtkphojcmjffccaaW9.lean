/- Of verifying: what was added is right, its beginning too; with one entry turned, the first that is wrong is it. -/
import Derived.Test.YtkphojcmjffccaaW7
import Derived.Test.YtkphojcmjffccaaE31
set_option linter.unusedVariables false
set_option linter.unusedSimpArgs false
set_option linter.unusedSectionVars false
set_option maxRecDepth 100000
set_option maxHeartbeats 8000000
namespace Go.Proofs.Ytkphojcmjffccaa
open Go.RowKit

end Go.Proofs.Ytkphojcmjffccaa
