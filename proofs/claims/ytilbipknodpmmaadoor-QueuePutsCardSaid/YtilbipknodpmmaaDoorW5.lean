/- The law QueueFull. -/
import Derived.Test.YtilbipknodpmmaaDoorW4
import Derived.Test.YtilbipknodpmmaaDoorE31
set_option linter.unusedVariables false
set_option linter.unusedSimpArgs false
set_option linter.unusedSectionVars false
set_option maxRecDepth 100000
set_option maxHeartbeats 8000000
namespace Go.Proofs.YtilbipknodpmmaaDoor
open Go.RowKit

end Go.Proofs.YtilbipknodpmmaaDoor
