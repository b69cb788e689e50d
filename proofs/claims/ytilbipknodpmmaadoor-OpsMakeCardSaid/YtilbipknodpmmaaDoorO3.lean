/- Of the ops: a volume that is made, by the reference. -/
import Derived.Test.YtilbipknodpmmaaDoorO2
import Derived.Test.YtilbipknodpmmaaDoorE31
import Derived.Test.YtilbipknodpmmaaDoorM1
import Derived.Test.YtilbipknodpmmaaDoorM13
import Derived.Test.YtilbipknodpmmaaDoorM6
set_option linter.unusedVariables false
set_option linter.unusedSimpArgs false
set_option linter.unusedSectionVars false
set_option maxRecDepth 100000
set_option maxHeartbeats 8000000
namespace Go.Proofs.YtilbipknodpmmaaDoor
open Go.RowKit

end Go.Proofs.YtilbipknodpmmaaDoor
