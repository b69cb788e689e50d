/- Of the table: the volumes' block, by the reference. -/
import Derived.Test.YtilbipknodpmmaaDoorE31
import Derived.Test.YtilbipknodpmmaaDoorM6
import Derived.Test.YtilbipknodpmmaaDoorB9
import Derived.Test.YtilbipknodpmmaaDoorK0
import Derived.Test.YtilbipknodpmmaaDoorB4
import Derived.Test.YtilbipknodpmmaaDoorD1
set_option linter.unusedVariables false
set_option linter.unusedSimpArgs false
set_option maxRecDepth 100000
set_option maxHeartbeats 8000000
namespace Go.Proofs.YtilbipknodpmmaaDoor
open Go.RowKit

end Go.Proofs.YtilbipknodpmmaaDoor
/- Of the table: the volumes' block, by the reference. -/
set_option linter.unusedVariables false
set_option linter.unusedSimpArgs false
set_option maxRecDepth 100000
set_option maxHeartbeats 8000000
namespace Go.Proofs.YtilbipknodpmmaaDoor
open Go.RowKit

end Go.Proofs.YtilbipknodpmmaaDoor
/- Of the table: the reference's Decode. -/
set_option linter.unusedVariables false
set_option linter.unusedSimpArgs false
set_option maxRecDepth 100000
set_option maxHeartbeats 8000000
namespace Go.Proofs.YtilbipknodpmmaaDoor
open Go.RowKit

end Go.Proofs.YtilbipknodpmmaaDoor
/- Of the table: the reference's Decode. -/
set_option linter.unusedVariables false
set_option linter.unusedSimpArgs false
set_option maxRecDepth 100000
set_option maxHeartbeats 8000000
namespace Go.Proofs.YtilbipknodpmmaaDoor
open Go.RowKit

end Go.Proofs.YtilbipknodpmmaaDoor
