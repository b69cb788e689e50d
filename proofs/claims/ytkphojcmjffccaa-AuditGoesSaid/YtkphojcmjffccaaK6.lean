/- Numbers in bounds. -/
import Derived.Test.YtkphojcmjffccaaE31
import Derived.Test.YtkphojcmjffccaaK0
set_option linter.unusedVariables false
set_option linter.unusedSimpArgs false
set_option maxRecDepth 100000
set_option maxHeartbeats 2000000
namespace Go.Proofs.Ytkphojcmjffccaa
open Go.RowKit

def modN (k : Int) (n : Nat) : Nat := (k % (n : Int)).toNat
end Go.Proofs.Ytkphojcmjffccaa
