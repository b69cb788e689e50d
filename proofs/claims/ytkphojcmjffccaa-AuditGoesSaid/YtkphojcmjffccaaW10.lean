/- The law AuditTurned. -/
import Derived.Test.YtkphojcmjffccaaW9
import Derived.Test.YtkphojcmjffccaaK6
import Derived.Test.YtkphojcmjffccaaE31
import Derived.Test.YtkphojcmjffccaaM16
set_option linter.unusedVariables false
set_option linter.unusedSimpArgs false
set_option linter.unusedSectionVars false
set_option maxRecDepth 100000
set_option maxHeartbeats 8000000
namespace Go.Proofs.Ytkphojcmjffccaa
open Go.RowKit

def tR (x : Sd) : Rp := ⟨(modN x.r.id 1000 : Nat), (modN x.r.e 256 : Nat), .plain, x.r.d⟩
theorem fairS_of {xs : List Sd} (h : fairS xs = true) : xs.length ≤ 30 ∧ ∀ x ∈ xs, x.asked.length ≤ 300 ∧ x.r.d.length ≤ 600 := by
  unfold fairS at h
  rw [Bool.and_eq_true, List.all_eq_true] at h
  exact ⟨by simpa using h.2, fun x hx => by have := h.1 x hx; simpa using this⟩

end Go.Proofs.Ytkphojcmjffccaa
