/- Of the audit: the reference's log, and Same. -/
import Derived.Test.YtkphojcmjffccaaW9
import Derived.Test.YtkphojcmjffccaaW7
import Derived.Test.YtkphojcmjffccaaE31
import Derived.Test.YtkphojcmjffccaaM16
set_option linter.unusedVariables false
set_option linter.unusedSimpArgs false
set_option linter.unusedSectionVars false
set_option maxRecDepth 100000
set_option maxHeartbeats 8000000
namespace Go.Proofs.Ytkphojcmjffccaa
open Go.RowKit

@[reducible] def offF : Off := ⟨6000⟩
@[reducible] def offG : Off := ⟨7000⟩
def isI : IV → Bool
  | .int _ _ => true
  | _ => false
theorem eqL_self : ∀ {cs : List IV}, cs.all isI = true → eqL cs cs = some true
  | [], _ => rfl
  | .int k n :: cs, h => by
    rw [List.all_cons, Bool.and_eq_true] at h
    rw [eqL, eqL_self h.2]
    simp [eqC]
theorem bl_isI (l : List UInt8) : (bl l).all isI = true := by
  induction l with
  | nil => rfl
  | cons b l ih => simp only [bl, List.map_cons, List.all_cons] at ih ⊢; rw [ih]; rfl
theorem enC_isI (x : En) : (enC x).all isI = true := by
  unfold enC
  rw [List.all_append, bl_isI, List.all_cons, List.all_cons, bl_isI]; rfl
theorem isI_fit : ∀ {l : List IV}, l.all isI = true → l.all CK.i.fit = true
  | [], _ => rfl
  | .int k n :: cs, h => by
    rw [List.all_cons, Bool.and_eq_true] at h
    rw [List.all_cons, isI_fit h.2]; rfl
theorem enC_fit {x : En} (h : x.Ok) : fitR [(66, .i)] (enC x) = true := by
  have l := enC_length h
  simp only [fitR]
  rw [List.take_of_length_le (by omega), isI_fit (enC_isI x), List.drop_of_length_le (by omega)]
  simp [l]
end Go.Proofs.Ytkphojcmjffccaa
