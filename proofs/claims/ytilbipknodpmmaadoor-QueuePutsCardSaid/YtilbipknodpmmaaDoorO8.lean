/- The law OpsTell. -/
import Derived.Test.YtilbipknodpmmaaDoorO7
import Derived.Test.YtilbipknodpmmaaDoorM33
import Derived.Test.YtilbipknodpmmaaDoorE31
set_option linter.unusedVariables false
set_option linter.unusedSimpArgs false
set_option linter.unusedSectionVars false
set_option maxRecDepth 100000
set_option maxHeartbeats 8000000
namespace Go.Proofs.YtilbipknodpmmaaDoor
open Go.RowKit

theorem outP_or' (E : Int) (ps : List (Int × List UInt8)) : (E = 0 ∧ outP E ps = .own ps.length 33 (ptL ps)) ∨ (E ≠ 0 ∧ outP E ps = .sl .full 0 []):=by
  by_cases h : E = 0
  · exact .inl ⟨h,if_pos h⟩
  · exact .inr ⟨h,if_neg h⟩
theorem mk_ptL' {b nm : List UInt8} {n : Int} (hE : mkE (decV b) nm n = 0) : List.take ((mkP (decV b) nm n).length * 33) (ptL (mkP (decV b) nm n)) = ptL (mkP (decV b) nm n) ∧ (ptL (mkP (decV b) nm n)).length = (mkP (decV b) nm n).length * 33 ∧ (∀ q ∈ mkP (decV b) nm n,q.2.length = 32) ∧ (mkP (decV b) nm n).length ≤ 5:=by
  have hs : (decV b).length < 3 ∧ ¬ (n < 1 ∨ 4 < n):=by
    unfold mkE at hE
    repeat (first | (split at hE; (first | (exact absurd hE (by decide)) | skip)))
    omega
  have h : ∀ q ∈ mkP (decV b) nm n,q.2.length = 32:=by
    intro q hq
    unfold mkP at hq
    rcases List.mem_append.1 hq with hq | hq
    · exact zpt_ok _ q hq
    · obtain rfl:=List.mem_singleton.1 hq
      refine tabB_length ?_
      unfold mkV
      simp
      omega
  have l:=ptL_length h
  refine ⟨List.take_of_length_le (by omega),l,h,?_⟩
  unfold mkP zpt
  rw [List.length_append,List.length_map,List.length_take,List.length_singleton]
  omega
variable {s : St} {b nm d : List UInt8} {n : Int} {v2 v3 : Nat}
end Go.Proofs.YtilbipknodpmmaaDoor
