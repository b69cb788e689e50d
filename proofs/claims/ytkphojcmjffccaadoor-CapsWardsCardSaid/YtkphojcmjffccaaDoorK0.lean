/- Parts of bytes. -/
import Derived.Test.YtkphojcmjffccaaDoorE31
set_option linter.unusedVariables false
set_option linter.unusedSimpArgs false
set_option maxRecDepth 100000
set_option maxHeartbeats 2000000
namespace Go.Proofs.YtkphojcmjffccaaDoor
open Go.RowKit

/-- parts of bytes as cells -/
def pl (ps : List (Fl × List UInt8)) : List IV := ps.map fun p => .sl p.1 p.2.length (bl p.2)
theorem pl_length (ps : List (Fl × List UInt8)) : (pl ps).length = ps.length := by simp [pl]
theorem drop_pl {ps : List (Fl × List UInt8)} {i : Nat} (h : i < ps.length) : (pl ps).drop i = .sl ps[i].1 ps[i].2.length (bl ps[i].2) :: (pl ps).drop (i + 1) := by
  rw [List.drop_eq_getElem_cons (by simpa [pl] using h)]; simp [pl]
def joined (ps : List (Fl × List UInt8)) : List UInt8 := (ps.map (·.2)).flatten
theorem joined_snoc (ps : List (Fl × List UInt8)) (p : Fl × List UInt8) : joined (ps ++ [p]) = joined ps ++ p.2 := by simp [joined]
theorem roomyB {n : Nat} (h : n ≤ 2 ^ 44) : roomy n 1 = true := by simp [roomy]; omega
end Go.Proofs.YtkphojcmjffccaaDoor
