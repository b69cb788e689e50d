/- Bytes that are held against each other, all of a row. -/
import Derived.Test.YtkphojcmjffccaaK5
set_option linter.unusedVariables false
set_option linter.unusedSimpArgs false
set_option linter.unusedSectionVars false
set_option maxRecDepth 100000
namespace Go.Proofs.Ytkphojcmjffccaa
open Go.RowKit

theorem pl_take (ps : List (Fl × List UInt8)) : List.take ps.length (pl ps) = pl ps := List.take_of_length_le (by rw [pl_length]; exact Nat.le_refl _)
theorem eqL_by : ∀ (x y : List UInt8), x.length = y.length → eqL (bl x) (bl y) = some (decide (x = y))
  | [], [], _ => rfl
  | a :: x, b :: y, h => by
    have ih := eqL_by x y (by simpa using h)
    have hab : (((a.toNat : Nat) : Int) = (b.toNat : Nat)) = (a = b) := by
      apply propext
      constructor
      · intro e; exact UInt8.toNat_inj.1 (by omega)
      · rintro rfl; rfl
    simp only [bl, List.map_cons, eqL, eqC, if_true, hab] at ih ⊢
    rw [ih]
    by_cases h1 : a = b <;> by_cases h2 : x = y <;> simp [h1, h2]
  | [], b :: y, h => by simp at h
  | a :: x, [], h => by simp at h
theorem fitR_by {x : List UInt8} {n : Nat} (h : x.length = n) : fitR [(n, .i)] (bl x) = true := by
  subst h
  have e1 : List.take x.length (bl x) = bl x := take_bl x
  have e2 : List.drop x.length (bl x) = [] := List.drop_of_length_le (by rw [bl_length]; exact Nat.le_refl _)
  simp only [fitR, e1, e2, bl_length, Nat.le_refl, decide_true, Bool.true_and, List.isEmpty_nil, Bool.and_true]
  simp [bl, CK.fit]

theorem one_part (p : List UInt8) : joined [(Fl.plain, p)] = p := by simp [joined]
end Go.Proofs.Ytkphojcmjffccaa
