/- Bytes held against bytes. -/
import Derived.Test.YtlbilkldjhhopaaE31
import Derived.Test.YtlbilkldjhhopaaM7
set_option linter.unusedVariables false
set_option linter.unusedSimpArgs false
set_option maxRecDepth 100000
set_option maxHeartbeats 2000000
namespace Go.Proofs.Ytlbilkldjhhopaa
open Go.RowKit

/-- the bytes of a row of bytes, read back -/
theorem bytes_backK {f : IV → Option UInt8} (hf : ∀ b : UInt8, f (.int .u8 (b.toNat : Int)) = some b) (xs : List UInt8) : (bl xs).mapM f = some xs := by
  induction xs with
  | nil => rfl
  | cons x xs ih =>
    rw [show bl (x :: xs) = .int .u8 (x.toNat : Int) :: bl xs from rfl, List.mapM_cons, ih, hf]
    rfl

theorem bytes_ok (f f' : Fl) (xs ys : List UInt8) : RC Try.prog 18 [.sl f xs.length (bl xs), .sl f' ys.length (bl ys)] [.bool (decide (xs = ys))] := by
  refine RC.of_wp c18 rfl ?_
  simp -implicitDefEqProofs (maxSteps := 2000000) only [m18_1, m18_r, m18_b, m18, bl_length, bytes_backK, UInt8.ofNat_toNat, wk, act, asV, ↓reduceIte, Nat.reduceEqDiff, reduceCtorEq, Nat.reduceAdd, Nat.reduceLeDiff, Nat.reduceSub, Nat.reduceMul, List.reduceReplicate, Int.reduceEq, Int.reduceLT, Int.reduceLE, Int.reduceAdd, Int.reduceSub, Int.reduceMul, Nat.reduceLT, Int.reduceToNat]

end Go.Proofs.Ytlbilkldjhhopaa
