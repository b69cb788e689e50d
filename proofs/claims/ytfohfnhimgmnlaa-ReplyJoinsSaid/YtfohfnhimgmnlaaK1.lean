/- Bytes held against bytes. -/
import Derived.Test.YtfohfnhimgmnlaaE30
import Derived.Test.YtfohfnhimgmnlaaM3
set_option linter.unusedVariables false
set_option linter.unusedSimpArgs false
set_option maxRecDepth 100000
set_option maxHeartbeats 2000000
namespace Go.Proofs.Ytfohfnhimgmnlaa
open Go.RowKit

/-- the bytes of a row of bytes, read back -/
theorem bytes_back {f : IV → Option UInt8} (hf : ∀ b : UInt8, f (.int .u8 (b.toNat : Int)) = some b) (xs : List UInt8) : (bl xs).mapM f = some xs := by
  induction xs with
  | nil => rfl
  | cons x xs ih =>
    rw [show bl (x :: xs) = .int .u8 (x.toNat : Int) :: bl xs from rfl, List.mapM_cons, ih, hf]
    rfl

theorem bytes_ok (f f' : Fl) (xs ys : List UInt8) : RC Try.prog 40 [.sl f xs.length (bl xs), .sl f' ys.length (bl ys)] [.bool (decide (xs = ys))] := by
  refine RC.of_wp c40 rfl ?_
  simp -implicitDefEqProofs (maxSteps := 2000000) only [m40_1, m40_r, m40_b, m40, bl_length, bytes_back, UInt8.ofNat_toNat, wk, act, ↓reduceIte, Nat.reduceEqDiff, reduceCtorEq, Nat.reduceAdd, Nat.reduceLeDiff, Nat.reduceSub, Nat.reduceMul, List.reduceReplicate, Int.reduceEq, Int.reduceLT, Int.reduceLE, Int.reduceAdd, Int.reduceSub, Int.reduceMul, Nat.reduceLT, Int.reduceToNat]

end Go.Proofs.Ytfohfnhimgmnlaa
