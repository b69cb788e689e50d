/- Numbers in bounds. -/
import Derived.Test.YtkphojcmjffccaaE31
import Derived.Test.YtkphojcmjffccaaM7
set_option linter.unusedVariables false
set_option linter.unusedSimpArgs false
set_option maxRecDepth 100000
set_option maxHeartbeats 2000000
namespace Go.Proofs.Ytkphojcmjffccaa
open Go.RowKit

/-- a number from 0 to n - 1 -/
def modN (k : Int) (n : Nat) : Nat := (k % (n : Int)).toNat
theorem modN_lt (k : Int) {n : Nat} (h : 0 < n) : modN k n < n := by
  have := Int.emod_lt_of_pos k (show (0 : Int) < n by omega)
  have := Int.emod_nonneg k (show (n : Int) ≠ 0 by omega)
  unfold modN; omega
theorem mod_ok (k : Int) {n : Nat} (h0 : 0 < n) (hn : n ≤ 2 ^ 62) : RC Try.prog 23 [.int .i64 k, .int .i64 (n : Nat)] [.int .i64 (modN k n : Nat)] := by
  refine RC.of_wp c23 rfl ?_
  have h1 : ¬ (n : Int) < 1 := by omega
  have h2 : ¬ (n : Int) = 0 := by omega
  have h3 := Int.mul_tdiv_add_tmod k n
  have h4 : k.tmod n < n := Int.tmod_lt_of_pos k (by omega)
  have h5 : -(n : Int) < k.tmod n := Int.lt_tmod_of_pos k (by omega)
  have hw : IntKind.i64.wrap (k.tmod n + n) = k.tmod n + n := by rw [IntKind.wrap_i64]; omega
  have h6 : (k.tmod n + n).tmod n = (modN k n : Nat) := by
    rw [Int.tmod_eq_emod_of_nonneg (by omega), Int.add_emod_right]
    have h7 : k.tmod n = k - n * k.tdiv n := by omega
    have h8 := Int.emod_nonneg k h2
    rw [h7, Int.sub_mul_emod_self_left]
    unfold modN
    omega
  simp -implicitDefEqProofs (maxSteps := 2000000) only [m23_1, m23_2, m23_3, m23_r, m23_b, m23, h1, h2, hw, h6, wk, act, asV, ↓reduceIte, Nat.reduceEqDiff, reduceCtorEq, Nat.reduceAdd, Nat.reduceLeDiff, Nat.reduceSub, Nat.reduceMul, List.reduceReplicate, Int.reduceEq, Int.reduceLT, Int.reduceLE, Int.reduceAdd, Int.reduceSub, Int.reduceMul, Nat.reduceLT, Int.reduceToNat]

end Go.Proofs.Ytkphojcmjffccaa
