/- Of the replies: the statements' own example wakes. -/
import Derived.Test.YtfohfnhimgmnlaaC6
set_option linter.unusedVariables false
set_option linter.unusedSimpArgs false
set_option maxRecDepth 100000
set_option maxHeartbeats 4000000
namespace Go.Proofs.Ytfohfnhimgmnlaa
open Go.RowKit

theorem wakes36 : RC Try.prog 36 [] [.bool true] := by
  refine RC.of_wp c36 rfl ?_
  have ce := enc38 ⟨258, 7, .full, [97, 98]⟩ (by simp)
  have ce' := enc38 ⟨-1, 0, .full, []⟩ (by simp)
  have cj := join41 .full [⟨258, 7, .plain, [97, 98]⟩, ⟨0, 0, .plain, []⟩] (by simp) (by decide)
  have e1 : encB ⟨258, 7, .full, [97, 98]⟩ = [2, 1, 0, 0, 7, 2, 97, 98, 201, 201] := by decide +kernel
  have e2 : encE ⟨258, 7, .full, [97, 98]⟩ = 0 := by decide +kernel
  have e3 : encB ⟨-1, 0, .full, []⟩ = [] := by decide +kernel
  have e4 : encE ⟨-1, 0, .full, []⟩ = 11 := by decide +kernel
  have e5 : joinB [⟨258, 7, .plain, [97, 98]⟩, ⟨0, 0, .plain, []⟩] = [2, 1, 0, 0, 7, 2, 97, 98, 201, 201, 0, 0, 0, 0, 0, 0, 143, 247] := by decide +kernel
  have e6 : joinE [⟨258, 7, .plain, [97, 98]⟩, ⟨0, 0, .plain, []⟩] = 0 := by decide +kernel
  have cd := dec43 .plain (by decide) [2, 1, 0, 0, 7, 2, 97, 98, 201, 201] (by decide)
  have e7 : rc (decR [2, 1, 0, 0, 7, 2, 97, 98, 201, 201]) = [.int .i64 258, .int .i64 7, .sl .plain 2 [.int .u8 97, .int .u8 98]] := by
    have : isR [2, 1, 0, 0, 7, 2, 97, 98, 201, 201] = true := by decide +kernel
    unfold decR
    rw [if_pos this]
    rfl
  have e8 : decE [2, 1, 0, 0, 7, 2, 97, 98, 201, 201] = 0 := by decide +kernel
  rw [e1, e2] at ce
  rw [e3, e4] at ce'
  rw [e5, e6] at cj
  rw [e7, e8] at cd
  have bx : bl [2, 1, 0, 0, 7, 2, 97, 98, 201, 201] = [.int .u8 2, .int .u8 1, .int .u8 0, .int .u8 0, .int .u8 7, .int .u8 2, .int .u8 97, .int .u8 98, .int .u8 201, .int .u8 201] := rfl
  rw [bx] at ce cd
  repeat' (first | simp -implicitDefEqProofs (maxSteps := 2000000) only [m36_1, m36_2, m36_3, m36_4, m36_5, m36_6, m36_7, m36_8, m36_9, m36_10, m36_r, m36_b, m36, wk, act, ↓reduceIte, Nat.reduceEqDiff, reduceCtorEq, Nat.reduceAdd, Nat.reduceLeDiff, Nat.reduceSub, Nat.reduceMul, List.reduceReplicate, Int.reduceEq, Int.reduceLT, Int.reduceLE, Int.reduceAdd, Int.reduceSub, Int.reduceMul, Nat.reduceLT, Int.reduceToNat] | ((with_reducible refine CallL.gate ?_); refine CallL.of (by simp -implicitDefEqProofs (maxSteps := 2000000) only [m36_1, m36_2, m36_3, m36_4, m36_5, m36_6, m36_7, m36_8, m36_9, m36_10, m36_r, m36_b, m36, wk, act, ↓reduceIte, Nat.reduceEqDiff, reduceCtorEq, Nat.reduceAdd, Nat.reduceLeDiff, Nat.reduceSub, Nat.reduceMul, List.reduceReplicate, Int.reduceEq, Int.reduceLT, Int.reduceLE, Int.reduceAdd, Int.reduceSub, Int.reduceMul, Nat.reduceLT, Int.reduceToNat]; first | done | (with_reducible rfl)) (by first | exact ce | exact ce' | exact cj | exact cd) (by simp -implicitDefEqProofs (maxSteps := 2000000) only [m36_1, m36_2, m36_3, m36_4, m36_5, m36_6, m36_7, m36_8, m36_9, m36_10, m36_r, m36_b, m36, wk, act, ↓reduceIte, Nat.reduceEqDiff, reduceCtorEq, Nat.reduceAdd, Nat.reduceLeDiff, Nat.reduceSub, Nat.reduceMul, List.reduceReplicate, Int.reduceEq, Int.reduceLT, Int.reduceLE, Int.reduceAdd, Int.reduceSub, Int.reduceMul, Nat.reduceLT, Int.reduceToNat]) ?_) | ((with_reducible refine CallpL.gate ?_); refine CallpL.of (by simp -implicitDefEqProofs (maxSteps := 2000000) only [m36_1, m36_2, m36_3, m36_4, m36_5, m36_6, m36_7, m36_8, m36_9, m36_10, m36_r, m36_b, m36, wk, act, ↓reduceIte, Nat.reduceEqDiff, reduceCtorEq, Nat.reduceAdd, Nat.reduceLeDiff, Nat.reduceSub, Nat.reduceMul, List.reduceReplicate, Int.reduceEq, Int.reduceLT, Int.reduceLE, Int.reduceAdd, Int.reduceSub, Int.reduceMul, Nat.reduceLT, Int.reduceToNat]; first | done | (with_reducible rfl)) (by first | exact ce | exact ce' | exact cj | exact cd) (by simp -implicitDefEqProofs (maxSteps := 2000000) only [m36_1, m36_2, m36_3, m36_4, m36_5, m36_6, m36_7, m36_8, m36_9, m36_10, m36_r, m36_b, m36, wk, act, ↓reduceIte, Nat.reduceEqDiff, reduceCtorEq, Nat.reduceAdd, Nat.reduceLeDiff, Nat.reduceSub, Nat.reduceMul, List.reduceReplicate, Int.reduceEq, Int.reduceLT, Int.reduceLE, Int.reduceAdd, Int.reduceSub, Int.reduceMul, Nat.reduceLT, Int.reduceToNat]) ?_) | ((with_reducible refine CallP.gate ?_); refine CallP.of (by simp -implicitDefEqProofs (maxSteps := 2000000) only [m36_1, m36_2, m36_3, m36_4, m36_5, m36_6, m36_7, m36_8, m36_9, m36_10, m36_r, m36_b, m36, wk, act, ↓reduceIte, Nat.reduceEqDiff, reduceCtorEq, Nat.reduceAdd, Nat.reduceLeDiff, Nat.reduceSub, Nat.reduceMul, List.reduceReplicate, Int.reduceEq, Int.reduceLT, Int.reduceLE, Int.reduceAdd, Int.reduceSub, Int.reduceMul, Nat.reduceLT, Int.reduceToNat]; first | done | (with_reducible rfl)) (by first | exact ce | exact ce' | exact cj | exact cd) (by simp -implicitDefEqProofs (maxSteps := 2000000) only [m36_1, m36_2, m36_3, m36_4, m36_5, m36_6, m36_7, m36_8, m36_9, m36_10, m36_r, m36_b, m36, wk, act, ↓reduceIte, Nat.reduceEqDiff, reduceCtorEq, Nat.reduceAdd, Nat.reduceLeDiff, Nat.reduceSub, Nat.reduceMul, List.reduceReplicate, Int.reduceEq, Int.reduceLT, Int.reduceLE, Int.reduceAdd, Int.reduceSub, Int.reduceMul, Nat.reduceLT, Int.reduceToNat]) ?_) | ((with_reducible refine CallpP.gate ?_); refine CallpP.of (by simp -implicitDefEqProofs (maxSteps := 2000000) only [m36_1, m36_2, m36_3, m36_4, m36_5, m36_6, m36_7, m36_8, m36_9, m36_10, m36_r, m36_b, m36, wk, act, ↓reduceIte, Nat.reduceEqDiff, reduceCtorEq, Nat.reduceAdd, Nat.reduceLeDiff, Nat.reduceSub, Nat.reduceMul, List.reduceReplicate, Int.reduceEq, Int.reduceLT, Int.reduceLE, Int.reduceAdd, Int.reduceSub, Int.reduceMul, Nat.reduceLT, Int.reduceToNat]; first | done | (with_reducible rfl)) (by first | exact ce | exact ce' | exact cj | exact cd) (by simp -implicitDefEqProofs (maxSteps := 2000000) only [m36_1, m36_2, m36_3, m36_4, m36_5, m36_6, m36_7, m36_8, m36_9, m36_10, m36_r, m36_b, m36, wk, act, ↓reduceIte, Nat.reduceEqDiff, reduceCtorEq, Nat.reduceAdd, Nat.reduceLeDiff, Nat.reduceSub, Nat.reduceMul, List.reduceReplicate, Int.reduceEq, Int.reduceLT, Int.reduceLE, Int.reduceAdd, Int.reduceSub, Int.reduceMul, Nat.reduceLT, Int.reduceToNat]) ?_))
end Go.Proofs.Ytfohfnhimgmnlaa
