/- The tags' example wakes. -/
import Derived.Test.YtlbilkldjhhopaaU6
import Derived.Test.YtlbilkldjhhopaaS17
import Derived.Test.YtlbilkldjhhopaaE31
import Derived.Test.YtlbilkldjhhopaaM8
set_option linter.unusedVariables false
set_option linter.unusedSimpArgs false
set_option linter.unusedSectionVars false
set_option maxRecDepth 100000
set_option maxHeartbeats 8000000
namespace Go.Proofs.Ytlbilkldjhhopaa
open Go.RowKit

def z32 : List UInt8 := List.replicate 32 0
theorem g12 : shaB (z32 ++ [97]) ≠ shaB (shaB (z32 ++ [97]) ++ [98]) := by decide +kernel
theorem wakesT_ok : RC Try.prog 32 [] [.bool true] := by
  refine RC.of_wp c32 rfl ?_
  have c1 := chain_ok .full (by decide) z32 [(.plain, [97]), (.plain, [98])] rfl (by decide) (by decide) (by decide)
  have c2 := same_ok .full .full [97, 98] [97, 98] (by decide) (by decide)
  have c3 := same_ok .full .full [97] [] (by decide) (by decide)
  have c4 := same_ok .full .full [] [] (by decide) (by decide)
  have c5 := sum_ok .full (by decide) [(.plain, z32), (.plain, [97])] (by decide) (by decide)
  have c6 := step_ok .full (by decide) (shaB (z32 ++ [97])) [(.plain, [98])] (digest_length _) (by decide) (by decide)
  have hne := g12
  have j5 : joined [(Fl.plain, z32), (.plain, [97])] = z32 ++ [97] := rfl
  have j6 : joined [(Fl.plain, [98])] = [98] := rfl
  have k2 : linkB z32 [(.plain, [97]), (.plain, [98])] 1 = shaB (z32 ++ [97]) := rfl
  have k3 : linkB z32 [(.plain, [97]), (.plain, [98])] 2 = shaB (shaB (z32 ++ [97]) ++ [98]) := rfl
  have kc : chainF z32 [(.plain, [97]), (.plain, [98])] 2 = shaB (z32 ++ [97]) ++ shaB (shaB (z32 ++ [97]) ++ [98]) := by
    rw [chainF, chainF, chainF, k2, k3, List.nil_append]
  have l2 : ([(Fl.plain, [97]), (.plain, [98])] : List (Fl × List UInt8)).length = 2 := rfl
  rw [l2, kc] at c1
  rw [j5] at c5
  rw [j6] at c6
  obtain ⟨G, hG⟩ : ∃ G, G = shaB (z32 ++ [97]) := ⟨_, rfl⟩
  have dG : G.length = 32 := by rw [hG]; exact digest_length _
  rw [← hG] at c1 c5 c6 hne
  obtain ⟨G2, hG2⟩ : ∃ G2, G2 = shaB (G ++ [98]) := ⟨_, rfl⟩
  have dG2 : G2.length = 32 := by rw [hG2]; exact digest_length _
  rw [← hG2] at c1 c6 hne
  clear k2 k3 kc hG hG2 j5 j6 l2
  have oc : ownC 2 (G ++ G2) = .own 2 32 (bl G ++ bl G2) := by unfold ownC; rw [if_neg (by decide), bl_append]
  rw [oc] at c1
  have bz : bl z32 = [.int .u8 0, .int .u8 0, .int .u8 0, .int .u8 0, .int .u8 0, .int .u8 0, .int .u8 0, .int .u8 0, .int .u8 0, .int .u8 0, .int .u8 0, .int .u8 0, .int .u8 0, .int .u8 0, .int .u8 0, .int .u8 0, .int .u8 0, .int .u8 0, .int .u8 0, .int .u8 0, .int .u8 0, .int .u8 0, .int .u8 0, .int .u8 0, .int .u8 0, .int .u8 0, .int .u8 0, .int .u8 0, .int .u8 0, .int .u8 0, .int .u8 0, .int .u8 0] := rfl
  have d1 : RC Try.prog 33 [.agg (bl z32), .sl .full 2 [.sl .plain 1 [.int .u8 97], .sl .plain 1 [.int .u8 98]]] [.own 2 32 (bl G ++ bl G2)] := c1
  have d2 : RC Try.prog 35 [.sl .full 2 [.int .u8 97, .int .u8 98], .sl .full 2 [.int .u8 97, .int .u8 98]] [.bool true] := c2
  have d3 : RC Try.prog 35 [.sl .full 1 [.int .u8 97], .sl .full 0 []] [.bool false] := c3
  have d4 : RC Try.prog 35 [.sl .full 0 [], .sl .full 0 []] [.bool true] := c4
  have d5 : RC Try.prog 17 [.sl .full 2 [.sl .plain 32 (bl z32), .sl .plain 1 [.int .u8 97]]] [.agg (bl G)] := c5
  have d6 : RC Try.prog 36 [.agg (bl G), .sl .full 1 [.sl .plain 1 [.int .u8 98]]] [.agg (bl G2)] := c6
  rw [bz] at d1 d5
  clear c1 c2 c3 c4 c5 c6
  have x1 : List.take 32 (bl G) = bl G := List.take_of_length_le (by rw [bl_length, dG]; exact Nat.le_refl _)
  have x2 : List.take 32 (bl G2) = bl G2 := List.take_of_length_le (by rw [bl_length, dG2]; exact Nat.le_refl _)
  have y1 : List.drop 32 (bl G ++ bl G2) = bl G2 := by rw [List.drop_append, List.drop_of_length_le (by rw [bl_length, dG]; exact Nat.le_refl _)]; simp [bl_length, dG]
  have y2 : List.take 32 (bl G ++ bl G2) = bl G := by rw [List.take_append, x1]; simp [bl_length, dG]
  have b1 : (bl G).length = 32 := by rw [bl_length, dG]
  have b2 : (bl G2).length = 32 := by rw [bl_length, dG2]
  have b3 : (bl G ++ bl G2).length = 64 := by rw [List.length_append, b1, b2]
  have q1 := eqL_by G G rfl
  have q2 := eqL_by G2 G2 rfl
  have q3 := eqL_by G G2 (by omega)
  rw [decide_eq_true rfl] at q1 q2
  rw [decide_eq_false hne] at q3
  have f1 := fitR_by dG
  have f2 := fitR_by dG2
  repeat' (first | simp -implicitDefEqProofs (maxSteps := 2000000) only [m32_1, m32_2, m32_3, m32_r, m32_b, m32, x1, x2, y1, y2, b1, b2, b3, q1, q2, q3, f1, f2, bl_scal, bl_pur, wk, act, asV, ↓reduceIte, Nat.reduceEqDiff, reduceCtorEq, Nat.reduceAdd, Nat.reduceLeDiff, Nat.reduceSub, Nat.reduceMul, List.reduceReplicate, Int.reduceEq, Int.reduceLT, Int.reduceLE, Int.reduceAdd, Int.reduceSub, Int.reduceMul, Nat.reduceLT, Int.reduceToNat] | ((with_reducible refine CallL.gate ?_); refine CallL.of (by simp -implicitDefEqProofs (maxSteps := 2000000) only [m32_1, m32_2, m32_3, m32_r, m32_b, m32, x1, x2, y1, y2, b1, b2, b3, q1, q2, q3, f1, f2, bl_scal, bl_pur, wk, act, asV, ↓reduceIte, Nat.reduceEqDiff, reduceCtorEq, Nat.reduceAdd, Nat.reduceLeDiff, Nat.reduceSub, Nat.reduceMul, List.reduceReplicate, Int.reduceEq, Int.reduceLT, Int.reduceLE, Int.reduceAdd, Int.reduceSub, Int.reduceMul, Nat.reduceLT, Int.reduceToNat]; first | done | (with_reducible rfl)) (by first | exact d1 | exact d2 | exact d3 | exact d4 | exact d5 | exact d6) (by simp -implicitDefEqProofs (maxSteps := 2000000) only [m32_1, m32_2, m32_3, m32_r, m32_b, m32, x1, x2, y1, y2, b1, b2, b3, q1, q2, q3, f1, f2, bl_scal, bl_pur, wk, act, asV, ↓reduceIte, Nat.reduceEqDiff, reduceCtorEq, Nat.reduceAdd, Nat.reduceLeDiff, Nat.reduceSub, Nat.reduceMul, List.reduceReplicate, Int.reduceEq, Int.reduceLT, Int.reduceLE, Int.reduceAdd, Int.reduceSub, Int.reduceMul, Nat.reduceLT, Int.reduceToNat]) ?_) | ((with_reducible refine CallpL.gate ?_); refine CallpL.of (by simp -implicitDefEqProofs (maxSteps := 2000000) only [m32_1, m32_2, m32_3, m32_r, m32_b, m32, x1, x2, y1, y2, b1, b2, b3, q1, q2, q3, f1, f2, bl_scal, bl_pur, wk, act, asV, ↓reduceIte, Nat.reduceEqDiff, reduceCtorEq, Nat.reduceAdd, Nat.reduceLeDiff, Nat.reduceSub, Nat.reduceMul, List.reduceReplicate, Int.reduceEq, Int.reduceLT, Int.reduceLE, Int.reduceAdd, Int.reduceSub, Int.reduceMul, Nat.reduceLT, Int.reduceToNat]; first | done | (with_reducible rfl)) (by first | exact d1 | exact d2 | exact d3 | exact d4 | exact d5 | exact d6) (by simp -implicitDefEqProofs (maxSteps := 2000000) only [m32_1, m32_2, m32_3, m32_r, m32_b, m32, x1, x2, y1, y2, b1, b2, b3, q1, q2, q3, f1, f2, bl_scal, bl_pur, wk, act, asV, ↓reduceIte, Nat.reduceEqDiff, reduceCtorEq, Nat.reduceAdd, Nat.reduceLeDiff, Nat.reduceSub, Nat.reduceMul, List.reduceReplicate, Int.reduceEq, Int.reduceLT, Int.reduceLE, Int.reduceAdd, Int.reduceSub, Int.reduceMul, Nat.reduceLT, Int.reduceToNat]) ?_) | ((with_reducible refine CallP.gate ?_); refine CallP.of (by simp -implicitDefEqProofs (maxSteps := 2000000) only [m32_1, m32_2, m32_3, m32_r, m32_b, m32, x1, x2, y1, y2, b1, b2, b3, q1, q2, q3, f1, f2, bl_scal, bl_pur, wk, act, asV, ↓reduceIte, Nat.reduceEqDiff, reduceCtorEq, Nat.reduceAdd, Nat.reduceLeDiff, Nat.reduceSub, Nat.reduceMul, List.reduceReplicate, Int.reduceEq, Int.reduceLT, Int.reduceLE, Int.reduceAdd, Int.reduceSub, Int.reduceMul, Nat.reduceLT, Int.reduceToNat]; first | done | (with_reducible rfl)) (by first | exact d1 | exact d2 | exact d3 | exact d4 | exact d5 | exact d6) (by simp -implicitDefEqProofs (maxSteps := 2000000) only [m32_1, m32_2, m32_3, m32_r, m32_b, m32, x1, x2, y1, y2, b1, b2, b3, q1, q2, q3, f1, f2, bl_scal, bl_pur, wk, act, asV, ↓reduceIte, Nat.reduceEqDiff, reduceCtorEq, Nat.reduceAdd, Nat.reduceLeDiff, Nat.reduceSub, Nat.reduceMul, List.reduceReplicate, Int.reduceEq, Int.reduceLT, Int.reduceLE, Int.reduceAdd, Int.reduceSub, Int.reduceMul, Nat.reduceLT, Int.reduceToNat]) ?_) | ((with_reducible refine CallpP.gate ?_); refine CallpP.of (by simp -implicitDefEqProofs (maxSteps := 2000000) only [m32_1, m32_2, m32_3, m32_r, m32_b, m32, x1, x2, y1, y2, b1, b2, b3, q1, q2, q3, f1, f2, bl_scal, bl_pur, wk, act, asV, ↓reduceIte, Nat.reduceEqDiff, reduceCtorEq, Nat.reduceAdd, Nat.reduceLeDiff, Nat.reduceSub, Nat.reduceMul, List.reduceReplicate, Int.reduceEq, Int.reduceLT, Int.reduceLE, Int.reduceAdd, Int.reduceSub, Int.reduceMul, Nat.reduceLT, Int.reduceToNat]; first | done | (with_reducible rfl)) (by first | exact d1 | exact d2 | exact d3 | exact d4 | exact d5 | exact d6) (by simp -implicitDefEqProofs (maxSteps := 2000000) only [m32_1, m32_2, m32_3, m32_r, m32_b, m32, x1, x2, y1, y2, b1, b2, b3, q1, q2, q3, f1, f2, bl_scal, bl_pur, wk, act, asV, ↓reduceIte, Nat.reduceEqDiff, reduceCtorEq, Nat.reduceAdd, Nat.reduceLeDiff, Nat.reduceSub, Nat.reduceMul, List.reduceReplicate, Int.reduceEq, Int.reduceLT, Int.reduceLE, Int.reduceAdd, Int.reduceSub, Int.reduceMul, Nat.reduceLT, Int.reduceToNat]) ?_))
end Go.Proofs.Ytlbilkldjhhopaa
