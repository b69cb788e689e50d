/- The hash: the statements' own example wakes. -/
import Derived.Test.YtlbilkldjhhopaaZ10
import Derived.Test.YtlbilkldjhhopaaS13
import Derived.Test.YtlbilkldjhhopaaS15
import Derived.Test.YtlbilkldjhhopaaE31
import Derived.Test.YtlbilkldjhhopaaM7
set_option linter.unusedSectionVars false
set_option linter.unusedVariables false
set_option linter.unusedSimpArgs false
set_option maxRecDepth 100000
set_option maxHeartbeats 8000000
namespace Go.Proofs.Ytlbilkldjhhopaa
open Go.RowKit

theorem wakesH_ok : RC Try.prog 15 [] [.bool true] := by
  refine RC.of_wp c15 rfl ?_
  have c1 := sum_ok .full (by decide) [(.plain, [97]), (.plain, [98, 99])] (by decide) (by decide)
  have c2 := sum_ok .full (by decide) [] (by decide) (by decide)
  have c3 := pad_ok 3 (by decide)
  have c4 := start_ok
  have j1 : joined [(Fl.plain, [97]), (.plain, [98, 99])] = [97, 98, 99] := rfl
  have j2 : joined ([] : List (Fl × List UInt8)) = [] := rfl
  have e1 : shaB [97, 98, 99] = [186, 120, 22, 191, 143, 1, 207, 234, 65, 65, 64, 222, 93, 174, 34, 35, 176, 3, 97, 163, 150, 23, 122, 156, 180, 16, 255, 97, 242, 0, 21, 173] := by decide +kernel
  have e2 : shaB [] = [227, 176, 196, 66, 152, 252, 28, 20, 154, 251, 244, 200, 153, 111, 185, 36, 39, 174, 65, 228, 100, 155, 147, 76, 164, 149, 153, 27, 120, 82, 184, 85] := by decide +kernel
  have l3 : (padB 3).length = 61 := by decide +kernel
  have e3 : (padB 3).take 1 = [128] := by decide +kernel
  have e4 : (padB 3).drop 60 = [24] := by decide +kernel
  have b1 : bl [186, 120, 22, 191, 143, 1, 207, 234, 65, 65, 64, 222, 93, 174, 34, 35, 176, 3, 97, 163, 150, 23, 122, 156, 180, 16, 255, 97, 242, 0, 21, 173] = [.int .u8 186, .int .u8 120, .int .u8 22, .int .u8 191, .int .u8 143, .int .u8 1, .int .u8 207, .int .u8 234, .int .u8 65, .int .u8 65, .int .u8 64, .int .u8 222, .int .u8 93, .int .u8 174, .int .u8 34, .int .u8 35, .int .u8 176, .int .u8 3, .int .u8 97, .int .u8 163, .int .u8 150, .int .u8 23, .int .u8 122, .int .u8 156, .int .u8 180, .int .u8 16, .int .u8 255, .int .u8 97, .int .u8 242, .int .u8 0, .int .u8 21, .int .u8 173] := rfl
  have b2 : bl [227, 176, 196, 66, 152, 252, 28, 20, 154, 251, 244, 200, 153, 111, 185, 36, 39, 174, 65, 228, 100, 155, 147, 76, 164, 149, 153, 27, 120, 82, 184, 85] = [.int .u8 227, .int .u8 176, .int .u8 196, .int .u8 66, .int .u8 152, .int .u8 252, .int .u8 28, .int .u8 20, .int .u8 154, .int .u8 251, .int .u8 244, .int .u8 200, .int .u8 153, .int .u8 111, .int .u8 185, .int .u8 36, .int .u8 39, .int .u8 174, .int .u8 65, .int .u8 228, .int .u8 100, .int .u8 155, .int .u8 147, .int .u8 76, .int .u8 164, .int .u8 149, .int .u8 153, .int .u8 27, .int .u8 120, .int .u8 82, .int .u8 184, .int .u8 85] := rfl
  have p1 : pl [(Fl.plain, [97]), (.plain, [98, 99])] = [.sl .plain 1 [.int .u8 97], .sl .plain 2 [.int .u8 98, .int .u8 99]] := rfl
  have p2 : pl [] = [] := rfl
  have w4 : wl start8.l = [.int .u32 1779033703, .int .u32 3144134277, .int .u32 1013904242, .int .u32 2773480762, .int .u32 1359893119, .int .u32 2600822924, .int .u32 528734635, .int .u32 1541459225] := rfl
  simp only [j1, e1, b1, p1, List.length_cons, List.length_nil, Nat.reduceAdd] at c1
  simp only [j2, e2, b2, p2, List.length_nil] at c2
  obtain ⟨G, hG⟩ : ∃ G, G = padB 3 := ⟨_, rfl⟩
  rw [← hG] at c3 l3 e3 e4
  rw [l3] at c3
  have g1 : List.take 1 (bl G) = [.int .u8 128] := by rw [bl_take, e3]; rfl
  have g2 : List.drop 60 (bl G) = [.int .u8 24] := by rw [bl_drop, e4]; rfl
  simp only [w4] at c4
  repeat' (first | simp -implicitDefEqProofs (maxSteps := 2000000) only [m15_1, m15_2, m15_3, m15_4, m15_5, m15_6, m15_7, m15_r, m15_b, m15, g1, g2, l3, bl_length, bl_scal, wk, act, asV, ↓reduceIte, Nat.reduceEqDiff, reduceCtorEq, Nat.reduceAdd, Nat.reduceLeDiff, Nat.reduceSub, Nat.reduceMul, List.reduceReplicate, Int.reduceEq, Int.reduceLT, Int.reduceLE, Int.reduceAdd, Int.reduceSub, Int.reduceMul, Nat.reduceLT, Int.reduceToNat] | ((with_reducible refine CallL.gate ?_); refine CallL.of (by simp -implicitDefEqProofs (maxSteps := 2000000) only [m15_1, m15_2, m15_3, m15_4, m15_5, m15_6, m15_7, m15_r, m15_b, m15, g1, g2, l3, bl_length, bl_scal, wk, act, asV, ↓reduceIte, Nat.reduceEqDiff, reduceCtorEq, Nat.reduceAdd, Nat.reduceLeDiff, Nat.reduceSub, Nat.reduceMul, List.reduceReplicate, Int.reduceEq, Int.reduceLT, Int.reduceLE, Int.reduceAdd, Int.reduceSub, Int.reduceMul, Nat.reduceLT, Int.reduceToNat]; first | done | (with_reducible rfl)) (by first | exact c1 | exact c2 | exact c3 | exact c4) (by simp -implicitDefEqProofs (maxSteps := 2000000) only [m15_1, m15_2, m15_3, m15_4, m15_5, m15_6, m15_7, m15_r, m15_b, m15, g1, g2, l3, bl_length, bl_scal, wk, act, asV, ↓reduceIte, Nat.reduceEqDiff, reduceCtorEq, Nat.reduceAdd, Nat.reduceLeDiff, Nat.reduceSub, Nat.reduceMul, List.reduceReplicate, Int.reduceEq, Int.reduceLT, Int.reduceLE, Int.reduceAdd, Int.reduceSub, Int.reduceMul, Nat.reduceLT, Int.reduceToNat]) ?_) | ((with_reducible refine CallP.gate ?_); refine CallP.of (by simp -implicitDefEqProofs (maxSteps := 2000000) only [m15_1, m15_2, m15_3, m15_4, m15_5, m15_6, m15_7, m15_r, m15_b, m15, g1, g2, l3, bl_length, bl_scal, wk, act, asV, ↓reduceIte, Nat.reduceEqDiff, reduceCtorEq, Nat.reduceAdd, Nat.reduceLeDiff, Nat.reduceSub, Nat.reduceMul, List.reduceReplicate, Int.reduceEq, Int.reduceLT, Int.reduceLE, Int.reduceAdd, Int.reduceSub, Int.reduceMul, Nat.reduceLT, Int.reduceToNat]; first | done | (with_reducible rfl)) (by first | exact c1 | exact c2 | exact c3 | exact c4) (by simp -implicitDefEqProofs (maxSteps := 2000000) only [m15_1, m15_2, m15_3, m15_4, m15_5, m15_6, m15_7, m15_r, m15_b, m15, g1, g2, l3, bl_length, bl_scal, wk, act, asV, ↓reduceIte, Nat.reduceEqDiff, reduceCtorEq, Nat.reduceAdd, Nat.reduceLeDiff, Nat.reduceSub, Nat.reduceMul, List.reduceReplicate, Int.reduceEq, Int.reduceLT, Int.reduceLE, Int.reduceAdd, Int.reduceSub, Int.reduceMul, Nat.reduceLT, Int.reduceToNat]) ?_))
end Go.Proofs.Ytlbilkldjhhopaa
