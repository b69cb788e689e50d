/- Of the table: the law's wakes. -/
import Derived.Test.YtmblapgoimegkaaDoorE31
import Derived.Test.YtmblapgoimegkaaDoorM6
import Derived.Test.YtmblapgoimegkaaDoorD3
set_option linter.unusedVariables false
set_option linter.unusedSimpArgs false
set_option maxRecDepth 100000
set_option maxHeartbeats 8000000
namespace Go.Proofs.YtmblapgoimegkaaDoor
open Go.RowKit

theorem bl_all {p : IV → Bool} (h : ∀ n : Int, p (.int .u8 n) = true) (xs : List UInt8) : (bl xs).all p = true := by
  rw [List.all_eq_true]; intro x hx; obtain ⟨b, _, rfl⟩ := List.mem_map.1 hx; exact h _
def w12 : List Vol := [⟨[97, 98], [3]⟩, ⟨[99], [1, 2]⟩]
def w12x : List Vol := [⟨[97, 98], [3]⟩, ⟨[97, 98], [3]⟩]
theorem w12_ok : VsOk w12 := ⟨by decide, by decide, by decide⟩
theorem w12x_ok : VsOk w12x := ⟨by decide, by decide, by decide⟩
theorem w12_good : goodV w12 = true := by decide +kernel
theorem w12x_good : goodV w12x = false := by decide +kernel
def w12B : List UInt8 := [2, 97, 98, 0, 0, 1, 3, 0, 0, 0, 99, 0, 0, 0, 2, 1, 2, 0, 0, 0, 0, 0, 0, 0, 0, 0, 0, 0, 0, 0, 0, 0]
theorem w12_tab : tabR w12 = w12B := by decide +kernel
theorem w12_B : tabB w12 = w12B := by decide +kernel
theorem w12_E : tabE w12 = 0 := if_pos w12_good
theorem zs_is : isB (zs 32) = true := by decide +kernel
theorem zs_said : saidV (zs 32) = [] := rfl
theorem wakesV_ok : RC Tryd.prog 33 [] [.bool true] := by
  refine RC.of_wp c33 rfl ?_
  have c1 := encT_ok .full (by decide) w12 w12_ok
  rw [w12_tab, w12_E] at c1
  have c2 := decT_ok w12B rfl
  have d2 := decV_tabB w12_good
  rw [w12_B] at d2
  rw [d2.1, d2.2] at c2
  have c3 := decT_ok (zs 32) rfl
  rw [(decV_yes zs_is).1, (decV_yes zs_is).2, zs_said] at c3
  have o0 : ownV [] = .sl .full 0 [] := rfl
  have o1 : ownV w12 = .own 2 2 (vl w12) := rfl
  rw [o0] at c3
  rw [o1] at c2
  have c4 := vols_ok .plain .full w12 w12 (by decide) w12_ok.bl
  rw [decide_eq_true rfl] at c4
  have f1 : findV [99] w12 = 1 := by decide +kernel
  have f2 : findV [120] w12 = -1 := by decide +kernel
  have c5 := find_ok .full (by decide) [99] w12 (by decide)
  have c6 := find_ok .full (by decide) [120] w12 (by decide)
  rw [f1] at c5
  rw [f2] at c6
  have c7 := goodT_ok .full (by decide) w12 w12_ok
  have c8 := goodT_ok .full (by decide) w12x w12x_ok
  rw [w12_good] at c7
  rw [w12x_good] at c8
  have t1 : List.take 4 (vl w12) = vl w12 := rfl
  have l32 : (bl w12B).length = 32 := rfl
  have t32 : List.take 32 (bl w12B) = bl w12B := rfl
  have d32 : List.drop 32 (bl w12B) = [] := rfl
  have a0 : List.take 1 (bl w12B) = [.int .u8 2] := rfl
  have a1 : List.take 1 (List.drop 1 (bl w12B)) = [.int .u8 97] := rfl
  have a5 : List.take 1 (List.drop 5 (bl w12B)) = [.int .u8 1] := rfl
  have a6 : List.take 1 (List.drop 6 (bl w12B)) = [.int .u8 3] := rfl
  have a10 : List.take 1 (List.drop 10 (bl w12B)) = [.int .u8 99] := rfl
  repeat' (first | simp -implicitDefEqProofs (maxSteps := 2000000) only [m33_1, m33_2, m33_3, m33_4, m33_5, m33_6, m33_7, m33_8, m33_r, m33_b, m33, t1, l32, t32, d32, a0, a1, a5, a6, a10, bl_scal, bl_all, wk, act, asV, ↓reduceIte, Nat.reduceEqDiff, reduceCtorEq, Nat.reduceAdd, Nat.reduceLeDiff, Nat.reduceSub, Nat.reduceMul, List.reduceReplicate, Int.reduceEq, Int.reduceLT, Int.reduceLE, Int.reduceAdd, Int.reduceSub, Int.reduceMul, Nat.reduceLT, Int.reduceToNat] | ((with_reducible refine CallL.gate ?_); refine CallL.of (by simp -implicitDefEqProofs (maxSteps := 2000000) only [m33_1, m33_2, m33_3, m33_4, m33_5, m33_6, m33_7, m33_8, m33_r, m33_b, m33, t1, l32, t32, d32, a0, a1, a5, a6, a10, bl_scal, bl_all, wk, act, asV, ↓reduceIte, Nat.reduceEqDiff, reduceCtorEq, Nat.reduceAdd, Nat.reduceLeDiff, Nat.reduceSub, Nat.reduceMul, List.reduceReplicate, Int.reduceEq, Int.reduceLT, Int.reduceLE, Int.reduceAdd, Int.reduceSub, Int.reduceMul, Nat.reduceLT, Int.reduceToNat]; first | done | (with_reducible rfl)) (by first | exact c1 | exact c2 | exact c3 | exact c4 | exact c5 | exact c6 | exact c7 | exact c8) (by simp -implicitDefEqProofs (maxSteps := 2000000) only [m33_1, m33_2, m33_3, m33_4, m33_5, m33_6, m33_7, m33_8, m33_r, m33_b, m33, t1, l32, t32, d32, a0, a1, a5, a6, a10, bl_scal, bl_all, wk, act, asV, ↓reduceIte, Nat.reduceEqDiff, reduceCtorEq, Nat.reduceAdd, Nat.reduceLeDiff, Nat.reduceSub, Nat.reduceMul, List.reduceReplicate, Int.reduceEq, Int.reduceLT, Int.reduceLE, Int.reduceAdd, Int.reduceSub, Int.reduceMul, Nat.reduceLT, Int.reduceToNat]) ?_) | ((with_reducible refine CallP.gate ?_); refine CallP.of (by simp -implicitDefEqProofs (maxSteps := 2000000) only [m33_1, m33_2, m33_3, m33_4, m33_5, m33_6, m33_7, m33_8, m33_r, m33_b, m33, t1, l32, t32, d32, a0, a1, a5, a6, a10, bl_scal, bl_all, wk, act, asV, ↓reduceIte, Nat.reduceEqDiff, reduceCtorEq, Nat.reduceAdd, Nat.reduceLeDiff, Nat.reduceSub, Nat.reduceMul, List.reduceReplicate, Int.reduceEq, Int.reduceLT, Int.reduceLE, Int.reduceAdd, Int.reduceSub, Int.reduceMul, Nat.reduceLT, Int.reduceToNat]; first | done | (with_reducible rfl)) (by first | exact c1 | exact c2 | exact c3 | exact c4 | exact c5 | exact c6 | exact c7 | exact c8) (by simp -implicitDefEqProofs (maxSteps := 2000000) only [m33_1, m33_2, m33_3, m33_4, m33_5, m33_6, m33_7, m33_8, m33_r, m33_b, m33, t1, l32, t32, d32, a0, a1, a5, a6, a10, bl_scal, bl_all, wk, act, asV, ↓reduceIte, Nat.reduceEqDiff, reduceCtorEq, Nat.reduceAdd, Nat.reduceLeDiff, Nat.reduceSub, Nat.reduceMul, List.reduceReplicate, Int.reduceEq, Int.reduceLT, Int.reduceLE, Int.reduceAdd, Int.reduceSub, Int.reduceMul, Nat.reduceLT, Int.reduceToNat]) ?_))
end Go.Proofs.YtmblapgoimegkaaDoor
