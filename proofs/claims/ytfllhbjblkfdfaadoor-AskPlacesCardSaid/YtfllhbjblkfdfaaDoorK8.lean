/- Rows held against one another. -/
import Derived.Test.YtfllhbjblkfdfaaDoorE31
import Derived.Test.YtfllhbjblkfdfaaDoorM5
import Derived.Test.YtfllhbjblkfdfaaDoorK0
set_option linter.unusedVariables false
set_option linter.unusedSimpArgs false
set_option maxRecDepth 100000
set_option maxHeartbeats 2000000
namespace Go.Proofs.YtfllhbjblkfdfaaDoor
open Go.RowKit

theorem equal_ok (f f' : Fl) (a b : List UInt8) (ha : a.length < 2 ^ 63) : RC Tryd.prog 25 [.sl f a.length (bl a), .sl f' b.length (bl b)] [.bool (decide (a = b))] := by
  refine RC.of_wp c25 rfl ?_
  by_cases hab : a.length = b.length
  · have hab' : (a.length : Int) = b.length := by omega
    simp -implicitDefEqProofs (maxSteps := 2000000) only [m25_1, m25_2, m25_3, m25_4, m25_5, m25_6, m25_7, m25_8, m25_9, m25_r, m25_b, m25, hab', wk, act, asV, ↓reduceIte, Nat.reduceEqDiff, reduceCtorEq, Nat.reduceAdd, Nat.reduceLeDiff, Nat.reduceSub, Nat.reduceMul, List.reduceReplicate, Int.reduceEq, Int.reduceLT, Int.reduceLE, Int.reduceAdd, Int.reduceSub, Int.reduceMul, Nat.reduceLT, Int.reduceToNat]
    refine Wp_loop (fun j s => ∃ i, i ≤ a.length ∧ j = a.length - i ∧ s.t 0 = .sl f a.length (bl a) ∧ s.t 1 = .sl f' b.length (bl b) ∧ s.t 12 = .int .i64 (a.length : Nat) ∧ s.t 13 = .int .i64 (i : Nat) ∧ a.take i = b.take i) a.length ⟨0, by omega, rfl, by simp -implicitDefEqProofs (maxSteps := 2000000) only [wk, act, asV, ↓reduceIte, Nat.reduceEqDiff, reduceCtorEq, Nat.reduceAdd, Nat.reduceLeDiff, Nat.reduceSub, Nat.reduceMul, List.reduceReplicate, Int.reduceEq, Int.reduceLT, Int.reduceLE, Int.reduceAdd, Int.reduceSub, Int.reduceMul, Nat.reduceLT, Int.reduceToNat], by simp -implicitDefEqProofs (maxSteps := 2000000) only [wk, act, asV, ↓reduceIte, Nat.reduceEqDiff, reduceCtorEq, Nat.reduceAdd, Nat.reduceLeDiff, Nat.reduceSub, Nat.reduceMul, List.reduceReplicate, Int.reduceEq, Int.reduceLT, Int.reduceLE, Int.reduceAdd, Int.reduceSub, Int.reduceMul, Nat.reduceLT, Int.reduceToNat], by simp -implicitDefEqProofs (maxSteps := 2000000) only [hab', wk, act, asV, ↓reduceIte, Nat.reduceEqDiff, reduceCtorEq, Nat.reduceAdd, Nat.reduceLeDiff, Nat.reduceSub, Nat.reduceMul, List.reduceReplicate, Int.reduceEq, Int.reduceLT, Int.reduceLE, Int.reduceAdd, Int.reduceSub, Int.reduceMul, Nat.reduceLT, Int.reduceToNat], by simp -implicitDefEqProofs (maxSteps := 2000000) only [wk, act, asV, ↓reduceIte, Nat.reduceEqDiff, reduceCtorEq, Nat.reduceAdd, Nat.reduceLeDiff, Nat.reduceSub, Nat.reduceMul, List.reduceReplicate, Int.reduceEq, Int.reduceLT, Int.reduceLE, Int.reduceAdd, Int.reduceSub, Int.reduceMul, Nat.reduceLT, Int.reduceToNat], rfl⟩ ?_
    rintro j s ⟨i, hi, rfl, g0, g1, g12, g13, hpre⟩
    by_cases hil : i < a.length
    · have hil' : (i : Int) < a.length := by omega
      have hib : i < b.length := by omega
      have hib' : (i : Int) < b.length := by omega
      by_cases hne : a[i] = b[i]
      · have hne' : ((a[i].toNat : Nat) : Int) = (b[i].toNat : Nat) := by rw [hne]
        simp -implicitDefEqProofs (maxSteps := 2000000) only [g0, g1, g12, g13, hil', hib', hil, hib, drop_bl hil, drop_bl hib, bl_length, hne', wrap_nat (show i < 2 ^ 63 - 1 by omega), wk, act, asV, ↓reduceIte, Nat.reduceEqDiff, reduceCtorEq, Nat.reduceAdd, Nat.reduceLeDiff, Nat.reduceSub, Nat.reduceMul, List.reduceReplicate, Int.reduceEq, Int.reduceLT, Int.reduceLE, Int.reduceAdd, Int.reduceSub, Int.reduceMul, Nat.reduceLT, Int.reduceToNat]
        refine ⟨a.length - (i + 1), by omega, i + 1, by omega, rfl, rfl, ?_⟩
        rw [List.take_succ_eq_append_getElem hil, List.take_succ_eq_append_getElem hib, hpre, hne]
      · have hne' : ¬ ((a[i].toNat : Nat) : Int) = (b[i].toNat : Nat) := by
          intro h; exact hne (UInt8.toNat_inj.1 (by omega))
        have hnab : ¬ a = b := by intro h; subst h; exact hne rfl
        simp -implicitDefEqProofs (maxSteps := 2000000) only [g0, g1, g12, g13, hil', hib', hil, hib, drop_bl hil, drop_bl hib, bl_length, hne', hnab, wk, act, asV, ↓reduceIte, Nat.reduceEqDiff, reduceCtorEq, Nat.reduceAdd, Nat.reduceLeDiff, Nat.reduceSub, Nat.reduceMul, List.reduceReplicate, Int.reduceEq, Int.reduceLT, Int.reduceLE, Int.reduceAdd, Int.reduceSub, Int.reduceMul, Nat.reduceLT, Int.reduceToNat]
    · have hie : i = a.length := by omega
      subst hie
      rw [List.take_length, hab, List.take_length] at hpre
      simp -implicitDefEqProofs (maxSteps := 2000000) only [g0, g1, g12, g13, Int.lt_irrefl, hpre, wk, act, asV, ↓reduceIte, Nat.reduceEqDiff, reduceCtorEq, Nat.reduceAdd, Nat.reduceLeDiff, Nat.reduceSub, Nat.reduceMul, List.reduceReplicate, Int.reduceEq, Int.reduceLT, Int.reduceLE, Int.reduceAdd, Int.reduceSub, Int.reduceMul, Nat.reduceLT, Int.reduceToNat]
  · have hab' : ¬ (a.length : Int) = b.length := by omega
    have hnab : ¬ a = b := by intro h; subst h; exact hab rfl
    simp -implicitDefEqProofs (maxSteps := 2000000) only [m25_1, m25_2, m25_3, m25_4, m25_5, m25_6, m25_7, m25_8, m25_9, m25_r, m25_b, m25, hab', hnab, wk, act, asV, ↓reduceIte, Nat.reduceEqDiff, reduceCtorEq, Nat.reduceAdd, Nat.reduceLeDiff, Nat.reduceSub, Nat.reduceMul, List.reduceReplicate, Int.reduceEq, Int.reduceLT, Int.reduceLE, Int.reduceAdd, Int.reduceSub, Int.reduceMul, Nat.reduceLT, Int.reduceToNat]
end Go.Proofs.YtfllhbjblkfdfaaDoor
