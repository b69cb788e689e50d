/- Whether parts are not too many, nor too long. -/
import Derived.Test.YtlbilkldjhhopaaS13
import Derived.Test.YtlbilkldjhhopaaE31
import Derived.Test.YtlbilkldjhhopaaM7
set_option linter.unusedSectionVars false
set_option linter.unusedVariables false
set_option linter.unusedSimpArgs false
set_option maxRecDepth 100000
set_option maxHeartbeats 8000000
namespace Go.Proofs.Ytlbilkldjhhopaa
open Go.RowKit

def fairP (ps : List (Fl × List UInt8)) : Bool := decide ((joined ps).length ≤ 3000) && decide (ps.length ≤ 60)
theorem fairP_ok (f : Fl) (ps : List (Fl × List UInt8)) (hn : ps.length < 2 ^ 63) : RC Try.prog 14 [.sl f ps.length (pl ps)] [.bool (fairP ps)] := by
  refine RC.of_wp c14 rfl ?_
  simp -implicitDefEqProofs (maxSteps := 2000000) only [m14_1, m14_2, m14_3, m14_4, m14_5, m14_6, m14_7, m14_8, m14_r, m14_b, m14, wk, act, asV, ↓reduceIte, Nat.reduceEqDiff, reduceCtorEq, Nat.reduceAdd, Nat.reduceLeDiff, Nat.reduceSub, Nat.reduceMul, List.reduceReplicate, Int.reduceEq, Int.reduceLT, Int.reduceLE, Int.reduceAdd, Int.reduceSub, Int.reduceMul, Nat.reduceLT, Int.reduceToNat]
  refine Wp_loop (fun m s => ∃ i, i ≤ ps.length ∧ m = ps.length - i ∧ s.t 0 = .sl f ps.length (pl ps) ∧ s.t 4 = .int .i64 i ∧ s.t 3 = .int .i64 ((joined (ps.take i)).length : Nat) ∧ (joined (ps.take i)).length ≤ 3000) ps.length ⟨0, by omega, rfl, rfl, rfl, rfl, Nat.zero_le _⟩ ?_
  rintro m s ⟨i, hi, rfl, k0, k4, k3, hle⟩
  by_cases hil : i < ps.length
  · have hil' : (i : Int) < ps.length := by omega
    have ej : (joined (ps.take (i + 1))).length = (joined (ps.take i)).length + ps[i].2.length := by rw [List.take_succ_eq_append_getElem hil, joined_snoc, List.length_append]
    have hall := joined_le ps (i + 1)
    obtain ⟨n, hn'⟩ : ∃ n, n = (joined (ps.take i)).length := ⟨_, rfl⟩
    rw [← hn'] at k3 hle ej
    by_cases hbig : (3001 : Int) < ps[i].2.length
    · have hno : fairP ps = false := by
        have : ¬ (joined ps).length ≤ 3000 := by omega
        simp [fairP, this]
      rw [hno]
      have w : IntKind.i64.wrap ((n : Int) + 3001) = ((n + 3001 : Nat) : Int) := by rw [IntKind.wrap_i64]; omega
      have hgt : (3000 : Int) < ((n + 3001 : Nat) : Int) := by omega
      simp -implicitDefEqProofs (maxSteps := 2000000) only [k0, k4, k3, hil', hil, drop_pl hil, pl_length, hbig, w, hgt, wk, act, asV, ↓reduceIte, Nat.reduceEqDiff, reduceCtorEq, Nat.reduceAdd, Nat.reduceLeDiff, Nat.reduceSub, Nat.reduceMul, List.reduceReplicate, Int.reduceEq, Int.reduceLT, Int.reduceLE, Int.reduceAdd, Int.reduceSub, Int.reduceMul, Nat.reduceLT, Int.reduceToNat]
    · have w : IntKind.i64.wrap ((n : Int) + (ps[i].2.length : Int)) = ((n + ps[i].2.length : Nat) : Int) := by rw [IntKind.wrap_i64]; omega
      by_cases hgt : (3000 : Int) < ((n + ps[i].2.length : Nat) : Int)
      · have hno : fairP ps = false := by
          have : ¬ (joined ps).length ≤ 3000 := by omega
          simp [fairP, this]
        rw [hno]
        simp -implicitDefEqProofs (maxSteps := 2000000) only [k0, k4, k3, hil', hil, drop_pl hil, pl_length, hbig, w, hgt, wk, act, asV, ↓reduceIte, Nat.reduceEqDiff, reduceCtorEq, Nat.reduceAdd, Nat.reduceLeDiff, Nat.reduceSub, Nat.reduceMul, List.reduceReplicate, Int.reduceEq, Int.reduceLT, Int.reduceLE, Int.reduceAdd, Int.reduceSub, Int.reduceMul, Nat.reduceLT, Int.reduceToNat]
      · simp -implicitDefEqProofs (maxSteps := 2000000) only [k0, k4, k3, hil', hil, drop_pl hil, pl_length, hbig, w, hgt, wrap_nat (show i < 2 ^ 63 - 1 by omega), wk, act, asV, ↓reduceIte, Nat.reduceEqDiff, reduceCtorEq, Nat.reduceAdd, Nat.reduceLeDiff, Nat.reduceSub, Nat.reduceMul, List.reduceReplicate, Int.reduceEq, Int.reduceLT, Int.reduceLE, Int.reduceAdd, Int.reduceSub, Int.reduceMul, Nat.reduceLT, Int.reduceToNat]
        refine ⟨ps.length - (i + 1), by omega, i + 1, by omega, rfl, rfl, ?_, ?_⟩
        · rw [ej]
        · rw [ej]; omega
  · have hie : i = ps.length := by omega
    have hil' : ¬ (i : Int) < ps.length := by omega
    rw [hie, List.take_length] at hle
    have e : fairP ps = decide ((ps.length : Int) ≤ 60) := by
      simp only [fairP, decide_eq_true hle, Bool.true_and]
      congr 1; apply propext; omega
    rw [e]
    simp -implicitDefEqProofs (maxSteps := 2000000) only [k0, k4, k3, hil', wk, act, asV, ↓reduceIte, Nat.reduceEqDiff, reduceCtorEq, Nat.reduceAdd, Nat.reduceLeDiff, Nat.reduceSub, Nat.reduceMul, List.reduceReplicate, Int.reduceEq, Int.reduceLT, Int.reduceLE, Int.reduceAdd, Int.reduceSub, Int.reduceMul, Nat.reduceLT, Int.reduceToNat]
end Go.Proofs.Ytlbilkldjhhopaa
