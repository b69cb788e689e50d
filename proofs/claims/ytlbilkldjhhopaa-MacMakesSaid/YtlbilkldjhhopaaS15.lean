/- Parts of their own. -/
import Derived.Test.YtlbilkldjhhopaaS14
import Derived.Test.YtlbilkldjhhopaaE31
import Derived.Test.YtlbilkldjhhopaaM7
set_option linter.unusedSectionVars false
set_option linter.unusedVariables false
set_option linter.unusedSimpArgs false
set_option maxRecDepth 100000
set_option maxHeartbeats 8000000
namespace Go.Proofs.Ytlbilkldjhhopaa
open Go.RowKit

def plainP (ps : List (Fl × List UInt8)) : List (Fl × List UInt8) := ps.map fun p => (.plain, p.2)
theorem plainP_length (ps : List (Fl × List UInt8)) : (plainP ps).length = ps.length := by simp [plainP]
theorem plainP_joined (ps : List (Fl × List UInt8)) : joined (plainP ps) = joined ps := by unfold joined plainP; rw [List.map_map]; rfl
theorem plainP_take {ps : List (Fl × List UInt8)} {i : Nat} (h : i < ps.length) : pl (plainP (ps.take (i + 1))) = pl (plainP (ps.take i)) ++ [.sl .plain ps[i].2.length (bl ps[i].2)] := by
  rw [List.take_succ_eq_append_getElem h]; simp only [plainP, pl, List.map_append, List.map_cons, List.map_nil]
theorem pl_take (ps : List (Fl × List UInt8)) : List.take ps.length (pl ps) = pl ps := List.take_of_length_le (by rw [pl_length]; exact Nat.le_refl _)
def ownP (qs : List (Fl × List UInt8)) : IV := if qs = [] then .sl .full 0 [] else .own qs.length 1 (pl qs)
theorem roomy24 {n : Nat} (h : n ≤ 2 ^ 30) : roomy n 24 = true := by simp [roomy]; omega
theorem copyP_ok (f : Fl) (ps : List (Fl × List UInt8)) (hn : ps.length ≤ 60) (hl : (joined ps).length ≤ 3000) : RC Try.prog 16 [.sl f ps.length (pl ps)] [ownP (plainP ps)] := by
  refine RC.of_wp c16 rfl ?_
  simp -implicitDefEqProofs (maxSteps := 2000000) only [m16_1, m16_2, m16_3, m16_4, m16_5, m16_6, m16_r, m16_b, m16, wk, act, asV, ↓reduceIte, Nat.reduceEqDiff, reduceCtorEq, Nat.reduceAdd, Nat.reduceLeDiff, Nat.reduceSub, Nat.reduceMul, List.reduceReplicate, Int.reduceEq, Int.reduceLT, Int.reduceLE, Int.reduceAdd, Int.reduceSub, Int.reduceMul, Nat.reduceLT, Int.reduceToNat]
  refine Wp_loop (fun m s => ∃ i, i ≤ ps.length ∧ m = ps.length - i ∧ s.t 0 = .sl f ps.length (pl ps) ∧ s.t 4 = .int .i64 i ∧ ((i = 0 ∧ s.t 3 = .sl .full 0 []) ∨ (0 < i ∧ ∃ ver, s.t 3 = .row 19 0 i 1 ver ∧ s.h 19 = ⟨ver, true, true, true, pl (plainP (ps.take i))⟩))) ps.length ⟨0, by omega, rfl, rfl, rfl, .inl ⟨rfl, rfl⟩⟩ ?_
  rintro m s ⟨i, hi, rfl, k0, k4, k3⟩
  by_cases hil : i < ps.length
  · have hil' : (i : Int) < ps.length := by omega
    have hall := joined_le ps (i + 1)
    have ej : (joined (ps.take (i + 1))).length = (joined (ps.take i)).length + ps[i].2.length := by rw [List.take_succ_eq_append_getElem hil, joined_snoc, List.length_append]
    have hr1 : roomy ps[i].2.length 1 = true := roomyB (by omega)
    have hr2 : roomy (i + 1) 24 = true := roomy24 (by omega)
    have hr3 : roomy 1 24 = true := by decide
    have ep := plainP_take hil
    have htl : (pl (plainP (ps.take i))).length = i := by rw [pl_length, plainP_length, List.length_take]; omega
    rcases k3 with ⟨hi0, k3⟩ | ⟨hi0, ver, k3, kh⟩
    · have e1 : pl (plainP (ps.take (i + 1))) = [.sl .plain ps[i].2.length (bl ps[i].2)] := by rw [ep]; subst hi0; rfl
      simp -implicitDefEqProofs (maxSteps := 2000000) only [k0, k4, k3, hil', hil, drop_pl hil, pl_length, bl_length, hr1, hr3, wrap_nat (show i < 2 ^ 63 - 1 by omega), wk, act, asV, ↓reduceIte, Nat.reduceEqDiff, reduceCtorEq, Nat.reduceAdd, Nat.reduceLeDiff, Nat.reduceSub, Nat.reduceMul, List.reduceReplicate, Int.reduceEq, Int.reduceLT, Int.reduceLE, Int.reduceAdd, Int.reduceSub, Int.reduceMul, Nat.reduceLT, Int.reduceToNat]
      refine ⟨ps.length - (i + 1), by omega, i + 1, by omega, rfl, rfl, by omega, ?_⟩
      rw [e1]
      subst hi0
      exact ⟨_, rfl, rfl⟩
    · simp -implicitDefEqProofs (maxSteps := 2000000) only [k0, k4, k3, kh, hil', hil, drop_pl hil, pl_length, bl_length, hr1, hr2, htl, wrap_nat (show i < 2 ^ 63 - 1 by omega), wk, act, asV, ↓reduceIte, Nat.reduceEqDiff, reduceCtorEq, Nat.reduceAdd, Nat.reduceLeDiff, Nat.reduceSub, Nat.reduceMul, List.reduceReplicate, Int.reduceEq, Int.reduceLT, Int.reduceLE, Int.reduceAdd, Int.reduceSub, Int.reduceMul, Nat.reduceLT, Int.reduceToNat]
      refine ⟨ps.length - (i + 1), by omega, i + 1, by omega, rfl, rfl, by omega, ?_⟩
      rw [ep]
      exact ⟨_, rfl, rfl⟩
  · have hie : i = ps.length := by omega
    have hil' : ¬ (i : Int) < ps.length := by omega
    rcases k3 with ⟨hi0, k3⟩ | ⟨hi0, ver, k3, kh⟩
    · have hp : ps = [] := List.eq_nil_of_length_eq_zero (by omega)
      subst hp
      have ho : ownP (plainP []) = .sl .full 0 [] := rfl
      have hil0 : ¬ (i : Int) < 0 := by omega
      rw [ho]
      simp -implicitDefEqProofs (maxSteps := 2000000) only [k0, k4, k3, hil0, wk, act, asV, ↓reduceIte, Nat.reduceEqDiff, reduceCtorEq, Nat.reduceAdd, Nat.reduceLeDiff, Nat.reduceSub, Nat.reduceMul, List.reduceReplicate, Int.reduceEq, Int.reduceLT, Int.reduceLE, Int.reduceAdd, Int.reduceSub, Int.reduceMul, Nat.reduceLT, Int.reduceToNat]
    · subst hie
      rw [List.take_length] at kh
      have hp : plainP ps ≠ [] := by intro e; have := plainP_length ps; rw [e] at this; simp at this; omega
      have ho : ownP (plainP ps) = .own ps.length 1 (pl (plainP ps)) := by unfold ownP; rw [if_neg hp, plainP_length]
      have tk : List.take ps.length (pl (plainP ps)) = pl (plainP ps) := by have := pl_take (plainP ps); rwa [plainP_length] at this
      rw [ho]
      simp -implicitDefEqProofs (maxSteps := 2000000) only [k0, k4, k3, kh, hil', tk, wk, act, asV, ↓reduceIte, Nat.reduceEqDiff, reduceCtorEq, Nat.reduceAdd, Nat.reduceLeDiff, Nat.reduceSub, Nat.reduceMul, List.reduceReplicate, Int.reduceEq, Int.reduceLT, Int.reduceLE, Int.reduceAdd, Int.reduceSub, Int.reduceMul, Nat.reduceLT, Int.reduceToNat]
end Go.Proofs.Ytlbilkldjhhopaa
