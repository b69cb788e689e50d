/- The laws AuditVerifies and AuditNone. -/
import Derived.Test.YtkphojcmjffccaaW6
import Derived.Test.YtkphojcmjffccaaE31
import Derived.Test.YtkphojcmjffccaaM16
set_option linter.unusedVariables false
set_option linter.unusedSimpArgs false
set_option linter.unusedSectionVars false
set_option maxRecDepth 100000
set_option maxHeartbeats 8000000
namespace Go.Proofs.Ytkphojcmjffccaa
open Go.RowKit

structure Sd where
  asked : List UInt8
  r : Rp
structure Sd.Ok (x : Sd) : Prop where
  a : x.asked.length < 2 ^ 63
  d : x.r.d.length < 2 ^ 63
  f : x.r.f = .plain
def sdC (x : Sd) : List IV := .sl .plain x.asked.length (bl x.asked) :: rc x.r
def sdL (xs : List Sd) : List IV := xs.flatMap sdC
theorem sdL_length (xs : List Sd) : (sdL xs).length = xs.length * 4 := by
  induction xs with
  | nil => rfl
  | cons x xs ih => simp only [sdL, List.flatMap_cons, List.length_append, List.length_cons] at ih ⊢; rw [ih]; simp [sdC, rc]; omega
theorem sdL_drop : ∀ {xs : List Sd} {i : Nat} (h : i < xs.length), (sdL xs).drop (i * 4) = sdC xs[i] ++ (sdL xs).drop ((i + 1) * 4)
  | x :: xs, 0, h => by simp [sdL, sdC, rc]
  | x :: xs, i + 1, h => by
    have := sdL_drop (xs := xs) (i := i) (by simpa using h)
    simp only [List.getElem_cons_succ]
    rw [show (i + 1) * 4 = 4 + i * 4 by omega, show (i + 1 + 1) * 4 = 4 + (i + 1) * 4 by omega, ← List.drop_drop, ← List.drop_drop]
    exact this
def fairS (xs : List Sd) : Bool := xs.all (fun x => decide (x.asked.length ≤ 300) && decide (x.r.d.length ≤ 600)) && decide (xs.length ≤ 30)
theorem fairS_ok (f : Fl) (xs : List Sd) (hn : xs.length < 2 ^ 63) (hp : ∀ x ∈ xs, x.r.f = .plain) : RC Try.prog 9 [.sl f xs.length (sdL xs)] [.bool (fairS xs)] := by
  refine RC.of_wp c9 rfl ?_
  simp -implicitDefEqProofs (maxSteps := 2000000) only [m9_1, m9_2, m9_3, m9_4, m9_5, m9_6, m9_r, m9_b, m9, wk, act, asV, ↓reduceIte, Nat.reduceEqDiff, reduceCtorEq, Nat.reduceAdd, Nat.reduceLeDiff, Nat.reduceSub, Nat.reduceMul, List.reduceReplicate, Int.reduceEq, Int.reduceLT, Int.reduceLE, Int.reduceAdd, Int.reduceSub, Int.reduceMul, Nat.reduceLT, Int.reduceToNat]
  refine Wp_loop (fun m s => ∃ i, i ≤ xs.length ∧ m = xs.length - i ∧ s.t 0 = .sl f xs.length (sdL xs) ∧ s.t 3 = .int .i64 (i : Nat) ∧ (xs.take i).all (fun x => decide (x.asked.length ≤ 300) && decide (x.r.d.length ≤ 600)) = true) xs.length ⟨0, by omega, rfl, rfl, rfl, rfl⟩ ?_
  rintro m s ⟨i, hi, rfl, k0, k3, hall⟩
  by_cases hil : i < xs.length
  · have hil' : (i : Int) < xs.length := by omega
    have eX := sdL_drop hil
    have lL := sdL_length xs
    have wi : IntKind.i64.wrap (((i : Nat) : Int) + 1) = ((i + 1 : Nat) : Int) := by rw [IntKind.wrap_i64]; omega
    have hfl := hp _ (List.getElem_mem hil)
    have l4 : 4 ≤ (sdC xs[i] ++ List.drop ((i + 1) * 4) (sdL xs)).length := by simp [sdC, rc]
    have no : ¬ (xs[i].asked.length ≤ 300 ∧ xs[i].r.d.length ≤ 600) → fairS xs = false := fun h => by
      unfold fairS
      rw [Bool.and_eq_false_iff]
      refine .inl (Bool.eq_false_iff.2 fun hh => h ?_)
      have := List.all_eq_true.1 hh _ (List.getElem_mem hil)
      simpa using this
    by_cases b1 : (300 : Int) < (xs[i].asked.length : Nat)
    · rw [no (fun h => by omega)]
      simp -implicitDefEqProofs (maxSteps := 2000000) only [k0, k3, hil', eX, lL, sdC, rc, b1, wk, act, asV, ↓reduceIte, Nat.reduceEqDiff, reduceCtorEq, Nat.reduceAdd, Nat.reduceLeDiff, Nat.reduceSub, Nat.reduceMul, List.reduceReplicate, Int.reduceEq, Int.reduceLT, Int.reduceLE, Int.reduceAdd, Int.reduceSub, Int.reduceMul, Nat.reduceLT, Int.reduceToNat]
    · by_cases b2 : (600 : Int) < (xs[i].r.d.length : Nat)
      · rw [no (fun h => by omega)]
        simp -implicitDefEqProofs (maxSteps := 2000000) only [k0, k3, hil', eX, lL, sdC, rc, b1, b2, wk, act, asV, ↓reduceIte, Nat.reduceEqDiff, reduceCtorEq, Nat.reduceAdd, Nat.reduceLeDiff, Nat.reduceSub, Nat.reduceMul, List.reduceReplicate, Int.reduceEq, Int.reduceLT, Int.reduceLE, Int.reduceAdd, Int.reduceSub, Int.reduceMul, Nat.reduceLT, Int.reduceToNat]
      · simp -implicitDefEqProofs (maxSteps := 2000000) only [k0, k3, hil', eX, lL, sdC, rc, b1, b2, wi, wk, act, asV, ↓reduceIte, Nat.reduceEqDiff, reduceCtorEq, Nat.reduceAdd, Nat.reduceLeDiff, Nat.reduceSub, Nat.reduceMul, List.reduceReplicate, Int.reduceEq, Int.reduceLT, Int.reduceLE, Int.reduceAdd, Int.reduceSub, Int.reduceMul, Nat.reduceLT, Int.reduceToNat]
        refine ⟨xs.length - (i + 1), by omega, i + 1, by omega, rfl, rfl, ?_⟩
        rw [List.take_succ_eq_append_getElem hil, List.all_append, hall]
        simp; omega
  · obtain rfl : i = xs.length := by omega
    have hil' : ¬ ((xs.length : Nat) : Int) < xs.length := by omega
    rw [List.take_length] at hall
    have e : fairS xs = decide ((xs.length : Int) ≤ 30) := by
      unfold fairS
      rw [hall, Bool.true_and]
      congr 1; apply propext; omega
    rw [e]
    simp -implicitDefEqProofs (maxSteps := 2000000) only [k0, k3, hil', wk, act, asV, ↓reduceIte, Nat.reduceEqDiff, reduceCtorEq, Nat.reduceAdd, Nat.reduceLeDiff, Nat.reduceSub, Nat.reduceMul, List.reduceReplicate, Int.reduceEq, Int.reduceLT, Int.reduceLE, Int.reduceAdd, Int.reduceSub, Int.reduceMul, Nat.reduceLT, Int.reduceToNat]
end Go.Proofs.Ytkphojcmjffccaa
