/- The hash: the laws ShaTurns and ShaSums. -/
import Derived.Test.YtlbilkldjhhopaaS16
import Derived.Test.YtlbilkldjhhopaaE31
import Derived.Test.YtlbilkldjhhopaaM7
import Derived.Test.YtlbilkldjhhopaaK1
import Derived.Test.YtlbilkldjhhopaaK6
set_option linter.unusedSectionVars false
set_option linter.unusedVariables false
set_option linter.unusedSimpArgs false
set_option maxRecDepth 100000
set_option maxHeartbeats 8000000
namespace Go.Proofs.Ytlbilkldjhhopaa
open Go.RowKit

theorem eqL_wl : ∀ (x y : List UInt32), x.length = y.length → eqL (wl x) (wl y) = some (decide (x = y))
  | [], [], _ => rfl
  | a :: x, b :: y, h => by
    have ih := eqL_wl x y (by simpa using h)
    have hab : (((a.toNat : Nat) : Int) = (b.toNat : Nat)) = (a = b) := by
      apply propext
      constructor
      · intro e; exact UInt32.toNat_inj.1 (by omega)
      · rintro rfl; rfl
    simp only [wl, List.map_cons, eqL, eqC, if_true, hab] at ih ⊢
    rw [ih]
    by_cases h1 : a = b <;> by_cases h2 : x = y <;> simp [h1, h2]
  | [], b :: y, h => by simp at h
  | a :: x, [], h => by simp at h
theorem eqL_by : ∀ (x y : List UInt8), x.length = y.length → eqL (bl x) (bl y) = some (decide (x = y))
  | [], [], _ => rfl
  | a :: x, b :: y, h => by
    have ih := eqL_by x y (by simpa using h)
    have hab : (((a.toNat : Nat) : Int) = (b.toNat : Nat)) = (a = b) := by
      apply propext
      constructor
      · intro e; exact UInt8.toNat_inj.1 (by omega)
      · rintro rfl; rfl
    simp only [bl, List.map_cons, eqL, eqC, if_true, hab] at ih ⊢
    rw [ih]
    by_cases h1 : a = b <;> by_cases h2 : x = y <;> simp [h1, h2]
  | [], b :: y, h => by simp at h
  | a :: x, [], h => by simp at h
theorem fitR_wl {x : List UInt32} {n : Nat} (h : x.length = n) : fitR [(n, .i)] (wl x) = true := by
  subst h
  have e1 : List.take x.length (wl x) = wl x := List.take_of_length_le (by rw [wl_length]; exact Nat.le_refl _)
  have e2 : List.drop x.length (wl x) = [] := List.drop_of_length_le (by rw [wl_length]; exact Nat.le_refl _)
  simp only [fitR, e1, e2, wl_length, Nat.le_refl, decide_true, Bool.true_and, List.isEmpty_nil, Bool.and_true]
  simp [wl, CK.fit]
theorem fitR_by {x : List UInt8} {n : Nat} (h : x.length = n) : fitR [(n, .i)] (bl x) = true := by
  subst h
  have e1 : List.take x.length (bl x) = bl x := take_bl x
  have e2 : List.drop x.length (bl x) = [] := List.drop_of_length_le (by rw [bl_length]; exact Nat.le_refl _)
  simp only [fitR, e1, e2, bl_length, Nat.le_refl, decide_true, Bool.true_and, List.isEmpty_nil, Bool.and_true]
  simp [bl, CK.fit]

theorem shaTurns (h : H8) (b : List UInt8) (n : Nat) (hb : b.length = 64) (hn : n < 2 ^ 64) : RC Try.prog 4 [.agg (wl h.l), .agg (bl b), .int .u64 (n : Nat)] [.bool true] := by
  refine RC.of_wp c4 rfl ?_
  have c1 := turn_ok h b hb
  have c2 := turnR_ok h b hb
  have c3 := pad_ok n hn
  have c4 := padR_ok n hn
  have c5 := bytes_ok .plain .plain (padB n) (padB n)
  rw [decide_eq_true rfl] at c5
  have hl : h.l.length = 8 := rfl
  obtain ⟨L, hL⟩ : ∃ L, L = h.l := ⟨_, rfl⟩
  rw [← hL] at c1 c2 hl ⊢
  have tl := turnH_length h b
  obtain ⟨T, hT⟩ : ∃ T, T = turnH h b := ⟨_, rfl⟩
  rw [← hT] at c1 c2 tl
  have q1 := eqL_wl T T rfl
  rw [decide_eq_true rfl] at q1
  have f1 := fitR_wl tl
  have q2 := eqL_wl start8.l start8.l rfl
  rw [decide_eq_true rfl] at q2
  have f2 := fitR_wl (show start8.l.length = 8 from rfl)
  have x1 : List.take 8 (wl L) = wl L := List.take_of_length_le (by rw [wl_length, hl]; exact Nat.le_refl _)
  have x2 : List.take 64 (bl b) = bl b := List.take_of_length_le (by rw [bl_length, hb]; exact Nat.le_refl _)
  have x3 := take_bl (padB n)
  obtain ⟨S, hS⟩ : ∃ S, S = start8.l := ⟨_, rfl⟩
  have c6 := start_ok
  have c7 := startR_ok
  rw [← hS] at q2 f2 c6 c7
  repeat' (first | simp -implicitDefEqProofs (maxSteps := 2000000) only [m4_1, m4_r, m4_b, m4, q1, f1, q2, f2, x1, x2, x3, hl, hb, wl_length, bl_length, wl_scal, bl_scal, bl_pur, wk, act, asV, ↓reduceIte, Nat.reduceEqDiff, reduceCtorEq, Nat.reduceAdd, Nat.reduceLeDiff, Nat.reduceSub, Nat.reduceMul, List.reduceReplicate, Int.reduceEq, Int.reduceLT, Int.reduceLE, Int.reduceAdd, Int.reduceSub, Int.reduceMul, Nat.reduceLT, Int.reduceToNat] | ((with_reducible refine CallL.gate ?_); refine CallL.of (by simp -implicitDefEqProofs (maxSteps := 2000000) only [m4_1, m4_r, m4_b, m4, q1, f1, q2, f2, x1, x2, x3, hl, hb, wl_length, bl_length, wl_scal, bl_scal, bl_pur, wk, act, asV, ↓reduceIte, Nat.reduceEqDiff, reduceCtorEq, Nat.reduceAdd, Nat.reduceLeDiff, Nat.reduceSub, Nat.reduceMul, List.reduceReplicate, Int.reduceEq, Int.reduceLT, Int.reduceLE, Int.reduceAdd, Int.reduceSub, Int.reduceMul, Nat.reduceLT, Int.reduceToNat]; first | done | (with_reducible rfl)) (by first | exact c1 | exact c2 | exact c3 | exact c4 | exact c5 | exact c6 | exact c7 | exact wakesH_ok) (by simp -implicitDefEqProofs (maxSteps := 2000000) only [m4_1, m4_r, m4_b, m4, q1, f1, q2, f2, x1, x2, x3, hl, hb, wl_length, bl_length, wl_scal, bl_scal, bl_pur, wk, act, asV, ↓reduceIte, Nat.reduceEqDiff, reduceCtorEq, Nat.reduceAdd, Nat.reduceLeDiff, Nat.reduceSub, Nat.reduceMul, List.reduceReplicate, Int.reduceEq, Int.reduceLT, Int.reduceLE, Int.reduceAdd, Int.reduceSub, Int.reduceMul, Nat.reduceLT, Int.reduceToNat]) ?_) | ((with_reducible refine CallP.gate ?_); refine CallP.of (by simp -implicitDefEqProofs (maxSteps := 2000000) only [m4_1, m4_r, m4_b, m4, q1, f1, q2, f2, x1, x2, x3, hl, hb, wl_length, bl_length, wl_scal, bl_scal, bl_pur, wk, act, asV, ↓reduceIte, Nat.reduceEqDiff, reduceCtorEq, Nat.reduceAdd, Nat.reduceLeDiff, Nat.reduceSub, Nat.reduceMul, List.reduceReplicate, Int.reduceEq, Int.reduceLT, Int.reduceLE, Int.reduceAdd, Int.reduceSub, Int.reduceMul, Nat.reduceLT, Int.reduceToNat]; first | done | (with_reducible rfl)) (by first | exact c1 | exact c2 | exact c3 | exact c4 | exact c5 | exact c6 | exact c7 | exact wakesH_ok) (by simp -implicitDefEqProofs (maxSteps := 2000000) only [m4_1, m4_r, m4_b, m4, q1, f1, q2, f2, x1, x2, x3, hl, hb, wl_length, bl_length, wl_scal, bl_scal, bl_pur, wk, act, asV, ↓reduceIte, Nat.reduceEqDiff, reduceCtorEq, Nat.reduceAdd, Nat.reduceLeDiff, Nat.reduceSub, Nat.reduceMul, List.reduceReplicate, Int.reduceEq, Int.reduceLT, Int.reduceLE, Int.reduceAdd, Int.reduceSub, Int.reduceMul, Nat.reduceLT, Int.reduceToNat]) ?_))
end Go.Proofs.Ytlbilkldjhhopaa
