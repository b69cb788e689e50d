/- Rows joined, cloned, held against one another. -/
import Derived.Test.YtlbilkldjhhopaaE31
import Derived.Test.YtlbilkldjhhopaaM7
import Derived.Test.YtlbilkldjhhopaaK0
set_option linter.unusedVariables false
set_option linter.unusedSimpArgs false
set_option maxRecDepth 100000
set_option maxHeartbeats 2000000
namespace Go.Proofs.Ytlbilkldjhhopaa
open Go.RowKit

/-- what a row under way holds: nothing yet, or its home's bytes -/
def Held (s : St) (t hm : Nat) (xs : List UInt8) : Prop := (xs = [] ∧ s.t t = .sl .full 0 []) ∨ ∃ ver, s.t t = .row hm 0 xs.length 1 ver ∧ s.h hm = ⟨ver, true, true, true, bl xs⟩

theorem grow_ok {n : Nat} (hn : n ≤ 2 ^ 44) : RC Try.prog 48 [.sl .full 0 [], .int .i64 (n : Nat)] [.own 0 1 []] := by
  refine RC.of_wpW c48 rfl ?_
  have h0 : IntKind.i64.wrap (n : Int) = n := by rw [IntKind.wrap_i64]; omega
  have hz : IntKind.i64.wrap 0 = 0 := by decide
  have hge : ¬ (n : Int) < 0 := by omega
  have hr := roomyB hn
  by_cases hp : 0 < n
  · have hp' : (0 : Int) < n := by omega
    simp -implicitDefEqProofs (maxSteps := 2000000) only [m48_1, m48_2, m48_3, m48_4, m48_5, m48_6, m48_7, m48_r, m48_b, m48, h0, hz, hge, hp, hp', hr, Int.sub_zero, wk, act, asV, ↓reduceIte, Nat.reduceEqDiff, reduceCtorEq, Nat.reduceAdd, Nat.reduceLeDiff, Nat.reduceSub, Nat.reduceMul, List.reduceReplicate, Int.reduceEq, Int.reduceLT, Int.reduceLE, Int.reduceAdd, Int.reduceSub, Int.reduceMul, Nat.reduceLT, Int.reduceToNat]
    exact PostW.mk (r' := [.own 0 1 []]) (by simp -implicitDefEqProofs (maxSteps := 2000000) only [wk, act, asV, ↓reduceIte, Nat.reduceEqDiff, reduceCtorEq, Nat.reduceAdd, Nat.reduceLeDiff, Nat.reduceSub, Nat.reduceMul, List.reduceReplicate, Int.reduceEq, Int.reduceLT, Int.reduceLE, Int.reduceAdd, Int.reduceSub, Int.reduceMul, Nat.reduceLT, Int.reduceToNat]) (.cons (.inl rfl) .nil) (by decide) (by decide)
  · have hz0 : n = 0 := by omega
    subst hz0
    simp -implicitDefEqProofs (maxSteps := 2000000) only [m48_1, m48_2, m48_3, m48_4, m48_5, m48_6, m48_7, m48_r, m48_b, m48, h0, hz, hge, hr, Int.sub_zero, Int.lt_irrefl, wk, act, asV, ↓reduceIte, Nat.reduceEqDiff, reduceCtorEq, Nat.reduceAdd, Nat.reduceLeDiff, Nat.reduceSub, Nat.reduceMul, List.reduceReplicate, Int.reduceEq, Int.reduceLT, Int.reduceLE, Int.reduceAdd, Int.reduceSub, Int.reduceMul, Nat.reduceLT, Int.reduceToNat]
    exact PostW.mk (r' := [.sl .full 0 []]) (by simp -implicitDefEqProofs (maxSteps := 2000000) only [wk, act, asV, ↓reduceIte, Nat.reduceEqDiff, reduceCtorEq, Nat.reduceAdd, Nat.reduceLeDiff, Nat.reduceSub, Nat.reduceMul, List.reduceReplicate, Int.reduceEq, Int.reduceLT, Int.reduceLE, Int.reduceAdd, Int.reduceSub, Int.reduceMul, Nat.reduceLT, Int.reduceToNat]) (.cons (.inr ⟨rfl, 1, rfl⟩) .nil) (by decide) (by decide)

theorem joined_take_le (ps : List (Fl × List UInt8)) (i : Nat) : (joined (ps.take i)).length ≤ (joined ps).length := by
  have : joined ps = joined (ps.take i) ++ joined (ps.drop i) := by rw [joined, joined, joined, ← List.flatten_append, ← List.map_append, List.take_append_drop]
  rw [this, List.length_append]; omega

theorem concat_ok (f : Fl) (ps : List (Fl × List UInt8)) (hl : (joined ps).length ≤ 2 ^ 43) (hn : ps.length < 2 ^ 63) : RC Try.prog 38 [.sl f ps.length (pl ps)] [.own (joined ps).length 1 (bl (joined ps))] := by
  refine RC.of_wp c38 rfl ?_
  simp -implicitDefEqProofs (maxSteps := 2000000) only [m38_1, m38_2, m38_3, m38_4, m38_5, m38_6, m38_7, m38_8, m38_9, m38_10, m38_11, m38_12, m38_13, m38_14, m38_15, m38_16, m38_17, m38_r, m38_b, m38, wk, act, asV, ↓reduceIte, Nat.reduceEqDiff, reduceCtorEq, Nat.reduceAdd, Nat.reduceLeDiff, Nat.reduceSub, Nat.reduceMul, List.reduceReplicate, Int.reduceEq, Int.reduceLT, Int.reduceLE, Int.reduceAdd, Int.reduceSub, Int.reduceMul, Nat.reduceLT, Int.reduceToNat]
  refine Wp_loop (fun j s => ∃ i, i ≤ ps.length ∧ j = ps.length - i ∧ s.t 0 = .sl f ps.length (pl ps) ∧ s.t 9 = .sl f ps.length (pl ps) ∧ s.t 10 = .int .i64 ps.length ∧ s.t 11 = .int .i64 (i : Nat) ∧ s.t 3 = .int .i64 ((joined (ps.take i)).length : Nat)) ps.length ⟨0, by omega, rfl, rfl, rfl, rfl, rfl, rfl⟩ ?_
  rintro j s ⟨i, hi, rfl, g0, g9, g10, g11, g3⟩
  by_cases hil : i < ps.length
  · have hil' : (i : Int) < ps.length := by omega
    have htl := joined_take_le ps (i + 1)
    have hsn : (joined (ps.take (i + 1))).length = (joined (ps.take i)).length + ps[i].2.length := by rw [List.take_succ_eq_append_getElem hil, joined_snoc, List.length_append]
    have hw : IntKind.i64.wrap (((joined (ps.take i)).length : Int) + (ps[i].2.length : Int)) = ((joined (ps.take (i + 1))).length : Nat) := by rw [IntKind.wrap_i64, hsn]; omega
    have hng : ¬ (((joined (ps.take (i + 1))).length : Nat) : Int) < 0 := by omega
    simp -implicitDefEqProofs (maxSteps := 2000000) only [g0, g9, g10, g11, g3, hil', hil, drop_pl hil, pl_length, hw, hng, wrap_nat (show i < 2 ^ 63 - 1 by omega), wk, act, asV, ↓reduceIte, Nat.reduceEqDiff, reduceCtorEq, Nat.reduceAdd, Nat.reduceLeDiff, Nat.reduceSub, Nat.reduceMul, List.reduceReplicate, Int.reduceEq, Int.reduceLT, Int.reduceLE, Int.reduceAdd, Int.reduceSub, Int.reduceMul, Nat.reduceLT, Int.reduceToNat]
    exact ⟨ps.length - (i + 1), by omega, i + 1, by omega, rfl, by and_intros <;> rfl⟩
  · have hie : i = ps.length := by omega
    subst hie
    rw [List.take_length] at g3
    have hgr := grow_ok (n := (joined ps).length) (by omega)
    repeat' (first | simp -implicitDefEqProofs (maxSteps := 2000000) only [g0, g9, g10, g11, g3, Int.lt_irrefl, wk, act, asV, ↓reduceIte, Nat.reduceEqDiff, reduceCtorEq, Nat.reduceAdd, Nat.reduceLeDiff, Nat.reduceSub, Nat.reduceMul, List.reduceReplicate, Int.reduceEq, Int.reduceLT, Int.reduceLE, Int.reduceAdd, Int.reduceSub, Int.reduceMul, Nat.reduceLT, Int.reduceToNat] | ((with_reducible refine CallL.gate ?_); refine CallL.of (by simp -implicitDefEqProofs (maxSteps := 2000000) only [g0, g9, g10, g11, g3, Int.lt_irrefl, wk, act, asV, ↓reduceIte, Nat.reduceEqDiff, reduceCtorEq, Nat.reduceAdd, Nat.reduceLeDiff, Nat.reduceSub, Nat.reduceMul, List.reduceReplicate, Int.reduceEq, Int.reduceLT, Int.reduceLE, Int.reduceAdd, Int.reduceSub, Int.reduceMul, Nat.reduceLT, Int.reduceToNat]; first | done | (with_reducible rfl)) (by first | exact hgr) (by simp -implicitDefEqProofs (maxSteps := 2000000) only [g0, g9, g10, g11, g3, Int.lt_irrefl, wk, act, asV, ↓reduceIte, Nat.reduceEqDiff, reduceCtorEq, Nat.reduceAdd, Nat.reduceLeDiff, Nat.reduceSub, Nat.reduceMul, List.reduceReplicate, Int.reduceEq, Int.reduceLT, Int.reduceLE, Int.reduceAdd, Int.reduceSub, Int.reduceMul, Nat.reduceLT, Int.reduceToNat]) ?_) | ((with_reducible refine CallP.gate ?_); refine CallP.of (by simp -implicitDefEqProofs (maxSteps := 2000000) only [g0, g9, g10, g11, g3, Int.lt_irrefl, wk, act, asV, ↓reduceIte, Nat.reduceEqDiff, reduceCtorEq, Nat.reduceAdd, Nat.reduceLeDiff, Nat.reduceSub, Nat.reduceMul, List.reduceReplicate, Int.reduceEq, Int.reduceLT, Int.reduceLE, Int.reduceAdd, Int.reduceSub, Int.reduceMul, Nat.reduceLT, Int.reduceToNat]; first | done | (with_reducible rfl)) (by first | exact hgr) (by simp -implicitDefEqProofs (maxSteps := 2000000) only [g0, g9, g10, g11, g3, Int.lt_irrefl, wk, act, asV, ↓reduceIte, Nat.reduceEqDiff, reduceCtorEq, Nat.reduceAdd, Nat.reduceLeDiff, Nat.reduceSub, Nat.reduceMul, List.reduceReplicate, Int.reduceEq, Int.reduceLT, Int.reduceLE, Int.reduceAdd, Int.reduceSub, Int.reduceMul, Nat.reduceLT, Int.reduceToNat]) ?_))
    refine Wp_loop (fun j s => ∃ i, i ≤ ps.length ∧ j = ps.length - i ∧ s.t 25 = .sl f ps.length (pl ps) ∧ s.t 26 = .int .i64 ps.length ∧ s.t 27 = .int .i64 (i : Nat) ∧ ∃ hm ver, (hm = 24 ∨ hm = 33) ∧ s.t 6 = .row hm 0 (joined (ps.take i)).length 1 ver ∧ s.h hm = ⟨ver, true, true, true, bl (joined (ps.take i))⟩) ps.length ⟨0, by omega, rfl, by simp -implicitDefEqProofs (maxSteps := 2000000) only [g0, wk, act, asV, ↓reduceIte, Nat.reduceEqDiff, reduceCtorEq, Nat.reduceAdd, Nat.reduceLeDiff, Nat.reduceSub, Nat.reduceMul, List.reduceReplicate, Int.reduceEq, Int.reduceLT, Int.reduceLE, Int.reduceAdd, Int.reduceSub, Int.reduceMul, Nat.reduceLT, Int.reduceToNat], by simp -implicitDefEqProofs (maxSteps := 2000000) only [wk, act, asV, ↓reduceIte, Nat.reduceEqDiff, reduceCtorEq, Nat.reduceAdd, Nat.reduceLeDiff, Nat.reduceSub, Nat.reduceMul, List.reduceReplicate, Int.reduceEq, Int.reduceLT, Int.reduceLE, Int.reduceAdd, Int.reduceSub, Int.reduceMul, Nat.reduceLT, Int.reduceToNat], by simp -implicitDefEqProofs (maxSteps := 2000000) only [wk, act, asV, ↓reduceIte, Nat.reduceEqDiff, reduceCtorEq, Nat.reduceAdd, Nat.reduceLeDiff, Nat.reduceSub, Nat.reduceMul, List.reduceReplicate, Int.reduceEq, Int.reduceLT, Int.reduceLE, Int.reduceAdd, Int.reduceSub, Int.reduceMul, Nat.reduceLT, Int.reduceToNat], 24, _, .inl rfl, by simp -implicitDefEqProofs (maxSteps := 2000000) only [wk, act, asV, ↓reduceIte, Nat.reduceEqDiff, reduceCtorEq, Nat.reduceAdd, Nat.reduceLeDiff, Nat.reduceSub, Nat.reduceMul, List.reduceReplicate, Int.reduceEq, Int.reduceLT, Int.reduceLE, Int.reduceAdd, Int.reduceSub, Int.reduceMul, Nat.reduceLT, Int.reduceToNat]; first | done | rfl, by simp -implicitDefEqProofs (maxSteps := 2000000) only [wk, act, asV, ↓reduceIte, Nat.reduceEqDiff, reduceCtorEq, Nat.reduceAdd, Nat.reduceLeDiff, Nat.reduceSub, Nat.reduceMul, List.reduceReplicate, Int.reduceEq, Int.reduceLT, Int.reduceLE, Int.reduceAdd, Int.reduceSub, Int.reduceMul, Nat.reduceLT, Int.reduceToNat]; first | done | rfl⟩ ?_
    rintro j s ⟨i, hi, rfl, g25, g26, g27, hm, ver, hhm, g6, gh⟩
    by_cases hil : i < ps.length
    · have hil' : (i : Int) < ps.length := by omega
      have htl := joined_take_le ps (i + 1)
      have hsn0 : joined (ps.take (i + 1)) = joined (ps.take i) ++ ps[i].2 := by rw [List.take_succ_eq_append_getElem hil, joined_snoc]
      have hsn : (joined (ps.take (i + 1))).length = (joined (ps.take i)).length + ps[i].2.length := by rw [hsn0, List.length_append]
      have hr : roomy ((joined (ps.take i)).length + ps[i].2.length) 1 = true := roomyB (by omega)
      have hb : bl (joined (ps.take i)) ++ bl ps[i].2 = bl (joined (ps.take (i + 1))) := by rw [hsn0, bl_append]
      rcases hhm with rfl | rfl
      all_goals
        simp -implicitDefEqProofs (maxSteps := 2000000) only [g25, g26, g27, g6, gh, hil', hil, drop_pl hil, pl_length, bl_length, hr, hb, wrap_nat (show i < 2 ^ 63 - 1 by omega), wk, act, asV, ↓reduceIte, Nat.reduceEqDiff, reduceCtorEq, Nat.reduceAdd, Nat.reduceLeDiff, Nat.reduceSub, Nat.reduceMul, List.reduceReplicate, Int.reduceEq, Int.reduceLT, Int.reduceLE, Int.reduceAdd, Int.reduceSub, Int.reduceMul, Nat.reduceLT, Int.reduceToNat]
        refine ⟨ps.length - (i + 1), by omega, i + 1, by omega, rfl, rfl, 33, _, .inr rfl, by rw [hsn], by simp -implicitDefEqProofs (maxSteps := 2000000) only [wk, act, asV, ↓reduceIte, Nat.reduceEqDiff, reduceCtorEq, Nat.reduceAdd, Nat.reduceLeDiff, Nat.reduceSub, Nat.reduceMul, List.reduceReplicate, Int.reduceEq, Int.reduceLT, Int.reduceLE, Int.reduceAdd, Int.reduceSub, Int.reduceMul, Nat.reduceLT, Int.reduceToNat]; first | done | rfl⟩
    · have hie : i = ps.length := by omega
      subst hie
      rw [List.take_length] at g6 gh
      rcases hhm with rfl | rfl
      all_goals simp -implicitDefEqProofs (maxSteps := 2000000) only [g25, g26, g27, g6, gh, Int.lt_irrefl, take_bl, wk, act, asV, ↓reduceIte, Nat.reduceEqDiff, reduceCtorEq, Nat.reduceAdd, Nat.reduceLeDiff, Nat.reduceSub, Nat.reduceMul, List.reduceReplicate, Int.reduceEq, Int.reduceLT, Int.reduceLE, Int.reduceAdd, Int.reduceSub, Int.reduceMul, Nat.reduceLT, Int.reduceToNat]
end Go.Proofs.Ytlbilkldjhhopaa
