/- Rows joined, cloned, held against one another. -/
import Derived.Test.YtfohfnhimgmnlaaK2
set_option linter.unusedVariables false
set_option linter.unusedSimpArgs false
set_option maxRecDepth 100000
set_option maxHeartbeats 2000000
namespace Go.Proofs.Ytfohfnhimgmnlaa
open Go.RowKit

/-- what a row under way holds: nothing yet, or its home's bytes -/
def Held (s : St) (t hm : Nat) (xs : List UInt8) : Prop := (xs = [] ∧ s.t t = .sl .full 0 []) ∨ ∃ ver, s.t t = .row hm 0 xs.length 1 ver ∧ s.h hm = ⟨ver, true, true, true, bl xs⟩

theorem grow_ok {n : Nat} (hn : n ≤ 2 ^ 44) : RC Try.prog 61 [.sl .full 0 [], .int .i64 (n : Nat)] [.own 0 1 []] := by
  refine RC.of_wpW c61 rfl ?_
  have h0 : IntKind.i64.wrap (n : Int) = n := by rw [IntKind.wrap_i64]; omega
  have hz : IntKind.i64.wrap 0 = 0 := by decide
  have hge : ¬ (n : Int) < 0 := by omega
  have hr := roomyB hn
  by_cases hp : 0 < n
  · have hp' : (0 : Int) < n := by omega
    simp -implicitDefEqProofs (maxSteps := 2000000) only [m61_1, m61_2, m61_3, m61_4, m61_5, m61_6, m61_7, m61_r, m61_b, m61, h0, hz, hge, hp, hp', hr, Int.sub_zero, wk, act, ↓reduceIte, Nat.reduceEqDiff, reduceCtorEq, Nat.reduceAdd, Nat.reduceLeDiff, Nat.reduceSub, Nat.reduceMul, List.reduceReplicate, Int.reduceEq, Int.reduceLT, Int.reduceLE, Int.reduceAdd, Int.reduceSub, Int.reduceMul, Nat.reduceLT, Int.reduceToNat]
    exact PostW.mk (r' := [.own 0 1 []]) (by simp -implicitDefEqProofs (maxSteps := 2000000) only [wk, act, ↓reduceIte, Nat.reduceEqDiff, reduceCtorEq, Nat.reduceAdd, Nat.reduceLeDiff, Nat.reduceSub, Nat.reduceMul, List.reduceReplicate, Int.reduceEq, Int.reduceLT, Int.reduceLE, Int.reduceAdd, Int.reduceSub, Int.reduceMul, Nat.reduceLT, Int.reduceToNat]) (.cons (.inl rfl) .nil) (by decide) (by decide)
  · have hz0 : n = 0 := by omega
    subst hz0
    simp -implicitDefEqProofs (maxSteps := 2000000) only [m61_1, m61_2, m61_3, m61_4, m61_5, m61_6, m61_7, m61_r, m61_b, m61, h0, hz, hge, hr, Int.sub_zero, Int.lt_irrefl, wk, act, ↓reduceIte, Nat.reduceEqDiff, reduceCtorEq, Nat.reduceAdd, Nat.reduceLeDiff, Nat.reduceSub, Nat.reduceMul, List.reduceReplicate, Int.reduceEq, Int.reduceLT, Int.reduceLE, Int.reduceAdd, Int.reduceSub, Int.reduceMul, Nat.reduceLT, Int.reduceToNat]
    exact PostW.mk (r' := [.sl .full 0 []]) (by simp -implicitDefEqProofs (maxSteps := 2000000) only [wk, act, ↓reduceIte, Nat.reduceEqDiff, reduceCtorEq, Nat.reduceAdd, Nat.reduceLeDiff, Nat.reduceSub, Nat.reduceMul, List.reduceReplicate, Int.reduceEq, Int.reduceLT, Int.reduceLE, Int.reduceAdd, Int.reduceSub, Int.reduceMul, Nat.reduceLT, Int.reduceToNat]) (.cons (.inr ⟨rfl, 1, rfl⟩) .nil) (by decide) (by decide)

theorem joined_take_le (ps : List (Fl × List UInt8)) (i : Nat) : (joined (ps.take i)).length ≤ (joined ps).length := by
  have : joined ps = joined (ps.take i) ++ joined (ps.drop i) := by rw [joined, joined, joined, ← List.flatten_append, ← List.map_append, List.take_append_drop]
  rw [this, List.length_append]; omega

theorem concat_ok (f : Fl) (ps : List (Fl × List UInt8)) (hl : (joined ps).length ≤ 2 ^ 43) (hn : ps.length < 2 ^ 63) : RC Try.prog 53 [.sl f ps.length (pl ps)] [.own (joined ps).length 1 (bl (joined ps))] := by
  refine RC.of_wp c53 rfl ?_
  simp -implicitDefEqProofs (maxSteps := 2000000) only [m53_1, m53_2, m53_3, m53_4, m53_5, m53_6, m53_7, m53_8, m53_9, m53_10, m53_11, m53_12, m53_13, m53_14, m53_15, m53_16, m53_17, m53_r, m53_b, m53, wk, act, ↓reduceIte, Nat.reduceEqDiff, reduceCtorEq, Nat.reduceAdd, Nat.reduceLeDiff, Nat.reduceSub, Nat.reduceMul, List.reduceReplicate, Int.reduceEq, Int.reduceLT, Int.reduceLE, Int.reduceAdd, Int.reduceSub, Int.reduceMul, Nat.reduceLT, Int.reduceToNat]
  refine Wp_loop (fun j s => ∃ i, i ≤ ps.length ∧ j = ps.length - i ∧ s.t 0 = .sl f ps.length (pl ps) ∧ s.t 9 = .sl f ps.length (pl ps) ∧ s.t 10 = .int .i64 ps.length ∧ s.t 11 = .int .i64 (i : Nat) ∧ s.t 3 = .int .i64 ((joined (ps.take i)).length : Nat)) ps.length ⟨0, by omega, rfl, rfl, rfl, rfl, rfl, rfl⟩ ?_
  rintro j s ⟨i, hi, rfl, g0, g9, g10, g11, g3⟩
  by_cases hil : i < ps.length
  · have hil' : (i : Int) < ps.length := by omega
    have htl := joined_take_le ps (i + 1)
    have hsn : (joined (ps.take (i + 1))).length = (joined (ps.take i)).length + ps[i].2.length := by rw [List.take_succ_eq_append_getElem hil, joined_snoc, List.length_append]
    have hw : IntKind.i64.wrap (((joined (ps.take i)).length : Int) + (ps[i].2.length : Int)) = ((joined (ps.take (i + 1))).length : Nat) := by rw [IntKind.wrap_i64, hsn]; omega
    have hng : ¬ (((joined (ps.take (i + 1))).length : Nat) : Int) < 0 := by omega
    simp -implicitDefEqProofs (maxSteps := 2000000) only [g0, g9, g10, g11, g3, hil', hil, drop_pl hil, pl_length, hw, hng, wrap_nat (show i < 2 ^ 63 - 1 by omega), wk, act, ↓reduceIte, Nat.reduceEqDiff, reduceCtorEq, Nat.reduceAdd, Nat.reduceLeDiff, Nat.reduceSub, Nat.reduceMul, List.reduceReplicate, Int.reduceEq, Int.reduceLT, Int.reduceLE, Int.reduceAdd, Int.reduceSub, Int.reduceMul, Nat.reduceLT, Int.reduceToNat]
    exact ⟨ps.length - (i + 1), by omega, i + 1, by omega, rfl, by and_intros <;> rfl⟩
  · have hie : i = ps.length := by omega
    subst hie
    rw [List.take_length] at g3
    have hgr := grow_ok (n := (joined ps).length) (by omega)
    repeat' (first | simp -implicitDefEqProofs (maxSteps := 2000000) only [g0, g9, g10, g11, g3, Int.lt_irrefl, wk, act, ↓reduceIte, Nat.reduceEqDiff, reduceCtorEq, Nat.reduceAdd, Nat.reduceLeDiff, Nat.reduceSub, Nat.reduceMul, List.reduceReplicate, Int.reduceEq, Int.reduceLT, Int.reduceLE, Int.reduceAdd, Int.reduceSub, Int.reduceMul, Nat.reduceLT, Int.reduceToNat] | ((with_reducible refine CallL.gate ?_); refine CallL.of (by simp -implicitDefEqProofs (maxSteps := 2000000) only [g0, g9, g10, g11, g3, Int.lt_irrefl, wk, act, ↓reduceIte, Nat.reduceEqDiff, reduceCtorEq, Nat.reduceAdd, Nat.reduceLeDiff, Nat.reduceSub, Nat.reduceMul, List.reduceReplicate, Int.reduceEq, Int.reduceLT, Int.reduceLE, Int.reduceAdd, Int.reduceSub, Int.reduceMul, Nat.reduceLT, Int.reduceToNat]; first | done | (with_reducible rfl)) (by first | exact hgr) (by simp -implicitDefEqProofs (maxSteps := 2000000) only [g0, g9, g10, g11, g3, Int.lt_irrefl, wk, act, ↓reduceIte, Nat.reduceEqDiff, reduceCtorEq, Nat.reduceAdd, Nat.reduceLeDiff, Nat.reduceSub, Nat.reduceMul, List.reduceReplicate, Int.reduceEq, Int.reduceLT, Int.reduceLE, Int.reduceAdd, Int.reduceSub, Int.reduceMul, Nat.reduceLT, Int.reduceToNat]) ?_) | ((with_reducible refine CallpL.gate ?_); refine CallpL.of (by simp -implicitDefEqProofs (maxSteps := 2000000) only [g0, g9, g10, g11, g3, Int.lt_irrefl, wk, act, ↓reduceIte, Nat.reduceEqDiff, reduceCtorEq, Nat.reduceAdd, Nat.reduceLeDiff, Nat.reduceSub, Nat.reduceMul, List.reduceReplicate, Int.reduceEq, Int.reduceLT, Int.reduceLE, Int.reduceAdd, Int.reduceSub, Int.reduceMul, Nat.reduceLT, Int.reduceToNat]; first | done | (with_reducible rfl)) (by first | exact hgr) (by simp -implicitDefEqProofs (maxSteps := 2000000) only [g0, g9, g10, g11, g3, Int.lt_irrefl, wk, act, ↓reduceIte, Nat.reduceEqDiff, reduceCtorEq, Nat.reduceAdd, Nat.reduceLeDiff, Nat.reduceSub, Nat.reduceMul, List.reduceReplicate, Int.reduceEq, Int.reduceLT, Int.reduceLE, Int.reduceAdd, Int.reduceSub, Int.reduceMul, Nat.reduceLT, Int.reduceToNat]) ?_) | ((with_reducible refine CallP.gate ?_); refine CallP.of (by simp -implicitDefEqProofs (maxSteps := 2000000) only [g0, g9, g10, g11, g3, Int.lt_irrefl, wk, act, ↓reduceIte, Nat.reduceEqDiff, reduceCtorEq, Nat.reduceAdd, Nat.reduceLeDiff, Nat.reduceSub, Nat.reduceMul, List.reduceReplicate, Int.reduceEq, Int.reduceLT, Int.reduceLE, Int.reduceAdd, Int.reduceSub, Int.reduceMul, Nat.reduceLT, Int.reduceToNat]; first | done | (with_reducible rfl)) (by first | exact hgr) (by simp -implicitDefEqProofs (maxSteps := 2000000) only [g0, g9, g10, g11, g3, Int.lt_irrefl, wk, act, ↓reduceIte, Nat.reduceEqDiff, reduceCtorEq, Nat.reduceAdd, Nat.reduceLeDiff, Nat.reduceSub, Nat.reduceMul, List.reduceReplicate, Int.reduceEq, Int.reduceLT, Int.reduceLE, Int.reduceAdd, Int.reduceSub, Int.reduceMul, Nat.reduceLT, Int.reduceToNat]) ?_) | ((with_reducible refine CallpP.gate ?_); refine CallpP.of (by simp -implicitDefEqProofs (maxSteps := 2000000) only [g0, g9, g10, g11, g3, Int.lt_irrefl, wk, act, ↓reduceIte, Nat.reduceEqDiff, reduceCtorEq, Nat.reduceAdd, Nat.reduceLeDiff, Nat.reduceSub, Nat.reduceMul, List.reduceReplicate, Int.reduceEq, Int.reduceLT, Int.reduceLE, Int.reduceAdd, Int.reduceSub, Int.reduceMul, Nat.reduceLT, Int.reduceToNat]; first | done | (with_reducible rfl)) (by first | exact hgr) (by simp -implicitDefEqProofs (maxSteps := 2000000) only [g0, g9, g10, g11, g3, Int.lt_irrefl, wk, act, ↓reduceIte, Nat.reduceEqDiff, reduceCtorEq, Nat.reduceAdd, Nat.reduceLeDiff, Nat.reduceSub, Nat.reduceMul, List.reduceReplicate, Int.reduceEq, Int.reduceLT, Int.reduceLE, Int.reduceAdd, Int.reduceSub, Int.reduceMul, Nat.reduceLT, Int.reduceToNat]) ?_))
    refine Wp_loop (fun j s => ∃ i, i ≤ ps.length ∧ j = ps.length - i ∧ s.t 25 = .sl f ps.length (pl ps) ∧ s.t 26 = .int .i64 ps.length ∧ s.t 27 = .int .i64 (i : Nat) ∧ ∃ hm ver, (hm = 24 ∨ hm = 33) ∧ s.t 6 = .row hm 0 (joined (ps.take i)).length 1 ver ∧ s.h hm = ⟨ver, true, true, true, bl (joined (ps.take i))⟩) ps.length ⟨0, by omega, rfl, by simp -implicitDefEqProofs (maxSteps := 2000000) only [g0, wk, act, ↓reduceIte, Nat.reduceEqDiff, reduceCtorEq, Nat.reduceAdd, Nat.reduceLeDiff, Nat.reduceSub, Nat.reduceMul, List.reduceReplicate, Int.reduceEq, Int.reduceLT, Int.reduceLE, Int.reduceAdd, Int.reduceSub, Int.reduceMul, Nat.reduceLT, Int.reduceToNat], by simp -implicitDefEqProofs (maxSteps := 2000000) only [wk, act, ↓reduceIte, Nat.reduceEqDiff, reduceCtorEq, Nat.reduceAdd, Nat.reduceLeDiff, Nat.reduceSub, Nat.reduceMul, List.reduceReplicate, Int.reduceEq, Int.reduceLT, Int.reduceLE, Int.reduceAdd, Int.reduceSub, Int.reduceMul, Nat.reduceLT, Int.reduceToNat], by simp -implicitDefEqProofs (maxSteps := 2000000) only [wk, act, ↓reduceIte, Nat.reduceEqDiff, reduceCtorEq, Nat.reduceAdd, Nat.reduceLeDiff, Nat.reduceSub, Nat.reduceMul, List.reduceReplicate, Int.reduceEq, Int.reduceLT, Int.reduceLE, Int.reduceAdd, Int.reduceSub, Int.reduceMul, Nat.reduceLT, Int.reduceToNat], 24, _, .inl rfl, by simp -implicitDefEqProofs (maxSteps := 2000000) only [wk, act, ↓reduceIte, Nat.reduceEqDiff, reduceCtorEq, Nat.reduceAdd, Nat.reduceLeDiff, Nat.reduceSub, Nat.reduceMul, List.reduceReplicate, Int.reduceEq, Int.reduceLT, Int.reduceLE, Int.reduceAdd, Int.reduceSub, Int.reduceMul, Nat.reduceLT, Int.reduceToNat]; first | done | rfl, by simp -implicitDefEqProofs (maxSteps := 2000000) only [wk, act, ↓reduceIte, Nat.reduceEqDiff, reduceCtorEq, Nat.reduceAdd, Nat.reduceLeDiff, Nat.reduceSub, Nat.reduceMul, List.reduceReplicate, Int.reduceEq, Int.reduceLT, Int.reduceLE, Int.reduceAdd, Int.reduceSub, Int.reduceMul, Nat.reduceLT, Int.reduceToNat]; first | done | rfl⟩ ?_
    rintro j s ⟨i, hi, rfl, g25, g26, g27, hm, ver, hhm, g6, gh⟩
    by_cases hil : i < ps.length
    · have hil' : (i : Int) < ps.length := by omega
      have htl := joined_take_le ps (i + 1)
      have hsn0 : joined (ps.take (i + 1)) = joined (ps.take i) ++ ps[i].2 := by rw [List.take_succ_eq_append_getElem hil, joined_snoc]
      have hsn : (joined (ps.take (i + 1))).length = (joined (ps.take i)).length + ps[i].2.length := by rw [hsn0, List.length_append]
      have hr : roomy ((joined (ps.take i)).length + ps[i].2.length) 1 = true := roomyB (by omega)
      have hb : bl (joined (ps.take i)) ++ bl ps[i].2 = bl (joined (ps.take (i + 1))) := by rw [hsn0, bl_append]
      rcases hhm with rfl | rfl
      all_goals
        simp -implicitDefEqProofs (maxSteps := 2000000) only [g25, g26, g27, g6, gh, hil', hil, drop_pl hil, pl_length, bl_length, hr, hb, wrap_nat (show i < 2 ^ 63 - 1 by omega), wk, act, ↓reduceIte, Nat.reduceEqDiff, reduceCtorEq, Nat.reduceAdd, Nat.reduceLeDiff, Nat.reduceSub, Nat.reduceMul, List.reduceReplicate, Int.reduceEq, Int.reduceLT, Int.reduceLE, Int.reduceAdd, Int.reduceSub, Int.reduceMul, Nat.reduceLT, Int.reduceToNat]
        refine ⟨ps.length - (i + 1), by omega, i + 1, by omega, rfl, rfl, 33, _, .inr rfl, by rw [hsn], by simp -implicitDefEqProofs (maxSteps := 2000000) only [wk, act, ↓reduceIte, Nat.reduceEqDiff, reduceCtorEq, Nat.reduceAdd, Nat.reduceLeDiff, Nat.reduceSub, Nat.reduceMul, List.reduceReplicate, Int.reduceEq, Int.reduceLT, Int.reduceLE, Int.reduceAdd, Int.reduceSub, Int.reduceMul, Nat.reduceLT, Int.reduceToNat]; first | done | rfl⟩
    · have hie : i = ps.length := by omega
      subst hie
      rw [List.take_length] at g6 gh
      rcases hhm with rfl | rfl
      all_goals simp -implicitDefEqProofs (maxSteps := 2000000) only [g25, g26, g27, g6, gh, Int.lt_irrefl, take_bl, wk, act, ↓reduceIte, Nat.reduceEqDiff, reduceCtorEq, Nat.reduceAdd, Nat.reduceLeDiff, Nat.reduceSub, Nat.reduceMul, List.reduceReplicate, Int.reduceEq, Int.reduceLT, Int.reduceLE, Int.reduceAdd, Int.reduceSub, Int.reduceMul, Nat.reduceLT, Int.reduceToNat]

theorem clone_ok (f : Fl) (b : List UInt8) (hl : b.length ≤ 2 ^ 43) : RC Try.prog 56 [.sl f b.length (bl b)] [.own b.length 1 (bl b)] := by
  refine RC.of_wpW c56 rfl ?_
  have hr : roomy b.length 1 = true := roomyB (by omega)
  cases b with
  | nil =>
    have hr0 : roomy 0 1 = true := roomyB (by omega)
    simp -implicitDefEqProofs (maxSteps := 2000000) only [m56_1, m56_2, m56_3, m56_r, m56_b, m56, bl, hr0, wk, act, ↓reduceIte, Nat.reduceEqDiff, reduceCtorEq, Nat.reduceAdd, Nat.reduceLeDiff, Nat.reduceSub, Nat.reduceMul, List.reduceReplicate, Int.reduceEq, Int.reduceLT, Int.reduceLE, Int.reduceAdd, Int.reduceSub, Int.reduceMul, Nat.reduceLT, Int.reduceToNat]
    constructor
    · exact PostW.mk (r' := [.sl .full 0 []]) (by simp -implicitDefEqProofs (maxSteps := 2000000) only [wk, act, ↓reduceIte, Nat.reduceEqDiff, reduceCtorEq, Nat.reduceAdd, Nat.reduceLeDiff, Nat.reduceSub, Nat.reduceMul, List.reduceReplicate, Int.reduceEq, Int.reduceLT, Int.reduceLE, Int.reduceAdd, Int.reduceSub, Int.reduceMul, Nat.reduceLT, Int.reduceToNat]) (.cons (.inr ⟨rfl, 1, rfl⟩) .nil) (by decide) (by decide)
    · exact PostW.mk (r' := [.own 0 1 []]) (by simp -implicitDefEqProofs (maxSteps := 2000000) only [wk, act, ↓reduceIte, Nat.reduceEqDiff, reduceCtorEq, Nat.reduceAdd, Nat.reduceLeDiff, Nat.reduceSub, Nat.reduceMul, List.reduceReplicate, Int.reduceEq, Int.reduceLT, Int.reduceLE, Int.reduceAdd, Int.reduceSub, Int.reduceMul, Nat.reduceLT, Int.reduceToNat]) (.cons (.inl rfl) .nil) (by decide) (by decide)
  | cons x xs =>
    have hp : 0 < xs.length + 1 := by omega
    rw [List.length_cons] at hr
    simp -implicitDefEqProofs (maxSteps := 2000000) only [m56_1, m56_2, m56_3, m56_r, m56_b, m56, bl_length, hr, hp, wk, act, ↓reduceIte, Nat.reduceEqDiff, reduceCtorEq, Nat.reduceAdd, Nat.reduceLeDiff, Nat.reduceSub, Nat.reduceMul, List.reduceReplicate, Int.reduceEq, Int.reduceLT, Int.reduceLE, Int.reduceAdd, Int.reduceSub, Int.reduceMul, Nat.reduceLT, Int.reduceToNat]
    have htk := take_bl (x :: xs)
    rw [List.length_cons] at htk
    exact PostW.mk (r' := [.own (xs.length + 1) 1 (bl (x :: xs))]) (by simp -implicitDefEqProofs (maxSteps := 2000000) only [htk, wk, act, ↓reduceIte, Nat.reduceEqDiff, reduceCtorEq, Nat.reduceAdd, Nat.reduceLeDiff, Nat.reduceSub, Nat.reduceMul, List.reduceReplicate, Int.reduceEq, Int.reduceLT, Int.reduceLE, Int.reduceAdd, Int.reduceSub, Int.reduceMul, Nat.reduceLT, Int.reduceToNat]) (.cons (.inl rfl) .nil) (Nat.le_refl 1) (Nat.le_refl 1)

theorem equal_ok (f f' : Fl) (a b : List UInt8) (ha : a.length < 2 ^ 63) : RC Try.prog 57 [.sl f a.length (bl a), .sl f' b.length (bl b)] [.bool (decide (a = b))] := by
  refine RC.of_wp c57 rfl ?_
  by_cases hab : a.length = b.length
  · have hab' : (a.length : Int) = b.length := by omega
    simp -implicitDefEqProofs (maxSteps := 2000000) only [m57_1, m57_2, m57_3, m57_4, m57_5, m57_6, m57_7, m57_8, m57_9, m57_r, m57_b, m57, hab', wk, act, ↓reduceIte, Nat.reduceEqDiff, reduceCtorEq, Nat.reduceAdd, Nat.reduceLeDiff, Nat.reduceSub, Nat.reduceMul, List.reduceReplicate, Int.reduceEq, Int.reduceLT, Int.reduceLE, Int.reduceAdd, Int.reduceSub, Int.reduceMul, Nat.reduceLT, Int.reduceToNat]
    refine Wp_loop (fun j s => ∃ i, i ≤ a.length ∧ j = a.length - i ∧ s.t 0 = .sl f a.length (bl a) ∧ s.t 1 = .sl f' b.length (bl b) ∧ s.t 12 = .int .i64 (a.length : Nat) ∧ s.t 13 = .int .i64 (i : Nat) ∧ a.take i = b.take i) a.length ⟨0, by omega, rfl, by simp -implicitDefEqProofs (maxSteps := 2000000) only [wk, act, ↓reduceIte, Nat.reduceEqDiff, reduceCtorEq, Nat.reduceAdd, Nat.reduceLeDiff, Nat.reduceSub, Nat.reduceMul, List.reduceReplicate, Int.reduceEq, Int.reduceLT, Int.reduceLE, Int.reduceAdd, Int.reduceSub, Int.reduceMul, Nat.reduceLT, Int.reduceToNat], by simp -implicitDefEqProofs (maxSteps := 2000000) only [wk, act, ↓reduceIte, Nat.reduceEqDiff, reduceCtorEq, Nat.reduceAdd, Nat.reduceLeDiff, Nat.reduceSub, Nat.reduceMul, List.reduceReplicate, Int.reduceEq, Int.reduceLT, Int.reduceLE, Int.reduceAdd, Int.reduceSub, Int.reduceMul, Nat.reduceLT, Int.reduceToNat], by simp -implicitDefEqProofs (maxSteps := 2000000) only [hab', wk, act, ↓reduceIte, Nat.reduceEqDiff, reduceCtorEq, Nat.reduceAdd, Nat.reduceLeDiff, Nat.reduceSub, Nat.reduceMul, List.reduceReplicate, Int.reduceEq, Int.reduceLT, Int.reduceLE, Int.reduceAdd, Int.reduceSub, Int.reduceMul, Nat.reduceLT, Int.reduceToNat], by simp -implicitDefEqProofs (maxSteps := 2000000) only [wk, act, ↓reduceIte, Nat.reduceEqDiff, reduceCtorEq, Nat.reduceAdd, Nat.reduceLeDiff, Nat.reduceSub, Nat.reduceMul, List.reduceReplicate, Int.reduceEq, Int.reduceLT, Int.reduceLE, Int.reduceAdd, Int.reduceSub, Int.reduceMul, Nat.reduceLT, Int.reduceToNat], rfl⟩ ?_
    rintro j s ⟨i, hi, rfl, g0, g1, g12, g13, hpre⟩
    by_cases hil : i < a.length
    · have hil' : (i : Int) < a.length := by omega
      have hib : i < b.length := by omega
      have hib' : (i : Int) < b.length := by omega
      by_cases hne : a[i] = b[i]
      · have hne' : ((a[i].toNat : Nat) : Int) = (b[i].toNat : Nat) := by rw [hne]
        simp -implicitDefEqProofs (maxSteps := 2000000) only [g0, g1, g12, g13, hil', hib', hil, hib, drop_bl hil, drop_bl hib, bl_length, hne', wrap_nat (show i < 2 ^ 63 - 1 by omega), wk, act, ↓reduceIte, Nat.reduceEqDiff, reduceCtorEq, Nat.reduceAdd, Nat.reduceLeDiff, Nat.reduceSub, Nat.reduceMul, List.reduceReplicate, Int.reduceEq, Int.reduceLT, Int.reduceLE, Int.reduceAdd, Int.reduceSub, Int.reduceMul, Nat.reduceLT, Int.reduceToNat]
        refine ⟨a.length - (i + 1), by omega, i + 1, by omega, rfl, rfl, ?_⟩
        rw [List.take_succ_eq_append_getElem hil, List.take_succ_eq_append_getElem hib, hpre, hne]
      · have hne' : ¬ ((a[i].toNat : Nat) : Int) = (b[i].toNat : Nat) := by
          intro h; exact hne (UInt8.toNat_inj.1 (by omega))
        have hnab : ¬ a = b := by intro h; subst h; exact hne rfl
        simp -implicitDefEqProofs (maxSteps := 2000000) only [g0, g1, g12, g13, hil', hib', hil, hib, drop_bl hil, drop_bl hib, bl_length, hne', hnab, wk, act, ↓reduceIte, Nat.reduceEqDiff, reduceCtorEq, Nat.reduceAdd, Nat.reduceLeDiff, Nat.reduceSub, Nat.reduceMul, List.reduceReplicate, Int.reduceEq, Int.reduceLT, Int.reduceLE, Int.reduceAdd, Int.reduceSub, Int.reduceMul, Nat.reduceLT, Int.reduceToNat]
    · have hie : i = a.length := by omega
      subst hie
      rw [List.take_length, hab, List.take_length] at hpre
      simp -implicitDefEqProofs (maxSteps := 2000000) only [g0, g1, g12, g13, Int.lt_irrefl, hpre, wk, act, ↓reduceIte, Nat.reduceEqDiff, reduceCtorEq, Nat.reduceAdd, Nat.reduceLeDiff, Nat.reduceSub, Nat.reduceMul, List.reduceReplicate, Int.reduceEq, Int.reduceLT, Int.reduceLE, Int.reduceAdd, Int.reduceSub, Int.reduceMul, Nat.reduceLT, Int.reduceToNat]
  · have hab' : ¬ (a.length : Int) = b.length := by omega
    have hnab : ¬ a = b := by intro h; subst h; exact hab rfl
    simp -implicitDefEqProofs (maxSteps := 2000000) only [m57_1, m57_2, m57_3, m57_4, m57_5, m57_6, m57_7, m57_8, m57_9, m57_r, m57_b, m57, hab', hnab, wk, act, ↓reduceIte, Nat.reduceEqDiff, reduceCtorEq, Nat.reduceAdd, Nat.reduceLeDiff, Nat.reduceSub, Nat.reduceMul, List.reduceReplicate, Int.reduceEq, Int.reduceLT, Int.reduceLE, Int.reduceAdd, Int.reduceSub, Int.reduceMul, Nat.reduceLT, Int.reduceToNat]
end Go.Proofs.Ytfohfnhimgmnlaa
