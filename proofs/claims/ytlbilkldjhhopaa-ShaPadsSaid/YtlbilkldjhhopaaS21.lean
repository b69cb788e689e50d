/- The hash: the law ShaPads. -/
import Derived.Test.YtlbilkldjhhopaaS17
import Derived.Test.YtlbilkldjhhopaaE31
import Derived.Test.YtlbilkldjhhopaaM7
set_option linter.unusedSectionVars false
set_option linter.unusedVariables false
set_option linter.unusedSimpArgs false
set_option maxRecDepth 100000
set_option maxHeartbeats 8000000
namespace Go.Proofs.Ytlbilkldjhhopaa
open Go.RowKit

theorem padB_mod (n : Nat) : padB (n % 2 ^ 61) = padB n := by
  have h1 : padZ (n % 2 ^ 61) = padZ n := by unfold padZ; omega
  have h2 : n % 2 ^ 61 % 2 ^ 61 = n % 2 ^ 61 := by omega
  unfold padB
  rw [h1, h2]
theorem padB_zero {n i : Nat} (h1 : 1 ≤ i) (h2 : i < 1 + padZ n) : (padB n).getD i 0 = 0 := by
  have hl := padHead_length (padZ n)
  rw [padB, List.getD_eq_getElem?_getD, List.getElem?_append_left (by omega), padHead]
  obtain ⟨j, rfl⟩ : ∃ j, i = j + 1 := ⟨i - 1, by omega⟩
  rw [List.getElem?_cons_succ, List.getElem?_replicate, if_pos (by omega)]
  rfl
theorem padB_be {n i : Nat} (h : i < 8) : (padB n).getD (1 + padZ n + i) 0 = u8 ((n % 2 ^ 61 * 8) >>> (56 - 8 * i)) := by
  have hl := padHead_length (padZ n)
  rw [padB, List.getD_eq_getElem?_getD, List.getElem?_append_right (by omega), hl, Nat.add_sub_cancel_left]
  simp [be8, h]
theorem be_step {x i : Nat} (h : i < 8) (hx : x < 2 ^ 64) : (x >>> (64 - 8 * i)) * 2 ^ 8 + (u8 (x >>> (56 - 8 * i))).toNat = x >>> (64 - 8 * (i + 1)) ∧ (x >>> (64 - 8 * i)) * 2 ^ 8 < 2 ^ 64 := by
  rw [u8_toNat]
  have e1 : x >>> (64 - 8 * i) = x >>> (56 - 8 * i) / 256 := by
    rw [show 64 - 8 * i = (56 - 8 * i) + 8 by omega, Nat.shiftRight_add, Nat.shiftRight_eq_div_pow _ 8]
  have e2 : 64 - 8 * (i + 1) = 56 - 8 * i := by omega
  have e3 : x >>> (56 - 8 * i) ≤ x := by rw [Nat.shiftRight_eq_div_pow]; exact Nat.div_le_self _ _
  rw [e1, e2]
  omega
theorem shaPads (n : Nat) (hn : n < 2 ^ 64) : RC Try.prog 6 [.int .u64 (n : Nat)] [.bool true] := by
  refine RC.of_wp c6 rfl ?_
  obtain ⟨m, hm⟩ : ∃ m, m = n % 2 ^ 61 := ⟨_, rfl⟩
  have hm61 : m < 2 ^ 61 := by omega
  have w0 : ((n : Nat) : Int).tmod 2305843009213693952 = (m : Int) := by rw [Int.tmod_eq_emod_of_nonneg (by omega)]; omega
  have c1 := pad_ok m (by omega)
  have c2 := pad_ok n hn
  rw [← padB_mod n, ← hm] at c2
  have hpl := padB_length m
  have hz : padZ m < 64 := Nat.mod_lt _ (by decide)
  have hzz : ∀ i, 1 ≤ i → i < 1 + padZ m → (padB m).getD i 0 = 0 := fun i => padB_zero
  have hbe : ∀ i, i < 8 → (padB m).getD (1 + padZ m + i) 0 = u8 ((m * 8) >>> (56 - 8 * i)) := fun i h => by
    have := padB_be (n := m) h
    rw [Nat.mod_eq_of_lt hm61] at this
    exact this
  have h0 : List.take 1 (bl (padB m)) = [.int .u8 128] := rfl
  have hzd : (m + 9 + padZ m) % 64 = 0 := by unfold padZ; omega
  have c3 := bytes_ok .plain .plain (padB m) (padB m)
  rw [decide_eq_true rfl] at c3
  obtain ⟨z, hzv⟩ : ∃ z, z = padZ m := ⟨_, rfl⟩
  rw [← hzv] at hpl hz hzz hbe hzd
  obtain ⟨p, hp⟩ : ∃ p, p = padB m := ⟨_, rfl⟩
  rw [← hp] at c1 c2 hpl hzz hbe h0 c3
  have tp := take_bl p
  have hab : ∀ k, k < p.length → List.take 1 (List.drop k (bl p)) = [.int .u8 ((p.getD k 0).toNat : Int)] := fun k h => at_b h
  rw [hpl] at c1 c2 c3 tp
  have e9 : ¬ ((9 + z : Nat) : Int) < 9 := by omega
  have e72 : ¬ (72 : Int) < ((9 + z : Nat) : Int) := by omega
  have e1 : (m : Int).tmod 64 = ((m % 64 : Nat) : Int) := by rw [Int.tmod_eq_emod_of_nonneg (by omega)]; omega
  have e2 : IntKind.u64.wrap ((9 + z : Nat) : Int) = ((9 + z : Nat) : Int) := wrapN .u64 (by simp [vbits, IntKind.signed, IntKind.bits]; omega)
  have e3 : IntKind.u64.wrap (((m % 64 : Nat) : Int) + ((9 + z : Nat) : Int)) = ((m % 64 + (9 + z) : Nat) : Int) := by
    rw [show ((m % 64 : Nat) : Int) + ((9 + z : Nat) : Int) = ((m % 64 + (9 + z) : Nat) : Int) by omega]
    exact wrapN .u64 (by simp [vbits, IntKind.signed, IntKind.bits]; omega)
  have e4 : ((m % 64 + (9 + z) : Nat) : Int).tmod 64 = 0 := by rw [Int.tmod_eq_emod_of_nonneg (by omega)]; omega
  have e5 : IntKind.i64.wrap (((9 + z : Nat) : Int) - 8) = ((1 + z : Nat) : Int) := by rw [IntKind.wrap_i64]; omega
  have hlp : (bl p).length = 9 + z := by rw [bl_length, hpl]
  have l1 : 1 ≤ 9 + z := by omega
  have l0 : (0 : Int) < ((9 + z : Nat) : Int) := by omega
  repeat' (first | simp -implicitDefEqProofs (maxSteps := 2000000) only [m6_1, m6_2, m6_3, m6_4, m6_5, m6_6, m6_7, m6_8, m6_9, m6_10, m6_11, m6_12, m6_13, m6_14, m6_15, m6_16, m6_17, m6_18, m6_r, m6_b, m6, w0, e9, e72, e1, e2, e3, e4, e5, h0, l0, l1, hlp, tp, bl_scal, wk, act, asV, ↓reduceIte, Nat.reduceEqDiff, reduceCtorEq, Nat.reduceAdd, Nat.reduceLeDiff, Nat.reduceSub, Nat.reduceMul, List.reduceReplicate, Int.reduceEq, Int.reduceLT, Int.reduceLE, Int.reduceAdd, Int.reduceSub, Int.reduceMul, Nat.reduceLT, Int.reduceToNat] | ((with_reducible refine CallL.gate ?_); refine CallL.of (by simp -implicitDefEqProofs (maxSteps := 2000000) only [m6_1, m6_2, m6_3, m6_4, m6_5, m6_6, m6_7, m6_8, m6_9, m6_10, m6_11, m6_12, m6_13, m6_14, m6_15, m6_16, m6_17, m6_18, m6_r, m6_b, m6, w0, e9, e72, e1, e2, e3, e4, e5, h0, l0, l1, hlp, tp, bl_scal, wk, act, asV, ↓reduceIte, Nat.reduceEqDiff, reduceCtorEq, Nat.reduceAdd, Nat.reduceLeDiff, Nat.reduceSub, Nat.reduceMul, List.reduceReplicate, Int.reduceEq, Int.reduceLT, Int.reduceLE, Int.reduceAdd, Int.reduceSub, Int.reduceMul, Nat.reduceLT, Int.reduceToNat]; first | done | (with_reducible rfl)) (by first | exact c1) (by simp -implicitDefEqProofs (maxSteps := 2000000) only [m6_1, m6_2, m6_3, m6_4, m6_5, m6_6, m6_7, m6_8, m6_9, m6_10, m6_11, m6_12, m6_13, m6_14, m6_15, m6_16, m6_17, m6_18, m6_r, m6_b, m6, w0, e9, e72, e1, e2, e3, e4, e5, h0, l0, l1, hlp, tp, bl_scal, wk, act, asV, ↓reduceIte, Nat.reduceEqDiff, reduceCtorEq, Nat.reduceAdd, Nat.reduceLeDiff, Nat.reduceSub, Nat.reduceMul, List.reduceReplicate, Int.reduceEq, Int.reduceLT, Int.reduceLE, Int.reduceAdd, Int.reduceSub, Int.reduceMul, Nat.reduceLT, Int.reduceToNat]) ?_) | ((with_reducible refine CallP.gate ?_); refine CallP.of (by simp -implicitDefEqProofs (maxSteps := 2000000) only [m6_1, m6_2, m6_3, m6_4, m6_5, m6_6, m6_7, m6_8, m6_9, m6_10, m6_11, m6_12, m6_13, m6_14, m6_15, m6_16, m6_17, m6_18, m6_r, m6_b, m6, w0, e9, e72, e1, e2, e3, e4, e5, h0, l0, l1, hlp, tp, bl_scal, wk, act, asV, ↓reduceIte, Nat.reduceEqDiff, reduceCtorEq, Nat.reduceAdd, Nat.reduceLeDiff, Nat.reduceSub, Nat.reduceMul, List.reduceReplicate, Int.reduceEq, Int.reduceLT, Int.reduceLE, Int.reduceAdd, Int.reduceSub, Int.reduceMul, Nat.reduceLT, Int.reduceToNat]; first | done | (with_reducible rfl)) (by first | exact c1) (by simp -implicitDefEqProofs (maxSteps := 2000000) only [m6_1, m6_2, m6_3, m6_4, m6_5, m6_6, m6_7, m6_8, m6_9, m6_10, m6_11, m6_12, m6_13, m6_14, m6_15, m6_16, m6_17, m6_18, m6_r, m6_b, m6, w0, e9, e72, e1, e2, e3, e4, e5, h0, l0, l1, hlp, tp, bl_scal, wk, act, asV, ↓reduceIte, Nat.reduceEqDiff, reduceCtorEq, Nat.reduceAdd, Nat.reduceLeDiff, Nat.reduceSub, Nat.reduceMul, List.reduceReplicate, Int.reduceEq, Int.reduceLT, Int.reduceLE, Int.reduceAdd, Int.reduceSub, Int.reduceMul, Nat.reduceLT, Int.reduceToNat]) ?_))
  refine Wp_loop (fun k s => ∃ i, i ≤ 8 ∧ k = 8 - i ∧ s.t 0 = .int .u64 (n : Nat) ∧ s.t 3 = .int .u64 (m : Nat) ∧ (∃ v, s.t 4 = .row 11 0 (9 + z) 1 v ∧ s.h 11 = ⟨v, true, true, true, bl p⟩) ∧ s.t 5 = .int .u64 (((m * 8) >>> (64 - 8 * i) : Nat) : Int) ∧ s.t 6 = .int .i64 ((1 + z + i : Nat) : Int)) 8 ⟨0, by omega, rfl, by simp -implicitDefEqProofs (maxSteps := 2000000) only [wk, act, asV, ↓reduceIte, Nat.reduceEqDiff, reduceCtorEq, Nat.reduceAdd, Nat.reduceLeDiff, Nat.reduceSub, Nat.reduceMul, List.reduceReplicate, Int.reduceEq, Int.reduceLT, Int.reduceLE, Int.reduceAdd, Int.reduceSub, Int.reduceMul, Nat.reduceLT, Int.reduceToNat], by simp -implicitDefEqProofs (maxSteps := 2000000) only [wk, act, asV, ↓reduceIte, Nat.reduceEqDiff, reduceCtorEq, Nat.reduceAdd, Nat.reduceLeDiff, Nat.reduceSub, Nat.reduceMul, List.reduceReplicate, Int.reduceEq, Int.reduceLT, Int.reduceLE, Int.reduceAdd, Int.reduceSub, Int.reduceMul, Nat.reduceLT, Int.reduceToNat], ⟨_, by simp -implicitDefEqProofs (maxSteps := 2000000) only [wk, act, asV, ↓reduceIte, Nat.reduceEqDiff, reduceCtorEq, Nat.reduceAdd, Nat.reduceLeDiff, Nat.reduceSub, Nat.reduceMul, List.reduceReplicate, Int.reduceEq, Int.reduceLT, Int.reduceLE, Int.reduceAdd, Int.reduceSub, Int.reduceMul, Nat.reduceLT, Int.reduceToNat]; first | done | rfl, by simp -implicitDefEqProofs (maxSteps := 2000000) only [wk, act, asV, ↓reduceIte, Nat.reduceEqDiff, reduceCtorEq, Nat.reduceAdd, Nat.reduceLeDiff, Nat.reduceSub, Nat.reduceMul, List.reduceReplicate, Int.reduceEq, Int.reduceLT, Int.reduceLE, Int.reduceAdd, Int.reduceSub, Int.reduceMul, Nat.reduceLT, Int.reduceToNat]; first | done | rfl⟩, ?_, by simp -implicitDefEqProofs (maxSteps := 2000000) only [wk, act, asV, ↓reduceIte, Nat.reduceEqDiff, reduceCtorEq, Nat.reduceAdd, Nat.reduceLeDiff, Nat.reduceSub, Nat.reduceMul, List.reduceReplicate, Int.reduceEq, Int.reduceLT, Int.reduceLE, Int.reduceAdd, Int.reduceSub, Int.reduceMul, Nat.reduceLT, Int.reduceToNat]⟩ ?_
  · have : (m * 8) >>> (64 - 8 * 0) = 0 := by rw [Nat.shiftRight_eq_div_pow]; omega
    rw [this]; simp -implicitDefEqProofs (maxSteps := 2000000) only [wk, act, asV, ↓reduceIte, Nat.reduceEqDiff, reduceCtorEq, Nat.reduceAdd, Nat.reduceLeDiff, Nat.reduceSub, Nat.reduceMul, List.reduceReplicate, Int.reduceEq, Int.reduceLT, Int.reduceLE, Int.reduceAdd, Int.reduceSub, Int.reduceMul, Nat.reduceLT, Int.reduceToNat]
  rintro k s ⟨i, hi, rfl, g0, g3, ⟨v, g4, gh4⟩, g5, g6⟩
  by_cases hi8 : i < 8
  · have b1 : ((1 + z + i : Nat) : Int) < ((9 + z : Nat) : Int) := by omega
    have b2 : 1 + z + i + 1 ≤ 9 + z := by omega
    have b3 := hab (1 + z + i) (by omega)
    rw [hbe i hi8] at b3
    obtain ⟨st1, st2⟩ := be_step (x := m * 8) hi8 (by omega)
    obtain ⟨x, hx⟩ : ∃ x, x = (m * 8) >>> (64 - 8 * i) := ⟨_, rfl⟩
    obtain ⟨y, hy⟩ : ∃ y, y = u8 ((m * 8) >>> (56 - 8 * i)) := ⟨_, rfl⟩
    rw [← hx, ← hy] at st1
    rw [← hx] at st2 g5
    rw [← hy] at b3
    have sl : shI .shl .u64 (x : Int) 8 = some (.int .u64 ((x * 2 ^ 8 : Nat) : Int)) := shI_shl .u64 (x := x) (y := 8) (by decide) (by simpa [vbits, IntKind.signed, IntKind.bits] using st2)
    have wy : IntKind.u64.wrap ((y.toNat : Nat) : Int) = y.toNat := wrapN .u64 (by have := y.toNat_lt; simp [vbits, IntKind.signed, IntKind.bits]; omega)
    have hxl : (m * 8) >>> (64 - 8 * (i + 1)) ≤ m * 8 := by rw [Nat.shiftRight_eq_div_pow]; exact Nat.div_le_self _ _
    have wa : IntKind.u64.wrap (((x * 2 ^ 8 : Nat) : Int) + ((y.toNat : Nat) : Int)) = (((m * 8) >>> (64 - 8 * (i + 1)) : Nat) : Int) := by
      rw [show ((x * 2 ^ 8 : Nat) : Int) + ((y.toNat : Nat) : Int) = ((x * 2 ^ 8 + y.toNat : Nat) : Int) by omega, st1]
      exact wrapN .u64 (by simp only [vbits, IntKind.signed, IntKind.bits]; show _ < 2 ^ 64; omega)
    have wi : IntKind.i64.wrap (((1 + z + i : Nat) : Int) + 1) = ((1 + z + (i + 1) : Nat) : Int) := by rw [IntKind.wrap_i64]; omega
    simp -implicitDefEqProofs (maxSteps := 2000000) only [g0, g3, g4, gh4, g5, g6, b1, b2, b3, sl, wy, wa, wi, hlp, wk, act, asV, ↓reduceIte, Nat.reduceEqDiff, reduceCtorEq, Nat.reduceAdd, Nat.reduceLeDiff, Nat.reduceSub, Nat.reduceMul, List.reduceReplicate, Int.reduceEq, Int.reduceLT, Int.reduceLE, Int.reduceAdd, Int.reduceSub, Int.reduceMul, Nat.reduceLT, Int.reduceToNat]
    exact ⟨8 - (i + 1), by omega, i + 1, by omega, rfl, ⟨v, rfl, rfl⟩, rfl, rfl⟩
  · obtain rfl : i = 8 := by omega
    have b1 : ¬ ((1 + z + 8 : Nat) : Int) < ((9 + z : Nat) : Int) := by omega
    have hfin : (m * 8) >>> (64 - 8 * 8) = m * 8 := by simp
    rw [hfin] at g5
    simp -implicitDefEqProofs (maxSteps := 2000000) only [g0, g3, g4, gh4, g5, g6, b1, wk, act, asV, ↓reduceIte, Nat.reduceEqDiff, reduceCtorEq, Nat.reduceAdd, Nat.reduceLeDiff, Nat.reduceSub, Nat.reduceMul, List.reduceReplicate, Int.reduceEq, Int.reduceLT, Int.reduceLE, Int.reduceAdd, Int.reduceSub, Int.reduceMul, Nat.reduceLT, Int.reduceToNat]
    refine Wp_loop (fun k s => ∃ i, i ≤ z ∧ k = z - i ∧ s.t 0 = .int .u64 (n : Nat) ∧ s.t 3 = .int .u64 (m : Nat) ∧ (∃ v, s.t 4 = .row 11 0 (9 + z) 1 v ∧ s.h 11 = ⟨v, true, true, true, bl p⟩) ∧ s.t 5 = .int .u64 ((m * 8 : Nat) : Int) ∧ s.t 7 = .int .i64 ((1 + i : Nat) : Int)) z ⟨0, by omega, rfl, by simp -implicitDefEqProofs (maxSteps := 2000000) only [g0, wk, act, asV, ↓reduceIte, Nat.reduceEqDiff, reduceCtorEq, Nat.reduceAdd, Nat.reduceLeDiff, Nat.reduceSub, Nat.reduceMul, List.reduceReplicate, Int.reduceEq, Int.reduceLT, Int.reduceLE, Int.reduceAdd, Int.reduceSub, Int.reduceMul, Nat.reduceLT, Int.reduceToNat], by simp -implicitDefEqProofs (maxSteps := 2000000) only [g3, wk, act, asV, ↓reduceIte, Nat.reduceEqDiff, reduceCtorEq, Nat.reduceAdd, Nat.reduceLeDiff, Nat.reduceSub, Nat.reduceMul, List.reduceReplicate, Int.reduceEq, Int.reduceLT, Int.reduceLE, Int.reduceAdd, Int.reduceSub, Int.reduceMul, Nat.reduceLT, Int.reduceToNat], ⟨v, by simp -implicitDefEqProofs (maxSteps := 2000000) only [g4, wk, act, asV, ↓reduceIte, Nat.reduceEqDiff, reduceCtorEq, Nat.reduceAdd, Nat.reduceLeDiff, Nat.reduceSub, Nat.reduceMul, List.reduceReplicate, Int.reduceEq, Int.reduceLT, Int.reduceLE, Int.reduceAdd, Int.reduceSub, Int.reduceMul, Nat.reduceLT, Int.reduceToNat], by simp -implicitDefEqProofs (maxSteps := 2000000) only [gh4, wk, act, asV, ↓reduceIte, Nat.reduceEqDiff, reduceCtorEq, Nat.reduceAdd, Nat.reduceLeDiff, Nat.reduceSub, Nat.reduceMul, List.reduceReplicate, Int.reduceEq, Int.reduceLT, Int.reduceLE, Int.reduceAdd, Int.reduceSub, Int.reduceMul, Nat.reduceLT, Int.reduceToNat]⟩, by simp -implicitDefEqProofs (maxSteps := 2000000) only [g5, wk, act, asV, ↓reduceIte, Nat.reduceEqDiff, reduceCtorEq, Nat.reduceAdd, Nat.reduceLeDiff, Nat.reduceSub, Nat.reduceMul, List.reduceReplicate, Int.reduceEq, Int.reduceLT, Int.reduceLE, Int.reduceAdd, Int.reduceSub, Int.reduceMul, Nat.reduceLT, Int.reduceToNat], by simp -implicitDefEqProofs (maxSteps := 2000000) only [wk, act, asV, ↓reduceIte, Nat.reduceEqDiff, reduceCtorEq, Nat.reduceAdd, Nat.reduceLeDiff, Nat.reduceSub, Nat.reduceMul, List.reduceReplicate, Int.reduceEq, Int.reduceLT, Int.reduceLE, Int.reduceAdd, Int.reduceSub, Int.reduceMul, Nat.reduceLT, Int.reduceToNat]⟩ ?_
    clear g0 g3 g4 gh4 g5 g6 b1
    rintro k s ⟨i, hi, rfl, g0, g3, ⟨v, g4, gh4⟩, g5, g7⟩
    by_cases hiz : i < z
    · have b1 : ((1 + i : Nat) : Int) < ((1 + z : Nat) : Int) := by omega
      have b2 : 1 + i + 1 ≤ 9 + z := by omega
      have b5 : ((1 + i : Nat) : Int) < ((9 + z : Nat) : Int) := by omega
      have b3 := hab (1 + i) (by omega)
      rw [hzz (1 + i) (by omega) (by omega)] at b3
      have b4 : ((UInt8.toNat 0 : Nat) : Int) = 0 := rfl
      rw [b4] at b3
      have wi : IntKind.i64.wrap (((1 + i : Nat) : Int) + 1) = ((1 + (i + 1) : Nat) : Int) := by rw [IntKind.wrap_i64]; omega
      simp -implicitDefEqProofs (maxSteps := 2000000) only [g0, g3, g4, gh4, g5, g7, b1, b2, b3, b5, e5, wi, hlp, wk, act, asV, ↓reduceIte, Nat.reduceEqDiff, reduceCtorEq, Nat.reduceAdd, Nat.reduceLeDiff, Nat.reduceSub, Nat.reduceMul, List.reduceReplicate, Int.reduceEq, Int.reduceLT, Int.reduceLE, Int.reduceAdd, Int.reduceSub, Int.reduceMul, Nat.reduceLT, Int.reduceToNat]
      exact ⟨z - (i + 1), by omega, i + 1, by omega, rfl, ⟨v, rfl, rfl⟩, rfl⟩
    · obtain rfl : i = z := by omega
      have b1 : ¬ ((1 + i : Nat) : Int) < ((1 + i : Nat) : Int) := by omega
      have w8 : IntKind.u64.wrap (8 * (m : Int)) = ((m * 8 : Nat) : Int) := by
        rw [show 8 * (m : Int) = ((m * 8 : Nat) : Int) by omega]
        exact wrapN .u64 (by simp only [vbits, IntKind.signed, IntKind.bits]; show _ < 2 ^ 64; omega)
      repeat' (first | simp -implicitDefEqProofs (maxSteps := 2000000) only [g0, g3, g4, gh4, g5, g7, b1, e5, w8, tp, hlp, bl_scal, bl_pur, wk, act, asV, ↓reduceIte, Nat.reduceEqDiff, reduceCtorEq, Nat.reduceAdd, Nat.reduceLeDiff, Nat.reduceSub, Nat.reduceMul, List.reduceReplicate, Int.reduceEq, Int.reduceLT, Int.reduceLE, Int.reduceAdd, Int.reduceSub, Int.reduceMul, Nat.reduceLT, Int.reduceToNat] | ((with_reducible refine CallL.gate ?_); refine CallL.of (by simp -implicitDefEqProofs (maxSteps := 2000000) only [g0, g3, g4, gh4, g5, g7, b1, e5, w8, tp, hlp, bl_scal, bl_pur, wk, act, asV, ↓reduceIte, Nat.reduceEqDiff, reduceCtorEq, Nat.reduceAdd, Nat.reduceLeDiff, Nat.reduceSub, Nat.reduceMul, List.reduceReplicate, Int.reduceEq, Int.reduceLT, Int.reduceLE, Int.reduceAdd, Int.reduceSub, Int.reduceMul, Nat.reduceLT, Int.reduceToNat]; first | done | (with_reducible rfl)) (by first | exact c2 | exact c3 | exact wakesH_ok) (by simp -implicitDefEqProofs (maxSteps := 2000000) only [g0, g3, g4, gh4, g5, g7, b1, e5, w8, tp, hlp, bl_scal, bl_pur, wk, act, asV, ↓reduceIte, Nat.reduceEqDiff, reduceCtorEq, Nat.reduceAdd, Nat.reduceLeDiff, Nat.reduceSub, Nat.reduceMul, List.reduceReplicate, Int.reduceEq, Int.reduceLT, Int.reduceLE, Int.reduceAdd, Int.reduceSub, Int.reduceMul, Nat.reduceLT, Int.reduceToNat]) ?_) | ((with_reducible refine CallP.gate ?_); refine CallP.of (by simp -implicitDefEqProofs (maxSteps := 2000000) only [g0, g3, g4, gh4, g5, g7, b1, e5, w8, tp, hlp, bl_scal, bl_pur, wk, act, asV, ↓reduceIte, Nat.reduceEqDiff, reduceCtorEq, Nat.reduceAdd, Nat.reduceLeDiff, Nat.reduceSub, Nat.reduceMul, List.reduceReplicate, Int.reduceEq, Int.reduceLT, Int.reduceLE, Int.reduceAdd, Int.reduceSub, Int.reduceMul, Nat.reduceLT, Int.reduceToNat]; first | done | (with_reducible rfl)) (by first | exact c2 | exact c3 | exact wakesH_ok) (by simp -implicitDefEqProofs (maxSteps := 2000000) only [g0, g3, g4, gh4, g5, g7, b1, e5, w8, tp, hlp, bl_scal, bl_pur, wk, act, asV, ↓reduceIte, Nat.reduceEqDiff, reduceCtorEq, Nat.reduceAdd, Nat.reduceLeDiff, Nat.reduceSub, Nat.reduceMul, List.reduceReplicate, Int.reduceEq, Int.reduceLT, Int.reduceLE, Int.reduceAdd, Int.reduceSub, Int.reduceMul, Nat.reduceLT, Int.reduceToNat]) ?_))
end Go.Proofs.Ytlbilkldjhhopaa
