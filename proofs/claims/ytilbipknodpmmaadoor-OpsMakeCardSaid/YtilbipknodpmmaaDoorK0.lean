/- Of the table: the program's Decode. -/
import Derived.Test.YtilbipknodpmmaaDoorE31
import Derived.Test.YtilbipknodpmmaaDoorM6
import Derived.Test.YtilbipknodpmmaaDoorD2
set_option linter.unusedVariables false
set_option linter.unusedSimpArgs false
set_option maxRecDepth 100000
set_option maxHeartbeats 8000000
namespace Go.Proofs.YtilbipknodpmmaaDoor
open Go.RowKit

theorem decTab_ok (b : List UInt8) (hb : b.length = 32) : RC Tryd.prog 28 [.agg (bl b)] [ownV (decV b), .int .i64 (decVE b)] := by
  refine RC.of_wp c28 rfl ?_
  have hbl : (bl b).length = 32 := by rw [bl_length, hb]
  have hat := at_bl (b := b) (k := 0) (by omega)
  rw [List.drop_zero] at hat
  obtain ⟨n, hn⟩ : ∃ n, n = (b.getD 0 0).toNat := ⟨_, rfl⟩
  have hn255 : n < 256 := by rw [hn]; exact UInt8.toNat_lt _
  rw [← hn] at hat
  have hwn : IntKind.i64.wrap (n : Int) = n := by rw [IntKind.wrap_i64]; omega
  have ev : saidV b = volsTo b n := by rw [hn]; rfl
  have ownN : ownV [] = .sl .full 0 [] := rfl
  by_cases h3 : 3 < n
  · have h3' : (3 : Int) < n := by omega
    have hno : isB b = false := isB_no (fun h => by have := h.1; omega)
    rw [(decV_no hno).1, (decV_no hno).2, ownN]
    simp -implicitDefEqProofs (maxSteps := 2000000) only [m28_1, m28_2, m28_3, m28_4, m28_5, m28_6, m28_7, m28_8, m28_9, m28_10, m28_11, m28_12, m28_13, m28_14, m28_15, m28_16, m28_17, m28_18, m28_19, m28_20, m28_21, m28_22, m28_23, m28_24, m28_25, m28_26, m28_27, m28_28, m28_29, m28_30, m28_r, m28_b, m28, hbl, hat, h3', wk, act, asV, ↓reduceIte, Nat.reduceEqDiff, reduceCtorEq, Nat.reduceAdd, Nat.reduceLeDiff, Nat.reduceSub, Nat.reduceMul, List.reduceReplicate, Int.reduceEq, Int.reduceLT, Int.reduceLE, Int.reduceAdd, Int.reduceSub, Int.reduceMul, Nat.reduceLT, Int.reduceToNat]
  have h3' : ¬ (3 : Int) < n := by omega
  simp -implicitDefEqProofs (maxSteps := 2000000) only [m28_1, m28_2, m28_3, m28_4, m28_5, m28_6, m28_7, m28_8, m28_9, m28_10, m28_11, m28_12, m28_13, m28_14, m28_15, m28_16, m28_17, m28_18, m28_19, m28_20, m28_21, m28_22, m28_23, m28_24, m28_25, m28_26, m28_27, m28_28, m28_29, m28_30, m28_r, m28_b, m28, hbl, hat, h3', hwn, wk, act, asV, ↓reduceIte, Nat.reduceEqDiff, reduceCtorEq, Nat.reduceAdd, Nat.reduceLeDiff, Nat.reduceSub, Nat.reduceMul, List.reduceReplicate, Int.reduceEq, Int.reduceLT, Int.reduceLE, Int.reduceAdd, Int.reduceSub, Int.reduceMul, Nat.reduceLT, Int.reduceToNat]
  refine Wp_loop (fun k s => ∃ i, i ≤ n ∧ k = n - i ∧ s.t 1 = .ptr 1 0 _ ∧ s.h 1 = ⟨_, true, true, false, bl b⟩ ∧ s.t 20 = .int .i64 n ∧ s.t 21 = .int .i64 i ∧ ((i = 0 ∧ s.t 4 = .sl .full 0 []) ∨ (0 < i ∧ ∃ w, s.t 4 = .row 72 0 i 2 w ∧ s.h 72 = ⟨w, true, true, true, vl (volsTo b i)⟩))) n ⟨0, by omega, rfl, rfl, rfl, rfl, rfl, .inl ⟨rfl, rfl⟩⟩ ?_
  rintro k s ⟨i, hi, rfl, k1, kh1, k20, k21, k4⟩
  by_cases hlt : i < n
  · refine decT_step b hb (by omega) hn hlt (fun hno s2 p2 p3 => ?_) k1 kh1 k20 k21 k4
    rw [(decV_no hno).1, (decV_no hno).2, ownN]
    simp -implicitDefEqProofs (maxSteps := 2000000) only [p2, p3, wk, act, asV, ↓reduceIte, Nat.reduceEqDiff, reduceCtorEq, Nat.reduceAdd, Nat.reduceLeDiff, Nat.reduceSub, Nat.reduceMul, List.reduceReplicate, Int.reduceEq, Int.reduceLT, Int.reduceLE, Int.reduceAdd, Int.reduceSub, Int.reduceMul, Nat.reduceLT, Int.reduceToNat]
  · have hie : i = n := by omega
    have hlt' : ¬ (i : Int) < n := by omega
    have ce := encT_ok .plain (by decide) (volsTo b n) (volsTo_ok b hn255)
    have cz := encT_ok .full (by decide) [] (volsTo_ok b (n := 0) (by decide))
    have hl := volsTo_length b n
    rw [hl] at ce
    have tk : List.take (n * 2) (vl (volsTo b n)) = vl (volsTo b n) := by have := take_vl (volsTo b n); rwa [hl] at this
    have t32 : List.take 32 (bl b) = bl b := List.take_of_length_le (by omega)
    have d32 : List.drop 32 (bl b) = [] := List.drop_of_length_le (by omega)
    have tl := tabR_length (volsTo b n)
    have tbl : (bl (tabR (volsTo b n))).length = 32 := by rw [bl_length, tl]
    have tt32 : List.take 32 (bl (tabR (volsTo b n))) = bl (tabR (volsTo b n)) := List.take_of_length_le (by omega)
    have td32 : List.drop 32 (bl (tabR (volsTo b n))) = [] := List.drop_of_length_le (by omega)
    have hq := eqL_bl (tabR (volsTo b n)) b (by omega)
    have hf1 := fitR_bl hb
    have hf2 := fitR_bl tl
    have hne : 0 < n → volsTo b n ≠ [] := fun h e => by rw [e] at hl; simp at hl; omega
    have out : ∀ x, isB b = x → (x = true → decV b = volsTo b n ∧ decVE b = 0) ∧ (x = false → decV b = [] ∧ decVE b = 11) := by
      intro x hx
      constructor
      · rintro rfl; rw [(decV_yes hx).1, (decV_yes hx).2, ev]; exact ⟨rfl, rfl⟩
      · rintro rfl; exact decV_no hx
    rcases k4 with ⟨hi0, k4⟩ | ⟨hi0, w, k4, kh⟩
    · have hn0 : n = 0 := by omega
      subst hn0
      have hlt' : ¬ (i : Int) < 0 := by omega
      have e0 : volsTo b 0 = [] := rfl
      rw [e0] at tbl tt32 td32 hq hf2 ev
      have g0 : goodV [] = true := by decide
      have eT : tabR [] = tabB [] := if_pos g0
      have eE : tabE [] = 0 := if_pos g0
      rw [eE] at cz
      by_cases hr : tabR [] = b
      · have hib : isB b = true := isB_of (by omega) (by rw [ev]; exact g0) (by rw [ev, ← eT]; exact hr)
        rw [((out _ hib).1 rfl).1, ((out _ hib).1 rfl).2, e0, ownN]
        rw [decide_eq_true hr] at hq
        repeat' (first | simp -implicitDefEqProofs (maxSteps := 2000000) only [m28_1, m28_2, m28_3, m28_4, m28_5, m28_6, m28_7, m28_8, m28_9, m28_10, m28_11, m28_12, m28_13, m28_14, m28_15, m28_16, m28_17, m28_18, m28_19, m28_20, m28_21, m28_22, m28_23, m28_24, m28_25, m28_26, m28_27, m28_28, m28_29, m28_30, m28_r, m28_b, m28, k1, kh1, k20, k21, k4, hlt', hbl, tbl, tt32, td32, t32, d32, hq, hf1, hf2, bl_scal, wk, act, asV, ↓reduceIte, Nat.reduceEqDiff, reduceCtorEq, Nat.reduceAdd, Nat.reduceLeDiff, Nat.reduceSub, Nat.reduceMul, List.reduceReplicate, Int.reduceEq, Int.reduceLT, Int.reduceLE, Int.reduceAdd, Int.reduceSub, Int.reduceMul, Nat.reduceLT, Int.reduceToNat] | ((first | ((with_reducible refine CallL.gate ?_); apply CallL.of) | ((with_reducible refine CallP.gate ?_); apply CallP.of)); (case h1 => (simp -implicitDefEqProofs (maxSteps := 2000000) only [m28_1, m28_2, m28_3, m28_4, m28_5, m28_6, m28_7, m28_8, m28_9, m28_10, m28_11, m28_12, m28_13, m28_14, m28_15, m28_16, m28_17, m28_18, m28_19, m28_20, m28_21, m28_22, m28_23, m28_24, m28_25, m28_26, m28_27, m28_28, m28_29, m28_30, m28_r, m28_b, m28, k1, kh1, k20, k21, k4, hlt', hbl, tbl, tt32, td32, t32, d32, hq, hf1, hf2, bl_scal, wk, act, asV, ↓reduceIte, Nat.reduceEqDiff, reduceCtorEq, Nat.reduceAdd, Nat.reduceLeDiff, Nat.reduceSub, Nat.reduceMul, List.reduceReplicate, Int.reduceEq, Int.reduceLT, Int.reduceLE, Int.reduceAdd, Int.reduceSub, Int.reduceMul, Nat.reduceLT, Int.reduceToNat]; first | done | (with_reducible rfl))); (case h2 => (first | exact cz)); (case h3 => simp -implicitDefEqProofs (maxSteps := 2000000) only [m28_1, m28_2, m28_3, m28_4, m28_5, m28_6, m28_7, m28_8, m28_9, m28_10, m28_11, m28_12, m28_13, m28_14, m28_15, m28_16, m28_17, m28_18, m28_19, m28_20, m28_21, m28_22, m28_23, m28_24, m28_25, m28_26, m28_27, m28_28, m28_29, m28_30, m28_r, m28_b, m28, k1, kh1, k20, k21, k4, hlt', hbl, tbl, tt32, td32, t32, d32, hq, hf1, hf2, bl_scal, wk, act, asV, ↓reduceIte, Nat.reduceEqDiff, reduceCtorEq, Nat.reduceAdd, Nat.reduceLeDiff, Nat.reduceSub, Nat.reduceMul, List.reduceReplicate, Int.reduceEq, Int.reduceLT, Int.reduceLE, Int.reduceAdd, Int.reduceSub, Int.reduceMul, Nat.reduceLT, Int.reduceToNat])))
      · have hib : isB b = false := isB_no (fun h => hr (by have := h.2.2; rw [ev] at this; rw [eT]; exact this))
        rw [((out _ hib).2 rfl).1, ((out _ hib).2 rfl).2, ownN]
        rw [decide_eq_false hr] at hq
        repeat' (first | simp -implicitDefEqProofs (maxSteps := 2000000) only [m28_1, m28_2, m28_3, m28_4, m28_5, m28_6, m28_7, m28_8, m28_9, m28_10, m28_11, m28_12, m28_13, m28_14, m28_15, m28_16, m28_17, m28_18, m28_19, m28_20, m28_21, m28_22, m28_23, m28_24, m28_25, m28_26, m28_27, m28_28, m28_29, m28_30, m28_r, m28_b, m28, k1, kh1, k20, k21, k4, hlt', hbl, tbl, tt32, td32, t32, d32, hq, hf1, hf2, bl_scal, wk, act, asV, ↓reduceIte, Nat.reduceEqDiff, reduceCtorEq, Nat.reduceAdd, Nat.reduceLeDiff, Nat.reduceSub, Nat.reduceMul, List.reduceReplicate, Int.reduceEq, Int.reduceLT, Int.reduceLE, Int.reduceAdd, Int.reduceSub, Int.reduceMul, Nat.reduceLT, Int.reduceToNat] | ((first | ((with_reducible refine CallL.gate ?_); apply CallL.of) | ((with_reducible refine CallP.gate ?_); apply CallP.of)); (case h1 => (simp -implicitDefEqProofs (maxSteps := 2000000) only [m28_1, m28_2, m28_3, m28_4, m28_5, m28_6, m28_7, m28_8, m28_9, m28_10, m28_11, m28_12, m28_13, m28_14, m28_15, m28_16, m28_17, m28_18, m28_19, m28_20, m28_21, m28_22, m28_23, m28_24, m28_25, m28_26, m28_27, m28_28, m28_29, m28_30, m28_r, m28_b, m28, k1, kh1, k20, k21, k4, hlt', hbl, tbl, tt32, td32, t32, d32, hq, hf1, hf2, bl_scal, wk, act, asV, ↓reduceIte, Nat.reduceEqDiff, reduceCtorEq, Nat.reduceAdd, Nat.reduceLeDiff, Nat.reduceSub, Nat.reduceMul, List.reduceReplicate, Int.reduceEq, Int.reduceLT, Int.reduceLE, Int.reduceAdd, Int.reduceSub, Int.reduceMul, Nat.reduceLT, Int.reduceToNat]; first | done | (with_reducible rfl))); (case h2 => (first | exact cz)); (case h3 => simp -implicitDefEqProofs (maxSteps := 2000000) only [m28_1, m28_2, m28_3, m28_4, m28_5, m28_6, m28_7, m28_8, m28_9, m28_10, m28_11, m28_12, m28_13, m28_14, m28_15, m28_16, m28_17, m28_18, m28_19, m28_20, m28_21, m28_22, m28_23, m28_24, m28_25, m28_26, m28_27, m28_28, m28_29, m28_30, m28_r, m28_b, m28, k1, kh1, k20, k21, k4, hlt', hbl, tbl, tt32, td32, t32, d32, hq, hf1, hf2, bl_scal, wk, act, asV, ↓reduceIte, Nat.reduceEqDiff, reduceCtorEq, Nat.reduceAdd, Nat.reduceLeDiff, Nat.reduceSub, Nat.reduceMul, List.reduceReplicate, Int.reduceEq, Int.reduceLT, Int.reduceLE, Int.reduceAdd, Int.reduceSub, Int.reduceMul, Nat.reduceLT, Int.reduceToNat])))
    · subst hie
      have hvn := hne hi0
      have hpr : ownV (volsTo b i) = .own i 2 (vl (volsTo b i)) := by unfold ownV; rw [if_neg hvn, hl]
      by_cases hg : goodV (volsTo b i) = true
      · have eE : tabE (volsTo b i) = 0 := if_pos hg
        have eT : tabR (volsTo b i) = tabB (volsTo b i) := if_pos hg
        rw [eE] at ce
        by_cases hr : tabR (volsTo b i) = b
        · have hib : isB b = true := isB_of (by omega) (by rw [ev]; exact hg) (by rw [ev, ← eT]; exact hr)
          rw [((out _ hib).1 rfl).1, ((out _ hib).1 rfl).2, hpr]
          rw [decide_eq_true hr] at hq
          repeat' (first | simp -implicitDefEqProofs (maxSteps := 2000000) only [m28_1, m28_2, m28_3, m28_4, m28_5, m28_6, m28_7, m28_8, m28_9, m28_10, m28_11, m28_12, m28_13, m28_14, m28_15, m28_16, m28_17, m28_18, m28_19, m28_20, m28_21, m28_22, m28_23, m28_24, m28_25, m28_26, m28_27, m28_28, m28_29, m28_30, m28_r, m28_b, m28, k1, kh1, k20, k21, k4, kh, tk, hlt', hbl, tbl, tt32, td32, t32, d32, hq, hf1, hf2, bl_scal, wk, act, asV, ↓reduceIte, Nat.reduceEqDiff, reduceCtorEq, Nat.reduceAdd, Nat.reduceLeDiff, Nat.reduceSub, Nat.reduceMul, List.reduceReplicate, Int.reduceEq, Int.reduceLT, Int.reduceLE, Int.reduceAdd, Int.reduceSub, Int.reduceMul, Nat.reduceLT, Int.reduceToNat] | ((first | ((with_reducible refine CallL.gate ?_); apply CallL.of) | ((with_reducible refine CallP.gate ?_); apply CallP.of)); (case h1 => (simp -implicitDefEqProofs (maxSteps := 2000000) only [m28_1, m28_2, m28_3, m28_4, m28_5, m28_6, m28_7, m28_8, m28_9, m28_10, m28_11, m28_12, m28_13, m28_14, m28_15, m28_16, m28_17, m28_18, m28_19, m28_20, m28_21, m28_22, m28_23, m28_24, m28_25, m28_26, m28_27, m28_28, m28_29, m28_30, m28_r, m28_b, m28, k1, kh1, k20, k21, k4, kh, tk, hlt', hbl, tbl, tt32, td32, t32, d32, hq, hf1, hf2, bl_scal, wk, act, asV, ↓reduceIte, Nat.reduceEqDiff, reduceCtorEq, Nat.reduceAdd, Nat.reduceLeDiff, Nat.reduceSub, Nat.reduceMul, List.reduceReplicate, Int.reduceEq, Int.reduceLT, Int.reduceLE, Int.reduceAdd, Int.reduceSub, Int.reduceMul, Nat.reduceLT, Int.reduceToNat]; first | done | (with_reducible rfl))); (case h2 => (first | exact ce)); (case h3 => simp -implicitDefEqProofs (maxSteps := 2000000) only [m28_1, m28_2, m28_3, m28_4, m28_5, m28_6, m28_7, m28_8, m28_9, m28_10, m28_11, m28_12, m28_13, m28_14, m28_15, m28_16, m28_17, m28_18, m28_19, m28_20, m28_21, m28_22, m28_23, m28_24, m28_25, m28_26, m28_27, m28_28, m28_29, m28_30, m28_r, m28_b, m28, k1, kh1, k20, k21, k4, kh, tk, hlt', hbl, tbl, tt32, td32, t32, d32, hq, hf1, hf2, bl_scal, wk, act, asV, ↓reduceIte, Nat.reduceEqDiff, reduceCtorEq, Nat.reduceAdd, Nat.reduceLeDiff, Nat.reduceSub, Nat.reduceMul, List.reduceReplicate, Int.reduceEq, Int.reduceLT, Int.reduceLE, Int.reduceAdd, Int.reduceSub, Int.reduceMul, Nat.reduceLT, Int.reduceToNat])))
        · have hib : isB b = false := isB_no (fun h => hr (by have := h.2.2; rw [ev] at this; rw [eT]; exact this))
          rw [((out _ hib).2 rfl).1, ((out _ hib).2 rfl).2, ownN]
          rw [decide_eq_false hr] at hq
          repeat' (first | simp -implicitDefEqProofs (maxSteps := 2000000) only [m28_1, m28_2, m28_3, m28_4, m28_5, m28_6, m28_7, m28_8, m28_9, m28_10, m28_11, m28_12, m28_13, m28_14, m28_15, m28_16, m28_17, m28_18, m28_19, m28_20, m28_21, m28_22, m28_23, m28_24, m28_25, m28_26, m28_27, m28_28, m28_29, m28_30, m28_r, m28_b, m28, k1, kh1, k20, k21, k4, kh, tk, hlt', hbl, tbl, tt32, td32, t32, d32, hq, hf1, hf2, bl_scal, wk, act, asV, ↓reduceIte, Nat.reduceEqDiff, reduceCtorEq, Nat.reduceAdd, Nat.reduceLeDiff, Nat.reduceSub, Nat.reduceMul, List.reduceReplicate, Int.reduceEq, Int.reduceLT, Int.reduceLE, Int.reduceAdd, Int.reduceSub, Int.reduceMul, Nat.reduceLT, Int.reduceToNat] | ((first | ((with_reducible refine CallL.gate ?_); apply CallL.of) | ((with_reducible refine CallP.gate ?_); apply CallP.of)); (case h1 => (simp -implicitDefEqProofs (maxSteps := 2000000) only [m28_1, m28_2, m28_3, m28_4, m28_5, m28_6, m28_7, m28_8, m28_9, m28_10, m28_11, m28_12, m28_13, m28_14, m28_15, m28_16, m28_17, m28_18, m28_19, m28_20, m28_21, m28_22, m28_23, m28_24, m28_25, m28_26, m28_27, m28_28, m28_29, m28_30, m28_r, m28_b, m28, k1, kh1, k20, k21, k4, kh, tk, hlt', hbl, tbl, tt32, td32, t32, d32, hq, hf1, hf2, bl_scal, wk, act, asV, ↓reduceIte, Nat.reduceEqDiff, reduceCtorEq, Nat.reduceAdd, Nat.reduceLeDiff, Nat.reduceSub, Nat.reduceMul, List.reduceReplicate, Int.reduceEq, Int.reduceLT, Int.reduceLE, Int.reduceAdd, Int.reduceSub, Int.reduceMul, Nat.reduceLT, Int.reduceToNat]; first | done | (with_reducible rfl))); (case h2 => (first | exact ce)); (case h3 => simp -implicitDefEqProofs (maxSteps := 2000000) only [m28_1, m28_2, m28_3, m28_4, m28_5, m28_6, m28_7, m28_8, m28_9, m28_10, m28_11, m28_12, m28_13, m28_14, m28_15, m28_16, m28_17, m28_18, m28_19, m28_20, m28_21, m28_22, m28_23, m28_24, m28_25, m28_26, m28_27, m28_28, m28_29, m28_30, m28_r, m28_b, m28, k1, kh1, k20, k21, k4, kh, tk, hlt', hbl, tbl, tt32, td32, t32, d32, hq, hf1, hf2, bl_scal, wk, act, asV, ↓reduceIte, Nat.reduceEqDiff, reduceCtorEq, Nat.reduceAdd, Nat.reduceLeDiff, Nat.reduceSub, Nat.reduceMul, List.reduceReplicate, Int.reduceEq, Int.reduceLT, Int.reduceLE, Int.reduceAdd, Int.reduceSub, Int.reduceMul, Nat.reduceLT, Int.reduceToNat])))
      · have eE : tabE (volsTo b i) = 11 := if_neg hg
        rw [eE] at ce
        have hib : isB b = false := isB_no (fun h => hg (by rw [← ev]; exact h.2.1))
        rw [((out _ hib).2 rfl).1, ((out _ hib).2 rfl).2, ownN]
        repeat' (first | simp -implicitDefEqProofs (maxSteps := 2000000) only [m28_1, m28_2, m28_3, m28_4, m28_5, m28_6, m28_7, m28_8, m28_9, m28_10, m28_11, m28_12, m28_13, m28_14, m28_15, m28_16, m28_17, m28_18, m28_19, m28_20, m28_21, m28_22, m28_23, m28_24, m28_25, m28_26, m28_27, m28_28, m28_29, m28_30, m28_r, m28_b, m28, k1, kh1, k20, k21, k4, kh, tk, hlt', hbl, tbl, tt32, td32, t32, d32, hf1, hf2, bl_scal, wk, act, asV, ↓reduceIte, Nat.reduceEqDiff, reduceCtorEq, Nat.reduceAdd, Nat.reduceLeDiff, Nat.reduceSub, Nat.reduceMul, List.reduceReplicate, Int.reduceEq, Int.reduceLT, Int.reduceLE, Int.reduceAdd, Int.reduceSub, Int.reduceMul, Nat.reduceLT, Int.reduceToNat] | ((first | ((with_reducible refine CallL.gate ?_); apply CallL.of) | ((with_reducible refine CallP.gate ?_); apply CallP.of)); (case h1 => (simp -implicitDefEqProofs (maxSteps := 2000000) only [m28_1, m28_2, m28_3, m28_4, m28_5, m28_6, m28_7, m28_8, m28_9, m28_10, m28_11, m28_12, m28_13, m28_14, m28_15, m28_16, m28_17, m28_18, m28_19, m28_20, m28_21, m28_22, m28_23, m28_24, m28_25, m28_26, m28_27, m28_28, m28_29, m28_30, m28_r, m28_b, m28, k1, kh1, k20, k21, k4, kh, tk, hlt', hbl, tbl, tt32, td32, t32, d32, hf1, hf2, bl_scal, wk, act, asV, ↓reduceIte, Nat.reduceEqDiff, reduceCtorEq, Nat.reduceAdd, Nat.reduceLeDiff, Nat.reduceSub, Nat.reduceMul, List.reduceReplicate, Int.reduceEq, Int.reduceLT, Int.reduceLE, Int.reduceAdd, Int.reduceSub, Int.reduceMul, Nat.reduceLT, Int.reduceToNat]; first | done | (with_reducible rfl))); (case h2 => (first | exact ce)); (case h3 => simp -implicitDefEqProofs (maxSteps := 2000000) only [m28_1, m28_2, m28_3, m28_4, m28_5, m28_6, m28_7, m28_8, m28_9, m28_10, m28_11, m28_12, m28_13, m28_14, m28_15, m28_16, m28_17, m28_18, m28_19, m28_20, m28_21, m28_22, m28_23, m28_24, m28_25, m28_26, m28_27, m28_28, m28_29, m28_30, m28_r, m28_b, m28, k1, kh1, k20, k21, k4, kh, tk, hlt', hbl, tbl, tt32, td32, t32, d32, hf1, hf2, bl_scal, wk, act, asV, ↓reduceIte, Nat.reduceEqDiff, reduceCtorEq, Nat.reduceAdd, Nat.reduceLeDiff, Nat.reduceSub, Nat.reduceMul, List.reduceReplicate, Int.reduceEq, Int.reduceLT, Int.reduceLE, Int.reduceAdd, Int.reduceSub, Int.reduceMul, Nat.reduceLT, Int.reduceToNat])))
end Go.Proofs.YtilbipknodpmmaaDoor
/- Parts of bytes. -/
set_option linter.unusedVariables false
set_option linter.unusedSimpArgs false
set_option maxRecDepth 100000
set_option maxHeartbeats 2000000
namespace Go.Proofs.YtilbipknodpmmaaDoor
open Go.RowKit

end Go.Proofs.YtilbipknodpmmaaDoor
