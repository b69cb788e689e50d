/- Of the table: the program's Decode. -/
import Derived.Test.YtilbipknodpmmaaDoorE31
import Derived.Test.YtilbipknodpmmaaDoorV0
import Derived.Test.YtilbipknodpmmaaDoorD2
import Derived.Test.YtilbipknodpmmaaDoorB3
import Derived.Test.YtilbipknodpmmaaDoorB9
import Derived.Test.YtilbipknodpmmaaDoorD1
import Derived.Test.YtilbipknodpmmaaDoorProg
import Derived.Test.YtilbipknodpmmaaDoorB1
set_option linter.unusedVariables false
set_option linter.unusedSimpArgs false
set_option maxRecDepth 100000
set_option maxHeartbeats 8000000
namespace Go.Proofs.YtilbipknodpmmaaDoor
open Go.RowKit

theorem decTab_ok (b : List UInt8) (hb : b.length = 32) : RC Tryd.prog 28 [.agg (bl b)] [ownV (decV b), .int .i64 (decVE b)] := by
  refine RC.of_wp c28 rfl ?_
  have hbl : (bl b).length = 32 := by rw [bl_length, hb]
  have hat := at_bl (b := b) (k := 0) (by omega)
  rw [List.drop_zero] at hat
  obtain ⟨n, hn⟩ : ∃ n, n = (b.getD 0 0).toNat := ⟨_, rfl⟩
  have hn255 : n < 256 := by rw [hn]; exact UInt8.toNat_lt _
  rw [← hn] at hat
  have hwn : IntKind.i64.wrap (n : Int) = n := by rw [IntKind.wrap_i64]; omega
  have ev : saidV b = volsTo b n := by rw [hn]; rfl
  have ownN : ownV [] = .sl .full 0 [] := rfl
  by_cases h3 : 3 < n
  · have h3' : (3 : Int) < n := by omega
    have hno : isB b = false := isB_no (fun h => by have := h.1; omega)
    rw [(decV_no hno).1, (decV_no hno).2, ownN]
    simp -implicitDefEqProofs (maxSteps := 2000000) only [m28_1, m28_2, m28_3, m28_4, m28_5, m28_6, m28_7, m28_8, m28_9, m28_10, m28_11, m28_12, m28_13, m28_14, m28_15, m28_16, m28_17, m28_18, m28_19, m28_20, m28_21, m28_22, m28_23, m28_24, m28_25, m28_26, m28_27, m28_28, m28_29, m28_30, m28_r, m28_b, m28, hbl, hat, h3', wk, act, asV, ↓reduceIte, Nat.reduceEqDiff, reduceCtorEq, Nat.reduceAdd, Nat.reduceLeDiff, Nat.reduceSub, Nat.reduceMul, List.reduceReplicate, Int.reduceEq, Int.reduceLT, Int.reduceLE, Int.reduceAdd, Int.reduceSub, Int.reduceMul, Nat.reduceLT, Int.reduceToNat]
  have h3' : ¬ (3 : Int) < n := by omega
  simp -implicitDefEqProofs (maxSteps := 2000000) only [m28_1, m28_2, m28_3, m28_4, m28_5, m28_6, m28_7, m28_8, m28_9, m28_10, m28_11, m28_12, m28_13, m28_14, m28_15, m28_16, m28_17, m28_18, m28_19, m28_20, m28_21, m28_22, m28_23, m28_24, m28_25, m28_26, m28_27, m28_28, m28_29, m28_30, m28_r, m28_b, m28, hbl, hat, h3', hwn, wk, act, asV, ↓reduceIte, Nat.reduceEqDiff, reduceCtorEq, Nat.reduceAdd, Nat.reduceLeDiff, Nat.reduceSub, Nat.reduceMul, List.reduceReplicate, Int.reduceEq, Int.reduceLT, Int.reduceLE, Int.reduceAdd, Int.reduceSub, Int.reduceMul, Nat.reduceLT, Int.reduceToNat]
  refine Wp_loop (fun k s => ∃ i, i ≤ n ∧ k = n - i ∧ s.t 1 = .ptr 1 0 _ ∧ s.h 1 = ⟨_, true, true, false, bl b⟩ ∧ s.t 20 = .int .i64 n ∧ s.t 21 = .int .i64 i ∧ ((i = 0 ∧ s.t 4 = .sl .full 0 []) ∨ (0 < i ∧ ∃ w, s.t 4 = .row 72 0 i 2 w ∧ s.h 72 = ⟨w, true, true, true, vl (volsTo b i)⟩))) n ⟨0, by omega, rfl, rfl, rfl, rfl, rfl, .inl ⟨rfl, rfl⟩⟩ ?_
  rintro k s ⟨i, hi, rfl, k1, kh1, k20, k21, k4⟩
  by_cases hlt : i < n
  · refine decT_step b hb (by omega) hn hlt (fun hno s2 p2 p3 => ?_) k1 kh1 k20 k21 k4
    rw [(decV_no hno).1, (decV_no hno).2, ownN]
    simp -implicitDefEqProofs (maxSteps := 2000000) only [p2, p3, wk, act, asV, ↓reduceIte, Nat.reduceEqDiff, reduceCtorEq, Nat.reduceAdd, Nat.reduceLeDiff, Nat.reduceSub, Nat.reduceMul, List.reduceReplicate, Int.reduceEq, Int.reduceLT, Int.reduceLE, Int.reduceAdd, Int.reduceSub, Int.reduceMul, Nat.reduceLT, Int.reduceToNat]
  · have hie : i = n := by omega
    have hlt' : ¬ (i : Int) < n := by omega
    have ce := encT_ok .plain (by decide) (volsTo b n) (volsTo_ok b hn255)
    have cz := encT_ok .full (by decide) [] (volsTo_ok b (n := 0) (by decide))
    have hl := volsTo_length b n
    rw [hl] at ce
    have tk : List.take (n * 2) (vl (volsTo b n)) = vl (volsTo b n) := by have := take_vl (volsTo b n); rwa [hl] at this
    have t32 : List.take 32 (bl b) = bl b := List.take_of_length_le (by omega)
    have d32 : List.drop 32 (bl b) = [] := List.drop_of_length_le (by omega)
    have tl := tabR_length (volsTo b n)
    have tbl : (bl (tabR (volsTo b n))).length = 32 := by rw [bl_length, tl]
    have tt32 : List.take 32 (bl (tabR (volsTo b n))) = bl (tabR (volsTo b n)) := List.take_of_length_le (by omega)
    have td32 : List.drop 32 (bl (tabR (volsTo b n))) = [] := List.drop_of_length_le (by omega)
    have hq := eqL_bl (tabR (volsTo b n)) b (by omega)
    have hf1 := fitR_bl hb
    have hf2 := fitR_bl tl
    have hne : 0 < n → volsTo b n ≠ [] := fun h e => by rw [e] at hl; simp at hl; omega
    have out : ∀ x, isB b = x → (x = true → decV b = volsTo b n ∧ decVE b = 0) ∧ (x = false → decV b = [] ∧ decVE b = 11) := by
      intro x hx
      constructor
      · rintro rfl; rw [(decV_yes hx).1, (decV_yes hx).2, ev]; exact ⟨rfl, rfl⟩
      · rintro rfl; exact decV_no hx
    rcases k4 with ⟨hi0, k4⟩ | ⟨hi0, w, k4, kh⟩
    · have hn0 : n = 0 := by omega
      subst hn0
      have hlt' : ¬ (i : Int) < 0 := by omega
      have e0 : volsTo b 0 = [] := rfl
      rw [e0] at tbl tt32 td32 hq hf2 ev
      have g0 : goodV [] = true := by decide
      have eT : tabR [] = tabB [] := if_pos g0
      have eE : tabE [] = 0 := if_pos g0
      rw [eE] at cz
      by_cases hr : tabR [] = b
      · have hib : isB b = true := isB_of (by omega) (by rw [ev]; exact g0) (by rw [ev, ← eT]; exact hr)
        rw [((out _ hib).1 rfl).1, ((out _ hib).1 rfl).2, e0, ownN]
        rw [decide_eq_true hr] at hq
        repeat' (first | simp -implicitDefEqProofs (maxSteps := 2000000) only [m28_1, m28_2, m28_3, m28_4, m28_5, m28_6, m28_7, m28_8, m28_9, m28_10, m28_11, m28_12, m28_13, m28_14, m28_15, m28_16, m28_17, m28_18, m28_19, m28_20, m28_21, m28_22, m28_23, m28_24, m28_25, m28_26, m28_27, m28_28, m28_29, m28_30, m28_r, m28_b, m28, k1, kh1, k20, k21, k4, hlt', hbl, tbl, tt32, td32, t32, d32, hq, hf1, hf2, bl_scal, wk, act, asV, ↓reduceIte, Nat.reduceEqDiff, reduceCtorEq, Nat.reduceAdd, Nat.reduceLeDiff, Nat.reduceSub, Nat.reduceMul, List.reduceReplicate, Int.reduceEq, Int.reduceLT, Int.reduceLE, Int.reduceAdd, Int.reduceSub, Int.reduceMul, Nat.reduceLT, Int.reduceToNat] | ((first | ((with_reducible refine CallL.gate ?_); apply CallL.of) | ((with_reducible refine CallP.gate ?_); apply CallP.of)); (case h1 => (simp -implicitDefEqProofs (maxSteps := 2000000) only [m28_1, m28_2, m28_3, m28_4, m28_5, m28_6, m28_7, m28_8, m28_9, m28_10, m28_11, m28_12, m28_13, m28_14, m28_15, m28_16, m28_17, m28_18, m28_19, m28_20, m28_21, m28_22, m28_23, m28_24, m28_25, m28_26, m28_27, m28_28, m28_29, m28_30, m28_r, m28_b, m28, k1, kh1, k20, k21, k4, hlt', hbl, tbl, tt32, td32, t32, d32, hq, hf1, hf2, bl_scal, wk, act, asV, ↓reduceIte, Nat.reduceEqDiff, reduceCtorEq, Nat.reduceAdd, Nat.reduceLeDiff, Nat.reduceSub, Nat.reduceMul, List.reduceReplicate, Int.reduceEq, Int.reduceLT, Int.reduceLE, Int.reduceAdd, Int.reduceSub, Int.reduceMul, Nat.reduceLT, Int.reduceToNat]; first | done | (with_reducible rfl))); (case h2 => (first | exact cz)); (case h3 => simp -implicitDefEqProofs (maxSteps := 2000000) only [m28_1, m28_2, m28_3, m28_4, m28_5, m28_6, m28_7, m28_8, m28_9, m28_10, m28_11, m28_12, m28_13, m28_14, m28_15, m28_16, m28_17, m28_18, m28_19, m28_20, m28_21, m28_22, m28_23, m28_24, m28_25, m28_26, m28_27, m28_28, m28_29, m28_30, m28_r, m28_b, m28, k1, kh1, k20, k21, k4, hlt', hbl, tbl, tt32, td32, t32, d32, hq, hf1, hf2, bl_scal, wk, act, asV, ↓reduceIte, Nat.reduceEqDiff, reduceCtorEq, Nat.reduceAdd, Nat.reduceLeDiff, Nat.reduceSub, Nat.reduceMul, List.reduceReplicate, Int.reduceEq, Int.reduceLT, Int.reduceLE, Int.reduceAdd, Int.reduceSub, Int.reduceMul, Nat.reduceLT, Int.reduceToNat])))
      · have hib : isB b = false := isB_no (fun h => hr (by have := h.2.2; rw [ev] at this; rw [eT]; exact this))
        rw [((out _ hib).2 rfl).1, ((out _ hib).2 rfl).2, ownN]
        rw [decide_eq_false hr] at hq
        repeat' (first | simp -implicitDefEqProofs (maxSteps := 2000000) only [m28_1, m28_2, m28_3, m28_4, m28_5, m28_6, m28_7, m28_8, m28_9, m28_10, m28_11, m28_12, m28_13, m28_14, m28_15, m28_16, m28_17, m28_18, m28_19, m28_20, m28_21, m28_22, m28_23, m28_24, m28_25, m28_26, m28_27, m28_28, m28_29, m28_30, m28_r, m28_b, m28, k1, kh1, k20, k21, k4, hlt', hbl, tbl, tt32, td32, t32, d32, hq, hf1, hf2, bl_scal, wk, act, asV, ↓reduceIte, Nat.reduceEqDiff, reduceCtorEq, Nat.reduceAdd, Nat.reduceLeDiff, Nat.reduceSub, Nat.reduceMul, List.reduceReplicate, Int.reduceEq, Int.reduceLT, Int.reduceLE, Int.reduceAdd, Int.reduceSub, Int.reduceMul, Nat.reduceLT, Int.reduceToNat] | ((first | ((with_reducible refine CallL.gate ?_); apply CallL.of) | ((with_reducible refine CallP.gate ?_); apply CallP.of)); (case h1 => (simp -implicitDefEqProofs (maxSteps := 2000000) only [m28_1, m28_2, m28_3, m28_4, m28_5, m28_6, m28_7, m28_8, m28_9, m28_10, m28_11, m28_12, m28_13, m28_14, m28_15, m28_16, m28_17, m28_18, m28_19, m28_20, m28_21, m28_22, m28_23, m28_24, m28_25, m28_26, m28_27, m28_28, m28_29, m28_30, m28_r, m28_b, m28, k1, kh1, k20, k21, k4, hlt', hbl, tbl, tt32, td32, t32, d32, hq, hf1, hf2, bl_scal, wk, act, asV, ↓reduceIte, Nat.reduceEqDiff, reduceCtorEq, Nat.reduceAdd, Nat.reduceLeDiff, Nat.reduceSub, Nat.reduceMul, List.reduceReplicate, Int.reduceEq, Int.reduceLT, Int.reduceLE, Int.reduceAdd, Int.reduceSub, Int.reduceMul, Nat.reduceLT, Int.reduceToNat]; first | done | (with_reducible rfl))); (case h2 => (first | exact cz)); (case h3 => simp -implicitDefEqProofs (maxSteps := 2000000) only [m28_1, m28_2, m28_3, m28_4, m28_5, m28_6, m28_7, m28_8, m28_9, m28_10, m28_11, m28_12, m28_13, m28_14, m28_15, m28_16, m28_17, m28_18, m28_19, m28_20, m28_21, m28_22, m28_23, m28_24, m28_25, m28_26, m28_27, m28_28, m28_29, m28_30, m28_r, m28_b, m28, k1, kh1, k20, k21, k4, hlt', hbl, tbl, tt32, td32, t32, d32, hq, hf1, hf2, bl_scal, wk, act, asV, ↓reduceIte, Nat.reduceEqDiff, reduceCtorEq, Nat.reduceAdd, Nat.reduceLeDiff, Nat.reduceSub, Nat.reduceMul, List.reduceReplicate, Int.reduceEq, Int.reduceLT, Int.reduceLE, Int.reduceAdd, Int.reduceSub, Int.reduceMul, Nat.reduceLT, Int.reduceToNat])))
    · subst hie
      have hvn := hne hi0
      have hpr : ownV (volsTo b i) = .own i 2 (vl (volsTo b i)) := by unfold ownV; rw [if_neg hvn, hl]
      by_cases hg : goodV (volsTo b i) = true
      · have eE : tabE (volsTo b i) = 0 := if_pos hg
        have eT : tabR (volsTo b i) = tabB (volsTo b i) := if_pos hg
        rw [eE] at ce
        by_cases hr : tabR (volsTo b i) = b
        · have hib : isB b = true := isB_of (by omega) (by rw [ev]; exact hg) (by rw [ev, ← eT]; exact hr)
          rw [((out _ hib).1 rfl).1, ((out _ hib).1 rfl).2, hpr]
          rw [decide_eq_true hr] at hq
          repeat' (first | simp -implicitDefEqProofs (maxSteps := 2000000) only [m28_1, m28_2, m28_3, m28_4, m28_5, m28_6, m28_7, m28_8, m28_9, m28_10, m28_11, m28_12, m28_13, m28_14, m28_15, m28_16, m28_17, m28_18, m28_19, m28_20, m28_21, m28_22, m28_23, m28_24, m28_25, m28_26, m28_27, m28_28, m28_29, m28_30, m28_r, m28_b, m28, k1, kh1, k20, k21, k4, kh, tk, hlt', hbl, tbl, tt32, td32, t32, d32, hq, hf1, hf2, bl_scal, wk, act, asV, ↓reduceIte, Nat.reduceEqDiff, reduceCtorEq, Nat.reduceAdd, Nat.reduceLeDiff, Nat.reduceSub, Nat.reduceMul, List.reduceReplicate, Int.reduceEq, Int.reduceLT, Int.reduceLE, Int.reduceAdd, Int.reduceSub, Int.reduceMul, Nat.reduceLT, Int.reduceToNat] | ((first | ((with_reducible refine CallL.gate ?_); apply CallL.of) | ((with_reducible refine CallP.gate ?_); apply CallP.of)); (case h1 => (simp -implicitDefEqProofs (maxSteps := 2000000) only [m28_1, m28_2, m28_3, m28_4, m28_5, m28_6, m28_7, m28_8, m28_9, m28_10, m28_11, m28_12, m28_13, m28_14, m28_15, m28_16, m28_17, m28_18, m28_19, m28_20, m28_21, m28_22, m28_23, m28_24, m28_25, m28_26, m28_27, m28_28, m28_29, m28_30, m28_r, m28_b, m28, k1, kh1, k20, k21, k4, kh, tk, hlt', hbl, tbl, tt32, td32, t32, d32, hq, hf1, hf2, bl_scal, wk, act, asV, ↓reduceIte, Nat.reduceEqDiff, reduceCtorEq, Nat.reduceAdd, Nat.reduceLeDiff, Nat.reduceSub, Nat.reduceMul, List.reduceReplicate, Int.reduceEq, Int.reduceLT, Int.reduceLE, Int.reduceAdd, Int.reduceSub, Int.reduceMul, Nat.reduceLT, Int.reduceToNat]; first | done | (with_reducible rfl))); (case h2 => (first | exact ce)); (case h3 => simp -implicitDefEqProofs (maxSteps := 2000000) only [m28_1, m28_2, m28_3, m28_4, m28_5, m28_6, m28_7, m28_8, m28_9, m28_10, m28_11, m28_12, m28_13, m28_14, m28_15, m28_16, m28_17, m28_18, m28_19, m28_20, m28_21, m28_22, m28_23, m28_24, m28_25, m28_26, m28_27, m28_28, m28_29, m28_30, m28_r, m28_b, m28, k1, kh1, k20, k21, k4, kh, tk, hlt', hbl, tbl, tt32, td32, t32, d32, hq, hf1, hf2, bl_scal, wk, act, asV, ↓reduceIte, Nat.reduceEqDiff, reduceCtorEq, Nat.reduceAdd, Nat.reduceLeDiff, Nat.reduceSub, Nat.reduceMul, List.reduceReplicate, Int.reduceEq, Int.reduceLT, Int.reduceLE, Int.reduceAdd, Int.reduceSub, Int.reduceMul, Nat.reduceLT, Int.reduceToNat])))
        · have hib : isB b = false := isB_no (fun h => hr (by have := h.2.2; rw [ev] at this; rw [eT]; exact this))
          rw [((out _ hib).2 rfl).1, ((out _ hib).2 rfl).2, ownN]
          rw [decide_eq_false hr] at hq
          repeat' (first | simp -implicitDefEqProofs (maxSteps := 2000000) only [m28_1, m28_2, m28_3, m28_4, m28_5, m28_6, m28_7, m28_8, m28_9, m28_10, m28_11, m28_12, m28_13, m28_14, m28_15, m28_16, m28_17, m28_18, m28_19, m28_20, m28_21, m28_22, m28_23, m28_24, m28_25, m28_26, m28_27, m28_28, m28_29, m28_30, m28_r, m28_b, m28, k1, kh1, k20, k21, k4, kh, tk, hlt', hbl, tbl, tt32, td32, t32, d32, hq, hf1, hf2, bl_scal, wk, act, asV, ↓reduceIte, Nat.reduceEqDiff, reduceCtorEq, Nat.reduceAdd, Nat.reduceLeDiff, Nat.reduceSub, Nat.reduceMul, List.reduceReplicate, Int.reduceEq, Int.reduceLT, Int.reduceLE, Int.reduceAdd, Int.reduceSub, Int.reduceMul, Nat.reduceLT, Int.reduceToNat] | ((first | ((with_reducible refine CallL.gate ?_); apply CallL.of) | ((with_reducible refine CallP.gate ?_); apply CallP.of)); (case h1 => (simp -implicitDefEqProofs (maxSteps := 2000000) only [m28_1, m28_2, m28_3, m28_4, m28_5, m28_6, m28_7, m28_8, m28_9, m28_10, m28_11, m28_12, m28_13, m28_14, m28_15, m28_16, m28_17, m28_18, m28_19, m28_20, m28_21, m28_22, m28_23, m28_24, m28_25, m28_26, m28_27, m28_28, m28_29, m28_30, m28_r, m28_b, m28, k1, kh1, k20, k21, k4, kh, tk, hlt', hbl, tbl, tt32, td32, t32, d32, hq, hf1, hf2, bl_scal, wk, act, asV, ↓reduceIte, Nat.reduceEqDiff, reduceCtorEq, Nat.reduceAdd, Nat.reduceLeDiff, Nat.reduceSub, Nat.reduceMul, List.reduceReplicate, Int.reduceEq, Int.reduceLT, Int.reduceLE, Int.reduceAdd, Int.reduceSub, Int.reduceMul, Nat.reduceLT, Int.reduceToNat]; first | done | (with_reducible rfl))); (case h2 => (first | exact ce)); (case h3 => simp -implicitDefEqProofs (maxSteps := 2000000) only [m28_1, m28_2, m28_3, m28_4, m28_5, m28_6, m28_7, m28_8, m28_9, m28_10, m28_11, m28_12, m28_13, m28_14, m28_15, m28_16, m28_17, m28_18, m28_19, m28_20, m28_21, m28_22, m28_23, m28_24, m28_25, m28_26, m28_27, m28_28, m28_29, m28_30, m28_r, m28_b, m28, k1, kh1, k20, k21, k4, kh, tk, hlt', hbl, tbl, tt32, td32, t32, d32, hq, hf1, hf2, bl_scal, wk, act, asV, ↓reduceIte, Nat.reduceEqDiff, reduceCtorEq, Nat.reduceAdd, Nat.reduceLeDiff, Nat.reduceSub, Nat.reduceMul, List.reduceReplicate, Int.reduceEq, Int.reduceLT, Int.reduceLE, Int.reduceAdd, Int.reduceSub, Int.reduceMul, Nat.reduceLT, Int.reduceToNat])))
      · have eE : tabE (volsTo b i) = 11 := if_neg hg
        rw [eE] at ce
        have hib : isB b = false := isB_no (fun h => hg (by rw [← ev]; exact h.2.1))
        rw [((out _ hib).2 rfl).1, ((out _ hib).2 rfl).2, ownN]
        repeat' (first | simp -implicitDefEqProofs (maxSteps := 2000000) only [m28_1, m28_2, m28_3, m28_4, m28_5, m28_6, m28_7, m28_8, m28_9, m28_10, m28_11, m28_12, m28_13, m28_14, m28_15, m28_16, m28_17, m28_18, m28_19, m28_20, m28_21, m28_22, m28_23, m28_24, m28_25, m28_26, m28_27, m28_28, m28_29, m28_30, m28_r, m28_b, m28, k1, kh1, k20, k21, k4, kh, tk, hlt', hbl, tbl, tt32, td32, t32, d32, hf1, hf2, bl_scal, wk, act, asV, ↓reduceIte, Nat.reduceEqDiff, reduceCtorEq, Nat.reduceAdd, Nat.reduceLeDiff, Nat.reduceSub, Nat.reduceMul, List.reduceReplicate, Int.reduceEq, Int.reduceLT, Int.reduceLE, Int.reduceAdd, Int.reduceSub, Int.reduceMul, Nat.reduceLT, Int.reduceToNat] | ((first | ((with_reducible refine CallL.gate ?_); apply CallL.of) | ((with_reducible refine CallP.gate ?_); apply CallP.of)); (case h1 => (simp -implicitDefEqProofs (maxSteps := 2000000) only [m28_1, m28_2, m28_3, m28_4, m28_5, m28_6, m28_7, m28_8, m28_9, m28_10, m28_11, m28_12, m28_13, m28_14, m28_15, m28_16, m28_17, m28_18, m28_19, m28_20, m28_21, m28_22, m28_23, m28_24, m28_25, m28_26, m28_27, m28_28, m28_29, m28_30, m28_r, m28_b, m28, k1, kh1, k20, k21, k4, kh, tk, hlt', hbl, tbl, tt32, td32, t32, d32, hf1, hf2, bl_scal, wk, act, asV, ↓reduceIte, Nat.reduceEqDiff, reduceCtorEq, Nat.reduceAdd, Nat.reduceLeDiff, Nat.reduceSub, Nat.reduceMul, List.reduceReplicate, Int.reduceEq, Int.reduceLT, Int.reduceLE, Int.reduceAdd, Int.reduceSub, Int.reduceMul, Nat.reduceLT, Int.reduceToNat]; first | done | (with_reducible rfl))); (case h2 => (first | exact ce)); (case h3 => simp -implicitDefEqProofs (maxSteps := 2000000) only [m28_1, m28_2, m28_3, m28_4, m28_5, m28_6, m28_7, m28_8, m28_9, m28_10, m28_11, m28_12, m28_13, m28_14, m28_15, m28_16, m28_17, m28_18, m28_19, m28_20, m28_21, m28_22, m28_23, m28_24, m28_25, m28_26, m28_27, m28_28, m28_29, m28_30, m28_r, m28_b, m28, k1, kh1, k20, k21, k4, kh, tk, hlt', hbl, tbl, tt32, td32, t32, d32, hf1, hf2, bl_scal, wk, act, asV, ↓reduceIte, Nat.reduceEqDiff, reduceCtorEq, Nat.reduceAdd, Nat.reduceLeDiff, Nat.reduceSub, Nat.reduceMul, List.reduceReplicate, Int.reduceEq, Int.reduceLT, Int.reduceLE, Int.reduceAdd, Int.reduceSub, Int.reduceMul, Nat.reduceLT, Int.reduceToNat])))
end Go.Proofs.YtilbipknodpmmaaDoor
/- Parts of bytes. -/
set_option linter.unusedVariables false
set_option linter.unusedSimpArgs false
set_option maxRecDepth 100000
set_option maxHeartbeats 2000000
namespace Go.Proofs.YtilbipknodpmmaaDoor
open Go.RowKit

def pl (ps : List (Fl × List UInt8)) : List IV := ps.map fun p => .sl p.1 p.2.length (bl p.2)
end Go.Proofs.YtilbipknodpmmaaDoor
/- Of the table: the reference's Good. -/
set_option linter.unusedVariables false
set_option linter.unusedSimpArgs false
set_option maxRecDepth 100000
set_option maxHeartbeats 8000000
namespace Go.Proofs.YtilbipknodpmmaaDoor
open Go.RowKit

end Go.Proofs.YtilbipknodpmmaaDoor
/- Of the table: the volumes' block, by the reference. -/
set_option linter.unusedVariables false
set_option linter.unusedSimpArgs false
set_option maxRecDepth 100000
set_option maxHeartbeats 8000000
namespace Go.Proofs.YtilbipknodpmmaaDoor
open Go.RowKit

end Go.Proofs.YtilbipknodpmmaaDoor
/- Of the table: the volumes' block, by the reference. -/
set_option linter.unusedVariables false
set_option linter.unusedSimpArgs false
set_option maxRecDepth 100000
set_option maxHeartbeats 8000000
namespace Go.Proofs.YtilbipknodpmmaaDoor
open Go.RowKit

end Go.Proofs.YtilbipknodpmmaaDoor
/- Of the table: the reference's Decode. -/
set_option linter.unusedVariables false
set_option linter.unusedSimpArgs false
set_option maxRecDepth 100000
set_option maxHeartbeats 8000000
namespace Go.Proofs.YtilbipknodpmmaaDoor
open Go.RowKit

end Go.Proofs.YtilbipknodpmmaaDoor
/- Of the table: the reference's Decode. -/
set_option linter.unusedVariables false
set_option linter.unusedSimpArgs false
set_option maxRecDepth 100000
set_option maxHeartbeats 8000000
namespace Go.Proofs.YtilbipknodpmmaaDoor
open Go.RowKit

end Go.Proofs.YtilbipknodpmmaaDoor
/- The loaded functions as texts of the ideal machine (written by a program of ours), and that they are the loaded ones. -/
set_option linter.unusedVariables false
set_option linter.unusedSimpArgs false
set_option linter.unusedSectionVars false
namespace Go.Proofs.YtilbipknodpmmaaDoor
open Go.RowKit

/- tollhouse/tollhouselaw13.wakes -/
/- tollhouse/ops.Place -/
/- tollhouse/tollhouseref13.Place -/
/- tollhouse/ops.Volumes -/
def m16_1 : List MI :=
 [MI.op (some 5) (.mov (.tmp 7)) none,
  MI.op (some 8) (.ext (.tmp 5) 0) none,
  MI.op (some 9) (.ext (.tmp 5) 1) none,
  MI.op (some 3) (.mov (.tmp 8)) none,
  MI.op (some 4) (.mov (.tmp 9)) none]
def m16_2 : MCode :=
 (.seq
  (.reg
   [MI.op (some 10) (.mov (.tmp 3)) none,
    MI.op (some 2) (.mov (.tmp 10)) none])
  .ret)
def m16_3 : MCode :=
 (.seq
  (.reg
   (MI.op (some 6) (.load true 32 (.tmp 1)) none ::
    MI.op (some 7) (.call 28 [(.tmp 6)]) none ::
    m16_1))
  m16_2)
def m16_r : List MRes := [.tmp 2]
def m16_b : MCode :=
 (.seq
  (.reg
   [MI.op (some 1) (.box (.tmp 0)) none,
    MI.op (some 2) (.mov (.c (.sl .full 0 []))) none])
  m16_3)
def m16 : MFunc := ⟨1, 11, m16_r, m16_b⟩
theorem c16 : compF Tryd.prog 16 m16 = some m16 := by kernel_rfl

/- tollhouse/tollhouseref13.Volumes -/
/- tollhouse/ops.Write -/
/- tollhouse/tollhouseref13.Write -/
/- tollhouse/tollhousekeep.Puts -/
/- tollhouse/ops.Make -/
def m21_1 : List MI :=
 [MI.op (some 20) (.un .not (.tmp 19)) none,
  MI.op (some 16) (.mov (.tmp 20)) none]
def m21_2 : MCode :=
 (.seq
  (.reg
   [MI.op (some 6) (.mov (.c (.sl .full 0 []))) none,
    MI.op (some 7) (.mov (.c (.int .i64 11))) none])
  .ret)
def m21_3 : List MI :=
 [MI.op (some 25) (.bin .geq (.tmp 24) (.c (.int .i64 0))) none,
  MI.op (some 21) (.mov (.tmp 25)) none]
def m21_4 : MCode :=
 (.seq
  (.reg
   [MI.op (some 6) (.mov (.c (.sl .full 0 []))) none,
    MI.op (some 7) (.mov (.c (.int .i64 16))) none])
  .ret)
def m21_5 : MCode :=
 (.seq
  (.reg
   [MI.op (some 6) (.mov (.c (.sl .full 0 []))) none,
    MI.op (some 7) (.mov (.c (.int .i64 17))) none])
  .ret)
def m21_6 : MCode :=
 (.seq
  (.reg
   [MI.op (some 6) (.mov (.c (.sl .full 0 []))) none,
    MI.op (some 7) (.mov (.c (.int .i64 18))) none])
  .ret)
def m21_7 : MCode :=
 (.cond (.tmp 33)
  m21_6
  .skip)
def m21_8 : MCode :=
 (.seq
  (.reg
   [MI.op (some 34) (.mov (.tmp 8)) none,
    MI.op (some 35) (.len (.tmp 34)) none,
    MI.op (some 36) (.bin .geq (.tmp 35) (.c (.int .i64 3))) none,
    MI.op (some 33) (.mov (.tmp 36)) none])
  m21_7)
def m21_9 : MCode :=
 (.cond (.tmp 26)
  m21_5
  m21_8)
def m21_10 : MCode :=
 (.seq
  (.reg
   [MI.op (some 27) (.mov (.tmp 2)) none,
    MI.op (some 28) (.bin .lss (.tmp 27) (.c (.int .i64 1))) none,
    MI.op (some 29) (.mov (.tmp 28)) none,
    MI.op (some 30) (.mov (.tmp 2)) (some (29, false)),
    MI.op (some 31) (.bin .gtr (.tmp 30) (.c (.int .i64 4))) (some (29, false)),
    MI.op (some 32) (.pick (.tmp 29) (.c (.bool true)) (.tmp 31)) none,
    MI.op (some 26) (.mov (.tmp 32)) none])
  m21_9)
def m21_11 : MCode :=
 (.cond (.tmp 21)
  m21_4
  m21_10)
def m21_12 : MCode :=
 (.seq
  (.reg
   (MI.op (some 22) (.mov (.tmp 1)) none ::
    MI.op (some 23) (.mov (.tmp 8)) none ::
    MI.op (some 24) (.call 44 [(.tmp 22), (.tmp 23)]) none ::
    m21_3))
  m21_11)
def m21_13 : MCode :=
 (.cond (.tmp 16)
  m21_2
  m21_12)
def m21_14 : List MI :=
 [MI.op (some 37) (.mov (.tmp 40)) none,
  MI.op (some 41) (.ext (.tmp 37) 0) none,
  MI.op (some 42) (.ext (.tmp 37) 1) none,
  MI.op (some 9) (.mov (.tmp 41)) none,
  MI.op (some 10) (.mov (.tmp 42)) none]
def m21_15 : MCode :=
 (.seq
  (.reg
   [MI.op (some 45) (.mov (.tmp 10)) none,
    MI.op (some 6) (.mov (.c (.sl .full 0 []))) none,
    MI.op (some 7) (.mov (.tmp 45)) none])
  .ret)
def m21_16 : MCode :=
 (.cond (.tmp 44)
  m21_15
  .skip)
def m21_17 : MCode :=
 (.reg
  [MI.op (some 52) (.mov (.tmp 11)) none,
   MI.op (some 53) (.mov (.tmp 13)) none,
   MI.op (some 54) (.build [(.int .i64 0), (.int .u8 0), (.int .u8 0), (.int .u8 0), (.int .u8 0), (.int .u8 0), (.int .u8 0), (.int .u8 0), (.int .u8 0), (.int .u8 0), (.int .u8 0), (.int .u8 0), (.int .u8 0), (.int .u8 0), (.int .u8 0), (.int .u8 0), (.int .u8 0), (.int .u8 0), (.int .u8 0), (.int .u8 0), (.int .u8 0), (.int .u8 0), (.int .u8 0), (.int .u8 0), (.int .u8 0), (.int .u8 0), (.int .u8 0), (.int .u8 0), (.int .u8 0), (.int .u8 0), (.int .u8 0), (.int .u8 0), (.int .u8 0)] [(0, 1, (.tmp 53))]) none,
   MI.op (some 55) (.bsl 1 33 [(.int .i64 0), (.int .u8 0), (.int .u8 0), (.int .u8 0), (.int .u8 0), (.int .u8 0), (.int .u8 0), (.int .u8 0), (.int .u8 0), (.int .u8 0), (.int .u8 0), (.int .u8 0), (.int .u8 0), (.int .u8 0), (.int .u8 0), (.int .u8 0), (.int .u8 0), (.int .u8 0), (.int .u8 0), (.int .u8 0), (.int .u8 0), (.int .u8 0), (.int .u8 0), (.int .u8 0), (.int .u8 0), (.int .u8 0), (.int .u8 0), (.int .u8 0), (.int .u8 0), (.int .u8 0), (.int .u8 0), (.int .u8 0), (.int .u8 0)] [(0, 33, (.tmp 54))]) none,
   MI.op (some 56) (.app 33 40 (.tmp 52) (.tmp 55)) none,
   MI.op (some 11) (.mov (.tmp 56)) none])
def m21_18 : MCode :=
 (.seq
  (.blk 2
   (.seq
    (.reg
     [MI.op (some 50) (.ixSl 1 (.tmp 46) (.tmp 48)) none,
      MI.op (some 51) (.load false 1 (.tmp 50)) none,
      MI.op (some 13) (.mov (.tmp 51)) none])
  m21_17))
  (.reg
   [MI.op (some 57) (.bin .add (.tmp 48) (.c (.int .i64 1))) none,
    MI.op (some 48) (.mov (.tmp 57)) none]))
def m21_19 : MCode :=
 (.seq
  (.cond (.tmp 49)
   .skip
   (.exit 1))
  m21_18)
def m21_20 : MCode :=
 (.seq
  (.reg
   [MI.op (some 49) (.bin .lss (.tmp 48) (.tmp 47)) none])
  m21_19)
def m21_21 : MCode :=
 (.blk 1
  (.loop
  m21_20))
def m21_22 : List MI :=
 [MI.op (some 66) (.ext (.tmp 65) 0) none,
  MI.op (some 67) (.ext (.tmp 65) 1) none,
  MI.op (some 6) (.mov (.tmp 66)) none,
  MI.op (some 7) (.mov (.tmp 67)) none]
def m21_23 : MCode :=
 (.seq
  (.reg
   (MI.op (some 58) (.mov (.tmp 8)) none ::
    MI.op (some 59) (.mov (.tmp 1)) none ::
    MI.op (some 60) (.mov (.tmp 9)) none ::
    MI.op (some 61) (.build [(.str []), (.sl .full 0 [])] [(0, 1, (.tmp 59)), (1, 1, (.tmp 60))]) none ::
    MI.frz 61 ::
    MI.op (some 62) (.bsl 1 2 [(.str []), (.sl .full 0 [])] [(0, 2, (.tmp 61))]) none ::
    MI.op (some 63) (.app 2 40 (.tmp 58) (.tmp 62)) none ::
    MI.op (some 64) (.mov (.tmp 11)) none ::
    MI.op (some 65) (.calln 49 [(.tmp 63), (.tmp 64)]) none ::
    m21_22))
  .ret)
def m21_24 : MCode :=
 (.seq
  (.seq
   (.reg
    [MI.op (some 46) (.mov (.tmp 9)) none,
     MI.op (some 47) (.len (.tmp 46)) none,
     MI.op (some 48) (.mov (.c (.int .i64 0))) none])
  m21_21)
  m21_23)
def m21_25 : MCode :=
 (.seq
  (.reg
   [MI.op (some 11) (.mov (.c (.sl .full 0 []))) none])
  m21_24)
def m21_26 : MCode :=
 (.seq
  (.seq
   (.reg
    [MI.op (some 43) (.mov (.tmp 10)) none,
     MI.op (some 44) (.bin .neq (.tmp 43) (.c (.int .i64 0))) none])
  m21_16)
  m21_25)
def m21_27 : MCode :=
 (.seq
  (.reg
   (MI.op (some 38) (.mov (.tmp 2)) none ::
    MI.op (some 39) (.mov (.tmp 8)) none ::
    MI.op (some 40) (.call 48 [(.tmp 38), (.tmp 39)]) none ::
    m21_14))
  m21_26)
def m21_28 : MCode :=
 (.seq
  (.blk 0
   (.seq
    (.reg
     (MI.op (some 17) (.mov (.tmp 1)) none ::
      MI.op (some 18) (.bsl 1 1 [(.str [])] [(0, 1, (.tmp 17))]) none ::
      MI.op (some 19) (.call 47 [(.tmp 18)]) none ::
      m21_1))
  m21_13))
  m21_27)
def m21_29 : MCode :=
 (.seq
  (.reg
   [MI.op (some 14) (.load true 32 (.tmp 3)) none,
    MI.op (some 15) (.call 16 [(.tmp 14)]) none,
    MI.op (some 8) (.mov (.tmp 15)) none])
  m21_28)
def m21_r : List MRes := [.tmp 6, .tmp 7]
def m21_b : MCode :=
 (.seq
  (.reg
   [MI.op (some 3) (.box (.tmp 0)) none,
    MI.op (some 6) (.mov (.c (.sl .full 0 []))) none,
    MI.op (some 7) (.mov (.c (.int .i64 0))) none])
  m21_29)
def m21 : MFunc := ⟨3, 68, m21_r, m21_b⟩
theorem c21 : compF Tryd.prog 21 m21 = some m21 := by kernel_rfl

/- tollhouse/tollhouseref13.Make -/
/- tollhouse/ops.Gone -/
/- tollhouse/tollhouseref13.Gone -/
/- tollhouse/tollhousekeep.Fill -/
/- tollhouse/ops.tabled -/
def m49_1 : List MI :=
 [MI.op (some 8) (.mov (.tmp 10)) none,
  MI.op (some 11) (.ext (.tmp 8) 0) none,
  MI.op (some 12) (.ext (.tmp 8) 1) none,
  MI.op (some 6) (.alloc (List.replicate 32 (.int .u8 0))) none,
  MI.op none (.store 32 (.tmp 6) (.tmp 11)) none,
  MI.op (some 7) (.mov (.tmp 12)) none]
def m49_2 : MCode :=
 (.seq
  (.reg
   [MI.op (some 15) (.mov (.tmp 7)) none,
    MI.op (some 4) (.mov (.c (.sl .full 0 []))) none,
    MI.op (some 5) (.mov (.tmp 15)) none])
  .ret)
def m49_3 : MCode :=
 (.cond (.tmp 14)
  m49_2
  .skip)
def m49_4 : MCode :=
 (.seq
  (.reg
   [MI.op (some 16) (.mov (.tmp 1)) none,
    MI.op (some 17) (.load true 32 (.tmp 6)) none,
    MI.op (some 18) (.build [(.int .i64 0), (.int .u8 0), (.int .u8 0), (.int .u8 0), (.int .u8 0), (.int .u8 0), (.int .u8 0), (.int .u8 0), (.int .u8 0), (.int .u8 0), (.int .u8 0), (.int .u8 0), (.int .u8 0), (.int .u8 0), (.int .u8 0), (.int .u8 0), (.int .u8 0), (.int .u8 0), (.int .u8 0), (.int .u8 0), (.int .u8 0), (.int .u8 0), (.int .u8 0), (.int .u8 0), (.int .u8 0), (.int .u8 0), (.int .u8 0), (.int .u8 0), (.int .u8 0), (.int .u8 0), (.int .u8 0), (.int .u8 0), (.int .u8 0)] [(1, 32, (.tmp 17))]) none,
    MI.op (some 19) (.bsl 1 33 [(.int .i64 0), (.int .u8 0), (.int .u8 0), (.int .u8 0), (.int .u8 0), (.int .u8 0), (.int .u8 0), (.int .u8 0), (.int .u8 0), (.int .u8 0), (.int .u8 0), (.int .u8 0), (.int .u8 0), (.int .u8 0), (.int .u8 0), (.int .u8 0), (.int .u8 0), (.int .u8 0), (.int .u8 0), (.int .u8 0), (.int .u8 0), (.int .u8 0), (.int .u8 0), (.int .u8 0), (.int .u8 0), (.int .u8 0), (.int .u8 0), (.int .u8 0), (.int .u8 0), (.int .u8 0), (.int .u8 0), (.int .u8 0), (.int .u8 0)] [(0, 33, (.tmp 18))]) none,
    MI.op (some 20) (.app 33 40 (.tmp 16) (.tmp 19)) none,
    MI.op (some 4) (.mov (.tmp 20)) none,
    MI.op (some 5) (.mov (.c (.int .i64 0))) none])
  .ret)
def m49_5 : MCode :=
 (.seq
  (.seq
   (.reg
    [MI.op (some 13) (.mov (.tmp 7)) none,
     MI.op (some 14) (.bin .neq (.tmp 13) (.c (.int .i64 0))) none])
  m49_3)
  m49_4)
def m49_6 : MCode :=
 (.seq
  (.reg
   (MI.op (some 9) (.mov (.tmp 0)) none ::
    MI.op (some 10) (.call 26 [(.tmp 9)]) none ::
    m49_1))
  m49_5)
def m49_r : List MRes := [.tmp 4, .tmp 5]
def m49_b : MCode :=
 (.seq
  (.reg
   [MI.op (some 4) (.mov (.c (.sl .full 0 []))) none,
    MI.op (some 5) (.mov (.c (.int .i64 0))) none])
  m49_6)
def m49 : MFunc := ⟨2, 21, m49_r, m49_b⟩
theorem c49 : compF Tryd.prog 49 m49 = some m49 := by kernel_rfl

end Go.Proofs.YtilbipknodpmmaaDoor
/- Of the ops: a table's volumes, where a block stands, a write. -/
set_option linter.unusedVariables false
set_option linter.unusedSimpArgs false
set_option linter.unusedSectionVars false
set_option maxRecDepth 100000
set_option maxHeartbeats 8000000
namespace Go.Proofs.YtilbipknodpmmaaDoor
open Go.RowKit

theorem bl_allO {p : IV → Bool} (h : ∀ n : Int, p (.int .u8 n) = true) (xs : List UInt8) : (bl xs).all p = true := by simp [bl, h]
theorem decV_le (b : List UInt8) : (decV b).length ≤ 3 := by
  by_cases h : isB b = true
  · rw [(decV_yes h).1]
    exact goodV_len (by unfold isB at h; simp only [Bool.and_eq_true] at h; exact h.1.2)
  · rw [(decV_no (by simpa using h)).1]; simp
theorem decV_good (b : List UInt8) : goodV (decV b) = true := by
  by_cases h : isB b = true
  · rw [(decV_yes h).1]
    unfold isB at h
    simp only [Bool.and_eq_true] at h
    exact h.1.2
  · rw [(decV_no (by simpa using h)).1]; rfl
theorem ownV_or (vs : List Vol) : (vs = [] ∧ ownV vs = .sl .full 0 []) ∨ (vs ≠ [] ∧ ownV vs = .own vs.length 2 (vl vs)) := by
  by_cases h : vs = []
  · exact .inl ⟨h, if_pos h⟩
  · exact .inr ⟨h, if_neg h⟩
theorem volsP_ok (b : List UInt8) (hb : b.length = 32) : RC Tryd.prog 16 [.agg (bl b)] [ownV (decV b)] := by
  refine RC.of_wp c16 rfl ?_
  have c1 := decTab_ok b hb
  have lb : (bl b).length = 32 := by rw [bl_length, hb]
  have tb : List.take 32 (bl b) = bl b := List.take_of_length_le (by omega)
  have tv := take_vl (decV b)
  rcases ownV_or (decV b) with ⟨_, e⟩ | ⟨_, e⟩
  · rw [e] at c1 ⊢
    repeat' (first | simp -implicitDefEqProofs (maxSteps := 2000000) only [m16_1, m16_2, m16_3, m16_r, m16_b, m16, lb, tb, bl_scal, bl_allO, wk, act, asV, ↓reduceIte, Nat.reduceEqDiff, reduceCtorEq, Nat.reduceAdd, Nat.reduceLeDiff, Nat.reduceSub, Nat.reduceMul, List.reduceReplicate, Int.reduceEq, Int.reduceLT, Int.reduceLE, Int.reduceAdd, Int.reduceSub, Int.reduceMul, Nat.reduceLT, Int.reduceToNat] | ((first | ((with_reducible refine CallL.gate ?_); apply CallL.of) | ((with_reducible refine CallP.gate ?_); apply CallP.of)); (case h1 => (simp -implicitDefEqProofs (maxSteps := 2000000) only [m16_1, m16_2, m16_3, m16_r, m16_b, m16, lb, tb, bl_scal, bl_allO, wk, act, asV, ↓reduceIte, Nat.reduceEqDiff, reduceCtorEq, Nat.reduceAdd, Nat.reduceLeDiff, Nat.reduceSub, Nat.reduceMul, List.reduceReplicate, Int.reduceEq, Int.reduceLT, Int.reduceLE, Int.reduceAdd, Int.reduceSub, Int.reduceMul, Nat.reduceLT, Int.reduceToNat]; first | done | (with_reducible rfl))); (case h2 => (first | exact c1)); (case h3 => simp -implicitDefEqProofs (maxSteps := 2000000) only [m16_1, m16_2, m16_3, m16_r, m16_b, m16, lb, tb, bl_scal, bl_allO, wk, act, asV, ↓reduceIte, Nat.reduceEqDiff, reduceCtorEq, Nat.reduceAdd, Nat.reduceLeDiff, Nat.reduceSub, Nat.reduceMul, List.reduceReplicate, Int.reduceEq, Int.reduceLT, Int.reduceLE, Int.reduceAdd, Int.reduceSub, Int.reduceMul, Nat.reduceLT, Int.reduceToNat])))
  · rw [e] at c1 ⊢
    repeat' (first | simp -implicitDefEqProofs (maxSteps := 2000000) only [m16_1, m16_2, m16_3, m16_r, m16_b, m16, lb, tb, tv, bl_scal, bl_allO, wk, act, asV, ↓reduceIte, Nat.reduceEqDiff, reduceCtorEq, Nat.reduceAdd, Nat.reduceLeDiff, Nat.reduceSub, Nat.reduceMul, List.reduceReplicate, Int.reduceEq, Int.reduceLT, Int.reduceLE, Int.reduceAdd, Int.reduceSub, Int.reduceMul, Nat.reduceLT, Int.reduceToNat] | ((first | ((with_reducible refine CallL.gate ?_); apply CallL.of) | ((with_reducible refine CallP.gate ?_); apply CallP.of)); (case h1 => (simp -implicitDefEqProofs (maxSteps := 2000000) only [m16_1, m16_2, m16_3, m16_r, m16_b, m16, lb, tb, tv, bl_scal, bl_allO, wk, act, asV, ↓reduceIte, Nat.reduceEqDiff, reduceCtorEq, Nat.reduceAdd, Nat.reduceLeDiff, Nat.reduceSub, Nat.reduceMul, List.reduceReplicate, Int.reduceEq, Int.reduceLT, Int.reduceLE, Int.reduceAdd, Int.reduceSub, Int.reduceMul, Nat.reduceLT, Int.reduceToNat]; first | done | (with_reducible rfl))); (case h2 => (first | exact c1)); (case h3 => simp -implicitDefEqProofs (maxSteps := 2000000) only [m16_1, m16_2, m16_3, m16_r, m16_b, m16, lb, tb, tv, bl_scal, bl_allO, wk, act, asV, ↓reduceIte, Nat.reduceEqDiff, reduceCtorEq, Nat.reduceAdd, Nat.reduceLeDiff, Nat.reduceSub, Nat.reduceMul, List.reduceReplicate, Int.reduceEq, Int.reduceLT, Int.reduceLE, Int.reduceAdd, Int.reduceSub, Int.reduceMul, Nat.reduceLT, Int.reduceToNat])))
/-! ### blocks that are written -/
def ptC (p : Int × List UInt8) : List IV := .int .i64 p.1 :: bl p.2
def ptL (ps : List (Int × List UInt8)) : List IV := ps.flatMap ptC
theorem ptC_length {p : Int × List UInt8} (h : p.2.length = 32) : (ptC p).length = 33 := by simp [ptC, bl_length, h]
theorem ptL_length {ps : List (Int × List UInt8)} (h : ∀ p ∈ ps, p.2.length = 32) : (ptL ps).length = ps.length * 33 := by
  induction ps with
  | nil => rfl
  | cons p ps ih =>
    have h1 := ptC_length (h p (by simp))
    have h2 := ih fun q hq => h q (by simp [hq])
    simp only [ptL, List.flatMap_cons, List.length_append, List.length_cons] at h2 ⊢
    omega
theorem ptC_scal (p : Int × List UInt8) : (ptC p).all IV.scal = true := by simp [ptC, IV.scal, bl_scal]
theorem ptL_scal (ps : List (Int × List UInt8)) : (ptL ps).all IV.scal = true := by
  induction ps with
  | nil => rfl
  | cons p ps ih =>
    simp only [ptL, List.flatMap_cons] at ih ⊢
    rw [List.all_append, ptC_scal, ih]; rfl
theorem placed_pt2 {D Z : List UInt8} (i : IV) (hD : D.length = 32) (hZ : Z.length = 32) : placed (i :: bl Z) [(1, bl D)] = some (i :: bl D) := by
  simp [placed, bl_length, hZ, hD, List.drop_eq_nil_of_le]
end Go.Proofs.YtilbipknodpmmaaDoor
