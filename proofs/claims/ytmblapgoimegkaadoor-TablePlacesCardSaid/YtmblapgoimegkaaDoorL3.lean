/- Of the table: the law TablePlaces. -/
import Derived.Test.YtmblapgoimegkaaDoorE31
import Derived.Test.YtmblapgoimegkaaDoorM6
import Derived.Test.YtmblapgoimegkaaDoorL1
set_option linter.unusedVariables false
set_option linter.unusedSimpArgs false
set_option maxRecDepth 100000
set_option maxHeartbeats 8000000
namespace Go.Proofs.YtmblapgoimegkaaDoor
open Go.RowKit

theorem pad4_getD (s : List UInt8) {k : Nat} (h : k < 4) : (pad4 s).getD k 0 = s.getD k 0 := by
  have : k = 0 ∨ k = 1 ∨ k = 2 ∨ k = 3 := by omega
  match s with
  | [] => rcases this with rfl | rfl | rfl | rfl <;> rfl
  | [a] => rcases this with rfl | rfl | rfl | rfl <;> rfl
  | [a, b] => rcases this with rfl | rfl | rfl | rfl <;> rfl
  | [a, b, c] => rcases this with rfl | rfl | rfl | rfl <;> rfl
  | a :: b :: c :: d :: l => rcases this with rfl | rfl | rfl | rfl <;> rfl
theorem tabB_sgn {vs : List Vol} {i k : Nat} (hi : i < vs.length) (hk : k < 4) : (tabB vs).getD (1 + 9 * i + k) 0 = vs[i].name.getD k 0 := by
  rw [tabB_get hi (by omega), entV, ← pad4_getD vs[i].name hk]
  simp only [List.getD_eq_getElem?_getD]
  rw [List.getElem?_append_left (by rw [pad4_length]; exact hk)]
theorem tabB_out {vs : List Vol} {p : Nat} (h : 1 + 9 * vs.length ≤ p) : (tabB vs).getD p 0 = 0 := by
  obtain ⟨q, rfl⟩ : ∃ q, p = q + 1 := ⟨p - 1, by omega⟩
  unfold tabB
  rw [List.getD_cons_succ]
  simp only [List.getD_eq_getElem?_getD]
  rw [List.getElem?_append_right (by rw [entsV_length]; omega)]
  unfold zs
  rw [List.getElem?_replicate]
  split <;> rfl

theorem placesZ (vs : List Vol) (x : UInt8) (i v5 : Nat) (h3 : vs.length ≤ 3) (hi : vs.length ≤ i) (hi3 : i < 3) (Q : Ex → St → Prop) (s1 : St)
    (q1 : ∀ s2 : St, s2.t 0 = .sl .plain vs.length (vl vs) → s2.t 1 = .int .u8 (x.toNat : Int) → s2.t 5 = .ptr 5 0 v5 → s2.h 5 = ⟨v5, true, true, false, bl (tabB vs)⟩ → s2.t 7 = .int .i64 i → Q (.exit 2) s2)
    (k0 : s1.t 0 = .sl .plain vs.length (vl vs)) (k1 : s1.t 1 = .int .u8 (x.toNat : Int)) (k5 : s1.t 5 = .ptr 5 0 v5) (kh : s1.h 5 = ⟨v5, true, true, false, bl (tabB vs)⟩) (k7 : s1.t 7 = .int .i64 i) (k8 : s1.t 8 = .int .i64 ((1 + 9 * i : Nat) : Int)) (k9 : s1.t 9 = .int .i64 0) :
    Wp (RCs Tryd.prog) (.loop m13_7) Q s1 := by
  have hbl : (bl (tabB vs)).length = 32 := by rw [bl_length, tabB_length h3]
  refine Wp_loop (fun m s => ∃ j, j ≤ 9 ∧ m = 9 - j ∧ s.t 0 = .sl .plain vs.length (vl vs) ∧ s.t 1 = .int .u8 (x.toNat : Int) ∧ s.t 5 = .ptr 5 0 v5 ∧ s.h 5 = ⟨v5, true, true, false, bl (tabB vs)⟩ ∧ s.t 7 = .int .i64 i ∧ s.t 8 = .int .i64 ((1 + 9 * i : Nat) : Int) ∧ s.t 9 = .int .i64 j) 9 ⟨0, by omega, rfl, k0, k1, k5, kh, k7, k8, k9⟩ ?_
  clear k0 k1 k5 kh k7 k8 k9
  rintro m s ⟨j, hj, rfl, k0, k1, k5, kh, k7, k8, k9⟩
  by_cases hjl : j < 9
  · have hjl' : (j : Int) < 9 := by omega
    have hat := at_bl (b := tabB vs) (k := 1 + 9 * i + j) (by rw [tabB_length h3]; omega)
    rw [tabB_out (by omega)] at hat
    have hw : IntKind.i64.wrap (((1 + 9 * i : Nat) : Int) + (j : Int)) = ((1 + 9 * i + j : Nat) : Int) := by rw [IntKind.wrap_i64]; omega
    have hlt : ((1 + 9 * i + j : Nat) : Int) < 32 := by omega
    have hle : 1 + 9 * i + j ≤ 31 := by omega
    have hat' : List.take 1 (List.drop (1 + 9 * i + j) (bl (tabB vs))) = [.int .u8 0] := hat
    simp -implicitDefEqProofs (maxSteps := 2000000) only [k0, k1, k5, kh, k7, k8, k9, hjl', hw, hlt, hle, hbl, hat', m13_1, m13_2, m13_3, m13_4, m13_5, m13_6, m13_7, m13_8, m13_9, m13_10, m13_11, m13_12, m13_13, m13_14, m13_15, m13_16, m13_17, m13_18, m13_19, m13_20, m13_21, m13_22, m13_23, m13_24, m13_25, m13_26, m13_27, m13_28, m13_29, m13_30, m13_31, m13_32, m13_33, m13_34, m13_35, m13_36, m13_37, m13_r, m13_b, m13, wrap_nat (show j < 2 ^ 63 - 1 by omega), wk, act, asV, ↓reduceIte, Nat.reduceEqDiff, reduceCtorEq, Nat.reduceAdd, Nat.reduceLeDiff, Nat.reduceSub, Nat.reduceMul, List.reduceReplicate, Int.reduceEq, Int.reduceLT, Int.reduceLE, Int.reduceAdd, Int.reduceSub, Int.reduceMul, Nat.reduceLT, Int.reduceToNat]
    exact ⟨9 - (j + 1), by omega, j + 1, by omega, rfl, rfl⟩
  · have hjl' : ¬ (j : Int) < 9 := by omega
    simp -implicitDefEqProofs (maxSteps := 2000000) only [k9, hjl', m13_1, m13_2, m13_3, m13_4, m13_5, m13_6, m13_7, m13_8, m13_9, m13_10, m13_11, m13_12, m13_13, m13_14, m13_15, m13_16, m13_17, m13_18, m13_19, m13_20, m13_21, m13_22, m13_23, m13_24, m13_25, m13_26, m13_27, m13_28, m13_29, m13_30, m13_31, m13_32, m13_33, m13_34, m13_35, m13_36, m13_37, m13_r, m13_b, m13, wk, act, asV, ↓reduceIte, Nat.reduceEqDiff, reduceCtorEq, Nat.reduceAdd, Nat.reduceLeDiff, Nat.reduceSub, Nat.reduceMul, List.reduceReplicate, Int.reduceEq, Int.reduceLT, Int.reduceLE, Int.reduceAdd, Int.reduceSub, Int.reduceMul, Nat.reduceLT, Int.reduceToNat]
    exact q1 _ (by simp -implicitDefEqProofs (maxSteps := 2000000) only [k0, wk, act, asV, ↓reduceIte, Nat.reduceEqDiff, reduceCtorEq, Nat.reduceAdd, Nat.reduceLeDiff, Nat.reduceSub, Nat.reduceMul, List.reduceReplicate, Int.reduceEq, Int.reduceLT, Int.reduceLE, Int.reduceAdd, Int.reduceSub, Int.reduceMul, Nat.reduceLT, Int.reduceToNat]) (by simp -implicitDefEqProofs (maxSteps := 2000000) only [k1, wk, act, asV, ↓reduceIte, Nat.reduceEqDiff, reduceCtorEq, Nat.reduceAdd, Nat.reduceLeDiff, Nat.reduceSub, Nat.reduceMul, List.reduceReplicate, Int.reduceEq, Int.reduceLT, Int.reduceLE, Int.reduceAdd, Int.reduceSub, Int.reduceMul, Nat.reduceLT, Int.reduceToNat]) (by simp -implicitDefEqProofs (maxSteps := 2000000) only [k5, wk, act, asV, ↓reduceIte, Nat.reduceEqDiff, reduceCtorEq, Nat.reduceAdd, Nat.reduceLeDiff, Nat.reduceSub, Nat.reduceMul, List.reduceReplicate, Int.reduceEq, Int.reduceLT, Int.reduceLE, Int.reduceAdd, Int.reduceSub, Int.reduceMul, Nat.reduceLT, Int.reduceToNat]) (by simp -implicitDefEqProofs (maxSteps := 2000000) only [kh, wk, act, asV, ↓reduceIte, Nat.reduceEqDiff, reduceCtorEq, Nat.reduceAdd, Nat.reduceLeDiff, Nat.reduceSub, Nat.reduceMul, List.reduceReplicate, Int.reduceEq, Int.reduceLT, Int.reduceLE, Int.reduceAdd, Int.reduceSub, Int.reduceMul, Nat.reduceLT, Int.reduceToNat]) (by simp -implicitDefEqProofs (maxSteps := 2000000) only [k7, wk, act, asV, ↓reduceIte, Nat.reduceEqDiff, reduceCtorEq, Nat.reduceAdd, Nat.reduceLeDiff, Nat.reduceSub, Nat.reduceMul, List.reduceReplicate, Int.reduceEq, Int.reduceLT, Int.reduceLE, Int.reduceAdd, Int.reduceSub, Int.reduceMul, Nat.reduceLT, Int.reduceToNat])

theorem placesB (vs : List Vol) (x : UInt8) (i v5 : Nat) (h3 : vs.length ≤ 3) (hi : i < vs.length) (hv : volP vs[i] = true) (Q : Ex → St → Prop) (s1 : St)
    (q1 : ∀ s2 : St, s2.t 0 = .sl .plain vs.length (vl vs) → s2.t 1 = .int .u8 (x.toNat : Int) → s2.t 5 = .ptr 5 0 v5 → s2.h 5 = ⟨v5, true, true, false, bl (tabB vs)⟩ → s2.t 7 = .int .i64 i → s2.t 8 = .int .i64 ((1 + 9 * i : Nat) : Int) → Q (.exit 4) s2)
    (k0 : s1.t 0 = .sl .plain vs.length (vl vs)) (k1 : s1.t 1 = .int .u8 (x.toNat : Int)) (k5 : s1.t 5 = .ptr 5 0 v5) (kh : s1.h 5 = ⟨v5, true, true, false, bl (tabB vs)⟩) (k7 : s1.t 7 = .int .i64 i) (k8 : s1.t 8 = .int .i64 ((1 + 9 * i : Nat) : Int)) (k10 : s1.t 10 = .int .i64 0) :
    Wp (RCs Tryd.prog) (.loop m13_20) Q s1 := by
  obtain ⟨hnm, hb1, hb4, hin⟩ := volP_bl hv
  have hbl : (bl (tabB vs)).length = 32 := by rw [bl_length, tabB_length h3]
  have hi' : (i : Int) < vs.length := by omega
  have h2 : (0 : Nat) < 2 := by omega
  refine Wp_loop (fun m s => ∃ j, j ≤ 4 ∧ m = 4 - j ∧ s.t 0 = .sl .plain vs.length (vl vs) ∧ s.t 1 = .int .u8 (x.toNat : Int) ∧ s.t 5 = .ptr 5 0 v5 ∧ s.h 5 = ⟨v5, true, true, false, bl (tabB vs)⟩ ∧ s.t 7 = .int .i64 i ∧ s.t 8 = .int .i64 ((1 + 9 * i : Nat) : Int) ∧ s.t 10 = .int .i64 j) 4 ⟨0, by omega, rfl, k0, k1, k5, kh, k7, k8, k10⟩ ?_
  clear k0 k1 k5 kh k7 k8 k10
  rintro m s ⟨j, hj, rfl, k0, k1, k5, kh, k7, k8, k10⟩
  by_cases hjl : j < 4
  · have hjl' : (j : Int) < 4 := by omega
    have hat1 := at_bl (b := tabB vs) (k := 1 + 9 * i + j) (by rw [tabB_length h3]; omega)
    rw [tabB_sgn hi hjl] at hat1
    have hat2 := at_bl (b := tabB vs) (k := 1 + 9 * i + 5 + j) (by rw [tabB_length h3]; omega)
    rw [show 1 + 9 * i + 5 + j = 1 + 9 * i + (5 + j) by omega, tabB_blk hi hjl, show 1 + 9 * i + (5 + j) = 1 + 9 * i + 5 + j by omega] at hat2
    have hw : IntKind.i64.wrap (((1 + 9 * i : Nat) : Int) + (j : Int)) = ((1 + 9 * i + j : Nat) : Int) := by rw [IntKind.wrap_i64]; omega
    have hw5 : IntKind.i64.wrap (((1 + 9 * i : Nat) : Int) + 5) = ((1 + 9 * i + 5 : Nat) : Int) := by rw [IntKind.wrap_i64]; omega
    have hw5j : IntKind.i64.wrap (((1 + 9 * i + 5 : Nat) : Int) + (j : Int)) = ((1 + 9 * i + 5 + j : Nat) : Int) := by rw [IntKind.wrap_i64]; omega
    have hlt : ((1 + 9 * i + j : Nat) : Int) < 32 := by omega
    have hle : 1 + 9 * i + j ≤ 31 := by omega
    have hlt5 : ((1 + 9 * i + 5 + j : Nat) : Int) < 32 := by omega
    have hle5 : 1 + 9 * i + 5 + j ≤ 31 := by omega
    by_cases hjn : j < vs[i].name.length
    · have hjn' : (j : Int) < vs[i].name.length := by omega
      by_cases hjb : j < vs[i].blocks.length
      · have hjb' : (j : Int) < vs[i].blocks.length := by omega
        have eg : vs[i].blocks.getD j 0 = vs[i].blocks[j] := by simp [List.getD, hjb]
        rw [eg] at hat2
        have hx := u8_wrap (List.all_eq_true.1 hin _ (List.getElem_mem hjb))
        simp -implicitDefEqProofs (maxSteps := 2000000) only [k0, k1, k5, kh, k7, k8, k10, hjl', hjn, hjn', hjb, hjb', hi, hi', h2, drop_vl hi, vl_length, drop_il hjb, hx, hw, hw5, hw5j, hlt, hle, hlt5, hle5, hbl, hat1, hat2, m13_1, m13_2, m13_3, m13_4, m13_5, m13_6, m13_7, m13_8, m13_9, m13_10, m13_11, m13_12, m13_13, m13_14, m13_15, m13_16, m13_17, m13_18, m13_19, m13_20, m13_21, m13_22, m13_23, m13_24, m13_25, m13_26, m13_27, m13_28, m13_29, m13_30, m13_31, m13_32, m13_33, m13_34, m13_35, m13_36, m13_37, m13_r, m13_b, m13, wrap_nat (show j < 2 ^ 63 - 1 by omega), wk, act, asV, ↓reduceIte, Nat.reduceEqDiff, reduceCtorEq, Nat.reduceAdd, Nat.reduceLeDiff, Nat.reduceSub, Nat.reduceMul, List.reduceReplicate, Int.reduceEq, Int.reduceLT, Int.reduceLE, Int.reduceAdd, Int.reduceSub, Int.reduceMul, Nat.reduceLT, Int.reduceToNat]
        exact ⟨4 - (j + 1), by omega, j + 1, by omega, rfl, rfl⟩
      · have hjb' : ¬ (j : Int) < vs[i].blocks.length := by omega
        have eg : vs[i].blocks.getD j 0 = 0 := by simp [List.getD, List.getElem?_eq_none (Nat.not_lt.1 hjb)]
        rw [eg] at hat2
        have hat2' : List.take 1 (List.drop (1 + 9 * i + 5 + j) (bl (tabB vs))) = [.int .u8 0] := hat2
        simp -implicitDefEqProofs (maxSteps := 2000000) only [k0, k1, k5, kh, k7, k8, k10, hjl', hjn, hjn', hjb, hjb', hi, hi', h2, drop_vl hi, vl_length, hw, hw5, hw5j, hlt, hle, hlt5, hle5, hbl, hat1, hat2', m13_1, m13_2, m13_3, m13_4, m13_5, m13_6, m13_7, m13_8, m13_9, m13_10, m13_11, m13_12, m13_13, m13_14, m13_15, m13_16, m13_17, m13_18, m13_19, m13_20, m13_21, m13_22, m13_23, m13_24, m13_25, m13_26, m13_27, m13_28, m13_29, m13_30, m13_31, m13_32, m13_33, m13_34, m13_35, m13_36, m13_37, m13_r, m13_b, m13, wrap_nat (show j < 2 ^ 63 - 1 by omega), wk, act, asV, ↓reduceIte, Nat.reduceEqDiff, reduceCtorEq, Nat.reduceAdd, Nat.reduceLeDiff, Nat.reduceSub, Nat.reduceMul, List.reduceReplicate, Int.reduceEq, Int.reduceLT, Int.reduceLE, Int.reduceAdd, Int.reduceSub, Int.reduceMul, Nat.reduceLT, Int.reduceToNat]
        exact ⟨4 - (j + 1), by omega, j + 1, by omega, rfl, rfl⟩
    · have hjn' : ¬ (j : Int) < vs[i].name.length := by omega
      have en : vs[i].name.getD j 0 = 0 := by simp [List.getD, List.getElem?_eq_none (Nat.not_lt.1 hjn)]
      rw [en] at hat1
      have hat1' : List.take 1 (List.drop (1 + 9 * i + j) (bl (tabB vs))) = [.int .u8 0] := hat1
      by_cases hjb : j < vs[i].blocks.length
      · have hjb' : (j : Int) < vs[i].blocks.length := by omega
        have eg : vs[i].blocks.getD j 0 = vs[i].blocks[j] := by simp [List.getD, hjb]
        rw [eg] at hat2
        have hx := u8_wrap (List.all_eq_true.1 hin _ (List.getElem_mem hjb))
        simp -implicitDefEqProofs (maxSteps := 2000000) only [k0, k1, k5, kh, k7, k8, k10, hjl', hjn, hjn', hjb, hjb', hi, hi', h2, drop_vl hi, vl_length, drop_il hjb, hx, hw, hw5, hw5j, hlt, hle, hlt5, hle5, hbl, hat1', hat2, m13_1, m13_2, m13_3, m13_4, m13_5, m13_6, m13_7, m13_8, m13_9, m13_10, m13_11, m13_12, m13_13, m13_14, m13_15, m13_16, m13_17, m13_18, m13_19, m13_20, m13_21, m13_22, m13_23, m13_24, m13_25, m13_26, m13_27, m13_28, m13_29, m13_30, m13_31, m13_32, m13_33, m13_34, m13_35, m13_36, m13_37, m13_r, m13_b, m13, wrap_nat (show j < 2 ^ 63 - 1 by omega), wk, act, asV, ↓reduceIte, Nat.reduceEqDiff, reduceCtorEq, Nat.reduceAdd, Nat.reduceLeDiff, Nat.reduceSub, Nat.reduceMul, List.reduceReplicate, Int.reduceEq, Int.reduceLT, Int.reduceLE, Int.reduceAdd, Int.reduceSub, Int.reduceMul, Nat.reduceLT, Int.reduceToNat]
        exact ⟨4 - (j + 1), by omega, j + 1, by omega, rfl, rfl⟩
      · have hjb' : ¬ (j : Int) < vs[i].blocks.length := by omega
        have eg : vs[i].blocks.getD j 0 = 0 := by simp [List.getD, List.getElem?_eq_none (Nat.not_lt.1 hjb)]
        rw [eg] at hat2
        have hat2' : List.take 1 (List.drop (1 + 9 * i + 5 + j) (bl (tabB vs))) = [.int .u8 0] := hat2
        simp -implicitDefEqProofs (maxSteps := 2000000) only [k0, k1, k5, kh, k7, k8, k10, hjl', hjn, hjn', hjb, hjb', hi, hi', h2, drop_vl hi, vl_length, hw, hw5, hw5j, hlt, hle, hlt5, hle5, hbl, hat1', hat2', m13_1, m13_2, m13_3, m13_4, m13_5, m13_6, m13_7, m13_8, m13_9, m13_10, m13_11, m13_12, m13_13, m13_14, m13_15, m13_16, m13_17, m13_18, m13_19, m13_20, m13_21, m13_22, m13_23, m13_24, m13_25, m13_26, m13_27, m13_28, m13_29, m13_30, m13_31, m13_32, m13_33, m13_34, m13_35, m13_36, m13_37, m13_r, m13_b, m13, wrap_nat (show j < 2 ^ 63 - 1 by omega), wk, act, asV, ↓reduceIte, Nat.reduceEqDiff, reduceCtorEq, Nat.reduceAdd, Nat.reduceLeDiff, Nat.reduceSub, Nat.reduceMul, List.reduceReplicate, Int.reduceEq, Int.reduceLT, Int.reduceLE, Int.reduceAdd, Int.reduceSub, Int.reduceMul, Nat.reduceLT, Int.reduceToNat]
        exact ⟨4 - (j + 1), by omega, j + 1, by omega, rfl, rfl⟩
  · have hjl' : ¬ (j : Int) < 4 := by omega
    simp -implicitDefEqProofs (maxSteps := 2000000) only [k10, hjl', m13_1, m13_2, m13_3, m13_4, m13_5, m13_6, m13_7, m13_8, m13_9, m13_10, m13_11, m13_12, m13_13, m13_14, m13_15, m13_16, m13_17, m13_18, m13_19, m13_20, m13_21, m13_22, m13_23, m13_24, m13_25, m13_26, m13_27, m13_28, m13_29, m13_30, m13_31, m13_32, m13_33, m13_34, m13_35, m13_36, m13_37, m13_r, m13_b, m13, wk, act, asV, ↓reduceIte, Nat.reduceEqDiff, reduceCtorEq, Nat.reduceAdd, Nat.reduceLeDiff, Nat.reduceSub, Nat.reduceMul, List.reduceReplicate, Int.reduceEq, Int.reduceLT, Int.reduceLE, Int.reduceAdd, Int.reduceSub, Int.reduceMul, Nat.reduceLT, Int.reduceToNat]
    exact q1 _ (by simp -implicitDefEqProofs (maxSteps := 2000000) only [k0, wk, act, asV, ↓reduceIte, Nat.reduceEqDiff, reduceCtorEq, Nat.reduceAdd, Nat.reduceLeDiff, Nat.reduceSub, Nat.reduceMul, List.reduceReplicate, Int.reduceEq, Int.reduceLT, Int.reduceLE, Int.reduceAdd, Int.reduceSub, Int.reduceMul, Nat.reduceLT, Int.reduceToNat]) (by simp -implicitDefEqProofs (maxSteps := 2000000) only [k1, wk, act, asV, ↓reduceIte, Nat.reduceEqDiff, reduceCtorEq, Nat.reduceAdd, Nat.reduceLeDiff, Nat.reduceSub, Nat.reduceMul, List.reduceReplicate, Int.reduceEq, Int.reduceLT, Int.reduceLE, Int.reduceAdd, Int.reduceSub, Int.reduceMul, Nat.reduceLT, Int.reduceToNat]) (by simp -implicitDefEqProofs (maxSteps := 2000000) only [k5, wk, act, asV, ↓reduceIte, Nat.reduceEqDiff, reduceCtorEq, Nat.reduceAdd, Nat.reduceLeDiff, Nat.reduceSub, Nat.reduceMul, List.reduceReplicate, Int.reduceEq, Int.reduceLT, Int.reduceLE, Int.reduceAdd, Int.reduceSub, Int.reduceMul, Nat.reduceLT, Int.reduceToNat]) (by simp -implicitDefEqProofs (maxSteps := 2000000) only [kh, wk, act, asV, ↓reduceIte, Nat.reduceEqDiff, reduceCtorEq, Nat.reduceAdd, Nat.reduceLeDiff, Nat.reduceSub, Nat.reduceMul, List.reduceReplicate, Int.reduceEq, Int.reduceLT, Int.reduceLE, Int.reduceAdd, Int.reduceSub, Int.reduceMul, Nat.reduceLT, Int.reduceToNat]) (by simp -implicitDefEqProofs (maxSteps := 2000000) only [k7, wk, act, asV, ↓reduceIte, Nat.reduceEqDiff, reduceCtorEq, Nat.reduceAdd, Nat.reduceLeDiff, Nat.reduceSub, Nat.reduceMul, List.reduceReplicate, Int.reduceEq, Int.reduceLT, Int.reduceLE, Int.reduceAdd, Int.reduceSub, Int.reduceMul, Nat.reduceLT, Int.reduceToNat]) (by simp -implicitDefEqProofs (maxSteps := 2000000) only [k8, wk, act, asV, ↓reduceIte, Nat.reduceEqDiff, reduceCtorEq, Nat.reduceAdd, Nat.reduceLeDiff, Nat.reduceSub, Nat.reduceMul, List.reduceReplicate, Int.reduceEq, Int.reduceLT, Int.reduceLE, Int.reduceAdd, Int.reduceSub, Int.reduceMul, Nat.reduceLT, Int.reduceToNat])

theorem isB_one {vs : List Vol} (h3 : vs.length ≤ 3) {p : Nat} (hp : 28 ≤ p) (hp' : p < 32) : isB ((tabB vs).set p 1) = false := by
  refine isB_no fun h => ?_
  obtain ⟨h1, h2, h4⟩ := h
  have hl := goodV_len h2
  have e : (tabB (saidV ((tabB vs).set p 1))).getD p 0 = 0 := tabB_out (by omega)
  rw [h4] at e
  have : ((tabB vs).set p 1).getD p 0 = 1 := by
    have := tabB_length h3
    simp [List.getD, List.getElem?_set_self (show p < (tabB vs).length by omega)]
  rw [this] at e
  exact absurd e (by decide)

theorem tablePlaces (vs : List Vol) (x : UInt8) (hv : VsOk vs) : RC Tryd.prog 13 [.sl .plain vs.length (vl vs), .int .u8 (x.toNat : Int)] [.bool true] := by
  refine RC.of_wp c13 rfl ?_
  have cr := goodR_ok .plain (by decide) vs hv
  by_cases hg : goodV vs = true
  · rw [hg] at cr
    have h3 := goodV_len hg
    have gp := goodV_P hg
    have c1 := encT_ok .plain (by decide) vs hv
    rw [show tabR vs = tabB vs from if_pos hg, show tabE vs = 0 from if_pos hg] at c1
    have hbl : (bl (tabB vs)).length = 32 := by rw [bl_length, tabB_length h3]
    have t32 : List.take 32 (bl (tabB vs)) = bl (tabB vs) := List.take_of_length_le (by omega)
    have d32 : List.drop 32 (bl (tabB vs)) = [] := List.drop_of_length_le (by omega)
    have hat0 : List.take 1 (bl (tabB vs)) = [.int .u8 (vs.length : Int)] := by
      have := at_bl (b := tabB vs) (k := 0) (by rw [tabB_length h3]; omega)
      rw [List.drop_zero] at this
      rw [this]
      have e : ((tabB vs).getD 0 0).toNat = vs.length := by
        show (u8 vs.length).toNat = vs.length
        rw [u8_toNat]; omega
      rw [e]
    have hwn : IntKind.i64.wrap (vs.length : Int) = vs.length := by rw [IntKind.wrap_i64]; omega
    repeat' (first | simp -implicitDefEqProofs (maxSteps := 2000000) only [m13_1, m13_2, m13_3, m13_4, m13_5, m13_6, m13_7, m13_8, m13_9, m13_10, m13_11, m13_12, m13_13, m13_14, m13_15, m13_16, m13_17, m13_18, m13_19, m13_20, m13_21, m13_22, m13_23, m13_24, m13_25, m13_26, m13_27, m13_28, m13_29, m13_30, m13_31, m13_32, m13_33, m13_34, m13_35, m13_36, m13_37, m13_r, m13_b, m13, hbl, t32, d32, hat0, hwn, bl_scal, bl_all, wk, act, asV, ↓reduceIte, Nat.reduceEqDiff, reduceCtorEq, Nat.reduceAdd, Nat.reduceLeDiff, Nat.reduceSub, Nat.reduceMul, List.reduceReplicate, Int.reduceEq, Int.reduceLT, Int.reduceLE, Int.reduceAdd, Int.reduceSub, Int.reduceMul, Nat.reduceLT, Int.reduceToNat] | ((with_reducible refine CallL.gate ?_); refine CallL.of (by simp -implicitDefEqProofs (maxSteps := 2000000) only [m13_1, m13_2, m13_3, m13_4, m13_5, m13_6, m13_7, m13_8, m13_9, m13_10, m13_11, m13_12, m13_13, m13_14, m13_15, m13_16, m13_17, m13_18, m13_19, m13_20, m13_21, m13_22, m13_23, m13_24, m13_25, m13_26, m13_27, m13_28, m13_29, m13_30, m13_31, m13_32, m13_33, m13_34, m13_35, m13_36, m13_37, m13_r, m13_b, m13, hbl, t32, d32, hat0, hwn, bl_scal, bl_all, wk, act, asV, ↓reduceIte, Nat.reduceEqDiff, reduceCtorEq, Nat.reduceAdd, Nat.reduceLeDiff, Nat.reduceSub, Nat.reduceMul, List.reduceReplicate, Int.reduceEq, Int.reduceLT, Int.reduceLE, Int.reduceAdd, Int.reduceSub, Int.reduceMul, Nat.reduceLT, Int.reduceToNat]; first | done | (with_reducible rfl)) (by first | exact cr | exact c1 | exact wakesV_ok) (by simp -implicitDefEqProofs (maxSteps := 2000000) only [m13_1, m13_2, m13_3, m13_4, m13_5, m13_6, m13_7, m13_8, m13_9, m13_10, m13_11, m13_12, m13_13, m13_14, m13_15, m13_16, m13_17, m13_18, m13_19, m13_20, m13_21, m13_22, m13_23, m13_24, m13_25, m13_26, m13_27, m13_28, m13_29, m13_30, m13_31, m13_32, m13_33, m13_34, m13_35, m13_36, m13_37, m13_r, m13_b, m13, hbl, t32, d32, hat0, hwn, bl_scal, bl_all, wk, act, asV, ↓reduceIte, Nat.reduceEqDiff, reduceCtorEq, Nat.reduceAdd, Nat.reduceLeDiff, Nat.reduceSub, Nat.reduceMul, List.reduceReplicate, Int.reduceEq, Int.reduceLT, Int.reduceLE, Int.reduceAdd, Int.reduceSub, Int.reduceMul, Nat.reduceLT, Int.reduceToNat]) ?_) | ((with_reducible refine CallP.gate ?_); refine CallP.of (by simp -implicitDefEqProofs (maxSteps := 2000000) only [m13_1, m13_2, m13_3, m13_4, m13_5, m13_6, m13_7, m13_8, m13_9, m13_10, m13_11, m13_12, m13_13, m13_14, m13_15, m13_16, m13_17, m13_18, m13_19, m13_20, m13_21, m13_22, m13_23, m13_24, m13_25, m13_26, m13_27, m13_28, m13_29, m13_30, m13_31, m13_32, m13_33, m13_34, m13_35, m13_36, m13_37, m13_r, m13_b, m13, hbl, t32, d32, hat0, hwn, bl_scal, bl_all, wk, act, asV, ↓reduceIte, Nat.reduceEqDiff, reduceCtorEq, Nat.reduceAdd, Nat.reduceLeDiff, Nat.reduceSub, Nat.reduceMul, List.reduceReplicate, Int.reduceEq, Int.reduceLT, Int.reduceLE, Int.reduceAdd, Int.reduceSub, Int.reduceMul, Nat.reduceLT, Int.reduceToNat]; first | done | (with_reducible rfl)) (by first | exact cr | exact c1 | exact wakesV_ok) (by simp -implicitDefEqProofs (maxSteps := 2000000) only [m13_1, m13_2, m13_3, m13_4, m13_5, m13_6, m13_7, m13_8, m13_9, m13_10, m13_11, m13_12, m13_13, m13_14, m13_15, m13_16, m13_17, m13_18, m13_19, m13_20, m13_21, m13_22, m13_23, m13_24, m13_25, m13_26, m13_27, m13_28, m13_29, m13_30, m13_31, m13_32, m13_33, m13_34, m13_35, m13_36, m13_37, m13_r, m13_b, m13, hbl, t32, d32, hat0, hwn, bl_scal, bl_all, wk, act, asV, ↓reduceIte, Nat.reduceEqDiff, reduceCtorEq, Nat.reduceAdd, Nat.reduceLeDiff, Nat.reduceSub, Nat.reduceMul, List.reduceReplicate, Int.reduceEq, Int.reduceLT, Int.reduceLE, Int.reduceAdd, Int.reduceSub, Int.reduceMul, Nat.reduceLT, Int.reduceToNat]) ?_))
    refine Wp_loop (fun m s => ∃ i, i ≤ 3 ∧ m = 3 - i ∧ s.t 0 = .sl .plain vs.length (vl vs) ∧ s.t 1 = .int .u8 (x.toNat : Int) ∧ s.t 5 = .ptr 5 0 _ ∧ s.h 5 = ⟨_, true, true, false, bl (tabB vs)⟩ ∧ s.t 7 = .int .i64 i) 3 ⟨0, by omega, rfl, rfl, rfl, rfl, rfl, rfl⟩ ?_
    rintro m s ⟨i, hi, rfl, k0, k1, k5, kh, k7⟩
    by_cases hi3 : i < 3
    · have hi3' : (i : Int) < 3 := by omega
      have w9 : IntKind.i64.wrap (9 * (i : Int)) = ((9 * i : Nat) : Int) := by rw [IntKind.wrap_i64]; omega
      have w1 : IntKind.i64.wrap (1 + ((9 * i : Nat) : Int)) = ((1 + 9 * i : Nat) : Int) := by rw [IntKind.wrap_i64]; omega
      by_cases hin : i < vs.length
      · have hin' : ¬ (vs.length : Int) ≤ i := by omega
        have hin2 : (i : Int) < vs.length := by omega
        have h2 : (0 : Nat) < 2 := by omega
        have hvi := gp.at hin
        obtain ⟨hnm, hb1, hb4, hinb⟩ := volP_bl hvi
        have w4 : IntKind.i64.wrap (((1 + 9 * i : Nat) : Int) + 4) = ((1 + 9 * i + 4 : Nat) : Int) := by rw [IntKind.wrap_i64]; omega
        have hat4 : List.take 1 (List.drop (1 + 9 * i + 4) (bl (tabB vs))) = [.int .u8 ((vs[i].blocks.length : Nat) : Int)] := by
          rw [at_bl (by rw [tabB_length h3]; omega), tabB_cnt hin, u8_toNat, Nat.mod_eq_of_lt (by omega)]
        have hwl : IntKind.i64.wrap ((vs[i].blocks.length : Nat) : Int) = (vs[i].blocks.length : Nat) := by rw [IntKind.wrap_i64]; omega
        have hlt4 : ((1 + 9 * i + 4 : Nat) : Int) < 32 := by omega
        have hle4 : 1 + 9 * i + 4 ≤ 31 := by omega
        have hle4' : 1 + 9 * i ≤ 27 := by omega
        have cf := find_ok .plain (by decide) vs[i].name vs hv.len
        rw [find_self_nodup hin gp.nms] at cf
        simp -implicitDefEqProofs (maxSteps := 2000000) only [k0, k1, k5, kh, k7, hi3', w9, w1, hin', wk, act, asV, ↓reduceIte, Nat.reduceEqDiff, reduceCtorEq, Nat.reduceAdd, Nat.reduceLeDiff, Nat.reduceSub, Nat.reduceMul, List.reduceReplicate, Int.reduceEq, Int.reduceLT, Int.reduceLE, Int.reduceAdd, Int.reduceSub, Int.reduceMul, Nat.reduceLT, Int.reduceToNat]
        refine placesB vs x i _ h3 hin hvi _ _ ?_ (by simp -implicitDefEqProofs (maxSteps := 2000000) only [k0, wk, act, asV, ↓reduceIte, Nat.reduceEqDiff, reduceCtorEq, Nat.reduceAdd, Nat.reduceLeDiff, Nat.reduceSub, Nat.reduceMul, List.reduceReplicate, Int.reduceEq, Int.reduceLT, Int.reduceLE, Int.reduceAdd, Int.reduceSub, Int.reduceMul, Nat.reduceLT, Int.reduceToNat]) (by simp -implicitDefEqProofs (maxSteps := 2000000) only [k1, wk, act, asV, ↓reduceIte, Nat.reduceEqDiff, reduceCtorEq, Nat.reduceAdd, Nat.reduceLeDiff, Nat.reduceSub, Nat.reduceMul, List.reduceReplicate, Int.reduceEq, Int.reduceLT, Int.reduceLE, Int.reduceAdd, Int.reduceSub, Int.reduceMul, Nat.reduceLT, Int.reduceToNat]) (by simp -implicitDefEqProofs (maxSteps := 2000000) only [k5, wk, act, asV, ↓reduceIte, Nat.reduceEqDiff, reduceCtorEq, Nat.reduceAdd, Nat.reduceLeDiff, Nat.reduceSub, Nat.reduceMul, List.reduceReplicate, Int.reduceEq, Int.reduceLT, Int.reduceLE, Int.reduceAdd, Int.reduceSub, Int.reduceMul, Nat.reduceLT, Int.reduceToNat]; first | done | rfl) (by simp -implicitDefEqProofs (maxSteps := 2000000) only [kh, wk, act, asV, ↓reduceIte, Nat.reduceEqDiff, reduceCtorEq, Nat.reduceAdd, Nat.reduceLeDiff, Nat.reduceSub, Nat.reduceMul, List.reduceReplicate, Int.reduceEq, Int.reduceLT, Int.reduceLE, Int.reduceAdd, Int.reduceSub, Int.reduceMul, Nat.reduceLT, Int.reduceToNat]; first | done | rfl) (by simp -implicitDefEqProofs (maxSteps := 2000000) only [k7, wk, act, asV, ↓reduceIte, Nat.reduceEqDiff, reduceCtorEq, Nat.reduceAdd, Nat.reduceLeDiff, Nat.reduceSub, Nat.reduceMul, List.reduceReplicate, Int.reduceEq, Int.reduceLT, Int.reduceLE, Int.reduceAdd, Int.reduceSub, Int.reduceMul, Nat.reduceLT, Int.reduceToNat]) (by simp -implicitDefEqProofs (maxSteps := 2000000) only [wk, act, asV, ↓reduceIte, Nat.reduceEqDiff, reduceCtorEq, Nat.reduceAdd, Nat.reduceLeDiff, Nat.reduceSub, Nat.reduceMul, List.reduceReplicate, Int.reduceEq, Int.reduceLT, Int.reduceLE, Int.reduceAdd, Int.reduceSub, Int.reduceMul, Nat.reduceLT, Int.reduceToNat]) (by simp -implicitDefEqProofs (maxSteps := 2000000) only [wk, act, asV, ↓reduceIte, Nat.reduceEqDiff, reduceCtorEq, Nat.reduceAdd, Nat.reduceLeDiff, Nat.reduceSub, Nat.reduceMul, List.reduceReplicate, Int.reduceEq, Int.reduceLT, Int.reduceLE, Int.reduceAdd, Int.reduceSub, Int.reduceMul, Nat.reduceLT, Int.reduceToNat])
        intro s2 p0 p1 p5 ph p7 p8
        repeat' (first | simp -implicitDefEqProofs (maxSteps := 2000000) only [p0, p1, p5, ph, p7, p8, w4, hat4, hwl, hlt4, hle4, hle4', hbl, hin, hin2, h2, drop_vl hin, vl_length, wrap_nat (show i < 2 ^ 63 - 1 by omega), wk, act, asV, ↓reduceIte, Nat.reduceEqDiff, reduceCtorEq, Nat.reduceAdd, Nat.reduceLeDiff, Nat.reduceSub, Nat.reduceMul, List.reduceReplicate, Int.reduceEq, Int.reduceLT, Int.reduceLE, Int.reduceAdd, Int.reduceSub, Int.reduceMul, Nat.reduceLT, Int.reduceToNat] | ((with_reducible refine CallL.gate ?_); refine CallL.of (by simp -implicitDefEqProofs (maxSteps := 2000000) only [p0, p1, p5, ph, p7, p8, w4, hat4, hwl, hlt4, hle4, hle4', hbl, hin, hin2, h2, drop_vl hin, vl_length, wrap_nat (show i < 2 ^ 63 - 1 by omega), wk, act, asV, ↓reduceIte, Nat.reduceEqDiff, reduceCtorEq, Nat.reduceAdd, Nat.reduceLeDiff, Nat.reduceSub, Nat.reduceMul, List.reduceReplicate, Int.reduceEq, Int.reduceLT, Int.reduceLE, Int.reduceAdd, Int.reduceSub, Int.reduceMul, Nat.reduceLT, Int.reduceToNat]; first | done | (with_reducible rfl)) (by first | exact cf) (by simp -implicitDefEqProofs (maxSteps := 2000000) only [p0, p1, p5, ph, p7, p8, w4, hat4, hwl, hlt4, hle4, hle4', hbl, hin, hin2, h2, drop_vl hin, vl_length, wrap_nat (show i < 2 ^ 63 - 1 by omega), wk, act, asV, ↓reduceIte, Nat.reduceEqDiff, reduceCtorEq, Nat.reduceAdd, Nat.reduceLeDiff, Nat.reduceSub, Nat.reduceMul, List.reduceReplicate, Int.reduceEq, Int.reduceLT, Int.reduceLE, Int.reduceAdd, Int.reduceSub, Int.reduceMul, Nat.reduceLT, Int.reduceToNat]) ?_) | ((with_reducible refine CallP.gate ?_); refine CallP.of (by simp -implicitDefEqProofs (maxSteps := 2000000) only [p0, p1, p5, ph, p7, p8, w4, hat4, hwl, hlt4, hle4, hle4', hbl, hin, hin2, h2, drop_vl hin, vl_length, wrap_nat (show i < 2 ^ 63 - 1 by omega), wk, act, asV, ↓reduceIte, Nat.reduceEqDiff, reduceCtorEq, Nat.reduceAdd, Nat.reduceLeDiff, Nat.reduceSub, Nat.reduceMul, List.reduceReplicate, Int.reduceEq, Int.reduceLT, Int.reduceLE, Int.reduceAdd, Int.reduceSub, Int.reduceMul, Nat.reduceLT, Int.reduceToNat]; first | done | (with_reducible rfl)) (by first | exact cf) (by simp -implicitDefEqProofs (maxSteps := 2000000) only [p0, p1, p5, ph, p7, p8, w4, hat4, hwl, hlt4, hle4, hle4', hbl, hin, hin2, h2, drop_vl hin, vl_length, wrap_nat (show i < 2 ^ 63 - 1 by omega), wk, act, asV, ↓reduceIte, Nat.reduceEqDiff, reduceCtorEq, Nat.reduceAdd, Nat.reduceLeDiff, Nat.reduceSub, Nat.reduceMul, List.reduceReplicate, Int.reduceEq, Int.reduceLT, Int.reduceLE, Int.reduceAdd, Int.reduceSub, Int.reduceMul, Nat.reduceLT, Int.reduceToNat]) ?_))
        first | done | exact ⟨3 - (i + 1), by omega, i + 1, by omega, rfl, rfl⟩
      · have hin' : (vs.length : Int) ≤ i := by omega
        simp -implicitDefEqProofs (maxSteps := 2000000) only [k0, k1, k5, kh, k7, hi3', w9, w1, hin', wk, act, asV, ↓reduceIte, Nat.reduceEqDiff, reduceCtorEq, Nat.reduceAdd, Nat.reduceLeDiff, Nat.reduceSub, Nat.reduceMul, List.reduceReplicate, Int.reduceEq, Int.reduceLT, Int.reduceLE, Int.reduceAdd, Int.reduceSub, Int.reduceMul, Nat.reduceLT, Int.reduceToNat]
        refine placesZ vs x i _ h3 (by omega) hi3 _ _ ?_ (by simp -implicitDefEqProofs (maxSteps := 2000000) only [k0, wk, act, asV, ↓reduceIte, Nat.reduceEqDiff, reduceCtorEq, Nat.reduceAdd, Nat.reduceLeDiff, Nat.reduceSub, Nat.reduceMul, List.reduceReplicate, Int.reduceEq, Int.reduceLT, Int.reduceLE, Int.reduceAdd, Int.reduceSub, Int.reduceMul, Nat.reduceLT, Int.reduceToNat]) (by simp -implicitDefEqProofs (maxSteps := 2000000) only [k1, wk, act, asV, ↓reduceIte, Nat.reduceEqDiff, reduceCtorEq, Nat.reduceAdd, Nat.reduceLeDiff, Nat.reduceSub, Nat.reduceMul, List.reduceReplicate, Int.reduceEq, Int.reduceLT, Int.reduceLE, Int.reduceAdd, Int.reduceSub, Int.reduceMul, Nat.reduceLT, Int.reduceToNat]) (by simp -implicitDefEqProofs (maxSteps := 2000000) only [k5, wk, act, asV, ↓reduceIte, Nat.reduceEqDiff, reduceCtorEq, Nat.reduceAdd, Nat.reduceLeDiff, Nat.reduceSub, Nat.reduceMul, List.reduceReplicate, Int.reduceEq, Int.reduceLT, Int.reduceLE, Int.reduceAdd, Int.reduceSub, Int.reduceMul, Nat.reduceLT, Int.reduceToNat]; first | done | rfl) (by simp -implicitDefEqProofs (maxSteps := 2000000) only [kh, wk, act, asV, ↓reduceIte, Nat.reduceEqDiff, reduceCtorEq, Nat.reduceAdd, Nat.reduceLeDiff, Nat.reduceSub, Nat.reduceMul, List.reduceReplicate, Int.reduceEq, Int.reduceLT, Int.reduceLE, Int.reduceAdd, Int.reduceSub, Int.reduceMul, Nat.reduceLT, Int.reduceToNat]; first | done | rfl) (by simp -implicitDefEqProofs (maxSteps := 2000000) only [k7, wk, act, asV, ↓reduceIte, Nat.reduceEqDiff, reduceCtorEq, Nat.reduceAdd, Nat.reduceLeDiff, Nat.reduceSub, Nat.reduceMul, List.reduceReplicate, Int.reduceEq, Int.reduceLT, Int.reduceLE, Int.reduceAdd, Int.reduceSub, Int.reduceMul, Nat.reduceLT, Int.reduceToNat]) (by simp -implicitDefEqProofs (maxSteps := 2000000) only [wk, act, asV, ↓reduceIte, Nat.reduceEqDiff, reduceCtorEq, Nat.reduceAdd, Nat.reduceLeDiff, Nat.reduceSub, Nat.reduceMul, List.reduceReplicate, Int.reduceEq, Int.reduceLT, Int.reduceLE, Int.reduceAdd, Int.reduceSub, Int.reduceMul, Nat.reduceLT, Int.reduceToNat]) (by simp -implicitDefEqProofs (maxSteps := 2000000) only [wk, act, asV, ↓reduceIte, Nat.reduceEqDiff, reduceCtorEq, Nat.reduceAdd, Nat.reduceLeDiff, Nat.reduceSub, Nat.reduceMul, List.reduceReplicate, Int.reduceEq, Int.reduceLT, Int.reduceLE, Int.reduceAdd, Int.reduceSub, Int.reduceMul, Nat.reduceLT, Int.reduceToNat])
        intro s2 p0 p1 p5 ph p7
        simp -implicitDefEqProofs (maxSteps := 2000000) only [p0, p1, p5, ph, p7, wrap_nat (show i < 2 ^ 63 - 1 by omega), wk, act, asV, ↓reduceIte, Nat.reduceEqDiff, reduceCtorEq, Nat.reduceAdd, Nat.reduceLeDiff, Nat.reduceSub, Nat.reduceMul, List.reduceReplicate, Int.reduceEq, Int.reduceLT, Int.reduceLE, Int.reduceAdd, Int.reduceSub, Int.reduceMul, Nat.reduceLT, Int.reduceToNat]
        first | done | exact ⟨3 - (i + 1), by omega, i + 1, by omega, rfl, rfl⟩
    · have hi3' : ¬ (i : Int) < 3 := by omega
      have hx := x.toNat_lt
      obtain ⟨r, hr⟩ : ∃ r, r = x.toNat % 4 := ⟨_, rfl⟩
      have hr4 : r < 4 := by omega
      have hrm : (x.toNat : Int).tmod 4 = (r : Int) := by rw [Int.tmod_eq_emod_of_nonneg (by omega)]; omega
      have hwr : IntKind.u8.wrap (28 + (r : Int)) = ((28 + r : Nat) : Int) := wrapN .u8 (by simp [vbits, IntKind.signed, IntKind.bits]; omega)
      have hlt : ((28 + r : Nat) : Int) < 32 := by omega
      have hle : 28 + r ≤ 31 := by omega
      have hst := bl_set' (b := tabB vs) (k := 28 + r) (by rw [tabB_length h3]; omega) 1
      have hst' : List.take (28 + r) (bl (tabB vs)) ++ [IV.int .u8 1] ++ List.drop (28 + r + 1) (bl (tabB vs)) = bl ((tabB vs).set (28 + r) 1) := hst
      have hno := isB_one h3 (p := 28 + r) (by omega) (by omega)
      obtain ⟨B, hB⟩ : ∃ B, B = (tabB vs).set (28 + r) 1 := ⟨_, rfl⟩
      have hBl : B.length = 32 := by rw [hB, List.length_set, tabB_length h3]
      have cd := decT_ok B hBl
      rw [← hB] at hno hst'
      rw [(decV_no hno).1, (decV_no hno).2, show ownV [] = .sl .full 0 [] from rfl] at cd
      have hbB : (bl B).length = 32 := by rw [bl_length, hBl]
      have tB : List.take 32 (bl B) = bl B := List.take_of_length_le (by omega)
      have dB : List.drop 32 (bl B) = [] := List.drop_of_length_le (by omega)
      repeat' (first | simp -implicitDefEqProofs (maxSteps := 2000000) only [k0, k1, k5, kh, k7, hi3', hrm, hwr, hlt, hle, hbl, hst', hbB, tB, dB, bl_scal, bl_all, wk, act, asV, ↓reduceIte, Nat.reduceEqDiff, reduceCtorEq, Nat.reduceAdd, Nat.reduceLeDiff, Nat.reduceSub, Nat.reduceMul, List.reduceReplicate, Int.reduceEq, Int.reduceLT, Int.reduceLE, Int.reduceAdd, Int.reduceSub, Int.reduceMul, Nat.reduceLT, Int.reduceToNat] | ((with_reducible refine CallL.gate ?_); refine CallL.of (by simp -implicitDefEqProofs (maxSteps := 2000000) only [k0, k1, k5, kh, k7, hi3', hrm, hwr, hlt, hle, hbl, hst', hbB, tB, dB, bl_scal, bl_all, wk, act, asV, ↓reduceIte, Nat.reduceEqDiff, reduceCtorEq, Nat.reduceAdd, Nat.reduceLeDiff, Nat.reduceSub, Nat.reduceMul, List.reduceReplicate, Int.reduceEq, Int.reduceLT, Int.reduceLE, Int.reduceAdd, Int.reduceSub, Int.reduceMul, Nat.reduceLT, Int.reduceToNat]; first | done | (with_reducible rfl)) (by first | exact cd | exact wakesV_ok) (by simp -implicitDefEqProofs (maxSteps := 2000000) only [k0, k1, k5, kh, k7, hi3', hrm, hwr, hlt, hle, hbl, hst', hbB, tB, dB, bl_scal, bl_all, wk, act, asV, ↓reduceIte, Nat.reduceEqDiff, reduceCtorEq, Nat.reduceAdd, Nat.reduceLeDiff, Nat.reduceSub, Nat.reduceMul, List.reduceReplicate, Int.reduceEq, Int.reduceLT, Int.reduceLE, Int.reduceAdd, Int.reduceSub, Int.reduceMul, Nat.reduceLT, Int.reduceToNat]) ?_) | ((with_reducible refine CallP.gate ?_); refine CallP.of (by simp -implicitDefEqProofs (maxSteps := 2000000) only [k0, k1, k5, kh, k7, hi3', hrm, hwr, hlt, hle, hbl, hst', hbB, tB, dB, bl_scal, bl_all, wk, act, asV, ↓reduceIte, Nat.reduceEqDiff, reduceCtorEq, Nat.reduceAdd, Nat.reduceLeDiff, Nat.reduceSub, Nat.reduceMul, List.reduceReplicate, Int.reduceEq, Int.reduceLT, Int.reduceLE, Int.reduceAdd, Int.reduceSub, Int.reduceMul, Nat.reduceLT, Int.reduceToNat]; first | done | (with_reducible rfl)) (by first | exact cd | exact wakesV_ok) (by simp -implicitDefEqProofs (maxSteps := 2000000) only [k0, k1, k5, kh, k7, hi3', hrm, hwr, hlt, hle, hbl, hst', hbB, tB, dB, bl_scal, bl_all, wk, act, asV, ↓reduceIte, Nat.reduceEqDiff, reduceCtorEq, Nat.reduceAdd, Nat.reduceLeDiff, Nat.reduceSub, Nat.reduceMul, List.reduceReplicate, Int.reduceEq, Int.reduceLT, Int.reduceLE, Int.reduceAdd, Int.reduceSub, Int.reduceMul, Nat.reduceLT, Int.reduceToNat]) ?_))
  · have hg' : goodV vs = false := by simpa using hg
    rw [hg'] at cr
    repeat' (first | simp -implicitDefEqProofs (maxSteps := 2000000) only [m13_1, m13_2, m13_3, m13_4, m13_5, m13_6, m13_7, m13_8, m13_9, m13_10, m13_11, m13_12, m13_13, m13_14, m13_15, m13_16, m13_17, m13_18, m13_19, m13_20, m13_21, m13_22, m13_23, m13_24, m13_25, m13_26, m13_27, m13_28, m13_29, m13_30, m13_31, m13_32, m13_33, m13_34, m13_35, m13_36, m13_37, m13_r, m13_b, m13, wk, act, asV, ↓reduceIte, Nat.reduceEqDiff, reduceCtorEq, Nat.reduceAdd, Nat.reduceLeDiff, Nat.reduceSub, Nat.reduceMul, List.reduceReplicate, Int.reduceEq, Int.reduceLT, Int.reduceLE, Int.reduceAdd, Int.reduceSub, Int.reduceMul, Nat.reduceLT, Int.reduceToNat] | ((with_reducible refine CallL.gate ?_); refine CallL.of (by simp -implicitDefEqProofs (maxSteps := 2000000) only [m13_1, m13_2, m13_3, m13_4, m13_5, m13_6, m13_7, m13_8, m13_9, m13_10, m13_11, m13_12, m13_13, m13_14, m13_15, m13_16, m13_17, m13_18, m13_19, m13_20, m13_21, m13_22, m13_23, m13_24, m13_25, m13_26, m13_27, m13_28, m13_29, m13_30, m13_31, m13_32, m13_33, m13_34, m13_35, m13_36, m13_37, m13_r, m13_b, m13, wk, act, asV, ↓reduceIte, Nat.reduceEqDiff, reduceCtorEq, Nat.reduceAdd, Nat.reduceLeDiff, Nat.reduceSub, Nat.reduceMul, List.reduceReplicate, Int.reduceEq, Int.reduceLT, Int.reduceLE, Int.reduceAdd, Int.reduceSub, Int.reduceMul, Nat.reduceLT, Int.reduceToNat]; first | done | (with_reducible rfl)) (by first | exact cr | exact wakesV_ok) (by simp -implicitDefEqProofs (maxSteps := 2000000) only [m13_1, m13_2, m13_3, m13_4, m13_5, m13_6, m13_7, m13_8, m13_9, m13_10, m13_11, m13_12, m13_13, m13_14, m13_15, m13_16, m13_17, m13_18, m13_19, m13_20, m13_21, m13_22, m13_23, m13_24, m13_25, m13_26, m13_27, m13_28, m13_29, m13_30, m13_31, m13_32, m13_33, m13_34, m13_35, m13_36, m13_37, m13_r, m13_b, m13, wk, act, asV, ↓reduceIte, Nat.reduceEqDiff, reduceCtorEq, Nat.reduceAdd, Nat.reduceLeDiff, Nat.reduceSub, Nat.reduceMul, List.reduceReplicate, Int.reduceEq, Int.reduceLT, Int.reduceLE, Int.reduceAdd, Int.reduceSub, Int.reduceMul, Nat.reduceLT, Int.reduceToNat]) ?_) | ((with_reducible refine CallP.gate ?_); refine CallP.of (by simp -implicitDefEqProofs (maxSteps := 2000000) only [m13_1, m13_2, m13_3, m13_4, m13_5, m13_6, m13_7, m13_8, m13_9, m13_10, m13_11, m13_12, m13_13, m13_14, m13_15, m13_16, m13_17, m13_18, m13_19, m13_20, m13_21, m13_22, m13_23, m13_24, m13_25, m13_26, m13_27, m13_28, m13_29, m13_30, m13_31, m13_32, m13_33, m13_34, m13_35, m13_36, m13_37, m13_r, m13_b, m13, wk, act, asV, ↓reduceIte, Nat.reduceEqDiff, reduceCtorEq, Nat.reduceAdd, Nat.reduceLeDiff, Nat.reduceSub, Nat.reduceMul, List.reduceReplicate, Int.reduceEq, Int.reduceLT, Int.reduceLE, Int.reduceAdd, Int.reduceSub, Int.reduceMul, Nat.reduceLT, Int.reduceToNat]; first | done | (with_reducible rfl)) (by first | exact cr | exact wakesV_ok) (by simp -implicitDefEqProofs (maxSteps := 2000000) only [m13_1, m13_2, m13_3, m13_4, m13_5, m13_6, m13_7, m13_8, m13_9, m13_10, m13_11, m13_12, m13_13, m13_14, m13_15, m13_16, m13_17, m13_18, m13_19, m13_20, m13_21, m13_22, m13_23, m13_24, m13_25, m13_26, m13_27, m13_28, m13_29, m13_30, m13_31, m13_32, m13_33, m13_34, m13_35, m13_36, m13_37, m13_r, m13_b, m13, wk, act, asV, ↓reduceIte, Nat.reduceEqDiff, reduceCtorEq, Nat.reduceAdd, Nat.reduceLeDiff, Nat.reduceSub, Nat.reduceMul, List.reduceReplicate, Int.reduceEq, Int.reduceLT, Int.reduceLE, Int.reduceAdd, Int.reduceSub, Int.reduceMul, Nat.reduceLT, Int.reduceToNat]) ?_))
end Go.Proofs.YtmblapgoimegkaaDoor
