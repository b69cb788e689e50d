/- The hash: the law ShaParts's first loop. -/
import Derived.Test.YtlbilkldjhhopaaS18
import Derived.Test.YtlbilkldjhhopaaE31
import Derived.Test.YtlbilkldjhhopaaM7
set_option linter.unusedSectionVars false
set_option linter.unusedVariables false
set_option linter.unusedSimpArgs false
set_option maxRecDepth 100000
set_option maxHeartbeats 8000000
namespace Go.Proofs.Ytlbilkldjhhopaa
open Go.RowKit

theorem parts_turn (M : List UInt8) (K : Nat) (hK : M.length = 64 * K) (hM : M.length ≤ 2 ^ 41) {ver : Nat} (Q : Ex → St → Prop) (s1 : St)
    (q1 : ∀ s2 : St, s2.t 6 = s1.t 6 → s2.h 6 = s1.h 6 → (∃ vq5, s2.t 8 = .ptr 8 0 vq5 ∧ s2.h 8 = ⟨vq5, true, true, false, wl (hashN M K).l⟩) → Q (.exit 0) s2)
    (k3 : s1.t 7 = .row 42 0 M.length 1 ver) (kh3 : s1.h 42 = ⟨ver, true, true, true, bl M⟩) (kq5 : ∃ vq5, s1.t 8 = .ptr 8 0 vq5 ∧ s1.h 8 = ⟨vq5, true, true, false, wl start8.l⟩) (k6 : s1.t 9 = .int .i64 0) :
    Wp (RCs Try.prog) (.loop m5_11) Q s1 := by
  refine Wp_loop (fun m s => ∃ j, j ≤ K ∧ m = K - j ∧ s.t 6 = s1.t 6 ∧ s.h 6 = s1.h 6 ∧ s.t 7 = .row 42 0 M.length 1 ver ∧ s.h 42 = ⟨ver, true, true, true, bl M⟩ ∧ s.t 9 = .int .i64 ((64 * j : Nat) : Int) ∧ ∃ vq5, s.t 8 = .ptr 8 0 vq5 ∧ s.h 8 = ⟨vq5, true, true, false, wl (hashN M j).l⟩) K ⟨0, by omega, rfl, rfl, rfl, k3, kh3, k6, kq5⟩ ?_
  clear k3 kh3 kq5 k6
  rintro m s ⟨j, hj, rfl, k2, kh2, k3, kh3, k6, vq5, kq5, khq5⟩
  have w64 : IntKind.i64.wrap (((64 * j : Nat) : Int) + 64) = ((64 * j + 64 : Nat) : Int) := by rw [IntKind.wrap_i64]; omega
  by_cases hjK : j < K
  · have hle : ((64 * j : Nat) : Int) < M.length := by omega
    have hle2 : 64 * j + 64 ≤ M.length := by omega
    have hle3 : 64 * j ≤ 64 * j + 64 := by omega
    have hsub : 64 * j + 64 - 64 * j = 64 := by omega
    obtain ⟨B, hB⟩ : ∃ B, B = (M.drop (64 * j)).take 64 := ⟨_, rfl⟩
    have hBl : B.length = 64 := by rw [hB, List.length_take, List.length_drop]; omega
    have hseg : List.take 64 (List.drop (64 * j) (bl M)) = bl B := by rw [bl_drop, bl_take, hB]
    have hbB : (bl B).length = 64 := by rw [bl_length, hBl]
    have tB : List.take 64 (bl B) = bl B := List.take_of_length_le (by omega)
    have dB : List.drop 64 (bl B) = [] := List.drop_of_length_le (by omega)
    have c1 := turn_ok (hashN M j) B hBl
    have l8 : (wl (hashN M j).l).length = 8 := rfl
    have t8 : List.take 8 (wl (hashN M j).l) = wl (hashN M j).l := rfl
    have d8 : List.drop 8 (wl (hashN M j).l) = [] := rfl
    have en : wl (hashN M (j + 1)).l = wl (turnH (hashN M j) B) := by rw [hashN_succ, ← hB]
    have lt : (wl (turnH (hashN M j) B)).length = 8 := by rw [wl_length]; exact turnH_length _ _
    have hmin : min 64 64 = 64 := rfl
    obtain ⟨h8, hh8⟩ : ∃ h, h = hashN M j := ⟨_, rfl⟩
    rw [← hh8] at c1 l8 t8 d8 en lt khq5
    obtain ⟨N, hN⟩ : ∃ N, N = turnH h8 B := ⟨_, rfl⟩
    rw [← hN] at c1 en lt
    have tN : List.take 8 (wl N) = wl N := List.take_of_length_le (by omega)
    have dN : List.drop 8 (wl N) = [] := List.drop_of_length_le (by omega)
    repeat' (first | simp -implicitDefEqProofs (maxSteps := 2000000) only [k2, kh2, k3, kh3, k6, kq5, khq5, w64, hle, hle2, hle3, hsub, hseg, hbB, tB, dB, l8, t8, d8, lt, tN, dN, hmin, bl_length, bl_scal, bl_pur, wl_scal, m5_1, m5_2, m5_3, m5_4, m5_5, m5_6, m5_7, m5_8, m5_9, m5_10, m5_11, m5_12, m5_13, m5_14, m5_15, m5_16, m5_17, m5_18, m5_19, m5_20, m5_21, m5_22, m5_23, m5_24, m5_25, m5_26, m5_27, m5_r, m5_b, m5, wk, act, asV, ↓reduceIte, Nat.reduceEqDiff, reduceCtorEq, Nat.reduceAdd, Nat.reduceLeDiff, Nat.reduceSub, Nat.reduceMul, List.reduceReplicate, Int.reduceEq, Int.reduceLT, Int.reduceLE, Int.reduceAdd, Int.reduceSub, Int.reduceMul, Nat.reduceLT, Int.reduceToNat] | ((with_reducible refine CallL.gate ?_); refine CallL.of (by simp -implicitDefEqProofs (maxSteps := 2000000) only [k2, kh2, k3, kh3, k6, kq5, khq5, w64, hle, hle2, hle3, hsub, hseg, hbB, tB, dB, l8, t8, d8, lt, tN, dN, hmin, bl_length, bl_scal, bl_pur, wl_scal, m5_1, m5_2, m5_3, m5_4, m5_5, m5_6, m5_7, m5_8, m5_9, m5_10, m5_11, m5_12, m5_13, m5_14, m5_15, m5_16, m5_17, m5_18, m5_19, m5_20, m5_21, m5_22, m5_23, m5_24, m5_25, m5_26, m5_27, m5_r, m5_b, m5, wk, act, asV, ↓reduceIte, Nat.reduceEqDiff, reduceCtorEq, Nat.reduceAdd, Nat.reduceLeDiff, Nat.reduceSub, Nat.reduceMul, List.reduceReplicate, Int.reduceEq, Int.reduceLT, Int.reduceLE, Int.reduceAdd, Int.reduceSub, Int.reduceMul, Nat.reduceLT, Int.reduceToNat]; first | done | (with_reducible rfl)) (by first | exact c1) (by simp -implicitDefEqProofs (maxSteps := 2000000) only [k2, kh2, k3, kh3, k6, kq5, khq5, w64, hle, hle2, hle3, hsub, hseg, hbB, tB, dB, l8, t8, d8, lt, tN, dN, hmin, bl_length, bl_scal, bl_pur, wl_scal, m5_1, m5_2, m5_3, m5_4, m5_5, m5_6, m5_7, m5_8, m5_9, m5_10, m5_11, m5_12, m5_13, m5_14, m5_15, m5_16, m5_17, m5_18, m5_19, m5_20, m5_21, m5_22, m5_23, m5_24, m5_25, m5_26, m5_27, m5_r, m5_b, m5, wk, act, asV, ↓reduceIte, Nat.reduceEqDiff, reduceCtorEq, Nat.reduceAdd, Nat.reduceLeDiff, Nat.reduceSub, Nat.reduceMul, List.reduceReplicate, Int.reduceEq, Int.reduceLT, Int.reduceLE, Int.reduceAdd, Int.reduceSub, Int.reduceMul, Nat.reduceLT, Int.reduceToNat]) ?_) | ((with_reducible refine CallP.gate ?_); refine CallP.of (by simp -implicitDefEqProofs (maxSteps := 2000000) only [k2, kh2, k3, kh3, k6, kq5, khq5, w64, hle, hle2, hle3, hsub, hseg, hbB, tB, dB, l8, t8, d8, lt, tN, dN, hmin, bl_length, bl_scal, bl_pur, wl_scal, m5_1, m5_2, m5_3, m5_4, m5_5, m5_6, m5_7, m5_8, m5_9, m5_10, m5_11, m5_12, m5_13, m5_14, m5_15, m5_16, m5_17, m5_18, m5_19, m5_20, m5_21, m5_22, m5_23, m5_24, m5_25, m5_26, m5_27, m5_r, m5_b, m5, wk, act, asV, ↓reduceIte, Nat.reduceEqDiff, reduceCtorEq, Nat.reduceAdd, Nat.reduceLeDiff, Nat.reduceSub, Nat.reduceMul, List.reduceReplicate, Int.reduceEq, Int.reduceLT, Int.reduceLE, Int.reduceAdd, Int.reduceSub, Int.reduceMul, Nat.reduceLT, Int.reduceToNat]; first | done | (with_reducible rfl)) (by first | exact c1) (by simp -implicitDefEqProofs (maxSteps := 2000000) only [k2, kh2, k3, kh3, k6, kq5, khq5, w64, hle, hle2, hle3, hsub, hseg, hbB, tB, dB, l8, t8, d8, lt, tN, dN, hmin, bl_length, bl_scal, bl_pur, wl_scal, m5_1, m5_2, m5_3, m5_4, m5_5, m5_6, m5_7, m5_8, m5_9, m5_10, m5_11, m5_12, m5_13, m5_14, m5_15, m5_16, m5_17, m5_18, m5_19, m5_20, m5_21, m5_22, m5_23, m5_24, m5_25, m5_26, m5_27, m5_r, m5_b, m5, wk, act, asV, ↓reduceIte, Nat.reduceEqDiff, reduceCtorEq, Nat.reduceAdd, Nat.reduceLeDiff, Nat.reduceSub, Nat.reduceMul, List.reduceReplicate, Int.reduceEq, Int.reduceLT, Int.reduceLE, Int.reduceAdd, Int.reduceSub, Int.reduceMul, Nat.reduceLT, Int.reduceToNat]) ?_))
    refine ⟨K - (j + 1), by omega, j + 1, by omega, rfl, ?_⟩
    rw [en, show 64 * (j + 1) = 64 * j + 64 by omega]
    exact ⟨rfl, vq5, rfl, rfl⟩
  · obtain rfl : j = K := by omega
    have hle : ¬ ((64 * j : Nat) : Int) < M.length := by omega
    simp -implicitDefEqProofs (maxSteps := 2000000) only [k3, kh3, k6, w64, hle, m5_1, m5_2, m5_3, m5_4, m5_5, m5_6, m5_7, m5_8, m5_9, m5_10, m5_11, m5_12, m5_13, m5_14, m5_15, m5_16, m5_17, m5_18, m5_19, m5_20, m5_21, m5_22, m5_23, m5_24, m5_25, m5_26, m5_27, m5_r, m5_b, m5, wk, act, asV, ↓reduceIte, Nat.reduceEqDiff, reduceCtorEq, Nat.reduceAdd, Nat.reduceLeDiff, Nat.reduceSub, Nat.reduceMul, List.reduceReplicate, Int.reduceEq, Int.reduceLT, Int.reduceLE, Int.reduceAdd, Int.reduceSub, Int.reduceMul, Nat.reduceLT, Int.reduceToNat]
    exact q1 _ (by simp -implicitDefEqProofs (maxSteps := 2000000) only [k2, wk, act, asV, ↓reduceIte, Nat.reduceEqDiff, reduceCtorEq, Nat.reduceAdd, Nat.reduceLeDiff, Nat.reduceSub, Nat.reduceMul, List.reduceReplicate, Int.reduceEq, Int.reduceLT, Int.reduceLE, Int.reduceAdd, Int.reduceSub, Int.reduceMul, Nat.reduceLT, Int.reduceToNat]) (by simp -implicitDefEqProofs (maxSteps := 2000000) only [kh2, wk, act, asV, ↓reduceIte, Nat.reduceEqDiff, reduceCtorEq, Nat.reduceAdd, Nat.reduceLeDiff, Nat.reduceSub, Nat.reduceMul, List.reduceReplicate, Int.reduceEq, Int.reduceLT, Int.reduceLE, Int.reduceAdd, Int.reduceSub, Int.reduceMul, Nat.reduceLT, Int.reduceToNat]) ⟨vq5, by simp -implicitDefEqProofs (maxSteps := 2000000) only [kq5, wk, act, asV, ↓reduceIte, Nat.reduceEqDiff, reduceCtorEq, Nat.reduceAdd, Nat.reduceLeDiff, Nat.reduceSub, Nat.reduceMul, List.reduceReplicate, Int.reduceEq, Int.reduceLT, Int.reduceLE, Int.reduceAdd, Int.reduceSub, Int.reduceMul, Nat.reduceLT, Int.reduceToNat], by simp -implicitDefEqProofs (maxSteps := 2000000) only [khq5, wk, act, asV, ↓reduceIte, Nat.reduceEqDiff, reduceCtorEq, Nat.reduceAdd, Nat.reduceLeDiff, Nat.reduceSub, Nat.reduceMul, List.reduceReplicate, Int.reduceEq, Int.reduceLT, Int.reduceLE, Int.reduceAdd, Int.reduceSub, Int.reduceMul, Nat.reduceLT, Int.reduceToNat]⟩
end Go.Proofs.Ytlbilkldjhhopaa
