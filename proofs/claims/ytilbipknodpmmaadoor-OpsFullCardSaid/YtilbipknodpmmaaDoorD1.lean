/- Of the table: the program's Decode. -/
import Derived.Test.YtilbipknodpmmaaDoorE31
import Derived.Test.YtilbipknodpmmaaDoorM6
import Derived.Test.YtilbipknodpmmaaDoorB9
import Derived.Test.YtilbipknodpmmaaDoorB6
set_option linter.unusedVariables false
set_option linter.unusedSimpArgs false
set_option maxRecDepth 100000
set_option maxHeartbeats 8000000
namespace Go.Proofs.YtilbipknodpmmaaDoor
open Go.RowKit

def boxV (s : St) (t r : Nat) (nm : List UInt8) (L : List Int) : Prop := ∃ v, s.t t = .ptr t 0 v ∧ ((L = [] ∧ s.h t = ⟨v, true, true, false, [.str nm, .sl .full 0 []]⟩) ∨ (L ≠ [] ∧ ∃ w, s.h t = ⟨v, true, true, false, [.str nm, .row r 0 L.length 1 w]⟩ ∧ s.h r = ⟨w, true, true, true, il L⟩))

theorem decT_in (b : List UInt8) (hb : b.length = 32) (a c i n v1 : Nat) (hac : a + c ≤ 32) (nm : List UInt8) (Q : Ex → St → Prop) (s1 : St)
    (q1 : ∀ s2 : St, s2.t 1 = .ptr 1 0 v1 → s2.h 1 = ⟨v1, true, true, false, bl b⟩ → s2.t 4 = s1.t 4 → s2.h 72 = s1.h 72 → s2.t 20 = .int .i64 n → s2.t 21 = .int .i64 i → boxV s2 10 66 nm (blksAt b a c) → Q (.exit 2) s2)
    (k1 : s1.t 1 = .ptr 1 0 v1) (kh1 : s1.h 1 = ⟨v1, true, true, false, bl b⟩) (k20 : s1.t 20 = .int .i64 n) (k21 : s1.t 21 = .int .i64 i) (k55 : s1.t 55 = .row 1 a c 1 v1) (k56 : s1.t 56 = .int .i64 c) (k57 : s1.t 57 = .int .i64 0) (kb : boxV s1 10 66 nm []) :
    Wp (RCs Tryd.prog) (.loop m28_9) Q s1 := by
  refine Wp_loop (fun m s => ∃ j, j ≤ c ∧ m = c - j ∧ s.t 1 = .ptr 1 0 v1 ∧ s.h 1 = ⟨v1, true, true, false, bl b⟩ ∧ s.t 4 = s1.t 4 ∧ s.h 72 = s1.h 72 ∧ s.t 20 = .int .i64 n ∧ s.t 21 = .int .i64 i ∧ s.t 55 = .row 1 a c 1 v1 ∧ s.t 56 = .int .i64 c ∧ s.t 57 = .int .i64 j ∧ boxV s 10 66 nm (blksAt b a j)) c ⟨0, by omega, rfl, k1, kh1, rfl, rfl, k20, k21, k55, k56, k57, kb⟩ ?_
  clear k1 kh1 k20 k21 k55 k56 k57 kb
  rintro m s ⟨j, hj, rfl, k1, kh1, k4, kh72, k20, k21, k55, k56, k57, v, k10, kb⟩
  by_cases hjl : j < c
  · have hjl' : (j : Int) < c := by omega
    have hat := at_bl (b := b) (k := a + j) (by omega)
    have hbl : (bl b).length = 32 := by rw [bl_length, hb]
    have hlt := (b.getD (a + j) 0).toNat_lt
    have hw : IntKind.i64.wrap ((b.getD (a + j) 0).toNat : Int) = (b.getD (a + j) 0).toNat := by rw [IntKind.wrap_i64]; omega
    obtain ⟨x, hx⟩ : ∃ x, x = b.getD (a + j) 0 := ⟨_, rfl⟩
    have es := blksAt_succ b a j
    rw [← hx] at hat hw es
    have hle : a + j + 1 ≤ 32 := by omega
    have hle' : a + j ≤ 31 := by omega
    have hsn := il_snoc (blksAt b a j) (x.toNat : Int)
    have hle2 : (blksAt b a j).length = j := blksAt_length ..
    rcases kb with ⟨e0, kh⟩ | ⟨e0, w, kh, kr⟩
    · have hr : roomy 1 8 = true := by decide
      simp -implicitDefEqProofs (maxSteps := 2000000) only [k1, kh1, k4, kh72, k20, k21, k55, k56, k57, k10, kh, hjl', hjl, hat, hbl, hw, hle, hle', hr, m28_1, m28_2, m28_3, m28_4, m28_5, m28_6, m28_7, m28_8, m28_9, m28_10, m28_11, m28_12, m28_13, m28_14, m28_15, m28_16, m28_17, m28_18, m28_19, m28_20, m28_21, m28_22, m28_23, m28_24, m28_25, m28_26, m28_27, m28_28, m28_29, m28_30, m28_r, m28_b, m28, wrap_nat (show j < 2 ^ 63 - 1 by omega), wk, act, asV, ↓reduceIte, Nat.reduceEqDiff, reduceCtorEq, Nat.reduceAdd, Nat.reduceLeDiff, Nat.reduceSub, Nat.reduceMul, List.reduceReplicate, Int.reduceEq, Int.reduceLT, Int.reduceLE, Int.reduceAdd, Int.reduceSub, Int.reduceMul, Nat.reduceLT, Int.reduceToNat]
      refine ⟨c - (j + 1), by omega, j + 1, by omega, rfl, rfl, v, by simp -implicitDefEqProofs (maxSteps := 2000000) only [k10, wk, act, asV, ↓reduceIte, Nat.reduceEqDiff, reduceCtorEq, Nat.reduceAdd, Nat.reduceLeDiff, Nat.reduceSub, Nat.reduceMul, List.reduceReplicate, Int.reduceEq, Int.reduceLT, Int.reduceLE, Int.reduceAdd, Int.reduceSub, Int.reduceMul, Nat.reduceLT, Int.reduceToNat], .inr ⟨by rw [es]; simp, ?_⟩⟩
      rw [es, e0]
      exact ⟨_, rfl, rfl⟩
    · have hr : roomy (j + 1) 8 = true := roomy8 (by omega)
      rw [hle2] at kh
      simp -implicitDefEqProofs (maxSteps := 2000000) only [k1, kh1, k4, kh72, k20, k21, k55, k56, k57, k10, kh, kr, hjl', hjl, hat, hbl, hw, hle, hle', hr, hle2, il_length, m28_1, m28_2, m28_3, m28_4, m28_5, m28_6, m28_7, m28_8, m28_9, m28_10, m28_11, m28_12, m28_13, m28_14, m28_15, m28_16, m28_17, m28_18, m28_19, m28_20, m28_21, m28_22, m28_23, m28_24, m28_25, m28_26, m28_27, m28_28, m28_29, m28_30, m28_r, m28_b, m28, wrap_nat (show j < 2 ^ 63 - 1 by omega), wk, act, asV, ↓reduceIte, Nat.reduceEqDiff, reduceCtorEq, Nat.reduceAdd, Nat.reduceLeDiff, Nat.reduceSub, Nat.reduceMul, List.reduceReplicate, Int.reduceEq, Int.reduceLT, Int.reduceLE, Int.reduceAdd, Int.reduceSub, Int.reduceMul, Nat.reduceLT, Int.reduceToNat]
      refine ⟨c - (j + 1), by omega, j + 1, by omega, rfl, rfl, v, by simp -implicitDefEqProofs (maxSteps := 2000000) only [k10, wk, act, asV, ↓reduceIte, Nat.reduceEqDiff, reduceCtorEq, Nat.reduceAdd, Nat.reduceLeDiff, Nat.reduceSub, Nat.reduceMul, List.reduceReplicate, Int.reduceEq, Int.reduceLT, Int.reduceLE, Int.reduceAdd, Int.reduceSub, Int.reduceMul, Nat.reduceLT, Int.reduceToNat], .inr ⟨by rw [es]; simp, ?_⟩⟩
      rw [es, List.length_append, hle2, ← hsn]
      exact ⟨_, rfl, rfl⟩
  · have hje : j = c := by omega
    have hjl' : ¬ (j : Int) < c := by omega
    subst hje
    simp -implicitDefEqProofs (maxSteps := 2000000) only [k56, k57, hjl', m28_1, m28_2, m28_3, m28_4, m28_5, m28_6, m28_7, m28_8, m28_9, m28_10, m28_11, m28_12, m28_13, m28_14, m28_15, m28_16, m28_17, m28_18, m28_19, m28_20, m28_21, m28_22, m28_23, m28_24, m28_25, m28_26, m28_27, m28_28, m28_29, m28_30, m28_r, m28_b, m28, wk, act, asV, ↓reduceIte, Nat.reduceEqDiff, reduceCtorEq, Nat.reduceAdd, Nat.reduceLeDiff, Nat.reduceSub, Nat.reduceMul, List.reduceReplicate, Int.reduceEq, Int.reduceLT, Int.reduceLE, Int.reduceAdd, Int.reduceSub, Int.reduceMul, Nat.reduceLT, Int.reduceToNat]
    exact q1 _ (by simp -implicitDefEqProofs (maxSteps := 2000000) only [k1, wk, act, asV, ↓reduceIte, Nat.reduceEqDiff, reduceCtorEq, Nat.reduceAdd, Nat.reduceLeDiff, Nat.reduceSub, Nat.reduceMul, List.reduceReplicate, Int.reduceEq, Int.reduceLT, Int.reduceLE, Int.reduceAdd, Int.reduceSub, Int.reduceMul, Nat.reduceLT, Int.reduceToNat]) (by simp -implicitDefEqProofs (maxSteps := 2000000) only [kh1, wk, act, asV, ↓reduceIte, Nat.reduceEqDiff, reduceCtorEq, Nat.reduceAdd, Nat.reduceLeDiff, Nat.reduceSub, Nat.reduceMul, List.reduceReplicate, Int.reduceEq, Int.reduceLT, Int.reduceLE, Int.reduceAdd, Int.reduceSub, Int.reduceMul, Nat.reduceLT, Int.reduceToNat]) (by simp -implicitDefEqProofs (maxSteps := 2000000) only [k4, wk, act, asV, ↓reduceIte, Nat.reduceEqDiff, reduceCtorEq, Nat.reduceAdd, Nat.reduceLeDiff, Nat.reduceSub, Nat.reduceMul, List.reduceReplicate, Int.reduceEq, Int.reduceLT, Int.reduceLE, Int.reduceAdd, Int.reduceSub, Int.reduceMul, Nat.reduceLT, Int.reduceToNat]) (by simp -implicitDefEqProofs (maxSteps := 2000000) only [kh72, wk, act, asV, ↓reduceIte, Nat.reduceEqDiff, reduceCtorEq, Nat.reduceAdd, Nat.reduceLeDiff, Nat.reduceSub, Nat.reduceMul, List.reduceReplicate, Int.reduceEq, Int.reduceLT, Int.reduceLE, Int.reduceAdd, Int.reduceSub, Int.reduceMul, Nat.reduceLT, Int.reduceToNat]) (by simp -implicitDefEqProofs (maxSteps := 2000000) only [k20, wk, act, asV, ↓reduceIte, Nat.reduceEqDiff, reduceCtorEq, Nat.reduceAdd, Nat.reduceLeDiff, Nat.reduceSub, Nat.reduceMul, List.reduceReplicate, Int.reduceEq, Int.reduceLT, Int.reduceLE, Int.reduceAdd, Int.reduceSub, Int.reduceMul, Nat.reduceLT, Int.reduceToNat]) (by simp -implicitDefEqProofs (maxSteps := 2000000) only [k21, wk, act, asV, ↓reduceIte, Nat.reduceEqDiff, reduceCtorEq, Nat.reduceAdd, Nat.reduceLeDiff, Nat.reduceSub, Nat.reduceMul, List.reduceReplicate, Int.reduceEq, Int.reduceLT, Int.reduceLE, Int.reduceAdd, Int.reduceSub, Int.reduceMul, Nat.reduceLT, Int.reduceToNat]) ⟨v, by simp -implicitDefEqProofs (maxSteps := 2000000) only [k10, wk, act, asV, ↓reduceIte, Nat.reduceEqDiff, reduceCtorEq, Nat.reduceAdd, Nat.reduceLeDiff, Nat.reduceSub, Nat.reduceMul, List.reduceReplicate, Int.reduceEq, Int.reduceLT, Int.reduceLE, Int.reduceAdd, Int.reduceSub, Int.reduceMul, Nat.reduceLT, Int.reduceToNat], by simp -implicitDefEqProofs (maxSteps := 2000000) only [wk, act, asV, ↓reduceIte, Nat.reduceEqDiff, reduceCtorEq, Nat.reduceAdd, Nat.reduceLeDiff, Nat.reduceSub, Nat.reduceMul, List.reduceReplicate, Int.reduceEq, Int.reduceLT, Int.reduceLE, Int.reduceAdd, Int.reduceSub, Int.reduceMul, Nat.reduceLT, Int.reduceToNat]; exact kb⟩
end Go.Proofs.YtilbipknodpmmaaDoor
