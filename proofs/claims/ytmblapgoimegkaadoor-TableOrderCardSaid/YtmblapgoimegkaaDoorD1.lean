/- Of the table: the program's Decode. -/
import Derived.Test.YtmblapgoimegkaaDoorE31
import Derived.Test.YtmblapgoimegkaaDoorM6
import Derived.Test.YtmblapgoimegkaaDoorB9
import Derived.Test.YtmblapgoimegkaaDoorB6
set_option linter.unusedVariables false
set_option linter.unusedSimpArgs false
set_option maxRecDepth 100000
set_option maxHeartbeats 8000000
namespace Go.Proofs.YtmblapgoimegkaaDoor
open Go.RowKit

/-- a volume's box, its row of blocks growing -/
def boxV (s : St) (t r : Nat) (nm : List UInt8) (L : List Int) : Prop := ∃ v, s.t t = .ptr t 0 v ∧ ((L = [] ∧ s.h t = ⟨v, true, true, false, [.str nm, .sl .full 0 []]⟩) ∨ (L ≠ [] ∧ ∃ w, s.h t = ⟨v, true, true, false, [.str nm, .row r 0 L.length 1 w]⟩ ∧ s.h r = ⟨w, true, true, true, il L⟩))

theorem decT_in (b : List UInt8) (hb : b.length = 32) (a c i n v1 : Nat) (hac : a + c ≤ 32) (nm : List UInt8) (Q : Ex → St → Prop) (s1 : St)
    (q1 : ∀ s2 : St, s2.t 1 = .ptr 1 0 v1 → s2.h 1 = ⟨v1, true, true, false, bl b⟩ → s2.t 4 = s1.t 4 → s2.h 72 = s1.h 72 → s2.t 20 = .int .i64 n → s2.t 21 = .int .i64 i → boxV s2 10 66 nm (blksAt b a c) → Q (.exit 2) s2)
    (k1 : s1.t 1 = .ptr 1 0 v1) (kh1 : s1.h 1 = ⟨v1, true, true, false, bl b⟩) (k20 : s1.t 20 = .int .i64 n) (k21 : s1.t 21 = .int .i64 i) (k55 : s1.t 55 = .row 1 a c 1 v1) (k56 : s1.t 56 = .int .i64 c) (k57 : s1.t 57 = .int .i64 0) (kb : boxV s1 10 66 nm []) :
    Wp (RCs Tryd.prog) (.loop m37_9) Q s1 := by
  refine Wp_loop (fun m s => ∃ j, j ≤ c ∧ m = c - j ∧ s.t 1 = .ptr 1 0 v1 ∧ s.h 1 = ⟨v1, true, true, false, bl b⟩ ∧ s.t 4 = s1.t 4 ∧ s.h 72 = s1.h 72 ∧ s.t 20 = .int .i64 n ∧ s.t 21 = .int .i64 i ∧ s.t 55 = .row 1 a c 1 v1 ∧ s.t 56 = .int .i64 c ∧ s.t 57 = .int .i64 j ∧ boxV s 10 66 nm (blksAt b a j)) c ⟨0, by omega, rfl, k1, kh1, rfl, rfl, k20, k21, k55, k56, k57, kb⟩ ?_
  clear k1 kh1 k20 k21 k55 k56 k57 kb
  rintro m s ⟨j, hj, rfl, k1, kh1, k4, kh72, k20, k21, k55, k56, k57, v, k10, kb⟩
  by_cases hjl : j < c
  · have hjl' : (j : Int) < c := by omega
    have hat := at_bl (b := b) (k := a + j) (by omega)
    have hbl : (bl b).length = 32 := by rw [bl_length, hb]
    have hlt := (b.getD (a + j) 0).toNat_lt
    have hw : IntKind.i64.wrap ((b.getD (a + j) 0).toNat : Int) = (b.getD (a + j) 0).toNat := by rw [IntKind.wrap_i64]; omega
    obtain ⟨x, hx⟩ : ∃ x, x = b.getD (a + j) 0 := ⟨_, rfl⟩
    have es := blksAt_succ b a j
    rw [← hx] at hat hw es
    have hle : a + j + 1 ≤ 32 := by omega
    have hle' : a + j ≤ 31 := by omega
    have hsn := il_snoc (blksAt b a j) (x.toNat : Int)
    have hle2 : (blksAt b a j).length = j := blksAt_length ..
    rcases kb with ⟨e0, kh⟩ | ⟨e0, w, kh, kr⟩
    · have hr : roomy 1 8 = true := by decide
      simp -implicitDefEqProofs (maxSteps := 2000000) only [k1, kh1, k4, kh72, k20, k21, k55, k56, k57, k10, kh, hjl', hjl, hat, hbl, hw, hle, hle', hr, m37_1, m37_2, m37_3, m37_4, m37_5, m37_6, m37_7, m37_8, m37_9, m37_10, m37_11, m37_12, m37_13, m37_14, m37_15, m37_16, m37_17, m37_18, m37_19, m37_20, m37_21, m37_22, m37_23, m37_24, m37_25, m37_26, m37_27, m37_28, m37_29, m37_30, m37_r, m37_b, m37, wrap_nat (show j < 2 ^ 63 - 1 by omega), wk, act, asV, ↓reduceIte, Nat.reduceEqDiff, reduceCtorEq, Nat.reduceAdd, Nat.reduceLeDiff, Nat.reduceSub, Nat.reduceMul, List.reduceReplicate, Int.reduceEq, Int.reduceLT, Int.reduceLE, Int.reduceAdd, Int.reduceSub, Int.reduceMul, Nat.reduceLT, Int.reduceToNat]
      refine ⟨c - (j + 1), by omega, j + 1, by omega, rfl, rfl, v, by simp -implicitDefEqProofs (maxSteps := 2000000) only [k10, wk, act, asV, ↓reduceIte, Nat.reduceEqDiff, reduceCtorEq, Nat.reduceAdd, Nat.reduceLeDiff, Nat.reduceSub, Nat.reduceMul, List.reduceReplicate, Int.reduceEq, Int.reduceLT, Int.reduceLE, Int.reduceAdd, Int.reduceSub, Int.reduceMul, Nat.reduceLT, Int.reduceToNat], .inr ⟨by rw [es]; simp, ?_⟩⟩
      rw [es, e0]
      exact ⟨_, rfl, rfl⟩
    · have hr : roomy (j + 1) 8 = true := roomy8 (by omega)
      rw [hle2] at kh
      simp -implicitDefEqProofs (maxSteps := 2000000) only [k1, kh1, k4, kh72, k20, k21, k55, k56, k57, k10, kh, kr, hjl', hjl, hat, hbl, hw, hle, hle', hr, hle2, il_length, m37_1, m37_2, m37_3, m37_4, m37_5, m37_6, m37_7, m37_8, m37_9, m37_10, m37_11, m37_12, m37_13, m37_14, m37_15, m37_16, m37_17, m37_18, m37_19, m37_20, m37_21, m37_22, m37_23, m37_24, m37_25, m37_26, m37_27, m37_28, m37_29, m37_30, m37_r, m37_b, m37, wrap_nat (show j < 2 ^ 63 - 1 by omega), wk, act, asV, ↓reduceIte, Nat.reduceEqDiff, reduceCtorEq, Nat.reduceAdd, Nat.reduceLeDiff, Nat.reduceSub, Nat.reduceMul, List.reduceReplicate, Int.reduceEq, Int.reduceLT, Int.reduceLE, Int.reduceAdd, Int.reduceSub, Int.reduceMul, Nat.reduceLT, Int.reduceToNat]
      refine ⟨c - (j + 1), by omega, j + 1, by omega, rfl, rfl, v, by simp -implicitDefEqProofs (maxSteps := 2000000) only [k10, wk, act, asV, ↓reduceIte, Nat.reduceEqDiff, reduceCtorEq, Nat.reduceAdd, Nat.reduceLeDiff, Nat.reduceSub, Nat.reduceMul, List.reduceReplicate, Int.reduceEq, Int.reduceLT, Int.reduceLE, Int.reduceAdd, Int.reduceSub, Int.reduceMul, Nat.reduceLT, Int.reduceToNat], .inr ⟨by rw [es]; simp, ?_⟩⟩
      rw [es, List.length_append, hle2, ← hsn]
      exact ⟨_, rfl, rfl⟩
  · have hje : j = c := by omega
    have hjl' : ¬ (j : Int) < c := by omega
    subst hje
    simp -implicitDefEqProofs (maxSteps := 2000000) only [k56, k57, hjl', m37_1, m37_2, m37_3, m37_4, m37_5, m37_6, m37_7, m37_8, m37_9, m37_10, m37_11, m37_12, m37_13, m37_14, m37_15, m37_16, m37_17, m37_18, m37_19, m37_20, m37_21, m37_22, m37_23, m37_24, m37_25, m37_26, m37_27, m37_28, m37_29, m37_30, m37_r, m37_b, m37, wk, act, asV, ↓reduceIte, Nat.reduceEqDiff, reduceCtorEq, Nat.reduceAdd, Nat.reduceLeDiff, Nat.reduceSub, Nat.reduceMul, List.reduceReplicate, Int.reduceEq, Int.reduceLT, Int.reduceLE, Int.reduceAdd, Int.reduceSub, Int.reduceMul, Nat.reduceLT, Int.reduceToNat]
    exact q1 _ (by simp -implicitDefEqProofs (maxSteps := 2000000) only [k1, wk, act, asV, ↓reduceIte, Nat.reduceEqDiff, reduceCtorEq, Nat.reduceAdd, Nat.reduceLeDiff, Nat.reduceSub, Nat.reduceMul, List.reduceReplicate, Int.reduceEq, Int.reduceLT, Int.reduceLE, Int.reduceAdd, Int.reduceSub, Int.reduceMul, Nat.reduceLT, Int.reduceToNat]) (by simp -implicitDefEqProofs (maxSteps := 2000000) only [kh1, wk, act, asV, ↓reduceIte, Nat.reduceEqDiff, reduceCtorEq, Nat.reduceAdd, Nat.reduceLeDiff, Nat.reduceSub, Nat.reduceMul, List.reduceReplicate, Int.reduceEq, Int.reduceLT, Int.reduceLE, Int.reduceAdd, Int.reduceSub, Int.reduceMul, Nat.reduceLT, Int.reduceToNat]) (by simp -implicitDefEqProofs (maxSteps := 2000000) only [k4, wk, act, asV, ↓reduceIte, Nat.reduceEqDiff, reduceCtorEq, Nat.reduceAdd, Nat.reduceLeDiff, Nat.reduceSub, Nat.reduceMul, List.reduceReplicate, Int.reduceEq, Int.reduceLT, Int.reduceLE, Int.reduceAdd, Int.reduceSub, Int.reduceMul, Nat.reduceLT, Int.reduceToNat]) (by simp -implicitDefEqProofs (maxSteps := 2000000) only [kh72, wk, act, asV, ↓reduceIte, Nat.reduceEqDiff, reduceCtorEq, Nat.reduceAdd, Nat.reduceLeDiff, Nat.reduceSub, Nat.reduceMul, List.reduceReplicate, Int.reduceEq, Int.reduceLT, Int.reduceLE, Int.reduceAdd, Int.reduceSub, Int.reduceMul, Nat.reduceLT, Int.reduceToNat]) (by simp -implicitDefEqProofs (maxSteps := 2000000) only [k20, wk, act, asV, ↓reduceIte, Nat.reduceEqDiff, reduceCtorEq, Nat.reduceAdd, Nat.reduceLeDiff, Nat.reduceSub, Nat.reduceMul, List.reduceReplicate, Int.reduceEq, Int.reduceLT, Int.reduceLE, Int.reduceAdd, Int.reduceSub, Int.reduceMul, Nat.reduceLT, Int.reduceToNat]) (by simp -implicitDefEqProofs (maxSteps := 2000000) only [k21, wk, act, asV, ↓reduceIte, Nat.reduceEqDiff, reduceCtorEq, Nat.reduceAdd, Nat.reduceLeDiff, Nat.reduceSub, Nat.reduceMul, List.reduceReplicate, Int.reduceEq, Int.reduceLT, Int.reduceLE, Int.reduceAdd, Int.reduceSub, Int.reduceMul, Nat.reduceLT, Int.reduceToNat]) ⟨v, by simp -implicitDefEqProofs (maxSteps := 2000000) only [k10, wk, act, asV, ↓reduceIte, Nat.reduceEqDiff, reduceCtorEq, Nat.reduceAdd, Nat.reduceLeDiff, Nat.reduceSub, Nat.reduceMul, List.reduceReplicate, Int.reduceEq, Int.reduceLT, Int.reduceLE, Int.reduceAdd, Int.reduceSub, Int.reduceMul, Nat.reduceLT, Int.reduceToNat], by simp -implicitDefEqProofs (maxSteps := 2000000) only [wk, act, asV, ↓reduceIte, Nat.reduceEqDiff, reduceCtorEq, Nat.reduceAdd, Nat.reduceLeDiff, Nat.reduceSub, Nat.reduceMul, List.reduceReplicate, Int.reduceEq, Int.reduceLT, Int.reduceLE, Int.reduceAdd, Int.reduceSub, Int.reduceMul, Nat.reduceLT, Int.reduceToNat]; exact kb⟩
end Go.Proofs.YtmblapgoimegkaaDoor
