/- What comes behind a message. -/
import Derived.Test.YtlbilkldjhhopaaS6
import Derived.Test.YtlbilkldjhhopaaK0
import Derived.Test.YtlbilkldjhhopaaE31
import Derived.Test.YtlbilkldjhhopaaM7
set_option linter.unusedSectionVars false
set_option linter.unusedVariables false
set_option linter.unusedSimpArgs false
set_option maxRecDepth 100000
set_option maxHeartbeats 8000000
namespace Go.Proofs.Ytlbilkldjhhopaa
open Go.RowKit

def padZ (n : Nat) : Nat := (119 - n % 64) % 64
def be8 (m : Nat) : List UInt8 := (List.range 8).map fun i => u8 (m >>> (56 - 8 * i))
def padHead (j : Nat) : List UInt8 := 128 :: List.replicate j 0
/-- what comes behind n bytes -/
def padB (n : Nat) : List UInt8 := padHead (padZ n) ++ be8 (n % 2 ^ 61 * 8)
theorem padHead_length (j : Nat) : (padHead j).length = 1 + j := by simp [padHead]; omega
theorem padHead_succ (j : Nat) : padHead (j + 1) = padHead j ++ [0] := by simp [padHead, List.replicate_succ']
theorem be8_length (m : Nat) : (be8 m).length = 8 := rfl
theorem be8_take (m : Nat) {i : Nat} (h : i < 8) : (be8 m).take (i + 1) = (be8 m).take i ++ [u8 (m >>> (56 - 8 * i))] := by
  rw [List.take_succ_eq_append_getElem (by rw [be8_length]; exact h)]
  simp [be8]
/-- a row that is one's own, or the literal byte -/
def rowP (s : St) (a b : Nat) (W : List UInt8) : Prop := (W.length = 1 ∧ s.t 3 = .sl .lit 1 (bl W)) ∨ ∃ hh ver, (hh = a ∨ hh = b) ∧ s.t 3 = .row hh 0 W.length 1 ver ∧ s.h hh = ⟨ver, true, true, true, bl W⟩

theorem pad_zeros (n : Nat) (hn : n < 2 ^ 61) (Q : Ex → St → Prop) (s1 : St)
    (q1 : ∀ s2 : St, s2.t 0 = .int .u64 (n : Int) → rowP s2 17 30 (padHead (padZ n)) → Q (.exit 0) s2)
    (k0 : s1.t 0 = .int .u64 (n : Int)) (k3 : s1.t 3 = .sl .lit 1 [.int .u8 128]) :
    Wp (RCs Try.prog) (.loop m22_2) Q s1 := by
  have hz : padZ n < 64 := Nat.mod_lt _ (by decide)
  refine Wp_loop (fun m s => ∃ j, j ≤ padZ n ∧ m = padZ n - j ∧ s.t 0 = .int .u64 (n : Int) ∧ rowP s 17 30 (padHead j)) (padZ n) ⟨0, by omega, rfl, k0, .inl ⟨rfl, k3⟩⟩ ?_
  clear k0 k3
  rintro m s ⟨j, hj, rfl, k0, kr⟩
  have hl := padHead_length j
  obtain ⟨W, hW⟩ : ∃ W, W = padHead j := ⟨_, rfl⟩
  have esc := padHead_succ j
  rw [← hW] at kr hl esc
  have w1 : IntKind.u64.wrap ((1 + j : Nat) : Int) = ((1 + j : Nat) : Int) := wrapN .u64 (by simp [vbits, IntKind.signed, IntKind.bits]; omega)
  have w1' : IntKind.u64.wrap (1 : Int) = 1 := rfl
  have w2 : IntKind.u64.wrap ((n : Int) + ((1 + j : Nat) : Int)) = ((n + 1 + j : Nat) : Int) := by
    rw [show (n : Int) + ((1 + j : Nat) : Int) = ((n + 1 + j : Nat) : Int) by omega]
    exact wrapN .u64 (by simp [vbits, IntKind.signed, IntKind.bits]; omega)
  have w3 : ((n + 1 + j : Nat) : Int).tmod 64 = (((n + 1 + j) % 64 : Nat) : Int) := by rw [Int.tmod_eq_emod_of_nonneg (by omega)]; omega
  by_cases hjz : j < padZ n
  · have hne : ¬ (((n + 1 + j) % 64 : Nat) : Int) = 56 := by unfold padZ at hjz hz; omega
    have hr : roomy (1 + j + 1) 1 = true := roomyB (by omega)
    have hr2 : roomy 2 1 = true := by decide
    have hsn := bl_snoc W 0
    have hsn' : bl W ++ [.int .u8 0] = bl (padHead (j + 1)) := by rw [esc]; exact hsn
    rcases kr with ⟨h1, k3⟩ | ⟨hh, ver, hhh, k3, kh⟩
    · have hj0 : j = 0 := by omega
      subst hj0
      rw [show 1 + 0 = 1 from rfl] at w2
      have w2' : IntKind.u64.wrap ((n : Int) + 1) = ((n + 1 + 0 : Nat) : Int) := w2
      simp -implicitDefEqProofs (maxSteps := 2000000) only [k0, k3, w1', w2', w3, hne, hr, hr2, bl_length, h1, hsn', m22_1, m22_2, m22_3, m22_4, m22_5, m22_6, m22_7, m22_8, m22_9, m22_10, m22_11, m22_12, m22_r, m22_b, m22, wk, act, asV, ↓reduceIte, Nat.reduceEqDiff, reduceCtorEq, Nat.reduceAdd, Nat.reduceLeDiff, Nat.reduceSub, Nat.reduceMul, List.reduceReplicate, Int.reduceEq, Int.reduceLT, Int.reduceLE, Int.reduceAdd, Int.reduceSub, Int.reduceMul, Nat.reduceLT, Int.reduceToNat]
      exact ⟨padZ n - (0 + 1), by omega, 0 + 1, by omega, rfl, .inr ⟨17, _, .inl rfl, by rw [padHead_length]; rfl, rfl⟩⟩
    · rw [hl] at k3
      rcases hhh with rfl | rfl <;>
      · simp -implicitDefEqProofs (maxSteps := 2000000) only [k0, k3, kh, w1, w2, w3, hne, hr, bl_length, hl, hsn', m22_1, m22_2, m22_3, m22_4, m22_5, m22_6, m22_7, m22_8, m22_9, m22_10, m22_11, m22_12, m22_r, m22_b, m22, wk, act, asV, ↓reduceIte, Nat.reduceEqDiff, reduceCtorEq, Nat.reduceAdd, Nat.reduceLeDiff, Nat.reduceSub, Nat.reduceMul, List.reduceReplicate, Int.reduceEq, Int.reduceLT, Int.reduceLE, Int.reduceAdd, Int.reduceSub, Int.reduceMul, Nat.reduceLT, Int.reduceToNat]
        exact ⟨padZ n - (j + 1), by omega, j + 1, by omega, rfl, .inr ⟨17, _, .inl rfl, by rw [padHead_length]; rfl, rfl⟩⟩
  · have hje : j = padZ n := by omega
    have heq : (((n + 1 + j) % 64 : Nat) : Int) = 56 := by unfold padZ at hje; omega
    rcases kr with ⟨h1, k3⟩ | ⟨hh, ver, hhh, k3, kh⟩
    · have hj0 : j = 0 := by omega
      have w2' : IntKind.u64.wrap ((n : Int) + 1) = ((n + 1 + j : Nat) : Int) := by rw [hj0] at w2 ⊢; exact w2
      simp -implicitDefEqProofs (maxSteps := 2000000) only [k0, k3, w1', w2', w3, heq, m22_1, m22_2, m22_3, m22_4, m22_5, m22_6, m22_7, m22_8, m22_9, m22_10, m22_11, m22_12, m22_r, m22_b, m22, wk, act, asV, ↓reduceIte, Nat.reduceEqDiff, reduceCtorEq, Nat.reduceAdd, Nat.reduceLeDiff, Nat.reduceSub, Nat.reduceMul, List.reduceReplicate, Int.reduceEq, Int.reduceLT, Int.reduceLE, Int.reduceAdd, Int.reduceSub, Int.reduceMul, Nat.reduceLT, Int.reduceToNat]
      exact q1 _ (by simp -implicitDefEqProofs (maxSteps := 2000000) only [k0, wk, act, asV, ↓reduceIte, Nat.reduceEqDiff, reduceCtorEq, Nat.reduceAdd, Nat.reduceLeDiff, Nat.reduceSub, Nat.reduceMul, List.reduceReplicate, Int.reduceEq, Int.reduceLT, Int.reduceLE, Int.reduceAdd, Int.reduceSub, Int.reduceMul, Nat.reduceLT, Int.reduceToNat]) (by rw [← hje, ← hW]; exact .inl ⟨h1, by simp -implicitDefEqProofs (maxSteps := 2000000) only [k3, wk, act, asV, ↓reduceIte, Nat.reduceEqDiff, reduceCtorEq, Nat.reduceAdd, Nat.reduceLeDiff, Nat.reduceSub, Nat.reduceMul, List.reduceReplicate, Int.reduceEq, Int.reduceLT, Int.reduceLE, Int.reduceAdd, Int.reduceSub, Int.reduceMul, Nat.reduceLT, Int.reduceToNat]⟩)
    · rw [hl] at k3
      have hhh' := hhh
      rcases hhh with rfl | rfl <;>
      · simp -implicitDefEqProofs (maxSteps := 2000000) only [k0, k3, kh, w1, w2, w3, heq, m22_1, m22_2, m22_3, m22_4, m22_5, m22_6, m22_7, m22_8, m22_9, m22_10, m22_11, m22_12, m22_r, m22_b, m22, wk, act, asV, ↓reduceIte, Nat.reduceEqDiff, reduceCtorEq, Nat.reduceAdd, Nat.reduceLeDiff, Nat.reduceSub, Nat.reduceMul, List.reduceReplicate, Int.reduceEq, Int.reduceLT, Int.reduceLE, Int.reduceAdd, Int.reduceSub, Int.reduceMul, Nat.reduceLT, Int.reduceToNat]
        exact q1 _ (by simp -implicitDefEqProofs (maxSteps := 2000000) only [k0, wk, act, asV, ↓reduceIte, Nat.reduceEqDiff, reduceCtorEq, Nat.reduceAdd, Nat.reduceLeDiff, Nat.reduceSub, Nat.reduceMul, List.reduceReplicate, Int.reduceEq, Int.reduceLT, Int.reduceLE, Int.reduceAdd, Int.reduceSub, Int.reduceMul, Nat.reduceLT, Int.reduceToNat]) (by rw [← hje, ← hW]; exact .inr ⟨_, ver, hhh', by rw [hl]; simp -implicitDefEqProofs (maxSteps := 2000000) only [k3, wk, act, asV, ↓reduceIte, Nat.reduceEqDiff, reduceCtorEq, Nat.reduceAdd, Nat.reduceLeDiff, Nat.reduceSub, Nat.reduceMul, List.reduceReplicate, Int.reduceEq, Int.reduceLT, Int.reduceLE, Int.reduceAdd, Int.reduceSub, Int.reduceMul, Nat.reduceLT, Int.reduceToNat], by simp -implicitDefEqProofs (maxSteps := 2000000) only [kh, wk, act, asV, ↓reduceIte, Nat.reduceEqDiff, reduceCtorEq, Nat.reduceAdd, Nat.reduceLeDiff, Nat.reduceSub, Nat.reduceMul, List.reduceReplicate, Int.reduceEq, Int.reduceLT, Int.reduceLE, Int.reduceAdd, Int.reduceSub, Int.reduceMul, Nat.reduceLT, Int.reduceToNat]⟩)
end Go.Proofs.Ytlbilkldjhhopaa
