/- What comes behind a message. -/
import Derived.Test.YtkphojcmjffccaaS6
import Derived.Test.YtkphojcmjffccaaK5
import Derived.Test.YtkphojcmjffccaaE31
import Derived.Test.YtkphojcmjffccaaM7
set_option linter.unusedSectionVars false
set_option linter.unusedVariables false
set_option linter.unusedSimpArgs false
set_option maxRecDepth 100000
set_option maxHeartbeats 8000000
namespace Go.Proofs.Ytkphojcmjffccaa
open Go.RowKit

def padZ (n : Nat) : Nat := (119 - n % 64) % 64
def be8 (m : Nat) : List UInt8 := (List.range 8).map fun i => u8 (m >>> (56 - 8 * i))
def padHead (j : Nat) : List UInt8 := 128 :: List.replicate j 0
def padB (n : Nat) : List UInt8 := padHead (padZ n) ++ be8 (n % 2 ^ 61 * 8)
theorem padHead_length (j : Nat) : (padHead j).length = 1 + j := by simp [padHead]; omega
theorem padHead_succ (j : Nat) : padHead (j + 1) = padHead j ++ [0] := by simp [padHead, List.replicate_succ']
theorem be8_length (m : Nat) : (be8 m).length = 8 := rfl
theorem be8_take (m : Nat) {i : Nat} (h : i < 8) : (be8 m).take (i + 1) = (be8 m).take i ++ [u8 (m >>> (56 - 8 * i))] := by
  rw [List.take_succ_eq_append_getElem (by rw [be8_length]; exact h)]
  simp [be8]
def rowP (s : St) (a b : Nat) (W : List UInt8) : Prop := (W.length = 1 ∧ s.t 3 = .sl .lit 1 (bl W)) ∨ ∃ hh ver, (hh = a ∨ hh = b) ∧ s.t 3 = .row hh 0 W.length 1 ver ∧ s.h hh = ⟨ver, true, true, true, bl W⟩

theorem pad_zeros (n : Nat) (hn : n < 2 ^ 61) (Q : Ex → St → Prop) (s1 : St)
    (q1 : ∀ s2 : St, s2.t 0 = .int .u64 (n : Int) → rowP s2 17 30 (padHead (padZ n)) → Q (.exit 0) s2)
    (k0 : s1.t 0 = .int .u64 (n : Int)) (k3 : s1.t 3 = .sl .lit 1 [.int .u8 128]) :
    Wp (RCs Try.prog) (.loop m36_2) Q s1 := by
  have hz : padZ n < 64 := Nat.mod_lt _ (by decide)
  refine Wp_loop (fun m s => ∃ j, j ≤ padZ n ∧ m = padZ n - j ∧ s.t 0 = .int .u64 (n : Int) ∧ rowP s 17 30 (padHead j)) (padZ n) ⟨0, by omega, rfl, k0, .inl ⟨rfl, k3⟩⟩ ?_
  clear k0 k3
  rintro m s ⟨j, hj, rfl, k0, kr⟩
  have hl := padHead_length j
  obtain ⟨W, hW⟩ : ∃ W, W = padHead j := ⟨_, rfl⟩
  have esc := padHead_succ j
  rw [← hW] at kr hl esc
  have w1 : IntKind.u64.wrap ((1 + j : Nat) : Int) = ((1 + j : Nat) : Int) := wrapN .u64 (by simp [vbits, IntKind.signed, IntKind.bits]; omega)
  have w1' : IntKind.u64.wrap (1 : Int) = 1 := rfl
  have w2 : IntKind.u64.wrap ((n : Int) + ((1 + j : Nat) : Int)) = ((n + 1 + j : Nat) : Int) := by
    rw [show (n : Int) + ((1 + j : Nat) : Int) = ((n + 1 + j : Nat) : Int) by omega]
    exact wrapN .u64 (by simp [vbits, IntKind.signed, IntKind.bits]; omega)
  have w3 : ((n + 1 + j : Nat) : Int).tmod 64 = (((n + 1 + j) % 64 : Nat) : Int) := by rw [Int.tmod_eq_emod_of_nonneg (by omega)]; omega
  by_cases hjz : j < padZ n
  · have hne : ¬ (((n + 1 + j) % 64 : Nat) : Int) = 56 := by unfold padZ at hjz hz; omega
    have hr : roomy (1 + j + 1) 1 = true := roomyB (by omega)
    have hr2 : roomy 2 1 = true := by decide
    have hsn := bl_snoc W 0
    have hsn' : bl W ++ [.int .u8 0] = bl (padHead (j + 1)) := by rw [esc]; exact hsn
    rcases kr with ⟨h1, k3⟩ | ⟨hh, ver, hhh, k3, kh⟩
    · have hj0 : j = 0 := by omega
      subst hj0
      rw [show 1 + 0 = 1 from rfl] at w2
      have w2' : IntKind.u64.wrap ((n : Int) + 1) = ((n + 1 + 0 : Nat) : Int) := w2
      simp -implicitDefEqProofs (maxSteps := 2000000) only [k0, k3, w1', w2', w3, hne, hr, hr2, bl_length, h1, hsn', m36_1, m36_2, m36_3, m36_4, m36_5, m36_6, m36_7, m36_8, m36_9, m36_10, m36_11, m36_12, m36_r, m36_b, m36, wk, act, asV, ↓reduceIte, Nat.reduceEqDiff, reduceCtorEq, Nat.reduceAdd, Nat.reduceLeDiff, Nat.reduceSub, Nat.reduceMul, List.reduceReplicate, Int.reduceEq, Int.reduceLT, Int.reduceLE, Int.reduceAdd, Int.reduceSub, Int.reduceMul, Nat.reduceLT, Int.reduceToNat]
      exact ⟨padZ n - (0 + 1), by omega, 0 + 1, by omega, rfl, .inr ⟨17, _, .inl rfl, by rw [padHead_length]; rfl, rfl⟩⟩
    · rw [hl] at k3
      rcases hhh with rfl | rfl <;>
      · simp -implicitDefEqProofs (maxSteps := 2000000) only [k0, k3, kh, w1, w2, w3, hne, hr, bl_length, hl, hsn', m36_1, m36_2, m36_3, m36_4, m36_5, m36_6, m36_7, m36_8, m36_9, m36_10, m36_11, m36_12, m36_r, m36_b, m36, wk, act, asV, ↓reduceIte, Nat.reduceEqDiff, reduceCtorEq, Nat.reduceAdd, Nat.reduceLeDiff, Nat.reduceSub, Nat.reduceMul, List.reduceReplicate, Int.reduceEq, Int.reduceLT, Int.reduceLE, Int.reduceAdd, Int.reduceSub, Int.reduceMul, Nat.reduceLT, Int.reduceToNat]
        exact ⟨padZ n - (j + 1), by omega, j + 1, by omega, rfl, .inr ⟨17, _, .inl rfl, by rw [padHead_length]; rfl, rfl⟩⟩
  · have hje : j = padZ n := by omega
    have heq : (((n + 1 + j) % 64 : Nat) : Int) = 56 := by unfold padZ at hje; omega
    rcases kr with ⟨h1, k3⟩ | ⟨hh, ver, hhh, k3, kh⟩
    · have hj0 : j = 0 := by omega
      have w2' : IntKind.u64.wrap ((n : Int) + 1) = ((n + 1 + j : Nat) : Int) := by rw [hj0] at w2 ⊢; exact w2
      simp -implicitDefEqProofs (maxSteps := 2000000) only [k0, k3, w1', w2', w3, heq, m36_1, m36_2, m36_3, m36_4, m36_5, m36_6, m36_7, m36_8, m36_9, m36_10, m36_11, m36_12, m36_r, m36_b, m36, wk, act, asV, ↓reduceIte, Nat.reduceEqDiff, reduceCtorEq, Nat.reduceAdd, Nat.reduceLeDiff, Nat.reduceSub, Nat.reduceMul, List.reduceReplicate, Int.reduceEq, Int.reduceLT, Int.reduceLE, Int.reduceAdd, Int.reduceSub, Int.reduceMul, Nat.reduceLT, Int.reduceToNat]
      exact q1 _ (by simp -implicitDefEqProofs (maxSteps := 2000000) only [k0, wk, act, asV, ↓reduceIte, Nat.reduceEqDiff, reduceCtorEq, Nat.reduceAdd, Nat.reduceLeDiff, Nat.reduceSub, Nat.reduceMul, List.reduceReplicate, Int.reduceEq, Int.reduceLT, Int.reduceLE, Int.reduceAdd, Int.reduceSub, Int.reduceMul, Nat.reduceLT, Int.reduceToNat]) (by rw [← hje, ← hW]; exact .inl ⟨h1, by simp -implicitDefEqProofs (maxSteps := 2000000) only [k3, wk, act, asV, ↓reduceIte, Nat.reduceEqDiff, reduceCtorEq, Nat.reduceAdd, Nat.reduceLeDiff, Nat.reduceSub, Nat.reduceMul, List.reduceReplicate, Int.reduceEq, Int.reduceLT, Int.reduceLE, Int.reduceAdd, Int.reduceSub, Int.reduceMul, Nat.reduceLT, Int.reduceToNat]⟩)
    · rw [hl] at k3
      have hhh' := hhh
      rcases hhh with rfl | rfl <;>
      · simp -implicitDefEqProofs (maxSteps := 2000000) only [k0, k3, kh, w1, w2, w3, heq, m36_1, m36_2, m36_3, m36_4, m36_5, m36_6, m36_7, m36_8, m36_9, m36_10, m36_11, m36_12, m36_r, m36_b, m36, wk, act, asV, ↓reduceIte, Nat.reduceEqDiff, reduceCtorEq, Nat.reduceAdd, Nat.reduceLeDiff, Nat.reduceSub, Nat.reduceMul, List.reduceReplicate, Int.reduceEq, Int.reduceLT, Int.reduceLE, Int.reduceAdd, Int.reduceSub, Int.reduceMul, Nat.reduceLT, Int.reduceToNat]
        exact q1 _ (by simp -implicitDefEqProofs (maxSteps := 2000000) only [k0, wk, act, asV, ↓reduceIte, Nat.reduceEqDiff, reduceCtorEq, Nat.reduceAdd, Nat.reduceLeDiff, Nat.reduceSub, Nat.reduceMul, List.reduceReplicate, Int.reduceEq, Int.reduceLT, Int.reduceLE, Int.reduceAdd, Int.reduceSub, Int.reduceMul, Nat.reduceLT, Int.reduceToNat]) (by rw [← hje, ← hW]; exact .inr ⟨_, ver, hhh', by rw [hl]; simp -implicitDefEqProofs (maxSteps := 2000000) only [k3, wk, act, asV, ↓reduceIte, Nat.reduceEqDiff, reduceCtorEq, Nat.reduceAdd, Nat.reduceLeDiff, Nat.reduceSub, Nat.reduceMul, List.reduceReplicate, Int.reduceEq, Int.reduceLT, Int.reduceLE, Int.reduceAdd, Int.reduceSub, Int.reduceMul, Nat.reduceLT, Int.reduceToNat], by simp -implicitDefEqProofs (maxSteps := 2000000) only [kh, wk, act, asV, ↓reduceIte, Nat.reduceEqDiff, reduceCtorEq, Nat.reduceAdd, Nat.reduceLeDiff, Nat.reduceSub, Nat.reduceMul, List.reduceReplicate, Int.reduceEq, Int.reduceLT, Int.reduceLE, Int.reduceAdd, Int.reduceSub, Int.reduceMul, Nat.reduceLT, Int.reduceToNat]⟩)
end Go.Proofs.Ytkphojcmjffccaa

/-! What comes behind a message, by the program. -/
set_option linter.unusedSectionVars false
set_option linter.unusedVariables false
set_option linter.unusedSimpArgs false
set_option maxRecDepth 100000
set_option maxHeartbeats 8000000
namespace Go.Proofs.Ytkphojcmjffccaa
open Go.RowKit

theorem pad_len (P : List UInt8) (n : Nat) (hP : P.length ≤ 64) (hn : n < 2 ^ 61) (Q : Ex → St → Prop) (s1 : St)
    (q1 : ∀ s2 : St, rowP s2 17 30 (P ++ be8 (n * 8)) → Q (.exit 2) s2)
    (k0 : s1.t 0 = .int .u64 (n : Int)) (k18 : s1.t 18 = .int .i64 0) (kr : rowP s1 17 30 P) :
    Wp (RCs Try.prog) (.loop m36_6) Q s1 := by
  refine Wp_loop (fun m s => ∃ i, i ≤ 8 ∧ m = 8 - i ∧ s.t 0 = .int .u64 (n : Int) ∧ s.t 18 = .int .i64 i ∧ rowP s 17 30 (P ++ (be8 (n * 8)).take i)) 8 ⟨0, by omega, rfl, k0, k18, by simpa using kr⟩ ?_
  clear k0 k18 kr
  rintro m s ⟨i, hi, rfl, k0, k18, kr⟩
  by_cases hi8 : i < 8
  · have hi8' : (i : Int) < 8 := by omega
    have wm : IntKind.u64.wrap ((n : Int) * 8) = ((n * 8 : Nat) : Int) := by
      rw [show (n : Int) * 8 = ((n * 8 : Nat) : Int) by omega]
      exact wrapN .u64 (by simp [vbits, IntKind.signed, IntKind.bits]; omega)
    have w8 : IntKind.i64.wrap (8 * (i : Int)) = ((8 * i : Nat) : Int) := by rw [IntKind.wrap_i64]; omega
    have w56 : IntKind.i64.wrap (56 - ((8 * i : Nat) : Int)) = ((56 - 8 * i : Nat) : Int) := by rw [IntKind.wrap_i64]; omega
    have sr : shI .shr .u64 ((n * 8 : Nat) : Int) ((56 - 8 * i : Nat) : Int) = some (.int .u64 (((n * 8) >>> (56 - 8 * i) : Nat) : Int)) := shI_shr .u64 (by show 56 - 8 * i ≤ 64; omega)
    have wb : IntKind.u8.wrap (((n * 8) >>> (56 - 8 * i) : Nat) : Int) = ((u8 ((n * 8) >>> (56 - 8 * i))).toNat : Int) := wrap_u8 _
    have et : P ++ (be8 (n * 8)).take (i + 1) = (P ++ (be8 (n * 8)).take i) ++ [u8 ((n * 8) >>> (56 - 8 * i))] := by rw [be8_take _ hi8, List.append_assoc]
    obtain ⟨W, hW⟩ : ∃ W, W = P ++ (be8 (n * 8)).take i := ⟨_, rfl⟩
    rw [← hW] at kr et
    have hWl : W.length ≤ 72 := by rw [hW, List.length_append, List.length_take, be8_length]; omega
    obtain ⟨x, hx⟩ : ∃ x, x = u8 ((n * 8) >>> (56 - 8 * i)) := ⟨_, rfl⟩
    rw [← hx] at wb et
    have hr : roomy (W.length + 1) 1 = true := roomyB (by omega)
    have hr2 : roomy 2 1 = true := by decide
    have hsn := bl_snoc W x
    rw [← et] at hsn
    have hl2 : (P ++ (be8 (n * 8)).take (i + 1)).length = W.length + 1 := by rw [et, List.length_append]; rfl
    rcases kr with ⟨h1, k3⟩ | ⟨hh, ver, hhh, k3, kh⟩
    · rw [h1] at hl2
      simp -implicitDefEqProofs (maxSteps := 2000000) only [k0, k18, k3, hi8', wm, w8, w56, sr, wb, hr2, bl_length, h1, hsn, m36_1, m36_2, m36_3, m36_4, m36_5, m36_6, m36_7, m36_8, m36_9, m36_10, m36_11, m36_12, m36_r, m36_b, m36, wrap_nat (show i < 2 ^ 63 - 1 by omega), wk, act, asV, ↓reduceIte, Nat.reduceEqDiff, reduceCtorEq, Nat.reduceAdd, Nat.reduceLeDiff, Nat.reduceSub, Nat.reduceMul, List.reduceReplicate, Int.reduceEq, Int.reduceLT, Int.reduceLE, Int.reduceAdd, Int.reduceSub, Int.reduceMul, Nat.reduceLT, Int.reduceToNat]
      exact ⟨8 - (i + 1), by omega, i + 1, by omega, rfl, rfl, .inr ⟨30, _, .inr rfl, by rw [hl2]; rfl, rfl⟩⟩
    · rcases hhh with rfl | rfl <;>
      · simp -implicitDefEqProofs (maxSteps := 2000000) only [k0, k18, k3, kh, hi8', wm, w8, w56, sr, wb, hr, bl_length, hsn, m36_1, m36_2, m36_3, m36_4, m36_5, m36_6, m36_7, m36_8, m36_9, m36_10, m36_11, m36_12, m36_r, m36_b, m36, wrap_nat (show i < 2 ^ 63 - 1 by omega), wk, act, asV, ↓reduceIte, Nat.reduceEqDiff, reduceCtorEq, Nat.reduceAdd, Nat.reduceLeDiff, Nat.reduceSub, Nat.reduceMul, List.reduceReplicate, Int.reduceEq, Int.reduceLT, Int.reduceLE, Int.reduceAdd, Int.reduceSub, Int.reduceMul, Nat.reduceLT, Int.reduceToNat]
        exact ⟨8 - (i + 1), by omega, i + 1, by omega, rfl, rfl, .inr ⟨30, _, .inr rfl, by rw [hl2]; rfl, rfl⟩⟩
  · obtain rfl : i = 8 := by omega
    rw [List.take_of_length_le (by rw [be8_length]; exact Nat.le_refl 8)] at kr
    simp -implicitDefEqProofs (maxSteps := 2000000) only [k18, m36_1, m36_2, m36_3, m36_4, m36_5, m36_6, m36_7, m36_8, m36_9, m36_10, m36_11, m36_12, m36_r, m36_b, m36, wk, act, asV, ↓reduceIte, Nat.reduceEqDiff, reduceCtorEq, Nat.reduceAdd, Nat.reduceLeDiff, Nat.reduceSub, Nat.reduceMul, List.reduceReplicate, Int.reduceEq, Int.reduceLT, Int.reduceLE, Int.reduceAdd, Int.reduceSub, Int.reduceMul, Nat.reduceLT, Int.reduceToNat]
    rcases kr with ⟨h1, k3⟩ | ⟨hh, ver, hhh, k3, kh⟩
    · exact q1 _ (.inl ⟨h1, by simp -implicitDefEqProofs (maxSteps := 2000000) only [k3, wk, act, asV, ↓reduceIte, Nat.reduceEqDiff, reduceCtorEq, Nat.reduceAdd, Nat.reduceLeDiff, Nat.reduceSub, Nat.reduceMul, List.reduceReplicate, Int.reduceEq, Int.reduceLT, Int.reduceLE, Int.reduceAdd, Int.reduceSub, Int.reduceMul, Nat.reduceLT, Int.reduceToNat]⟩)
    · exact q1 _ (.inr ⟨hh, ver, hhh, by simp -implicitDefEqProofs (maxSteps := 2000000) only [k3, wk, act, asV, ↓reduceIte, Nat.reduceEqDiff, reduceCtorEq, Nat.reduceAdd, Nat.reduceLeDiff, Nat.reduceSub, Nat.reduceMul, List.reduceReplicate, Int.reduceEq, Int.reduceLT, Int.reduceLE, Int.reduceAdd, Int.reduceSub, Int.reduceMul, Nat.reduceLT, Int.reduceToNat], by rcases hhh with rfl | rfl <;> simp -implicitDefEqProofs (maxSteps := 2000000) only [kh, wk, act, asV, ↓reduceIte, Nat.reduceEqDiff, reduceCtorEq, Nat.reduceAdd, Nat.reduceLeDiff, Nat.reduceSub, Nat.reduceMul, List.reduceReplicate, Int.reduceEq, Int.reduceLT, Int.reduceLE, Int.reduceAdd, Int.reduceSub, Int.reduceMul, Nat.reduceLT, Int.reduceToNat]⟩)

theorem padB_length (n : Nat) : (padB n).length = 9 + padZ n := by rw [padB, List.length_append, padHead_length, be8_length]; omega
theorem shaPad_ok (n : Nat) (hn : n < 2 ^ 64) : RC Try.prog 36 [.int .u64 (n : Int)] [.own (padB n).length 1 (bl (padB n))] := by
  refine RC.of_wp c36 rfl ?_
  have hm : n % 2 ^ 61 < 2 ^ 61 := Nat.mod_lt _ (by decide)
  have wr : (n : Int).tmod 2305843009213693952 = ((n % 2 ^ 61 : Nat) : Int) := by rw [Int.tmod_eq_emod_of_nonneg (by omega)]; omega
  have hz : padZ (n % 2 ^ 61) = padZ n := by unfold padZ; omega
  have hzl : padZ n < 64 := Nat.mod_lt _ (by decide)
  simp -implicitDefEqProofs (maxSteps := 2000000) only [m36_1, m36_2, m36_3, m36_4, m36_5, m36_6, m36_7, m36_8, m36_9, m36_10, m36_11, m36_12, m36_r, m36_b, m36, wr, wk, act, asV, ↓reduceIte, Nat.reduceEqDiff, reduceCtorEq, Nat.reduceAdd, Nat.reduceLeDiff, Nat.reduceSub, Nat.reduceMul, List.reduceReplicate, Int.reduceEq, Int.reduceLT, Int.reduceLE, Int.reduceAdd, Int.reduceSub, Int.reduceMul, Nat.reduceLT, Int.reduceToNat]
  refine pad_zeros (n % 2 ^ 61) hm _ _ ?_ (by simp -implicitDefEqProofs (maxSteps := 2000000) only [wk, act, asV, ↓reduceIte, Nat.reduceEqDiff, reduceCtorEq, Nat.reduceAdd, Nat.reduceLeDiff, Nat.reduceSub, Nat.reduceMul, List.reduceReplicate, Int.reduceEq, Int.reduceLT, Int.reduceLE, Int.reduceAdd, Int.reduceSub, Int.reduceMul, Nat.reduceLT, Int.reduceToNat]) (by simp -implicitDefEqProofs (maxSteps := 2000000) only [wk, act, asV, ↓reduceIte, Nat.reduceEqDiff, reduceCtorEq, Nat.reduceAdd, Nat.reduceLeDiff, Nat.reduceSub, Nat.reduceMul, List.reduceReplicate, Int.reduceEq, Int.reduceLT, Int.reduceLE, Int.reduceAdd, Int.reduceSub, Int.reduceMul, Nat.reduceLT, Int.reduceToNat])
  intro s2 p0 pr
  rw [hz] at pr
  simp -implicitDefEqProofs (maxSteps := 2000000) only [p0, wk, act, asV, ↓reduceIte, Nat.reduceEqDiff, reduceCtorEq, Nat.reduceAdd, Nat.reduceLeDiff, Nat.reduceSub, Nat.reduceMul, List.reduceReplicate, Int.reduceEq, Int.reduceLT, Int.reduceLE, Int.reduceAdd, Int.reduceSub, Int.reduceMul, Nat.reduceLT, Int.reduceToNat]
  have hpl := padHead_length (padZ n)
  refine pad_len (padHead (padZ n)) (n % 2 ^ 61) (by omega) hm _ _ ?_ (by simp -implicitDefEqProofs (maxSteps := 2000000) only [p0, wk, act, asV, ↓reduceIte, Nat.reduceEqDiff, reduceCtorEq, Nat.reduceAdd, Nat.reduceLeDiff, Nat.reduceSub, Nat.reduceMul, List.reduceReplicate, Int.reduceEq, Int.reduceLT, Int.reduceLE, Int.reduceAdd, Int.reduceSub, Int.reduceMul, Nat.reduceLT, Int.reduceToNat]) (by simp -implicitDefEqProofs (maxSteps := 2000000) only [wk, act, asV, ↓reduceIte, Nat.reduceEqDiff, reduceCtorEq, Nat.reduceAdd, Nat.reduceLeDiff, Nat.reduceSub, Nat.reduceMul, List.reduceReplicate, Int.reduceEq, Int.reduceLT, Int.reduceLE, Int.reduceAdd, Int.reduceSub, Int.reduceMul, Nat.reduceLT, Int.reduceToNat]) ?_
  · intro s3 qr
    have e : padHead (padZ n) ++ be8 (n % 2 ^ 61 * 8) = padB n := rfl
    rw [e] at qr
    have hl := padB_length n
    have tb := take_bl (padB n)
    rcases qr with ⟨h1, q3⟩ | ⟨hh, ver, hhh, q3, qh⟩
    · omega
    · rcases hhh with rfl | rfl <;> simp -implicitDefEqProofs (maxSteps := 2000000) only [q3, qh, tb, wk, act, asV, ↓reduceIte, Nat.reduceEqDiff, reduceCtorEq, Nat.reduceAdd, Nat.reduceLeDiff, Nat.reduceSub, Nat.reduceMul, List.reduceReplicate, Int.reduceEq, Int.reduceLT, Int.reduceLE, Int.reduceAdd, Int.reduceSub, Int.reduceMul, Nat.reduceLT, Int.reduceToNat]
  · rcases pr with ⟨h1, q3⟩ | ⟨hh, ver, hhh, q3, qh⟩
    · exact .inl ⟨h1, by simp -implicitDefEqProofs (maxSteps := 2000000) only [q3, wk, act, asV, ↓reduceIte, Nat.reduceEqDiff, reduceCtorEq, Nat.reduceAdd, Nat.reduceLeDiff, Nat.reduceSub, Nat.reduceMul, List.reduceReplicate, Int.reduceEq, Int.reduceLT, Int.reduceLE, Int.reduceAdd, Int.reduceSub, Int.reduceMul, Nat.reduceLT, Int.reduceToNat]⟩
    · exact .inr ⟨hh, ver, hhh, by simp -implicitDefEqProofs (maxSteps := 2000000) only [q3, wk, act, asV, ↓reduceIte, Nat.reduceEqDiff, reduceCtorEq, Nat.reduceAdd, Nat.reduceLeDiff, Nat.reduceSub, Nat.reduceMul, List.reduceReplicate, Int.reduceEq, Int.reduceLT, Int.reduceLE, Int.reduceAdd, Int.reduceSub, Int.reduceMul, Nat.reduceLT, Int.reduceToNat], by rcases hhh with rfl | rfl <;> simp -implicitDefEqProofs (maxSteps := 2000000) only [qh, wk, act, asV, ↓reduceIte, Nat.reduceEqDiff, reduceCtorEq, Nat.reduceAdd, Nat.reduceLeDiff, Nat.reduceSub, Nat.reduceMul, List.reduceReplicate, Int.reduceEq, Int.reduceLT, Int.reduceLE, Int.reduceAdd, Int.reduceSub, Int.reduceMul, Nat.reduceLT, Int.reduceToNat]⟩
end Go.Proofs.Ytkphojcmjffccaa

/-! What comes behind a message, by the reference. -/
set_option linter.unusedSectionVars false
set_option linter.unusedVariables false
set_option linter.unusedSimpArgs false
set_option maxRecDepth 100000
set_option maxHeartbeats 8000000
namespace Go.Proofs.Ytkphojcmjffccaa
open Go.RowKit

theorem padR_zeros (n : Nat) (hn : n < 2 ^ 64) (Q : Ex → St → Prop) (s1 : St)
    (q1 : ∀ s2 : St, s2.t 0 = .int .u64 (n : Int) → rowP s2 15 29 (padHead (padZ n)) → Q (.exit 0) s2)
    (k0 : s1.t 0 = .int .u64 (n : Int)) (k3 : s1.t 3 = .sl .lit 1 [.int .u8 128]) :
    Wp (RCs Try.prog) (.loop m38_2) Q s1 := by
  have hz : padZ n < 64 := Nat.mod_lt _ (by decide)
  refine Wp_loop (fun m s => ∃ j, j ≤ padZ n ∧ m = padZ n - j ∧ s.t 0 = .int .u64 (n : Int) ∧ rowP s 15 29 (padHead j)) (padZ n) ⟨0, by omega, rfl, k0, .inl ⟨rfl, k3⟩⟩ ?_
  clear k0 k3
  rintro m s ⟨j, hj, rfl, k0, kr⟩
  have hl := padHead_length j
  obtain ⟨W, hW⟩ : ∃ W, W = padHead j := ⟨_, rfl⟩
  have esc := padHead_succ j
  rw [← hW] at kr hl esc
  have w1 : IntKind.u64.wrap ((1 + j : Nat) : Int) = ((1 + j : Nat) : Int) := wrapN .u64 (by simp [vbits, IntKind.signed, IntKind.bits]; omega)
  have w1' : IntKind.u64.wrap (1 : Int) = 1 := rfl
  have w2 : IntKind.u64.wrap ((n : Int) + ((1 + j : Nat) : Int)) = (((n + 1 + j) % 2 ^ 64 : Nat) : Int) := by
    simp only [IntKind.wrap, IntKind.signed, IntKind.bits, Bool.false_and, Bool.false_eq_true, if_false]
    omega
  have w3 : (((n + 1 + j) % 2 ^ 64 : Nat) : Int).tmod 64 = (((n + 1 + j) % 64 : Nat) : Int) := by rw [Int.tmod_eq_emod_of_nonneg (by omega)]; omega
  by_cases hjz : j < padZ n
  · have hne : ¬ (((n + 1 + j) % 64 : Nat) : Int) = 56 := by unfold padZ at hjz hz; omega
    have hr : roomy (1 + j + 1) 1 = true := roomyB (by omega)
    have hr2 : roomy 2 1 = true := by decide
    have hsn := bl_snoc W 0
    have hsn' : bl W ++ [.int .u8 0] = bl (padHead (j + 1)) := by rw [esc]; exact hsn
    rcases kr with ⟨h1, k3⟩ | ⟨hh, ver, hhh, k3, kh⟩
    · have hj0 : j = 0 := by omega
      subst hj0
      rw [show 1 + 0 = 1 from rfl] at w2
      have w2' : IntKind.u64.wrap ((n : Int) + 1) = (((n + 1 + 0) % 2 ^ 64 : Nat) : Int) := w2
      simp -implicitDefEqProofs (maxSteps := 2000000) only [k0, k3, w1', w2', w3, hne, hr, hr2, bl_length, h1, hsn', m38_1, m38_2, m38_3, m38_4, m38_5, m38_6, m38_7, m38_8, m38_9, m38_r, m38_b, m38, wk, act, asV, ↓reduceIte, Nat.reduceEqDiff, reduceCtorEq, Nat.reduceAdd, Nat.reduceLeDiff, Nat.reduceSub, Nat.reduceMul, List.reduceReplicate, Int.reduceEq, Int.reduceLT, Int.reduceLE, Int.reduceAdd, Int.reduceSub, Int.reduceMul, Nat.reduceLT, Int.reduceToNat]
      exact ⟨padZ n - (0 + 1), by omega, 0 + 1, by omega, rfl, .inr ⟨15, _, .inl rfl, by rw [padHead_length]; rfl, rfl⟩⟩
    · rw [hl] at k3
      rcases hhh with rfl | rfl <;>
      · simp -implicitDefEqProofs (maxSteps := 2000000) only [k0, k3, kh, w1, w2, w3, hne, hr, bl_length, hl, hsn', m38_1, m38_2, m38_3, m38_4, m38_5, m38_6, m38_7, m38_8, m38_9, m38_r, m38_b, m38, wk, act, asV, ↓reduceIte, Nat.reduceEqDiff, reduceCtorEq, Nat.reduceAdd, Nat.reduceLeDiff, Nat.reduceSub, Nat.reduceMul, List.reduceReplicate, Int.reduceEq, Int.reduceLT, Int.reduceLE, Int.reduceAdd, Int.reduceSub, Int.reduceMul, Nat.reduceLT, Int.reduceToNat]
        exact ⟨padZ n - (j + 1), by omega, j + 1, by omega, rfl, .inr ⟨15, _, .inl rfl, by rw [padHead_length]; rfl, rfl⟩⟩
  · have hje : j = padZ n := by omega
    have heq : (((n + 1 + j) % 64 : Nat) : Int) = 56 := by unfold padZ at hje; omega
    rcases kr with ⟨h1, k3⟩ | ⟨hh, ver, hhh, k3, kh⟩
    · have hj0 : j = 0 := by omega
      have w2' : IntKind.u64.wrap ((n : Int) + 1) = (((n + 1 + j) % 2 ^ 64 : Nat) : Int) := by rw [hj0] at w2 ⊢; exact w2
      simp -implicitDefEqProofs (maxSteps := 2000000) only [k0, k3, w1', w2', w3, heq, m38_1, m38_2, m38_3, m38_4, m38_5, m38_6, m38_7, m38_8, m38_9, m38_r, m38_b, m38, wk, act, asV, ↓reduceIte, Nat.reduceEqDiff, reduceCtorEq, Nat.reduceAdd, Nat.reduceLeDiff, Nat.reduceSub, Nat.reduceMul, List.reduceReplicate, Int.reduceEq, Int.reduceLT, Int.reduceLE, Int.reduceAdd, Int.reduceSub, Int.reduceMul, Nat.reduceLT, Int.reduceToNat]
      exact q1 _ (by simp -implicitDefEqProofs (maxSteps := 2000000) only [k0, wk, act, asV, ↓reduceIte, Nat.reduceEqDiff, reduceCtorEq, Nat.reduceAdd, Nat.reduceLeDiff, Nat.reduceSub, Nat.reduceMul, List.reduceReplicate, Int.reduceEq, Int.reduceLT, Int.reduceLE, Int.reduceAdd, Int.reduceSub, Int.reduceMul, Nat.reduceLT, Int.reduceToNat]) (by rw [← hje, ← hW]; exact .inl ⟨h1, by simp -implicitDefEqProofs (maxSteps := 2000000) only [k3, wk, act, asV, ↓reduceIte, Nat.reduceEqDiff, reduceCtorEq, Nat.reduceAdd, Nat.reduceLeDiff, Nat.reduceSub, Nat.reduceMul, List.reduceReplicate, Int.reduceEq, Int.reduceLT, Int.reduceLE, Int.reduceAdd, Int.reduceSub, Int.reduceMul, Nat.reduceLT, Int.reduceToNat]⟩)
    · rw [hl] at k3
      have hhh' := hhh
      rcases hhh with rfl | rfl <;>
      · simp -implicitDefEqProofs (maxSteps := 2000000) only [k0, k3, kh, w1, w2, w3, heq, m38_1, m38_2, m38_3, m38_4, m38_5, m38_6, m38_7, m38_8, m38_9, m38_r, m38_b, m38, wk, act, asV, ↓reduceIte, Nat.reduceEqDiff, reduceCtorEq, Nat.reduceAdd, Nat.reduceLeDiff, Nat.reduceSub, Nat.reduceMul, List.reduceReplicate, Int.reduceEq, Int.reduceLT, Int.reduceLE, Int.reduceAdd, Int.reduceSub, Int.reduceMul, Nat.reduceLT, Int.reduceToNat]
        exact q1 _ (by simp -implicitDefEqProofs (maxSteps := 2000000) only [k0, wk, act, asV, ↓reduceIte, Nat.reduceEqDiff, reduceCtorEq, Nat.reduceAdd, Nat.reduceLeDiff, Nat.reduceSub, Nat.reduceMul, List.reduceReplicate, Int.reduceEq, Int.reduceLT, Int.reduceLE, Int.reduceAdd, Int.reduceSub, Int.reduceMul, Nat.reduceLT, Int.reduceToNat]) (by rw [← hje, ← hW]; exact .inr ⟨_, ver, hhh', by rw [hl]; simp -implicitDefEqProofs (maxSteps := 2000000) only [k3, wk, act, asV, ↓reduceIte, Nat.reduceEqDiff, reduceCtorEq, Nat.reduceAdd, Nat.reduceLeDiff, Nat.reduceSub, Nat.reduceMul, List.reduceReplicate, Int.reduceEq, Int.reduceLT, Int.reduceLE, Int.reduceAdd, Int.reduceSub, Int.reduceMul, Nat.reduceLT, Int.reduceToNat], by simp -implicitDefEqProofs (maxSteps := 2000000) only [kh, wk, act, asV, ↓reduceIte, Nat.reduceEqDiff, reduceCtorEq, Nat.reduceAdd, Nat.reduceLeDiff, Nat.reduceSub, Nat.reduceMul, List.reduceReplicate, Int.reduceEq, Int.reduceLT, Int.reduceLE, Int.reduceAdd, Int.reduceSub, Int.reduceMul, Nat.reduceLT, Int.reduceToNat]⟩)

theorem padR_len (P : List UInt8) (n : Nat) (hP : P.length ≤ 64) (hn : n < 2 ^ 64) (Q : Ex → St → Prop) (s1 : St)
    (q1 : ∀ s2 : St, rowP s2 15 29 (P ++ be8 (n % 2 ^ 61 * 8)) → Q (.exit 2) s2)
    (k0 : s1.t 0 = .int .u64 (n : Int)) (k4 : s1.t 4 = .int .i64 7) (kr : rowP s1 15 29 P) :
    Wp (RCs Try.prog) (.loop m38_4) Q s1 := by
  refine Wp_loop (fun m s => ∃ i, i ≤ 8 ∧ m = 8 - i ∧ s.t 0 = .int .u64 (n : Int) ∧ s.t 4 = .int .i64 (7 - (i : Int)) ∧ rowP s 15 29 (P ++ (be8 (n % 2 ^ 61 * 8)).take i)) 8 ⟨0, by omega, rfl, k0, by simpa using k4, by simpa using kr⟩ ?_
  clear k0 k4 kr
  rintro m s ⟨i, hi, rfl, k0, k4, kr⟩
  obtain ⟨M, hM⟩ : ∃ M, M = n % 2 ^ 61 * 8 := ⟨_, rfl⟩
  rw [← hM] at kr
  by_cases hi8 : i < 8
  · obtain ⟨c, hc⟩ : ∃ c, c = 7 - i := ⟨_, rfl⟩
    have e4 : (7 - (i : Int)) = (c : Int) := by omega
    rw [e4] at k4
    have hc0 : (0 : Int) ≤ c := by omega
    have wm : shI .shl .u64 (n : Int) 3 = some (.int .u64 (M : Int)) := by
      simp only [shI, if_neg (show ¬ ((3 : Int) < 0) by omega)]
      show some (IV.int .u64 (IntKind.u64.wrap ((n : Int) * 2 ^ 3))) = _
      congr 2
      simp only [IntKind.wrap, IntKind.signed, IntKind.bits, Bool.false_and, Bool.false_eq_true, if_false]
      omega
    have w8 : IntKind.i64.wrap (8 * (c : Int)) = ((8 * c : Nat) : Int) := by rw [IntKind.wrap_i64]; omega
    have wu : IntKind.u64.wrap ((8 * c : Nat) : Int) = ((8 * c : Nat) : Int) := wrapN .u64 (by simp [vbits, IntKind.signed, IntKind.bits]; omega)
    have sr : shI .shr .u64 (M : Int) ((8 * c : Nat) : Int) = some (.int .u64 ((M >>> (8 * c) : Nat) : Int)) := shI_shr .u64 (by show 8 * c ≤ 64; omega)
    have wb : IntKind.u8.wrap ((M >>> (8 * c) : Nat) : Int) = ((u8 (M >>> (8 * c))).toNat : Int) := wrap_u8 _
    have wd : IntKind.i64.wrap ((c : Int) - 1) = 7 - ((i + 1 : Nat) : Int) := by rw [IntKind.wrap_i64]; omega
    have et : P ++ (be8 M).take (i + 1) = (P ++ (be8 M).take i) ++ [u8 (M >>> (8 * c))] := by rw [be8_take _ hi8, List.append_assoc, show 56 - 8 * i = 8 * c by omega]
    obtain ⟨W, hW⟩ : ∃ W, W = P ++ (be8 M).take i := ⟨_, rfl⟩
    rw [← hW] at kr et
    have hWl : W.length ≤ 72 := by rw [hW, List.length_append, List.length_take, be8_length]; omega
    obtain ⟨x, hx⟩ : ∃ x, x = u8 (M >>> (8 * c)) := ⟨_, rfl⟩
    rw [← hx] at wb et
    have hr : roomy (W.length + 1) 1 = true := roomyB (by omega)
    have hr2 : roomy 2 1 = true := by decide
    have hsn := bl_snoc W x
    rw [← et] at hsn
    have hl2 : (P ++ (be8 M).take (i + 1)).length = W.length + 1 := by rw [et, List.length_append]; rfl
    rcases kr with ⟨h1, k3⟩ | ⟨hh, ver, hhh, k3, kh⟩
    · rw [h1] at hl2
      simp -implicitDefEqProofs (maxSteps := 2000000) only [k0, k4, k3, hc0, wm, w8, wu, sr, wb, wd, hr2, bl_length, h1, hsn, m38_1, m38_2, m38_3, m38_4, m38_5, m38_6, m38_7, m38_8, m38_9, m38_r, m38_b, m38, wk, act, asV, ↓reduceIte, Nat.reduceEqDiff, reduceCtorEq, Nat.reduceAdd, Nat.reduceLeDiff, Nat.reduceSub, Nat.reduceMul, List.reduceReplicate, Int.reduceEq, Int.reduceLT, Int.reduceLE, Int.reduceAdd, Int.reduceSub, Int.reduceMul, Nat.reduceLT, Int.reduceToNat]
      exact ⟨8 - (i + 1), by omega, i + 1, by omega, rfl, rfl, .inr ⟨29, _, .inr rfl, by rw [← hM, hl2]; rfl, by rw [← hM]; rfl⟩⟩
    · rcases hhh with rfl | rfl <;>
      · simp -implicitDefEqProofs (maxSteps := 2000000) only [k0, k4, k3, kh, hc0, wm, w8, wu, sr, wb, wd, hr, bl_length, hsn, m38_1, m38_2, m38_3, m38_4, m38_5, m38_6, m38_7, m38_8, m38_9, m38_r, m38_b, m38, wk, act, asV, ↓reduceIte, Nat.reduceEqDiff, reduceCtorEq, Nat.reduceAdd, Nat.reduceLeDiff, Nat.reduceSub, Nat.reduceMul, List.reduceReplicate, Int.reduceEq, Int.reduceLT, Int.reduceLE, Int.reduceAdd, Int.reduceSub, Int.reduceMul, Nat.reduceLT, Int.reduceToNat]
        exact ⟨8 - (i + 1), by omega, i + 1, by omega, rfl, rfl, .inr ⟨29, _, .inr rfl, by rw [← hM, hl2]; rfl, by rw [← hM]; rfl⟩⟩
  · obtain rfl : i = 8 := by omega
    rw [List.take_of_length_le (by rw [be8_length]; exact Nat.le_refl 8)] at kr
    have k4' : s.t 4 = .int .i64 (-1) := k4
    simp -implicitDefEqProofs (maxSteps := 2000000) only [k4', m38_1, m38_2, m38_3, m38_4, m38_5, m38_6, m38_7, m38_8, m38_9, m38_r, m38_b, m38, wk, act, asV, ↓reduceIte, Nat.reduceEqDiff, reduceCtorEq, Nat.reduceAdd, Nat.reduceLeDiff, Nat.reduceSub, Nat.reduceMul, List.reduceReplicate, Int.reduceEq, Int.reduceLT, Int.reduceLE, Int.reduceAdd, Int.reduceSub, Int.reduceMul, Nat.reduceLT, Int.reduceToNat]
    rw [← hM] at q1
    rcases kr with ⟨h1, k3⟩ | ⟨hh, ver, hhh, k3, kh⟩
    · exact q1 _ (.inl ⟨h1, by simp -implicitDefEqProofs (maxSteps := 2000000) only [k3, wk, act, asV, ↓reduceIte, Nat.reduceEqDiff, reduceCtorEq, Nat.reduceAdd, Nat.reduceLeDiff, Nat.reduceSub, Nat.reduceMul, List.reduceReplicate, Int.reduceEq, Int.reduceLT, Int.reduceLE, Int.reduceAdd, Int.reduceSub, Int.reduceMul, Nat.reduceLT, Int.reduceToNat]⟩)
    · exact q1 _ (.inr ⟨hh, ver, hhh, by simp -implicitDefEqProofs (maxSteps := 2000000) only [k3, wk, act, asV, ↓reduceIte, Nat.reduceEqDiff, reduceCtorEq, Nat.reduceAdd, Nat.reduceLeDiff, Nat.reduceSub, Nat.reduceMul, List.reduceReplicate, Int.reduceEq, Int.reduceLT, Int.reduceLE, Int.reduceAdd, Int.reduceSub, Int.reduceMul, Nat.reduceLT, Int.reduceToNat], by rcases hhh with rfl | rfl <;> simp -implicitDefEqProofs (maxSteps := 2000000) only [kh, wk, act, asV, ↓reduceIte, Nat.reduceEqDiff, reduceCtorEq, Nat.reduceAdd, Nat.reduceLeDiff, Nat.reduceSub, Nat.reduceMul, List.reduceReplicate, Int.reduceEq, Int.reduceLT, Int.reduceLE, Int.reduceAdd, Int.reduceSub, Int.reduceMul, Nat.reduceLT, Int.reduceToNat]⟩)

theorem padR_ok (n : Nat) (hn : n < 2 ^ 64) : RC Try.prog 38 [.int .u64 (n : Int)] [.own (padB n).length 1 (bl (padB n))] := by
  refine RC.of_wp c38 rfl ?_
  have hzl : padZ n < 64 := Nat.mod_lt _ (by decide)
  simp -implicitDefEqProofs (maxSteps := 2000000) only [m38_1, m38_2, m38_3, m38_4, m38_5, m38_6, m38_7, m38_8, m38_9, m38_r, m38_b, m38, wk, act, asV, ↓reduceIte, Nat.reduceEqDiff, reduceCtorEq, Nat.reduceAdd, Nat.reduceLeDiff, Nat.reduceSub, Nat.reduceMul, List.reduceReplicate, Int.reduceEq, Int.reduceLT, Int.reduceLE, Int.reduceAdd, Int.reduceSub, Int.reduceMul, Nat.reduceLT, Int.reduceToNat]
  refine padR_zeros n hn _ _ ?_ (by simp -implicitDefEqProofs (maxSteps := 2000000) only [wk, act, asV, ↓reduceIte, Nat.reduceEqDiff, reduceCtorEq, Nat.reduceAdd, Nat.reduceLeDiff, Nat.reduceSub, Nat.reduceMul, List.reduceReplicate, Int.reduceEq, Int.reduceLT, Int.reduceLE, Int.reduceAdd, Int.reduceSub, Int.reduceMul, Nat.reduceLT, Int.reduceToNat]) (by simp -implicitDefEqProofs (maxSteps := 2000000) only [wk, act, asV, ↓reduceIte, Nat.reduceEqDiff, reduceCtorEq, Nat.reduceAdd, Nat.reduceLeDiff, Nat.reduceSub, Nat.reduceMul, List.reduceReplicate, Int.reduceEq, Int.reduceLT, Int.reduceLE, Int.reduceAdd, Int.reduceSub, Int.reduceMul, Nat.reduceLT, Int.reduceToNat])
  intro s2 p0 pr
  simp -implicitDefEqProofs (maxSteps := 2000000) only [p0, wk, act, asV, ↓reduceIte, Nat.reduceEqDiff, reduceCtorEq, Nat.reduceAdd, Nat.reduceLeDiff, Nat.reduceSub, Nat.reduceMul, List.reduceReplicate, Int.reduceEq, Int.reduceLT, Int.reduceLE, Int.reduceAdd, Int.reduceSub, Int.reduceMul, Nat.reduceLT, Int.reduceToNat]
  have hpl := padHead_length (padZ n)
  refine padR_len (padHead (padZ n)) n (by omega) hn _ _ ?_ (by simp -implicitDefEqProofs (maxSteps := 2000000) only [p0, wk, act, asV, ↓reduceIte, Nat.reduceEqDiff, reduceCtorEq, Nat.reduceAdd, Nat.reduceLeDiff, Nat.reduceSub, Nat.reduceMul, List.reduceReplicate, Int.reduceEq, Int.reduceLT, Int.reduceLE, Int.reduceAdd, Int.reduceSub, Int.reduceMul, Nat.reduceLT, Int.reduceToNat]) (by simp -implicitDefEqProofs (maxSteps := 2000000) only [wk, act, asV, ↓reduceIte, Nat.reduceEqDiff, reduceCtorEq, Nat.reduceAdd, Nat.reduceLeDiff, Nat.reduceSub, Nat.reduceMul, List.reduceReplicate, Int.reduceEq, Int.reduceLT, Int.reduceLE, Int.reduceAdd, Int.reduceSub, Int.reduceMul, Nat.reduceLT, Int.reduceToNat]) ?_
  · intro s3 qr
    have e : padHead (padZ n) ++ be8 (n % 2 ^ 61 * 8) = padB n := rfl
    rw [e] at qr
    have hl := padB_length n
    have tb := take_bl (padB n)
    rcases qr with ⟨h1, q3⟩ | ⟨hh, ver, hhh, q3, qh⟩
    · omega
    · rcases hhh with rfl | rfl <;> simp -implicitDefEqProofs (maxSteps := 2000000) only [q3, qh, tb, wk, act, asV, ↓reduceIte, Nat.reduceEqDiff, reduceCtorEq, Nat.reduceAdd, Nat.reduceLeDiff, Nat.reduceSub, Nat.reduceMul, List.reduceReplicate, Int.reduceEq, Int.reduceLT, Int.reduceLE, Int.reduceAdd, Int.reduceSub, Int.reduceMul, Nat.reduceLT, Int.reduceToNat]
  · rcases pr with ⟨h1, q3⟩ | ⟨hh, ver, hhh, q3, qh⟩
    · exact .inl ⟨h1, by simp -implicitDefEqProofs (maxSteps := 2000000) only [q3, wk, act, asV, ↓reduceIte, Nat.reduceEqDiff, reduceCtorEq, Nat.reduceAdd, Nat.reduceLeDiff, Nat.reduceSub, Nat.reduceMul, List.reduceReplicate, Int.reduceEq, Int.reduceLT, Int.reduceLE, Int.reduceAdd, Int.reduceSub, Int.reduceMul, Nat.reduceLT, Int.reduceToNat]⟩
    · exact .inr ⟨hh, ver, hhh, by simp -implicitDefEqProofs (maxSteps := 2000000) only [q3, wk, act, asV, ↓reduceIte, Nat.reduceEqDiff, reduceCtorEq, Nat.reduceAdd, Nat.reduceLeDiff, Nat.reduceSub, Nat.reduceMul, List.reduceReplicate, Int.reduceEq, Int.reduceLT, Int.reduceLE, Int.reduceAdd, Int.reduceSub, Int.reduceMul, Nat.reduceLT, Int.reduceToNat], by rcases hhh with rfl | rfl <;> simp -implicitDefEqProofs (maxSteps := 2000000) only [qh, wk, act, asV, ↓reduceIte, Nat.reduceEqDiff, reduceCtorEq, Nat.reduceAdd, Nat.reduceLeDiff, Nat.reduceSub, Nat.reduceMul, List.reduceReplicate, Int.reduceEq, Int.reduceLT, Int.reduceLE, Int.reduceAdd, Int.reduceSub, Int.reduceMul, Nat.reduceLT, Int.reduceToNat]⟩
end Go.Proofs.Ytkphojcmjffccaa

/-! The hash: its beginning, its end. -/
set_option linter.unusedSectionVars false
set_option linter.unusedVariables false
set_option linter.unusedSimpArgs false
set_option maxRecDepth 100000
set_option maxHeartbeats 8000000
namespace Go.Proofs.Ytkphojcmjffccaa
open Go.RowKit

def start8 : H8 := ⟨0x6a09e667, 0xbb67ae85, 0x3c6ef372, 0xa54ff53a, 0x510e527f, 0x9b05688c, 0x1f83d9ab, 0x5be0cd19⟩
theorem start_ok : RC Try.prog 34 [] [.agg (wl start8.l)] := by
  refine RC.of_wp c34 rfl ?_
  simp -implicitDefEqProofs (maxSteps := 2000000) only [m34_1, m34_r, m34_b, m34, wk, act, asV, ↓reduceIte, Nat.reduceEqDiff, reduceCtorEq, Nat.reduceAdd, Nat.reduceLeDiff, Nat.reduceSub, Nat.reduceMul, List.reduceReplicate, Int.reduceEq, Int.reduceLT, Int.reduceLE, Int.reduceAdd, Int.reduceSub, Int.reduceMul, Nat.reduceLT, Int.reduceToNat]
  first | done | kernel_rfl
theorem startR_ok : RC Try.prog 39 [] [.agg (wl start8.l)] := by
  refine RC.of_wp c39 rfl ?_
  simp -implicitDefEqProofs (maxSteps := 2000000) only [m39_1, m39_r, m39_b, m39, wk, act, asV, ↓reduceIte, Nat.reduceEqDiff, reduceCtorEq, Nat.reduceAdd, Nat.reduceLeDiff, Nat.reduceSub, Nat.reduceMul, List.reduceReplicate, Int.reduceEq, Int.reduceLT, Int.reduceLE, Int.reduceAdd, Int.reduceSub, Int.reduceMul, Nat.reduceLT, Int.reduceToNat]
  first | done | kernel_rfl
def toH8 (L : List UInt32) : H8 := ⟨L.getD 0 0, L.getD 1 0, L.getD 2 0, L.getD 3 0, L.getD 4 0, L.getD 5 0, L.getD 6 0, L.getD 7 0⟩
theorem toH8_l {L : List UInt32} (h : L.length = 8) : (toH8 L).l = L := by
  match L, h with
  | [a, b, c, d, e, f, g, i], _ => rfl
theorem turnH_length (h : H8) (b : List UInt8) : (turnH h b).length = 8 := addTo_length _ _ _
def hashN (m : List UInt8) : Nat → H8
  | 0 => start8
  | k + 1 => toH8 (turnH (hashN m k) ((m.drop (64 * k)).take 64))
theorem hashN_succ (m : List UInt8) (k : Nat) : (hashN m (k + 1)).l = turnH (hashN m k) ((m.drop (64 * k)).take 64) := toH8_l (turnH_length _ _)
def digest (L : List UInt32) : List UInt8 := (List.range 32).map fun i => u8 ((L.getD (i / 4) 0).toNat >>> (24 - 8 * (i % 4)))
def shaB (m : List UInt8) : List UInt8 := digest (hashN (m ++ padB m.length) ((m.length + 9 + padZ m.length) / 64)).l
theorem digest_length (L : List UInt32) : (digest L).length = 32 := by simp [digest]
theorem digest_take (L : List UInt32) {i : Nat} (h : i < 32) : (digest L).take (i + 1) = (digest L).take i ++ [u8 ((L.getD (i / 4) 0).toNat >>> (24 - 8 * (i % 4)))] := by
  rw [List.take_succ_eq_append_getElem (by rw [digest_length]; exact h)]
  simp [digest]
def zb (n : Nat) : List UInt8 := List.replicate n 0
theorem grow8 (W : List UInt8) (m p : Nat) (hp : W.length = p) (x : UInt8) : List.take p (bl (W ++ zb (m + 1))) ++ [IV.int .u8 (x.toNat : Int)] ++ List.drop (p + 1) (bl (W ++ zb (m + 1))) = bl ((W ++ [x]) ++ zb m) := by
  subst hp
  have e : bl (W ++ zb (m + 1)) = bl W ++ (IV.int .u8 0 :: bl (zb m)) := by rw [bl_append]; rfl
  rw [e, List.take_left' (bl_length W), ← List.drop_drop, List.drop_left' (bl_length W)]
  simp [bl]

theorem sumR_out (L : List UInt32) (hL : L.length = 8) {v5 : Nat} (Q : Ex → St → Prop) (s1 : St)
    (q1 : ∀ s2 : St, s2.t 2 = s1.t 2 → s2.h 2 = s1.h 2 → (∃ v8, s2.t 8 = .ptr 8 0 v8 ∧ s2.h 8 = ⟨v8, true, true, false, bl (digest L)⟩) → Q (.exit 4) s2)
    (k5 : s1.t 5 = .ptr 5 0 v5) (kh5 : s1.h 5 = ⟨v5, true, true, false, wl L⟩) (k8 : ∃ v8, s1.t 8 = .ptr 8 0 v8 ∧ s1.h 8 = ⟨v8, true, true, false, bl (zb 32)⟩) (k9 : s1.t 9 = .int .i64 0) :
    Wp (RCs Try.prog) (.loop m26_12) Q s1 := by
  refine Wp_loop (fun m s => ∃ i, i ≤ 32 ∧ m = 32 - i ∧ s.t 2 = s1.t 2 ∧ s.h 2 = s1.h 2 ∧ s.t 5 = .ptr 5 0 v5 ∧ s.h 5 = ⟨v5, true, true, false, wl L⟩ ∧ s.t 9 = .int .i64 i ∧ ∃ v8, s.t 8 = .ptr 8 0 v8 ∧ s.h 8 = ⟨v8, true, true, false, bl ((digest L).take i ++ zb (32 - i))⟩) 32 ⟨0, by omega, rfl, rfl, rfl, k5, kh5, k9, by simpa using k8⟩ ?_
  clear k5 kh5 k8 k9
  rintro m s ⟨i, hi, rfl, k2, kh2, k5, kh5, k9, v8, k8, kh8⟩
  by_cases hi32 : i < 32
  · have hi32' : (i : Int) < 32 := by omega
    have hi31 : i ≤ 31 := by omega
    have hq : (i : Int).tdiv 4 = ((i / 4 : Nat) : Int) := by rw [Int.tdiv_eq_ediv_of_nonneg (by omega)]; omega
    have hm : (i : Int).tmod 4 = ((i % 4 : Nat) : Int) := by rw [Int.tmod_eq_emod_of_nonneg (by omega)]; omega
    obtain ⟨q, hq'⟩ : ∃ q, q = i / 4 := ⟨_, rfl⟩
    obtain ⟨r, hr'⟩ : ∃ r, r = i % 4 := ⟨_, rfl⟩
    have hq8 : q < 8 := by omega
    have hq8' : (q : Int) < 8 := by omega
    have hq7 : q ≤ 7 := by omega
    have hr4 : r < 4 := by omega
    rw [← hq'] at hq
    rw [← hr'] at hm
    have wq : IntKind.i64.wrap (q : Int) = q := by rw [IntKind.wrap_i64]; omega
    have wr : IntKind.i64.wrap (r : Int) = r := by rw [IntKind.wrap_i64]; omega
    have w8 : IntKind.i64.wrap (8 * (r : Int)) = ((8 * r : Nat) : Int) := by rw [IntKind.wrap_i64]; omega
    have w24 : IntKind.i64.wrap (24 - ((8 * r : Nat) : Int)) = ((24 - 8 * r : Nat) : Int) := by rw [IntKind.wrap_i64]; omega
    have wu : IntKind.u64.wrap ((24 - 8 * r : Nat) : Int) = ((24 - 8 * r : Nat) : Int) := wrapN .u64 (by simp [vbits, IntKind.signed, IntKind.bits]; omega)
    have aw := at_wl (xs := L) (k := q) (by omega)
    have lw : (wl L).length = 8 := by rw [wl_length, hL]
    have hx : (L.getD q 0).toNat >>> (24 - 8 * r) = (L.getD (i / 4) 0).toNat >>> (24 - 8 * (i % 4)) := by rw [hq', hr']
    obtain ⟨y, hy⟩ : ∃ y, y = L.getD q 0 := ⟨_, rfl⟩
    rw [← hy] at aw hx
    have sr : shI .shr .u32 (y.toNat : Int) ((24 - 8 * r : Nat) : Int) = some (.int .u32 ((y.toNat >>> (24 - 8 * r) : Nat) : Int)) := shI_shr .u32 (by show 24 - 8 * r ≤ 32; omega)
    have wb : IntKind.u8.wrap ((y.toNat >>> (24 - 8 * r) : Nat) : Int) = ((u8 (y.toNat >>> (24 - 8 * r))).toNat : Int) := wrap_u8 _
    have et : (digest L).take (i + 1) = (digest L).take i ++ [u8 (y.toNat >>> (24 - 8 * r))] := by rw [digest_take L hi32, hx]
    have hWl : ((digest L).take i).length = i := by rw [List.length_take, digest_length]; omega
    rw [show 32 - i = (32 - (i + 1)) + 1 by omega] at kh8
    have gr := grow8 ((digest L).take i) (32 - (i + 1)) i hWl (u8 (y.toNat >>> (24 - 8 * r)))
    rw [← et] at gr
    have hcl : (bl ((digest L).take i ++ zb (32 - (i + 1) + 1))).length = 32 := by rw [bl_length, List.length_append, hWl]; simp [zb]; omega
    simp -implicitDefEqProofs (maxSteps := 2000000) only [k2, kh2, k5, kh5, k9, k8, kh8, hi32', hi31, hq, hm, hq8, hq8', hq7, wq, wr, w8, w24, wu, aw, lw, sr, wb, gr, hcl, m26_1, m26_2, m26_3, m26_4, m26_5, m26_6, m26_7, m26_8, m26_9, m26_10, m26_11, m26_12, m26_13, m26_14, m26_15, m26_16, m26_17, m26_18, m26_19, m26_20, m26_21, m26_r, m26_b, m26, wrap_nat (show i < 2 ^ 63 - 1 by omega), wk, act, asV, ↓reduceIte, Nat.reduceEqDiff, reduceCtorEq, Nat.reduceAdd, Nat.reduceLeDiff, Nat.reduceSub, Nat.reduceMul, List.reduceReplicate, Int.reduceEq, Int.reduceLT, Int.reduceLE, Int.reduceAdd, Int.reduceSub, Int.reduceMul, Nat.reduceLT, Int.reduceToNat]
    exact ⟨32 - (i + 1), by omega, i + 1, by omega, rfl, rfl, v8, rfl, rfl⟩
  · obtain rfl : i = 32 := by omega
    have e : (digest L).take 32 ++ zb (32 - 32) = digest L := by rw [List.take_of_length_le (by rw [digest_length]; exact Nat.le_refl _)]; simp [zb]
    rw [e] at kh8
    simp -implicitDefEqProofs (maxSteps := 2000000) only [k9, m26_1, m26_2, m26_3, m26_4, m26_5, m26_6, m26_7, m26_8, m26_9, m26_10, m26_11, m26_12, m26_13, m26_14, m26_15, m26_16, m26_17, m26_18, m26_19, m26_20, m26_21, m26_r, m26_b, m26, wk, act, asV, ↓reduceIte, Nat.reduceEqDiff, reduceCtorEq, Nat.reduceAdd, Nat.reduceLeDiff, Nat.reduceSub, Nat.reduceMul, List.reduceReplicate, Int.reduceEq, Int.reduceLT, Int.reduceLE, Int.reduceAdd, Int.reduceSub, Int.reduceMul, Nat.reduceLT, Int.reduceToNat]
    exact q1 _ (by simp -implicitDefEqProofs (maxSteps := 2000000) only [k2, wk, act, asV, ↓reduceIte, Nat.reduceEqDiff, reduceCtorEq, Nat.reduceAdd, Nat.reduceLeDiff, Nat.reduceSub, Nat.reduceMul, List.reduceReplicate, Int.reduceEq, Int.reduceLT, Int.reduceLE, Int.reduceAdd, Int.reduceSub, Int.reduceMul, Nat.reduceLT, Int.reduceToNat]) (by simp -implicitDefEqProofs (maxSteps := 2000000) only [kh2, wk, act, asV, ↓reduceIte, Nat.reduceEqDiff, reduceCtorEq, Nat.reduceAdd, Nat.reduceLeDiff, Nat.reduceSub, Nat.reduceMul, List.reduceReplicate, Int.reduceEq, Int.reduceLT, Int.reduceLE, Int.reduceAdd, Int.reduceSub, Int.reduceMul, Nat.reduceLT, Int.reduceToNat]) ⟨v8, by simp -implicitDefEqProofs (maxSteps := 2000000) only [k8, wk, act, asV, ↓reduceIte, Nat.reduceEqDiff, reduceCtorEq, Nat.reduceAdd, Nat.reduceLeDiff, Nat.reduceSub, Nat.reduceMul, List.reduceReplicate, Int.reduceEq, Int.reduceLT, Int.reduceLE, Int.reduceAdd, Int.reduceSub, Int.reduceMul, Nat.reduceLT, Int.reduceToNat], by simp -implicitDefEqProofs (maxSteps := 2000000) only [kh8, wk, act, asV, ↓reduceIte, Nat.reduceEqDiff, reduceCtorEq, Nat.reduceAdd, Nat.reduceLeDiff, Nat.reduceSub, Nat.reduceMul, List.reduceReplicate, Int.reduceEq, Int.reduceLT, Int.reduceLE, Int.reduceAdd, Int.reduceSub, Int.reduceMul, Nat.reduceLT, Int.reduceToNat]⟩
end Go.Proofs.Ytkphojcmjffccaa
