/- What comes behind a message, by the program. -/
import Derived.Test.YtlbilkldjhhopaaS7
import Derived.Test.YtlbilkldjhhopaaE31
import Derived.Test.YtlbilkldjhhopaaM7
set_option linter.unusedSectionVars false
set_option linter.unusedVariables false
set_option linter.unusedSimpArgs false
set_option maxRecDepth 100000
set_option maxHeartbeats 8000000
namespace Go.Proofs.Ytlbilkldjhhopaa
open Go.RowKit

theorem pad_len (P : List UInt8) (n : Nat) (hP : P.length ≤ 64) (hn : n < 2 ^ 61) (Q : Ex → St → Prop) (s1 : St)
    (q1 : ∀ s2 : St, rowP s2 17 30 (P ++ be8 (n * 8)) → Q (.exit 2) s2)
    (k0 : s1.t 0 = .int .u64 (n : Int)) (k18 : s1.t 18 = .int .i64 0) (kr : rowP s1 17 30 P) :
    Wp (RCs Try.prog) (.loop m22_6) Q s1 := by
  refine Wp_loop (fun m s => ∃ i, i ≤ 8 ∧ m = 8 - i ∧ s.t 0 = .int .u64 (n : Int) ∧ s.t 18 = .int .i64 i ∧ rowP s 17 30 (P ++ (be8 (n * 8)).take i)) 8 ⟨0, by omega, rfl, k0, k18, by simpa using kr⟩ ?_
  clear k0 k18 kr
  rintro m s ⟨i, hi, rfl, k0, k18, kr⟩
  by_cases hi8 : i < 8
  · have hi8' : (i : Int) < 8 := by omega
    have wm : IntKind.u64.wrap ((n : Int) * 8) = ((n * 8 : Nat) : Int) := by
      rw [show (n : Int) * 8 = ((n * 8 : Nat) : Int) by omega]
      exact wrapN .u64 (by simp [vbits, IntKind.signed, IntKind.bits]; omega)
    have w8 : IntKind.i64.wrap (8 * (i : Int)) = ((8 * i : Nat) : Int) := by rw [IntKind.wrap_i64]; omega
    have w56 : IntKind.i64.wrap (56 - ((8 * i : Nat) : Int)) = ((56 - 8 * i : Nat) : Int) := by rw [IntKind.wrap_i64]; omega
    have sr : shI .shr .u64 ((n * 8 : Nat) : Int) ((56 - 8 * i : Nat) : Int) = some (.int .u64 (((n * 8) >>> (56 - 8 * i) : Nat) : Int)) := shI_shr .u64 (by show 56 - 8 * i ≤ 64; omega)
    have wb : IntKind.u8.wrap (((n * 8) >>> (56 - 8 * i) : Nat) : Int) = ((u8 ((n * 8) >>> (56 - 8 * i))).toNat : Int) := wrap_u8 _
    have et : P ++ (be8 (n * 8)).take (i + 1) = (P ++ (be8 (n * 8)).take i) ++ [u8 ((n * 8) >>> (56 - 8 * i))] := by rw [be8_take _ hi8, List.append_assoc]
    obtain ⟨W, hW⟩ : ∃ W, W = P ++ (be8 (n * 8)).take i := ⟨_, rfl⟩
    rw [← hW] at kr et
    have hWl : W.length ≤ 72 := by rw [hW, List.length_append, List.length_take, be8_length]; omega
    obtain ⟨x, hx⟩ : ∃ x, x = u8 ((n * 8) >>> (56 - 8 * i)) := ⟨_, rfl⟩
    rw [← hx] at wb et
    have hr : roomy (W.length + 1) 1 = true := roomyB (by omega)
    have hr2 : roomy 2 1 = true := by decide
    have hsn := bl_snoc W x
    rw [← et] at hsn
    have hl2 : (P ++ (be8 (n * 8)).take (i + 1)).length = W.length + 1 := by rw [et, List.length_append]; rfl
    rcases kr with ⟨h1, k3⟩ | ⟨hh, ver, hhh, k3, kh⟩
    · rw [h1] at hl2
      simp -implicitDefEqProofs (maxSteps := 2000000) only [k0, k18, k3, hi8', wm, w8, w56, sr, wb, hr2, bl_length, h1, hsn, m22_1, m22_2, m22_3, m22_4, m22_5, m22_6, m22_7, m22_8, m22_9, m22_10, m22_11, m22_12, m22_r, m22_b, m22, wrap_nat (show i < 2 ^ 63 - 1 by omega), wk, act, asV, ↓reduceIte, Nat.reduceEqDiff, reduceCtorEq, Nat.reduceAdd, Nat.reduceLeDiff, Nat.reduceSub, Nat.reduceMul, List.reduceReplicate, Int.reduceEq, Int.reduceLT, Int.reduceLE, Int.reduceAdd, Int.reduceSub, Int.reduceMul, Nat.reduceLT, Int.reduceToNat]
      exact ⟨8 - (i + 1), by omega, i + 1, by omega, rfl, rfl, .inr ⟨30, _, .inr rfl, by rw [hl2]; rfl, rfl⟩⟩
    · rcases hhh with rfl | rfl <;>
      · simp -implicitDefEqProofs (maxSteps := 2000000) only [k0, k18, k3, kh, hi8', wm, w8, w56, sr, wb, hr, bl_length, hsn, m22_1, m22_2, m22_3, m22_4, m22_5, m22_6, m22_7, m22_8, m22_9, m22_10, m22_11, m22_12, m22_r, m22_b, m22, wrap_nat (show i < 2 ^ 63 - 1 by omega), wk, act, asV, ↓reduceIte, Nat.reduceEqDiff, reduceCtorEq, Nat.reduceAdd, Nat.reduceLeDiff, Nat.reduceSub, Nat.reduceMul, List.reduceReplicate, Int.reduceEq, Int.reduceLT, Int.reduceLE, Int.reduceAdd, Int.reduceSub, Int.reduceMul, Nat.reduceLT, Int.reduceToNat]
        exact ⟨8 - (i + 1), by omega, i + 1, by omega, rfl, rfl, .inr ⟨30, _, .inr rfl, by rw [hl2]; rfl, rfl⟩⟩
  · obtain rfl : i = 8 := by omega
    rw [List.take_of_length_le (by rw [be8_length]; exact Nat.le_refl 8)] at kr
    simp -implicitDefEqProofs (maxSteps := 2000000) only [k18, m22_1, m22_2, m22_3, m22_4, m22_5, m22_6, m22_7, m22_8, m22_9, m22_10, m22_11, m22_12, m22_r, m22_b, m22, wk, act, asV, ↓reduceIte, Nat.reduceEqDiff, reduceCtorEq, Nat.reduceAdd, Nat.reduceLeDiff, Nat.reduceSub, Nat.reduceMul, List.reduceReplicate, Int.reduceEq, Int.reduceLT, Int.reduceLE, Int.reduceAdd, Int.reduceSub, Int.reduceMul, Nat.reduceLT, Int.reduceToNat]
    rcases kr with ⟨h1, k3⟩ | ⟨hh, ver, hhh, k3, kh⟩
    · exact q1 _ (.inl ⟨h1, by simp -implicitDefEqProofs (maxSteps := 2000000) only [k3, wk, act, asV, ↓reduceIte, Nat.reduceEqDiff, reduceCtorEq, Nat.reduceAdd, Nat.reduceLeDiff, Nat.reduceSub, Nat.reduceMul, List.reduceReplicate, Int.reduceEq, Int.reduceLT, Int.reduceLE, Int.reduceAdd, Int.reduceSub, Int.reduceMul, Nat.reduceLT, Int.reduceToNat]⟩)
    · exact q1 _ (.inr ⟨hh, ver, hhh, by simp -implicitDefEqProofs (maxSteps := 2000000) only [k3, wk, act, asV, ↓reduceIte, Nat.reduceEqDiff, reduceCtorEq, Nat.reduceAdd, Nat.reduceLeDiff, Nat.reduceSub, Nat.reduceMul, List.reduceReplicate, Int.reduceEq, Int.reduceLT, Int.reduceLE, Int.reduceAdd, Int.reduceSub, Int.reduceMul, Nat.reduceLT, Int.reduceToNat], by rcases hhh with rfl | rfl <;> simp -implicitDefEqProofs (maxSteps := 2000000) only [kh, wk, act, asV, ↓reduceIte, Nat.reduceEqDiff, reduceCtorEq, Nat.reduceAdd, Nat.reduceLeDiff, Nat.reduceSub, Nat.reduceMul, List.reduceReplicate, Int.reduceEq, Int.reduceLT, Int.reduceLE, Int.reduceAdd, Int.reduceSub, Int.reduceMul, Nat.reduceLT, Int.reduceToNat]⟩)

theorem padB_length (n : Nat) : (padB n).length = 9 + padZ n := by rw [padB, List.length_append, padHead_length, be8_length]; omega
theorem pad_ok (n : Nat) (hn : n < 2 ^ 64) : RC Try.prog 22 [.int .u64 (n : Int)] [.own (padB n).length 1 (bl (padB n))] := by
  refine RC.of_wp c22 rfl ?_
  have hm : n % 2 ^ 61 < 2 ^ 61 := Nat.mod_lt _ (by decide)
  have wr : (n : Int).tmod 2305843009213693952 = ((n % 2 ^ 61 : Nat) : Int) := by rw [Int.tmod_eq_emod_of_nonneg (by omega)]; omega
  have hz : padZ (n % 2 ^ 61) = padZ n := by unfold padZ; omega
  have hzl : padZ n < 64 := Nat.mod_lt _ (by decide)
  simp -implicitDefEqProofs (maxSteps := 2000000) only [m22_1, m22_2, m22_3, m22_4, m22_5, m22_6, m22_7, m22_8, m22_9, m22_10, m22_11, m22_12, m22_r, m22_b, m22, wr, wk, act, asV, ↓reduceIte, Nat.reduceEqDiff, reduceCtorEq, Nat.reduceAdd, Nat.reduceLeDiff, Nat.reduceSub, Nat.reduceMul, List.reduceReplicate, Int.reduceEq, Int.reduceLT, Int.reduceLE, Int.reduceAdd, Int.reduceSub, Int.reduceMul, Nat.reduceLT, Int.reduceToNat]
  refine pad_zeros (n % 2 ^ 61) hm _ _ ?_ (by simp -implicitDefEqProofs (maxSteps := 2000000) only [wk, act, asV, ↓reduceIte, Nat.reduceEqDiff, reduceCtorEq, Nat.reduceAdd, Nat.reduceLeDiff, Nat.reduceSub, Nat.reduceMul, List.reduceReplicate, Int.reduceEq, Int.reduceLT, Int.reduceLE, Int.reduceAdd, Int.reduceSub, Int.reduceMul, Nat.reduceLT, Int.reduceToNat]) (by simp -implicitDefEqProofs (maxSteps := 2000000) only [wk, act, asV, ↓reduceIte, Nat.reduceEqDiff, reduceCtorEq, Nat.reduceAdd, Nat.reduceLeDiff, Nat.reduceSub, Nat.reduceMul, List.reduceReplicate, Int.reduceEq, Int.reduceLT, Int.reduceLE, Int.reduceAdd, Int.reduceSub, Int.reduceMul, Nat.reduceLT, Int.reduceToNat])
  intro s2 p0 pr
  rw [hz] at pr
  simp -implicitDefEqProofs (maxSteps := 2000000) only [p0, wk, act, asV, ↓reduceIte, Nat.reduceEqDiff, reduceCtorEq, Nat.reduceAdd, Nat.reduceLeDiff, Nat.reduceSub, Nat.reduceMul, List.reduceReplicate, Int.reduceEq, Int.reduceLT, Int.reduceLE, Int.reduceAdd, Int.reduceSub, Int.reduceMul, Nat.reduceLT, Int.reduceToNat]
  have hpl := padHead_length (padZ n)
  refine pad_len (padHead (padZ n)) (n % 2 ^ 61) (by omega) hm _ _ ?_ (by simp -implicitDefEqProofs (maxSteps := 2000000) only [p0, wk, act, asV, ↓reduceIte, Nat.reduceEqDiff, reduceCtorEq, Nat.reduceAdd, Nat.reduceLeDiff, Nat.reduceSub, Nat.reduceMul, List.reduceReplicate, Int.reduceEq, Int.reduceLT, Int.reduceLE, Int.reduceAdd, Int.reduceSub, Int.reduceMul, Nat.reduceLT, Int.reduceToNat]) (by simp -implicitDefEqProofs (maxSteps := 2000000) only [wk, act, asV, ↓reduceIte, Nat.reduceEqDiff, reduceCtorEq, Nat.reduceAdd, Nat.reduceLeDiff, Nat.reduceSub, Nat.reduceMul, List.reduceReplicate, Int.reduceEq, Int.reduceLT, Int.reduceLE, Int.reduceAdd, Int.reduceSub, Int.reduceMul, Nat.reduceLT, Int.reduceToNat]) ?_
  · intro s3 qr
    have e : padHead (padZ n) ++ be8 (n % 2 ^ 61 * 8) = padB n := rfl
    rw [e] at qr
    have hl := padB_length n
    have tb := take_bl (padB n)
    rcases qr with ⟨h1, q3⟩ | ⟨hh, ver, hhh, q3, qh⟩
    · omega
    · rcases hhh with rfl | rfl <;> simp -implicitDefEqProofs (maxSteps := 2000000) only [q3, qh, tb, wk, act, asV, ↓reduceIte, Nat.reduceEqDiff, reduceCtorEq, Nat.reduceAdd, Nat.reduceLeDiff, Nat.reduceSub, Nat.reduceMul, List.reduceReplicate, Int.reduceEq, Int.reduceLT, Int.reduceLE, Int.reduceAdd, Int.reduceSub, Int.reduceMul, Nat.reduceLT, Int.reduceToNat]
  · rcases pr with ⟨h1, q3⟩ | ⟨hh, ver, hhh, q3, qh⟩
    · exact .inl ⟨h1, by simp -implicitDefEqProofs (maxSteps := 2000000) only [q3, wk, act, asV, ↓reduceIte, Nat.reduceEqDiff, reduceCtorEq, Nat.reduceAdd, Nat.reduceLeDiff, Nat.reduceSub, Nat.reduceMul, List.reduceReplicate, Int.reduceEq, Int.reduceLT, Int.reduceLE, Int.reduceAdd, Int.reduceSub, Int.reduceMul, Nat.reduceLT, Int.reduceToNat]⟩
    · exact .inr ⟨hh, ver, hhh, by simp -implicitDefEqProofs (maxSteps := 2000000) only [q3, wk, act, asV, ↓reduceIte, Nat.reduceEqDiff, reduceCtorEq, Nat.reduceAdd, Nat.reduceLeDiff, Nat.reduceSub, Nat.reduceMul, List.reduceReplicate, Int.reduceEq, Int.reduceLT, Int.reduceLE, Int.reduceAdd, Int.reduceSub, Int.reduceMul, Nat.reduceLT, Int.reduceToNat], by rcases hhh with rfl | rfl <;> simp -implicitDefEqProofs (maxSteps := 2000000) only [qh, wk, act, asV, ↓reduceIte, Nat.reduceEqDiff, reduceCtorEq, Nat.reduceAdd, Nat.reduceLeDiff, Nat.reduceSub, Nat.reduceMul, List.reduceReplicate, Int.reduceEq, Int.reduceLT, Int.reduceLE, Int.reduceAdd, Int.reduceSub, Int.reduceMul, Nat.reduceLT, Int.reduceToNat]⟩
end Go.Proofs.Ytlbilkldjhhopaa
