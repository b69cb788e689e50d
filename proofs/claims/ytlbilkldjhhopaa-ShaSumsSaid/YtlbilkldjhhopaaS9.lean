/- What comes behind a message, by the reference. -/
import Derived.Test.YtlbilkldjhhopaaS8
import Derived.Test.YtlbilkldjhhopaaE31
import Derived.Test.YtlbilkldjhhopaaM7
set_option linter.unusedSectionVars false
set_option linter.unusedVariables false
set_option linter.unusedSimpArgs false
set_option maxRecDepth 100000
set_option maxHeartbeats 8000000
namespace Go.Proofs.Ytlbilkldjhhopaa
open Go.RowKit

theorem padR_zeros (n : Nat) (hn : n < 2 ^ 64) (Q : Ex → St → Prop) (s1 : St)
    (q1 : ∀ s2 : St, s2.t 0 = .int .u64 (n : Int) → rowP s2 15 29 (padHead (padZ n)) → Q (.exit 0) s2)
    (k0 : s1.t 0 = .int .u64 (n : Int)) (k3 : s1.t 3 = .sl .lit 1 [.int .u8 128]) :
    Wp (RCs Try.prog) (.loop m23_2) Q s1 := by
  have hz : padZ n < 64 := Nat.mod_lt _ (by decide)
  refine Wp_loop (fun m s => ∃ j, j ≤ padZ n ∧ m = padZ n - j ∧ s.t 0 = .int .u64 (n : Int) ∧ rowP s 15 29 (padHead j)) (padZ n) ⟨0, by omega, rfl, k0, .inl ⟨rfl, k3⟩⟩ ?_
  clear k0 k3
  rintro m s ⟨j, hj, rfl, k0, kr⟩
  have hl := padHead_length j
  obtain ⟨W, hW⟩ : ∃ W, W = padHead j := ⟨_, rfl⟩
  have esc := padHead_succ j
  rw [← hW] at kr hl esc
  have w1 : IntKind.u64.wrap ((1 + j : Nat) : Int) = ((1 + j : Nat) : Int) := wrapN .u64 (by simp [vbits, IntKind.signed, IntKind.bits]; omega)
  have w1' : IntKind.u64.wrap (1 : Int) = 1 := rfl
  have w2 : IntKind.u64.wrap ((n : Int) + ((1 + j : Nat) : Int)) = (((n + 1 + j) % 2 ^ 64 : Nat) : Int) := by
    simp only [IntKind.wrap, IntKind.signed, IntKind.bits, Bool.false_and, Bool.false_eq_true, if_false]
    omega
  have w3 : (((n + 1 + j) % 2 ^ 64 : Nat) : Int).tmod 64 = (((n + 1 + j) % 64 : Nat) : Int) := by rw [Int.tmod_eq_emod_of_nonneg (by omega)]; omega
  by_cases hjz : j < padZ n
  · have hne : ¬ (((n + 1 + j) % 64 : Nat) : Int) = 56 := by unfold padZ at hjz hz; omega
    have hr : roomy (1 + j + 1) 1 = true := roomyB (by omega)
    have hr2 : roomy 2 1 = true := by decide
    have hsn := bl_snoc W 0
    have hsn' : bl W ++ [.int .u8 0] = bl (padHead (j + 1)) := by rw [esc]; exact hsn
    rcases kr with ⟨h1, k3⟩ | ⟨hh, ver, hhh, k3, kh⟩
    · have hj0 : j = 0 := by omega
      subst hj0
      rw [show 1 + 0 = 1 from rfl] at w2
      have w2' : IntKind.u64.wrap ((n : Int) + 1) = (((n + 1 + 0) % 2 ^ 64 : Nat) : Int) := w2
      simp -implicitDefEqProofs (maxSteps := 2000000) only [k0, k3, w1', w2', w3, hne, hr, hr2, bl_length, h1, hsn', m23_1, m23_2, m23_3, m23_4, m23_5, m23_6, m23_7, m23_8, m23_9, m23_r, m23_b, m23, wk, act, asV, ↓reduceIte, Nat.reduceEqDiff, reduceCtorEq, Nat.reduceAdd, Nat.reduceLeDiff, Nat.reduceSub, Nat.reduceMul, List.reduceReplicate, Int.reduceEq, Int.reduceLT, Int.reduceLE, Int.reduceAdd, Int.reduceSub, Int.reduceMul, Nat.reduceLT, Int.reduceToNat]
      exact ⟨padZ n - (0 + 1), by omega, 0 + 1, by omega, rfl, .inr ⟨15, _, .inl rfl, by rw [padHead_length]; rfl, rfl⟩⟩
    · rw [hl] at k3
      rcases hhh with rfl | rfl <;>
      · simp -implicitDefEqProofs (maxSteps := 2000000) only [k0, k3, kh, w1, w2, w3, hne, hr, bl_length, hl, hsn', m23_1, m23_2, m23_3, m23_4, m23_5, m23_6, m23_7, m23_8, m23_9, m23_r, m23_b, m23, wk, act, asV, ↓reduceIte, Nat.reduceEqDiff, reduceCtorEq, Nat.reduceAdd, Nat.reduceLeDiff, Nat.reduceSub, Nat.reduceMul, List.reduceReplicate, Int.reduceEq, Int.reduceLT, Int.reduceLE, Int.reduceAdd, Int.reduceSub, Int.reduceMul, Nat.reduceLT, Int.reduceToNat]
        exact ⟨padZ n - (j + 1), by omega, j + 1, by omega, rfl, .inr ⟨15, _, .inl rfl, by rw [padHead_length]; rfl, rfl⟩⟩
  · have hje : j = padZ n := by omega
    have heq : (((n + 1 + j) % 64 : Nat) : Int) = 56 := by unfold padZ at hje; omega
    rcases kr with ⟨h1, k3⟩ | ⟨hh, ver, hhh, k3, kh⟩
    · have hj0 : j = 0 := by omega
      have w2' : IntKind.u64.wrap ((n : Int) + 1) = (((n + 1 + j) % 2 ^ 64 : Nat) : Int) := by rw [hj0] at w2 ⊢; exact w2
      simp -implicitDefEqProofs (maxSteps := 2000000) only [k0, k3, w1', w2', w3, heq, m23_1, m23_2, m23_3, m23_4, m23_5, m23_6, m23_7, m23_8, m23_9, m23_r, m23_b, m23, wk, act, asV, ↓reduceIte, Nat.reduceEqDiff, reduceCtorEq, Nat.reduceAdd, Nat.reduceLeDiff, Nat.reduceSub, Nat.reduceMul, List.reduceReplicate, Int.reduceEq, Int.reduceLT, Int.reduceLE, Int.reduceAdd, Int.reduceSub, Int.reduceMul, Nat.reduceLT, Int.reduceToNat]
      exact q1 _ (by simp -implicitDefEqProofs (maxSteps := 2000000) only [k0, wk, act, asV, ↓reduceIte, Nat.reduceEqDiff, reduceCtorEq, Nat.reduceAdd, Nat.reduceLeDiff, Nat.reduceSub, Nat.reduceMul, List.reduceReplicate, Int.reduceEq, Int.reduceLT, Int.reduceLE, Int.reduceAdd, Int.reduceSub, Int.reduceMul, Nat.reduceLT, Int.reduceToNat]) (by rw [← hje, ← hW]; exact .inl ⟨h1, by simp -implicitDefEqProofs (maxSteps := 2000000) only [k3, wk, act, asV, ↓reduceIte, Nat.reduceEqDiff, reduceCtorEq, Nat.reduceAdd, Nat.reduceLeDiff, Nat.reduceSub, Nat.reduceMul, List.reduceReplicate, Int.reduceEq, Int.reduceLT, Int.reduceLE, Int.reduceAdd, Int.reduceSub, Int.reduceMul, Nat.reduceLT, Int.reduceToNat]⟩)
    · rw [hl] at k3
      have hhh' := hhh
      rcases hhh with rfl | rfl <;>
      · simp -implicitDefEqProofs (maxSteps := 2000000) only [k0, k3, kh, w1, w2, w3, heq, m23_1, m23_2, m23_3, m23_4, m23_5, m23_6, m23_7, m23_8, m23_9, m23_r, m23_b, m23, wk, act, asV, ↓reduceIte, Nat.reduceEqDiff, reduceCtorEq, Nat.reduceAdd, Nat.reduceLeDiff, Nat.reduceSub, Nat.reduceMul, List.reduceReplicate, Int.reduceEq, Int.reduceLT, Int.reduceLE, Int.reduceAdd, Int.reduceSub, Int.reduceMul, Nat.reduceLT, Int.reduceToNat]
        exact q1 _ (by simp -implicitDefEqProofs (maxSteps := 2000000) only [k0, wk, act, asV, ↓reduceIte, Nat.reduceEqDiff, reduceCtorEq, Nat.reduceAdd, Nat.reduceLeDiff, Nat.reduceSub, Nat.reduceMul, List.reduceReplicate, Int.reduceEq, Int.reduceLT, Int.reduceLE, Int.reduceAdd, Int.reduceSub, Int.reduceMul, Nat.reduceLT, Int.reduceToNat]) (by rw [← hje, ← hW]; exact .inr ⟨_, ver, hhh', by rw [hl]; simp -implicitDefEqProofs (maxSteps := 2000000) only [k3, wk, act, asV, ↓reduceIte, Nat.reduceEqDiff, reduceCtorEq, Nat.reduceAdd, Nat.reduceLeDiff, Nat.reduceSub, Nat.reduceMul, List.reduceReplicate, Int.reduceEq, Int.reduceLT, Int.reduceLE, Int.reduceAdd, Int.reduceSub, Int.reduceMul, Nat.reduceLT, Int.reduceToNat], by simp -implicitDefEqProofs (maxSteps := 2000000) only [kh, wk, act, asV, ↓reduceIte, Nat.reduceEqDiff, reduceCtorEq, Nat.reduceAdd, Nat.reduceLeDiff, Nat.reduceSub, Nat.reduceMul, List.reduceReplicate, Int.reduceEq, Int.reduceLT, Int.reduceLE, Int.reduceAdd, Int.reduceSub, Int.reduceMul, Nat.reduceLT, Int.reduceToNat]⟩)

theorem padR_len (P : List UInt8) (n : Nat) (hP : P.length ≤ 64) (hn : n < 2 ^ 64) (Q : Ex → St → Prop) (s1 : St)
    (q1 : ∀ s2 : St, rowP s2 15 29 (P ++ be8 (n % 2 ^ 61 * 8)) → Q (.exit 2) s2)
    (k0 : s1.t 0 = .int .u64 (n : Int)) (k4 : s1.t 4 = .int .i64 7) (kr : rowP s1 15 29 P) :
    Wp (RCs Try.prog) (.loop m23_4) Q s1 := by
  refine Wp_loop (fun m s => ∃ i, i ≤ 8 ∧ m = 8 - i ∧ s.t 0 = .int .u64 (n : Int) ∧ s.t 4 = .int .i64 (7 - (i : Int)) ∧ rowP s 15 29 (P ++ (be8 (n % 2 ^ 61 * 8)).take i)) 8 ⟨0, by omega, rfl, k0, by simpa using k4, by simpa using kr⟩ ?_
  clear k0 k4 kr
  rintro m s ⟨i, hi, rfl, k0, k4, kr⟩
  obtain ⟨M, hM⟩ : ∃ M, M = n % 2 ^ 61 * 8 := ⟨_, rfl⟩
  rw [← hM] at kr
  by_cases hi8 : i < 8
  · obtain ⟨c, hc⟩ : ∃ c, c = 7 - i := ⟨_, rfl⟩
    have e4 : (7 - (i : Int)) = (c : Int) := by omega
    rw [e4] at k4
    have hc0 : (0 : Int) ≤ c := by omega
    have wm : shI .shl .u64 (n : Int) 3 = some (.int .u64 (M : Int)) := by
      simp only [shI, if_neg (show ¬ ((3 : Int) < 0) by omega)]
      show some (IV.int .u64 (IntKind.u64.wrap ((n : Int) * 2 ^ 3))) = _
      congr 2
      simp only [IntKind.wrap, IntKind.signed, IntKind.bits, Bool.false_and, Bool.false_eq_true, if_false]
      omega
    have w8 : IntKind.i64.wrap (8 * (c : Int)) = ((8 * c : Nat) : Int) := by rw [IntKind.wrap_i64]; omega
    have wu : IntKind.u64.wrap ((8 * c : Nat) : Int) = ((8 * c : Nat) : Int) := wrapN .u64 (by simp [vbits, IntKind.signed, IntKind.bits]; omega)
    have sr : shI .shr .u64 (M : Int) ((8 * c : Nat) : Int) = some (.int .u64 ((M >>> (8 * c) : Nat) : Int)) := shI_shr .u64 (by show 8 * c ≤ 64; omega)
    have wb : IntKind.u8.wrap ((M >>> (8 * c) : Nat) : Int) = ((u8 (M >>> (8 * c))).toNat : Int) := wrap_u8 _
    have wd : IntKind.i64.wrap ((c : Int) - 1) = 7 - ((i + 1 : Nat) : Int) := by rw [IntKind.wrap_i64]; omega
    have et : P ++ (be8 M).take (i + 1) = (P ++ (be8 M).take i) ++ [u8 (M >>> (8 * c))] := by rw [be8_take _ hi8, List.append_assoc, show 56 - 8 * i = 8 * c by omega]
    obtain ⟨W, hW⟩ : ∃ W, W = P ++ (be8 M).take i := ⟨_, rfl⟩
    rw [← hW] at kr et
    have hWl : W.length ≤ 72 := by rw [hW, List.length_append, List.length_take, be8_length]; omega
    obtain ⟨x, hx⟩ : ∃ x, x = u8 (M >>> (8 * c)) := ⟨_, rfl⟩
    rw [← hx] at wb et
    have hr : roomy (W.length + 1) 1 = true := roomyB (by omega)
    have hr2 : roomy 2 1 = true := by decide
    have hsn := bl_snoc W x
    rw [← et] at hsn
    have hl2 : (P ++ (be8 M).take (i + 1)).length = W.length + 1 := by rw [et, List.length_append]; rfl
    rcases kr with ⟨h1, k3⟩ | ⟨hh, ver, hhh, k3, kh⟩
    · rw [h1] at hl2
      simp -implicitDefEqProofs (maxSteps := 2000000) only [k0, k4, k3, hc0, wm, w8, wu, sr, wb, wd, hr2, bl_length, h1, hsn, m23_1, m23_2, m23_3, m23_4, m23_5, m23_6, m23_7, m23_8, m23_9, m23_r, m23_b, m23, wk, act, asV, ↓reduceIte, Nat.reduceEqDiff, reduceCtorEq, Nat.reduceAdd, Nat.reduceLeDiff, Nat.reduceSub, Nat.reduceMul, List.reduceReplicate, Int.reduceEq, Int.reduceLT, Int.reduceLE, Int.reduceAdd, Int.reduceSub, Int.reduceMul, Nat.reduceLT, Int.reduceToNat]
      exact ⟨8 - (i + 1), by omega, i + 1, by omega, rfl, rfl, .inr ⟨29, _, .inr rfl, by rw [← hM, hl2]; rfl, by rw [← hM]; rfl⟩⟩
    · rcases hhh with rfl | rfl <;>
      · simp -implicitDefEqProofs (maxSteps := 2000000) only [k0, k4, k3, kh, hc0, wm, w8, wu, sr, wb, wd, hr, bl_length, hsn, m23_1, m23_2, m23_3, m23_4, m23_5, m23_6, m23_7, m23_8, m23_9, m23_r, m23_b, m23, wk, act, asV, ↓reduceIte, Nat.reduceEqDiff, reduceCtorEq, Nat.reduceAdd, Nat.reduceLeDiff, Nat.reduceSub, Nat.reduceMul, List.reduceReplicate, Int.reduceEq, Int.reduceLT, Int.reduceLE, Int.reduceAdd, Int.reduceSub, Int.reduceMul, Nat.reduceLT, Int.reduceToNat]
        exact ⟨8 - (i + 1), by omega, i + 1, by omega, rfl, rfl, .inr ⟨29, _, .inr rfl, by rw [← hM, hl2]; rfl, by rw [← hM]; rfl⟩⟩
  · obtain rfl : i = 8 := by omega
    rw [List.take_of_length_le (by rw [be8_length]; exact Nat.le_refl 8)] at kr
    have k4' : s.t 4 = .int .i64 (-1) := k4
    simp -implicitDefEqProofs (maxSteps := 2000000) only [k4', m23_1, m23_2, m23_3, m23_4, m23_5, m23_6, m23_7, m23_8, m23_9, m23_r, m23_b, m23, wk, act, asV, ↓reduceIte, Nat.reduceEqDiff, reduceCtorEq, Nat.reduceAdd, Nat.reduceLeDiff, Nat.reduceSub, Nat.reduceMul, List.reduceReplicate, Int.reduceEq, Int.reduceLT, Int.reduceLE, Int.reduceAdd, Int.reduceSub, Int.reduceMul, Nat.reduceLT, Int.reduceToNat]
    rw [← hM] at q1
    rcases kr with ⟨h1, k3⟩ | ⟨hh, ver, hhh, k3, kh⟩
    · exact q1 _ (.inl ⟨h1, by simp -implicitDefEqProofs (maxSteps := 2000000) only [k3, wk, act, asV, ↓reduceIte, Nat.reduceEqDiff, reduceCtorEq, Nat.reduceAdd, Nat.reduceLeDiff, Nat.reduceSub, Nat.reduceMul, List.reduceReplicate, Int.reduceEq, Int.reduceLT, Int.reduceLE, Int.reduceAdd, Int.reduceSub, Int.reduceMul, Nat.reduceLT, Int.reduceToNat]⟩)
    · exact q1 _ (.inr ⟨hh, ver, hhh, by simp -implicitDefEqProofs (maxSteps := 2000000) only [k3, wk, act, asV, ↓reduceIte, Nat.reduceEqDiff, reduceCtorEq, Nat.reduceAdd, Nat.reduceLeDiff, Nat.reduceSub, Nat.reduceMul, List.reduceReplicate, Int.reduceEq, Int.reduceLT, Int.reduceLE, Int.reduceAdd, Int.reduceSub, Int.reduceMul, Nat.reduceLT, Int.reduceToNat], by rcases hhh with rfl | rfl <;> simp -implicitDefEqProofs (maxSteps := 2000000) only [kh, wk, act, asV, ↓reduceIte, Nat.reduceEqDiff, reduceCtorEq, Nat.reduceAdd, Nat.reduceLeDiff, Nat.reduceSub, Nat.reduceMul, List.reduceReplicate, Int.reduceEq, Int.reduceLT, Int.reduceLE, Int.reduceAdd, Int.reduceSub, Int.reduceMul, Nat.reduceLT, Int.reduceToNat]⟩)

theorem padR_ok (n : Nat) (hn : n < 2 ^ 64) : RC Try.prog 23 [.int .u64 (n : Int)] [.own (padB n).length 1 (bl (padB n))] := by
  refine RC.of_wp c23 rfl ?_
  have hzl : padZ n < 64 := Nat.mod_lt _ (by decide)
  simp -implicitDefEqProofs (maxSteps := 2000000) only [m23_1, m23_2, m23_3, m23_4, m23_5, m23_6, m23_7, m23_8, m23_9, m23_r, m23_b, m23, wk, act, asV, ↓reduceIte, Nat.reduceEqDiff, reduceCtorEq, Nat.reduceAdd, Nat.reduceLeDiff, Nat.reduceSub, Nat.reduceMul, List.reduceReplicate, Int.reduceEq, Int.reduceLT, Int.reduceLE, Int.reduceAdd, Int.reduceSub, Int.reduceMul, Nat.reduceLT, Int.reduceToNat]
  refine padR_zeros n hn _ _ ?_ (by simp -implicitDefEqProofs (maxSteps := 2000000) only [wk, act, asV, ↓reduceIte, Nat.reduceEqDiff, reduceCtorEq, Nat.reduceAdd, Nat.reduceLeDiff, Nat.reduceSub, Nat.reduceMul, List.reduceReplicate, Int.reduceEq, Int.reduceLT, Int.reduceLE, Int.reduceAdd, Int.reduceSub, Int.reduceMul, Nat.reduceLT, Int.reduceToNat]) (by simp -implicitDefEqProofs (maxSteps := 2000000) only [wk, act, asV, ↓reduceIte, Nat.reduceEqDiff, reduceCtorEq, Nat.reduceAdd, Nat.reduceLeDiff, Nat.reduceSub, Nat.reduceMul, List.reduceReplicate, Int.reduceEq, Int.reduceLT, Int.reduceLE, Int.reduceAdd, Int.reduceSub, Int.reduceMul, Nat.reduceLT, Int.reduceToNat])
  intro s2 p0 pr
  simp -implicitDefEqProofs (maxSteps := 2000000) only [p0, wk, act, asV, ↓reduceIte, Nat.reduceEqDiff, reduceCtorEq, Nat.reduceAdd, Nat.reduceLeDiff, Nat.reduceSub, Nat.reduceMul, List.reduceReplicate, Int.reduceEq, Int.reduceLT, Int.reduceLE, Int.reduceAdd, Int.reduceSub, Int.reduceMul, Nat.reduceLT, Int.reduceToNat]
  have hpl := padHead_length (padZ n)
  refine padR_len (padHead (padZ n)) n (by omega) hn _ _ ?_ (by simp -implicitDefEqProofs (maxSteps := 2000000) only [p0, wk, act, asV, ↓reduceIte, Nat.reduceEqDiff, reduceCtorEq, Nat.reduceAdd, Nat.reduceLeDiff, Nat.reduceSub, Nat.reduceMul, List.reduceReplicate, Int.reduceEq, Int.reduceLT, Int.reduceLE, Int.reduceAdd, Int.reduceSub, Int.reduceMul, Nat.reduceLT, Int.reduceToNat]) (by simp -implicitDefEqProofs (maxSteps := 2000000) only [wk, act, asV, ↓reduceIte, Nat.reduceEqDiff, reduceCtorEq, Nat.reduceAdd, Nat.reduceLeDiff, Nat.reduceSub, Nat.reduceMul, List.reduceReplicate, Int.reduceEq, Int.reduceLT, Int.reduceLE, Int.reduceAdd, Int.reduceSub, Int.reduceMul, Nat.reduceLT, Int.reduceToNat]) ?_
  · intro s3 qr
    have e : padHead (padZ n) ++ be8 (n % 2 ^ 61 * 8) = padB n := rfl
    rw [e] at qr
    have hl := padB_length n
    have tb := take_bl (padB n)
    rcases qr with ⟨h1, q3⟩ | ⟨hh, ver, hhh, q3, qh⟩
    · omega
    · rcases hhh with rfl | rfl <;> simp -implicitDefEqProofs (maxSteps := 2000000) only [q3, qh, tb, wk, act, asV, ↓reduceIte, Nat.reduceEqDiff, reduceCtorEq, Nat.reduceAdd, Nat.reduceLeDiff, Nat.reduceSub, Nat.reduceMul, List.reduceReplicate, Int.reduceEq, Int.reduceLT, Int.reduceLE, Int.reduceAdd, Int.reduceSub, Int.reduceMul, Nat.reduceLT, Int.reduceToNat]
  · rcases pr with ⟨h1, q3⟩ | ⟨hh, ver, hhh, q3, qh⟩
    · exact .inl ⟨h1, by simp -implicitDefEqProofs (maxSteps := 2000000) only [q3, wk, act, asV, ↓reduceIte, Nat.reduceEqDiff, reduceCtorEq, Nat.reduceAdd, Nat.reduceLeDiff, Nat.reduceSub, Nat.reduceMul, List.reduceReplicate, Int.reduceEq, Int.reduceLT, Int.reduceLE, Int.reduceAdd, Int.reduceSub, Int.reduceMul, Nat.reduceLT, Int.reduceToNat]⟩
    · exact .inr ⟨hh, ver, hhh, by simp -implicitDefEqProofs (maxSteps := 2000000) only [q3, wk, act, asV, ↓reduceIte, Nat.reduceEqDiff, reduceCtorEq, Nat.reduceAdd, Nat.reduceLeDiff, Nat.reduceSub, Nat.reduceMul, List.reduceReplicate, Int.reduceEq, Int.reduceLT, Int.reduceLE, Int.reduceAdd, Int.reduceSub, Int.reduceMul, Nat.reduceLT, Int.reduceToNat], by rcases hhh with rfl | rfl <;> simp -implicitDefEqProofs (maxSteps := 2000000) only [qh, wk, act, asV, ↓reduceIte, Nat.reduceEqDiff, reduceCtorEq, Nat.reduceAdd, Nat.reduceLeDiff, Nat.reduceSub, Nat.reduceMul, List.reduceReplicate, Int.reduceEq, Int.reduceLT, Int.reduceLE, Int.reduceAdd, Int.reduceSub, Int.reduceMul, Nat.reduceLT, Int.reduceToNat]⟩
end Go.Proofs.Ytlbilkldjhhopaa
