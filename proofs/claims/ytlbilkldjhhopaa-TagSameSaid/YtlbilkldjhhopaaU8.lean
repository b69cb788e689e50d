/- The law TagSame. -/
import Derived.Test.YtlbilkldjhhopaaU7
import Derived.Test.YtlbilkldjhhopaaK6
import Derived.Test.YtlbilkldjhhopaaE31
import Derived.Test.YtlbilkldjhhopaaM8
set_option linter.unusedVariables false
set_option linter.unusedSimpArgs false
set_option linter.unusedSectionVars false
set_option maxRecDepth 100000
set_option maxHeartbeats 8000000
namespace Go.Proofs.Ytlbilkldjhhopaa
open Go.RowKit

def turnB (a : List UInt8) (i : Nat) (v : UInt8) : List UInt8 := a.take i ++ [v] ++ a.drop (i + 1)
theorem turnB_length {a : List UInt8} {i : Nat} (h : i < a.length) (v : UInt8) : (turnB a i v).length = a.length := by simp [turnB]; omega
theorem bl_turnB (a : List UInt8) (i : Nat) (v : UInt8) : bl (turnB a i v) = List.take i (bl a) ++ [.int .u8 (v.toNat : Int)] ++ List.drop (i + 1) (bl a) := by
  rw [turnB, bl_append, bl_append, bl_take, bl_drop]; rfl
theorem turnB_self {a : List UInt8} {i : Nat} (h : i < a.length) : turnB a i (a.getD i 0) = a := by
  rw [turnB, List.getD_eq_getElem?_getD, List.getElem?_eq_getElem h, Option.getD_some, List.append_assoc, List.singleton_append, ← List.drop_eq_getElem_cons h, List.take_append_drop]
theorem turnB_eq {a : List UInt8} {i : Nat} (h : i < a.length) {v : UInt8} (e : turnB a i v = a) : v = a.getD i 0 := by
  have := congrArg (fun l => l.getD i 0) e
  simp only [turnB] at this
  rw [← this, List.getD_eq_getElem?_getD, List.append_assoc, List.getElem?_append_right (by simp; omega)]
  have : i - (List.take i a).length = 0 := by simp; omega
  rw [this]; rfl
theorem xor_self0 (x y : UInt8) : x ^^^ y = x ↔ y = 0 := by
  rw [← UInt8.toNat_inj, ← UInt8.toNat_inj, UInt8.toNat_xor, UInt8.toNat_zero]
  constructor
  · intro h
    have h2 : x.toNat ^^^ (x.toNat ^^^ y.toNat) = x.toNat ^^^ x.toNat := by rw [h]
    rw [← Nat.xor_assoc, Nat.xor_self, Nat.zero_xor] at h2
    exact h2
  · intro h; rw [h, Nat.xor_zero]

theorem tagSame (a : List UInt8) (k : Int) (y : UInt8) (ha : a.length < 2 ^ 63) : RC Try.prog 12 [.sl .plain a.length (bl a), .int .i64 k, .int .u8 (y.toNat : Nat)] [.bool true] := by
  refine RC.of_wp c12 rfl ?_
  obtain ⟨n, hn⟩ : ∃ n, n = a.length := ⟨_, rfl⟩
  rw [← hn]
  by_cases h1 : (3000 : Int) < (n : Nat)
  · repeat' (first | simp -implicitDefEqProofs (maxSteps := 2000000) only [m12_1, m12_2, m12_3, m12_4, m12_5, m12_6, m12_7, m12_8, m12_9, m12_10, m12_11, m12_12, m12_13, m12_r, m12_b, m12, h1, wk, act, asV, ↓reduceIte, Nat.reduceEqDiff, reduceCtorEq, Nat.reduceAdd, Nat.reduceLeDiff, Nat.reduceSub, Nat.reduceMul, List.reduceReplicate, Int.reduceEq, Int.reduceLT, Int.reduceLE, Int.reduceAdd, Int.reduceSub, Int.reduceMul, Nat.reduceLT, Int.reduceToNat] | ((with_reducible refine CallL.gate ?_); refine CallL.of (by simp -implicitDefEqProofs (maxSteps := 2000000) only [m12_1, m12_2, m12_3, m12_4, m12_5, m12_6, m12_7, m12_8, m12_9, m12_10, m12_11, m12_12, m12_13, m12_r, m12_b, m12, h1, wk, act, asV, ↓reduceIte, Nat.reduceEqDiff, reduceCtorEq, Nat.reduceAdd, Nat.reduceLeDiff, Nat.reduceSub, Nat.reduceMul, List.reduceReplicate, Int.reduceEq, Int.reduceLT, Int.reduceLE, Int.reduceAdd, Int.reduceSub, Int.reduceMul, Nat.reduceLT, Int.reduceToNat]; first | done | (with_reducible rfl)) (by first | exact wakesT_ok) (by simp -implicitDefEqProofs (maxSteps := 2000000) only [m12_1, m12_2, m12_3, m12_4, m12_5, m12_6, m12_7, m12_8, m12_9, m12_10, m12_11, m12_12, m12_13, m12_r, m12_b, m12, h1, wk, act, asV, ↓reduceIte, Nat.reduceEqDiff, reduceCtorEq, Nat.reduceAdd, Nat.reduceLeDiff, Nat.reduceSub, Nat.reduceMul, List.reduceReplicate, Int.reduceEq, Int.reduceLT, Int.reduceLE, Int.reduceAdd, Int.reduceSub, Int.reduceMul, Nat.reduceLT, Int.reduceToNat]) ?_) | ((with_reducible refine CallP.gate ?_); refine CallP.of (by simp -implicitDefEqProofs (maxSteps := 2000000) only [m12_1, m12_2, m12_3, m12_4, m12_5, m12_6, m12_7, m12_8, m12_9, m12_10, m12_11, m12_12, m12_13, m12_r, m12_b, m12, h1, wk, act, asV, ↓reduceIte, Nat.reduceEqDiff, reduceCtorEq, Nat.reduceAdd, Nat.reduceLeDiff, Nat.reduceSub, Nat.reduceMul, List.reduceReplicate, Int.reduceEq, Int.reduceLT, Int.reduceLE, Int.reduceAdd, Int.reduceSub, Int.reduceMul, Nat.reduceLT, Int.reduceToNat]; first | done | (with_reducible rfl)) (by first | exact wakesT_ok) (by simp -implicitDefEqProofs (maxSteps := 2000000) only [m12_1, m12_2, m12_3, m12_4, m12_5, m12_6, m12_7, m12_8, m12_9, m12_10, m12_11, m12_12, m12_13, m12_r, m12_b, m12, h1, wk, act, asV, ↓reduceIte, Nat.reduceEqDiff, reduceCtorEq, Nat.reduceAdd, Nat.reduceLeDiff, Nat.reduceSub, Nat.reduceMul, List.reduceReplicate, Int.reduceEq, Int.reduceLT, Int.reduceLE, Int.reduceAdd, Int.reduceSub, Int.reduceMul, Nat.reduceLT, Int.reduceToNat]) ?_))
  by_cases h0 : n = 0
  · subst h0
    have h2 : ¬ (3000 : Int) < ((0 : Nat) : Int) := by decide
    repeat' (first | simp -implicitDefEqProofs (maxSteps := 2000000) only [m12_1, m12_2, m12_3, m12_4, m12_5, m12_6, m12_7, m12_8, m12_9, m12_10, m12_11, m12_12, m12_13, m12_r, m12_b, m12, h2, wk, act, asV, ↓reduceIte, Nat.reduceEqDiff, reduceCtorEq, Nat.reduceAdd, Nat.reduceLeDiff, Nat.reduceSub, Nat.reduceMul, List.reduceReplicate, Int.reduceEq, Int.reduceLT, Int.reduceLE, Int.reduceAdd, Int.reduceSub, Int.reduceMul, Nat.reduceLT, Int.reduceToNat] | ((with_reducible refine CallL.gate ?_); refine CallL.of (by simp -implicitDefEqProofs (maxSteps := 2000000) only [m12_1, m12_2, m12_3, m12_4, m12_5, m12_6, m12_7, m12_8, m12_9, m12_10, m12_11, m12_12, m12_13, m12_r, m12_b, m12, h2, wk, act, asV, ↓reduceIte, Nat.reduceEqDiff, reduceCtorEq, Nat.reduceAdd, Nat.reduceLeDiff, Nat.reduceSub, Nat.reduceMul, List.reduceReplicate, Int.reduceEq, Int.reduceLT, Int.reduceLE, Int.reduceAdd, Int.reduceSub, Int.reduceMul, Nat.reduceLT, Int.reduceToNat]; first | done | (with_reducible rfl)) (by first | exact wakesT_ok) (by simp -implicitDefEqProofs (maxSteps := 2000000) only [m12_1, m12_2, m12_3, m12_4, m12_5, m12_6, m12_7, m12_8, m12_9, m12_10, m12_11, m12_12, m12_13, m12_r, m12_b, m12, h2, wk, act, asV, ↓reduceIte, Nat.reduceEqDiff, reduceCtorEq, Nat.reduceAdd, Nat.reduceLeDiff, Nat.reduceSub, Nat.reduceMul, List.reduceReplicate, Int.reduceEq, Int.reduceLT, Int.reduceLE, Int.reduceAdd, Int.reduceSub, Int.reduceMul, Nat.reduceLT, Int.reduceToNat]) ?_) | ((with_reducible refine CallP.gate ?_); refine CallP.of (by simp -implicitDefEqProofs (maxSteps := 2000000) only [m12_1, m12_2, m12_3, m12_4, m12_5, m12_6, m12_7, m12_8, m12_9, m12_10, m12_11, m12_12, m12_13, m12_r, m12_b, m12, h2, wk, act, asV, ↓reduceIte, Nat.reduceEqDiff, reduceCtorEq, Nat.reduceAdd, Nat.reduceLeDiff, Nat.reduceSub, Nat.reduceMul, List.reduceReplicate, Int.reduceEq, Int.reduceLT, Int.reduceLE, Int.reduceAdd, Int.reduceSub, Int.reduceMul, Nat.reduceLT, Int.reduceToNat]; first | done | (with_reducible rfl)) (by first | exact wakesT_ok) (by simp -implicitDefEqProofs (maxSteps := 2000000) only [m12_1, m12_2, m12_3, m12_4, m12_5, m12_6, m12_7, m12_8, m12_9, m12_10, m12_11, m12_12, m12_13, m12_r, m12_b, m12, h2, wk, act, asV, ↓reduceIte, Nat.reduceEqDiff, reduceCtorEq, Nat.reduceAdd, Nat.reduceLeDiff, Nat.reduceSub, Nat.reduceMul, List.reduceReplicate, Int.reduceEq, Int.reduceLT, Int.reduceLE, Int.reduceAdd, Int.reduceSub, Int.reduceMul, Nat.reduceLT, Int.reduceToNat]) ?_))
  have h2 : ¬ ((n : Nat) : Int) = 0 := by omega
  have cm := mod_ok k (n := n) (by omega) (by omega)
  have hi := modN_lt k (n := n) (by omega)
  obtain ⟨i, hie⟩ : ∃ i, i = modN k n := ⟨_, rfl⟩
  rw [← hie] at cm hi
  have b3 := at_b (b := a) (k := i) (by omega)
  have x1 := b_xor (a.getD i 0) y
  obtain ⟨v, hv⟩ : ∃ v, v = a.getD i 0 ^^^ y := ⟨_, rfl⟩
  rw [← hv] at x1
  have hl := turnB_length (a := a) (i := i) (by omega) v
  have hb := bl_turnB a i v
  have e1 : (a = turnB a i v) = (y = 0) := propext ⟨fun e => (xor_self0 _ _).1 (hv.symm.trans (turnB_eq (by omega) e.symm)), fun e => by rw [hv, (xor_self0 _ _).2 e]; exact (turnB_self (by omega)).symm⟩
  have e2 : (turnB a i v = a) = (y = 0) := by rw [← e1]; exact propext ⟨Eq.symm, Eq.symm⟩
  have s1 := same_ok .plain .plain a (turnB a i v) (by omega) (by omega)
  have s2 := same_ok .plain .plain (turnB a i v) a (by omega) (by omega)
  have s3 := same_ok .plain .plain a (a.drop 1) (by omega) (by simp; omega)
  have s4 := same_ok .plain .plain (a.drop 1) a (by simp; omega) (by omega)
  have s5 := same_ok .plain .plain a (a ++ [0]) (by omega) (by simp; omega)
  have n3 : ¬ a = a.drop 1 := fun e => by have := congrArg List.length e; simp at this; omega
  have n4 : ¬ a.drop 1 = a := fun e => n3 e.symm
  have n5 : ¬ a = a ++ [0] := fun e => by have := congrArg List.length e; simp at this
  simp only [e1, e2, hl, ← hn, hb] at s1 s2
  rw [decide_eq_false n3, List.length_drop, ← hn, ← bl_drop] at s3
  rw [decide_eq_false n4, List.length_drop, ← hn, ← bl_drop] at s4
  rw [decide_eq_false n5, List.length_append, ← hn, bl_append, List.length_singleton, show bl [0] = [.int .u8 0] from rfl] at s5
  have hla : (bl a).length = n := by rw [bl_length, hn]
  have hr : roomy n 1 = true := roomyB (by omega)
  have hr1 : roomy (n + 1) 1 = true := roomyB (by omega)
  have l0 : 0 < n := by omega
  have t3 : List.take (n + 1) (bl a ++ [IV.int .u8 0]) = bl a ++ [IV.int .u8 0] := List.take_of_length_le (by simp [bl_length]; omega)
  have l9 : 1 ≤ n := by omega
  have b1 : ((i : Nat) : Int) < ((n : Nat) : Int) := by omega
  have l1 : i + 1 ≤ n := by omega
  have t1 : List.take n (bl a) = bl a := List.take_of_length_le (by omega)
  have t2 : List.take n (List.take i (bl a) ++ [.int .u8 (v.toNat : Int)] ++ List.drop (i + 1) (bl a)) = List.take i (bl a) ++ [.int .u8 (v.toNat : Int)] ++ List.drop (i + 1) (bl a) := by rw [← hb]; exact List.take_of_length_le (by rw [bl_length]; omega)
  have w8 : IntKind.u8.wrap ((v.toNat : Nat) : Int) = v.toNat := wrapN .u8 (by have := v.toNat_lt; simpa [vbits, IntKind.signed, IntKind.bits] using this)
  have hy0 : (((y.toNat : Nat) : Int) = 0) = (y = 0) := propext ⟨fun e => UInt8.toNat_inj.1 (by rw [UInt8.toNat_zero]; omega), fun e => by rw [e]; rfl⟩
  cases hy : decide (y = 0) with
  | true =>
    rw [hy] at s1 s2
    repeat' (first | simp -implicitDefEqProofs (maxSteps := 2000000) only [m12_1, m12_2, m12_3, m12_4, m12_5, m12_6, m12_7, m12_8, m12_9, m12_10, m12_11, m12_12, m12_13, m12_r, m12_b, m12, h1, h2, b3, x1, hla, hr, hr1, l0, l9, b1, l1, t1, t2, t3, w8, hy0, hy, bl_scal, wk, act, asV, ↓reduceIte, Nat.reduceEqDiff, reduceCtorEq, Nat.reduceAdd, Nat.reduceLeDiff, Nat.reduceSub, Nat.reduceMul, List.reduceReplicate, Int.reduceEq, Int.reduceLT, Int.reduceLE, Int.reduceAdd, Int.reduceSub, Int.reduceMul, Nat.reduceLT, Int.reduceToNat] | ((with_reducible refine CallL.gate ?_); refine CallL.of (by simp -implicitDefEqProofs (maxSteps := 2000000) only [m12_1, m12_2, m12_3, m12_4, m12_5, m12_6, m12_7, m12_8, m12_9, m12_10, m12_11, m12_12, m12_13, m12_r, m12_b, m12, h1, h2, b3, x1, hla, hr, hr1, l0, l9, b1, l1, t1, t2, t3, w8, hy0, hy, bl_scal, wk, act, asV, ↓reduceIte, Nat.reduceEqDiff, reduceCtorEq, Nat.reduceAdd, Nat.reduceLeDiff, Nat.reduceSub, Nat.reduceMul, List.reduceReplicate, Int.reduceEq, Int.reduceLT, Int.reduceLE, Int.reduceAdd, Int.reduceSub, Int.reduceMul, Nat.reduceLT, Int.reduceToNat]; first | done | (with_reducible rfl)) (by first | exact cm | exact s1 | exact s2 | exact s3 | exact s4 | exact s5 | exact wakesT_ok) (by simp -implicitDefEqProofs (maxSteps := 2000000) only [m12_1, m12_2, m12_3, m12_4, m12_5, m12_6, m12_7, m12_8, m12_9, m12_10, m12_11, m12_12, m12_13, m12_r, m12_b, m12, h1, h2, b3, x1, hla, hr, hr1, l0, l9, b1, l1, t1, t2, t3, w8, hy0, hy, bl_scal, wk, act, asV, ↓reduceIte, Nat.reduceEqDiff, reduceCtorEq, Nat.reduceAdd, Nat.reduceLeDiff, Nat.reduceSub, Nat.reduceMul, List.reduceReplicate, Int.reduceEq, Int.reduceLT, Int.reduceLE, Int.reduceAdd, Int.reduceSub, Int.reduceMul, Nat.reduceLT, Int.reduceToNat]) ?_) | ((with_reducible refine CallP.gate ?_); refine CallP.of (by simp -implicitDefEqProofs (maxSteps := 2000000) only [m12_1, m12_2, m12_3, m12_4, m12_5, m12_6, m12_7, m12_8, m12_9, m12_10, m12_11, m12_12, m12_13, m12_r, m12_b, m12, h1, h2, b3, x1, hla, hr, hr1, l0, l9, b1, l1, t1, t2, t3, w8, hy0, hy, bl_scal, wk, act, asV, ↓reduceIte, Nat.reduceEqDiff, reduceCtorEq, Nat.reduceAdd, Nat.reduceLeDiff, Nat.reduceSub, Nat.reduceMul, List.reduceReplicate, Int.reduceEq, Int.reduceLT, Int.reduceLE, Int.reduceAdd, Int.reduceSub, Int.reduceMul, Nat.reduceLT, Int.reduceToNat]; first | done | (with_reducible rfl)) (by first | exact cm | exact s1 | exact s2 | exact s3 | exact s4 | exact s5 | exact wakesT_ok) (by simp -implicitDefEqProofs (maxSteps := 2000000) only [m12_1, m12_2, m12_3, m12_4, m12_5, m12_6, m12_7, m12_8, m12_9, m12_10, m12_11, m12_12, m12_13, m12_r, m12_b, m12, h1, h2, b3, x1, hla, hr, hr1, l0, l9, b1, l1, t1, t2, t3, w8, hy0, hy, bl_scal, wk, act, asV, ↓reduceIte, Nat.reduceEqDiff, reduceCtorEq, Nat.reduceAdd, Nat.reduceLeDiff, Nat.reduceSub, Nat.reduceMul, List.reduceReplicate, Int.reduceEq, Int.reduceLT, Int.reduceLE, Int.reduceAdd, Int.reduceSub, Int.reduceMul, Nat.reduceLT, Int.reduceToNat]) ?_))
  | false =>
    rw [hy] at s1 s2
    repeat' (first | simp -implicitDefEqProofs (maxSteps := 2000000) only [m12_1, m12_2, m12_3, m12_4, m12_5, m12_6, m12_7, m12_8, m12_9, m12_10, m12_11, m12_12, m12_13, m12_r, m12_b, m12, h1, h2, b3, x1, hla, hr, hr1, l0, l9, b1, l1, t1, t2, t3, w8, hy0, hy, bl_scal, wk, act, asV, ↓reduceIte, Nat.reduceEqDiff, reduceCtorEq, Nat.reduceAdd, Nat.reduceLeDiff, Nat.reduceSub, Nat.reduceMul, List.reduceReplicate, Int.reduceEq, Int.reduceLT, Int.reduceLE, Int.reduceAdd, Int.reduceSub, Int.reduceMul, Nat.reduceLT, Int.reduceToNat] | ((with_reducible refine CallL.gate ?_); refine CallL.of (by simp -implicitDefEqProofs (maxSteps := 2000000) only [m12_1, m12_2, m12_3, m12_4, m12_5, m12_6, m12_7, m12_8, m12_9, m12_10, m12_11, m12_12, m12_13, m12_r, m12_b, m12, h1, h2, b3, x1, hla, hr, hr1, l0, l9, b1, l1, t1, t2, t3, w8, hy0, hy, bl_scal, wk, act, asV, ↓reduceIte, Nat.reduceEqDiff, reduceCtorEq, Nat.reduceAdd, Nat.reduceLeDiff, Nat.reduceSub, Nat.reduceMul, List.reduceReplicate, Int.reduceEq, Int.reduceLT, Int.reduceLE, Int.reduceAdd, Int.reduceSub, Int.reduceMul, Nat.reduceLT, Int.reduceToNat]; first | done | (with_reducible rfl)) (by first | exact cm | exact s1 | exact s2 | exact s3 | exact s4 | exact s5 | exact wakesT_ok) (by simp -implicitDefEqProofs (maxSteps := 2000000) only [m12_1, m12_2, m12_3, m12_4, m12_5, m12_6, m12_7, m12_8, m12_9, m12_10, m12_11, m12_12, m12_13, m12_r, m12_b, m12, h1, h2, b3, x1, hla, hr, hr1, l0, l9, b1, l1, t1, t2, t3, w8, hy0, hy, bl_scal, wk, act, asV, ↓reduceIte, Nat.reduceEqDiff, reduceCtorEq, Nat.reduceAdd, Nat.reduceLeDiff, Nat.reduceSub, Nat.reduceMul, List.reduceReplicate, Int.reduceEq, Int.reduceLT, Int.reduceLE, Int.reduceAdd, Int.reduceSub, Int.reduceMul, Nat.reduceLT, Int.reduceToNat]) ?_) | ((with_reducible refine CallP.gate ?_); refine CallP.of (by simp -implicitDefEqProofs (maxSteps := 2000000) only [m12_1, m12_2, m12_3, m12_4, m12_5, m12_6, m12_7, m12_8, m12_9, m12_10, m12_11, m12_12, m12_13, m12_r, m12_b, m12, h1, h2, b3, x1, hla, hr, hr1, l0, l9, b1, l1, t1, t2, t3, w8, hy0, hy, bl_scal, wk, act, asV, ↓reduceIte, Nat.reduceEqDiff, reduceCtorEq, Nat.reduceAdd, Nat.reduceLeDiff, Nat.reduceSub, Nat.reduceMul, List.reduceReplicate, Int.reduceEq, Int.reduceLT, Int.reduceLE, Int.reduceAdd, Int.reduceSub, Int.reduceMul, Nat.reduceLT, Int.reduceToNat]; first | done | (with_reducible rfl)) (by first | exact cm | exact s1 | exact s2 | exact s3 | exact s4 | exact s5 | exact wakesT_ok) (by simp -implicitDefEqProofs (maxSteps := 2000000) only [m12_1, m12_2, m12_3, m12_4, m12_5, m12_6, m12_7, m12_8, m12_9, m12_10, m12_11, m12_12, m12_13, m12_r, m12_b, m12, h1, h2, b3, x1, hla, hr, hr1, l0, l9, b1, l1, t1, t2, t3, w8, hy0, hy, bl_scal, wk, act, asV, ↓reduceIte, Nat.reduceEqDiff, reduceCtorEq, Nat.reduceAdd, Nat.reduceLeDiff, Nat.reduceSub, Nat.reduceMul, List.reduceReplicate, Int.reduceEq, Int.reduceLT, Int.reduceLE, Int.reduceAdd, Int.reduceSub, Int.reduceMul, Nat.reduceLT, Int.reduceToNat]) ?_))
end Go.Proofs.Ytlbilkldjhhopaa
