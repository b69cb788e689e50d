/- Words: turned, and put together. -/
import Derived.Test.YtlbilkldjhhopaaE31
import Derived.Test.YtlbilkldjhhopaaM7
set_option linter.unusedSectionVars false
set_option linter.unusedVariables false
set_option linter.unusedSimpArgs false
set_option maxRecDepth 100000
set_option maxHeartbeats 4000000
namespace Go.Proofs.Ytlbilkldjhhopaa
open Go.RowKit

def wsh (x : UInt32) (k : Nat) : UInt32 := UInt32.ofNat (x.toNat >>> k)
def wsl (x : UInt32) (k : Nat) : UInt32 := UInt32.ofNat (x.toNat * 2 ^ k)
/-- a word turned right -/
def rotr (x : UInt32) (k : Nat) : UInt32 := wsh x k ||| wsl x (32 - k)
theorem w_lt (x : UInt32) : x.toNat < 2 ^ vbits .u32 := by
  have := x.toNat_lt
  simpa [vbits, IntKind.signed, IntKind.bits] using this
theorem w_wrap (n : Nat) : IntKind.u32.wrap (n : Int) = ((UInt32.ofNat n).toNat : Int) := by
  simp only [IntKind.wrap, IntKind.signed, IntKind.bits]
  simp
theorem wsh_toNat (x : UInt32) (k : Nat) : (wsh x k).toNat = x.toNat >>> k := by
  have := x.toNat_lt
  have h : x.toNat >>> k ≤ x.toNat := by rw [Nat.shiftRight_eq_div_pow]; exact Nat.div_le_self _ _
  simp only [wsh, UInt32.toNat_ofNat']
  exact Nat.mod_eq_of_lt (Nat.lt_of_le_of_lt h this)
theorem w_shr (x : UInt32) {k : Nat} (h : k ≤ 32) : shI .shr .u32 (x.toNat : Int) (k : Int) = some (.int .u32 ((wsh x k).toNat : Int)) := by
  rw [wsh_toNat]
  exact shI_shr .u32 h
theorem w_shl (x : UInt32) {k : Nat} (h : k ≤ 32) : shI .shl .u32 (x.toNat : Int) (k : Int) = some (.int .u32 ((wsl x k).toNat : Int)) := by
  have e : (x.toNat : Int) * 2 ^ k = ((x.toNat * 2 ^ k : Nat) : Int) := by simp
  have hk : k ≤ IntKind.u32.bits := h
  simp only [shI, if_neg (show ¬ ((k : Int) < 0) by omega), Int.toNat_natCast, Nat.min_eq_left hk, e, w_wrap]
  rfl
theorem w_or (x y : UInt32) : bitsI .or .u32 (x.toNat : Int) (y.toNat : Int) = some (((x ||| y).toNat : Nat) : Int) := by
  rw [bitsI_or .u32 (w_lt x) (w_lt y), UInt32.toNat_or]
theorem w_and (x y : UInt32) : bitsI .and .u32 (x.toNat : Int) (y.toNat : Int) = some (((x &&& y).toNat : Nat) : Int) := by
  rw [bitsI_and .u32 (w_lt x) (w_lt y), UInt32.toNat_and]
theorem w_xor (x y : UInt32) : bitsI .xor .u32 (x.toNat : Int) (y.toNat : Int) = some (((x ^^^ y).toNat : Nat) : Int) := by
  rw [bitsI_xor .u32 (w_lt x) (w_lt y), UInt32.toNat_xor]
theorem w_add (x y : UInt32) : IntKind.u32.wrap ((x.toNat : Int) + (y.toNat : Int)) = (((x + y).toNat : Nat) : Int) := by
  rw [← Int.natCast_add, w_wrap, UInt32.toNat_add]
  simp

theorem right_ok (x : UInt32) {k : Nat} (h : k ≤ 32) : RC Try.prog 43 [.int .u32 (x.toNat : Int), .int .u64 (k : Int)] [.int .u32 ((rotr x k).toNat : Int)] := by
  refine RC.of_wp c43 rfl ?_
  have w : IntKind.u64.wrap (32 - (k : Int)) = ((32 - k : Nat) : Int) := by
    rw [show (32 : Int) - k = ((32 - k : Nat) : Int) by omega]
    exact wrapN .u64 (by simp [vbits, IntKind.signed, IntKind.bits]; omega)
  have s1 := w_shr x h
  have s2 := w_shl x (k := 32 - k) (by omega)
  have s3 := w_or (wsh x k) (wsl x (32 - k))
  simp -implicitDefEqProofs (maxSteps := 2000000) only [m43_1, m43_r, m43_b, m43, w, s1, s2, s3, rotr, wk, act, asV, ↓reduceIte, Nat.reduceEqDiff, reduceCtorEq, Nat.reduceAdd, Nat.reduceLeDiff, Nat.reduceSub, Nat.reduceMul, List.reduceReplicate, Int.reduceEq, Int.reduceLT, Int.reduceLE, Int.reduceAdd, Int.reduceSub, Int.reduceMul, Nat.reduceLT, Int.reduceToNat]

theorem rotl_ok (x : UInt32) {k : Nat} (h0 : 0 < k) (h : k < 32) : RC Try.prog 50 [.int .u32 (x.toNat : Int), .int .i64 (-(k : Int))] [.int .u32 ((rotr x k).toNat : Int)] := by
  refine RC.of_wp c50 rfl ?_
  have w0 : IntKind.u64.wrap (-(k : Int)) = ((2 ^ 64 - k : Nat) : Int) := by
    simp only [IntKind.wrap, IntKind.signed, IntKind.bits, Bool.false_and, Bool.false_eq_true, if_false]
    omega
  have a0 : bitsI .and .u64 ((2 ^ 64 - k : Nat) : Int) 31 = some ((32 - k : Nat) : Int) := by
    have := bitsI_and .u64 (x := 2 ^ 64 - k) (y := 31) (by simp [vbits, IntKind.signed, IntKind.bits]; omega) (by simp [vbits, IntKind.signed, IntKind.bits])
    rw [show (31 : Nat) = 2 ^ 5 - 1 from rfl, Nat.and_two_pow_sub_one_eq_mod] at this
    rw [show (2 ^ 64 - k) % 2 ^ 5 = 32 - k by omega] at this
    exact this
  have w : IntKind.u64.wrap (32 - ((32 - k : Nat) : Int)) = (k : Int) := by
    rw [show (32 : Int) - ((32 - k : Nat) : Int) = (k : Int) by omega]
    exact wrapN .u64 (by simp [vbits, IntKind.signed, IntKind.bits]; omega)
  have s1 := w_shr x (k := k) (by omega)
  have s2 := w_shl x (k := 32 - k) (by omega)
  have s3 := w_or (wsl x (32 - k)) (wsh x k)
  have e : wsl x (32 - k) ||| wsh x k = rotr x k := UInt32.or_comm _ _
  rw [e] at s3
  simp -implicitDefEqProofs (maxSteps := 2000000) only [m50_1, m50_2, m50_r, m50_b, m50, w0, a0, w, s1, s2, s3, wk, act, asV, ↓reduceIte, Nat.reduceEqDiff, reduceCtorEq, Nat.reduceAdd, Nat.reduceLeDiff, Nat.reduceSub, Nat.reduceMul, List.reduceReplicate, Int.reduceEq, Int.reduceLT, Int.reduceLE, Int.reduceAdd, Int.reduceSub, Int.reduceMul, Nat.reduceLT, Int.reduceToNat]

def turnedW (x : UInt32) (a b c : Nat) (sh : Bool) : UInt32 := rotr x a ^^^ rotr x b ^^^ (if sh = true then wsh x c else rotr x c)
theorem turned_ok (x : UInt32) {a b c : Nat} (sh : Bool) (ha0 : 0 < a) (ha : a < 32) (hb0 : 0 < b) (hb : b < 32) (hc0 : 0 < c) (hc : c < 32) :
    RC Try.prog 42 [.int .u32 (x.toNat : Int), .int .i64 (a : Int), .int .i64 (b : Int), .int .i64 (c : Int), .bool sh] [.int .u32 ((turnedW x a b c sh).toNat : Int)] := by
  refine RC.of_wp c42 rfl ?_
  have n : ∀ k : Nat, k < 32 → IntKind.i64.wrap (0 - (k : Int)) = -(k : Int) := by intro k h; rw [IntKind.wrap_i64]; omega
  have n1 := n a ha
  have n2 := n b hb
  have n3 := n c hc
  have c1 := rotl_ok x ha0 ha
  have c2 := rotl_ok x hb0 hb
  have c3 := rotl_ok x hc0 hc
  have s1 := w_shr x (k := c) (by omega)
  have x1 := w_xor (rotr x a) (rotr x b)
  cases sh with
  | true =>
    have x2 := w_xor (rotr x a ^^^ rotr x b) (wsh x c)
    have e : turnedW x a b c true = rotr x a ^^^ rotr x b ^^^ wsh x c := rfl
    rw [e]
    have hc0' : ¬ ((c : Int) < 0) := by omega
    repeat' (first | simp -implicitDefEqProofs (maxSteps := 2000000) only [m42_1, m42_2, m42_3, m42_4, m42_5, m42_6, m42_7, m42_r, m42_b, m42, n1, n2, n3, s1, x1, x2, hc0', wk, act, asV, ↓reduceIte, Nat.reduceEqDiff, reduceCtorEq, Nat.reduceAdd, Nat.reduceLeDiff, Nat.reduceSub, Nat.reduceMul, List.reduceReplicate, Int.reduceEq, Int.reduceLT, Int.reduceLE, Int.reduceAdd, Int.reduceSub, Int.reduceMul, Nat.reduceLT, Int.reduceToNat] | ((with_reducible refine CallL.gate ?_); refine CallL.of (by simp -implicitDefEqProofs (maxSteps := 2000000) only [m42_1, m42_2, m42_3, m42_4, m42_5, m42_6, m42_7, m42_r, m42_b, m42, n1, n2, n3, s1, x1, x2, hc0', wk, act, asV, ↓reduceIte, Nat.reduceEqDiff, reduceCtorEq, Nat.reduceAdd, Nat.reduceLeDiff, Nat.reduceSub, Nat.reduceMul, List.reduceReplicate, Int.reduceEq, Int.reduceLT, Int.reduceLE, Int.reduceAdd, Int.reduceSub, Int.reduceMul, Nat.reduceLT, Int.reduceToNat]; first | done | (with_reducible rfl)) (by first | exact c1 | exact c2 | exact c3) (by simp -implicitDefEqProofs (maxSteps := 2000000) only [m42_1, m42_2, m42_3, m42_4, m42_5, m42_6, m42_7, m42_r, m42_b, m42, n1, n2, n3, s1, x1, x2, hc0', wk, act, asV, ↓reduceIte, Nat.reduceEqDiff, reduceCtorEq, Nat.reduceAdd, Nat.reduceLeDiff, Nat.reduceSub, Nat.reduceMul, List.reduceReplicate, Int.reduceEq, Int.reduceLT, Int.reduceLE, Int.reduceAdd, Int.reduceSub, Int.reduceMul, Nat.reduceLT, Int.reduceToNat]) ?_) | ((with_reducible refine CallP.gate ?_); refine CallP.of (by simp -implicitDefEqProofs (maxSteps := 2000000) only [m42_1, m42_2, m42_3, m42_4, m42_5, m42_6, m42_7, m42_r, m42_b, m42, n1, n2, n3, s1, x1, x2, hc0', wk, act, asV, ↓reduceIte, Nat.reduceEqDiff, reduceCtorEq, Nat.reduceAdd, Nat.reduceLeDiff, Nat.reduceSub, Nat.reduceMul, List.reduceReplicate, Int.reduceEq, Int.reduceLT, Int.reduceLE, Int.reduceAdd, Int.reduceSub, Int.reduceMul, Nat.reduceLT, Int.reduceToNat]; first | done | (with_reducible rfl)) (by first | exact c1 | exact c2 | exact c3) (by simp -implicitDefEqProofs (maxSteps := 2000000) only [m42_1, m42_2, m42_3, m42_4, m42_5, m42_6, m42_7, m42_r, m42_b, m42, n1, n2, n3, s1, x1, x2, hc0', wk, act, asV, ↓reduceIte, Nat.reduceEqDiff, reduceCtorEq, Nat.reduceAdd, Nat.reduceLeDiff, Nat.reduceSub, Nat.reduceMul, List.reduceReplicate, Int.reduceEq, Int.reduceLT, Int.reduceLE, Int.reduceAdd, Int.reduceSub, Int.reduceMul, Nat.reduceLT, Int.reduceToNat]) ?_))
  | false =>
    have x2 := w_xor (rotr x a ^^^ rotr x b) (rotr x c)
    have e : turnedW x a b c false = rotr x a ^^^ rotr x b ^^^ rotr x c := rfl
    rw [e]
    repeat' (first | simp -implicitDefEqProofs (maxSteps := 2000000) only [m42_1, m42_2, m42_3, m42_4, m42_5, m42_6, m42_7, m42_r, m42_b, m42, n1, n2, n3, x1, x2, wk, act, asV, ↓reduceIte, Nat.reduceEqDiff, reduceCtorEq, Nat.reduceAdd, Nat.reduceLeDiff, Nat.reduceSub, Nat.reduceMul, List.reduceReplicate, Int.reduceEq, Int.reduceLT, Int.reduceLE, Int.reduceAdd, Int.reduceSub, Int.reduceMul, Nat.reduceLT, Int.reduceToNat] | ((with_reducible refine CallL.gate ?_); refine CallL.of (by simp -implicitDefEqProofs (maxSteps := 2000000) only [m42_1, m42_2, m42_3, m42_4, m42_5, m42_6, m42_7, m42_r, m42_b, m42, n1, n2, n3, x1, x2, wk, act, asV, ↓reduceIte, Nat.reduceEqDiff, reduceCtorEq, Nat.reduceAdd, Nat.reduceLeDiff, Nat.reduceSub, Nat.reduceMul, List.reduceReplicate, Int.reduceEq, Int.reduceLT, Int.reduceLE, Int.reduceAdd, Int.reduceSub, Int.reduceMul, Nat.reduceLT, Int.reduceToNat]; first | done | (with_reducible rfl)) (by first | exact c1 | exact c2 | exact c3) (by simp -implicitDefEqProofs (maxSteps := 2000000) only [m42_1, m42_2, m42_3, m42_4, m42_5, m42_6, m42_7, m42_r, m42_b, m42, n1, n2, n3, x1, x2, wk, act, asV, ↓reduceIte, Nat.reduceEqDiff, reduceCtorEq, Nat.reduceAdd, Nat.reduceLeDiff, Nat.reduceSub, Nat.reduceMul, List.reduceReplicate, Int.reduceEq, Int.reduceLT, Int.reduceLE, Int.reduceAdd, Int.reduceSub, Int.reduceMul, Nat.reduceLT, Int.reduceToNat]) ?_) | ((with_reducible refine CallP.gate ?_); refine CallP.of (by simp -implicitDefEqProofs (maxSteps := 2000000) only [m42_1, m42_2, m42_3, m42_4, m42_5, m42_6, m42_7, m42_r, m42_b, m42, n1, n2, n3, x1, x2, wk, act, asV, ↓reduceIte, Nat.reduceEqDiff, reduceCtorEq, Nat.reduceAdd, Nat.reduceLeDiff, Nat.reduceSub, Nat.reduceMul, List.reduceReplicate, Int.reduceEq, Int.reduceLT, Int.reduceLE, Int.reduceAdd, Int.reduceSub, Int.reduceMul, Nat.reduceLT, Int.reduceToNat]; first | done | (with_reducible rfl)) (by first | exact c1 | exact c2 | exact c3) (by simp -implicitDefEqProofs (maxSteps := 2000000) only [m42_1, m42_2, m42_3, m42_4, m42_5, m42_6, m42_7, m42_r, m42_b, m42, n1, n2, n3, x1, x2, wk, act, asV, ↓reduceIte, Nat.reduceEqDiff, reduceCtorEq, Nat.reduceAdd, Nat.reduceLeDiff, Nat.reduceSub, Nat.reduceMul, List.reduceReplicate, Int.reduceEq, Int.reduceLT, Int.reduceLE, Int.reduceAdd, Int.reduceSub, Int.reduceMul, Nat.reduceLT, Int.reduceToNat]) ?_))
end Go.Proofs.Ytlbilkldjhhopaa
