/- Whether bytes are alike. -/
import Derived.Test.YtkphojcmjffccaaDoorM8
import Derived.Test.YtkphojcmjffccaaDoorS3
import Derived.Test.YtkphojcmjffccaaDoorE31
set_option linter.unusedVariables false
set_option linter.unusedSimpArgs false
set_option linter.unusedSectionVars false
set_option maxRecDepth 100000
set_option maxHeartbeats 4000000
namespace Go.Proofs.YtkphojcmjffccaaDoor
open Go.RowKit

theorem b_xor (x y : UInt8) : bitsI .xor .u8 (x.toNat : Int) (y.toNat : Int) = some (((x ^^^ y).toNat : Nat) : Int) := by
  rw [UInt8.toNat_xor]
  exact bitsI_xor .u8 (by have := x.toNat_lt; simpa [vbits, IntKind.signed, IntKind.bits] using this) (by have := y.toNat_lt; simpa [vbits, IntKind.signed, IntKind.bits] using this)
theorem b_or (x y : UInt8) : bitsI .or .u8 (x.toNat : Int) (y.toNat : Int) = some (((x ||| y).toNat : Nat) : Int) := by
  rw [UInt8.toNat_or]
  exact bitsI_or .u8 (by have := x.toNat_lt; simpa [vbits, IntKind.signed, IntKind.bits] using this) (by have := y.toNat_lt; simpa [vbits, IntKind.signed, IntKind.bits] using this)
def accX (a b : List UInt8) : Nat → UInt8
  | 0 => 0
  | i + 1 => accX a b i ||| (a.getD i 0 ^^^ b.getD i 0)
theorem accX_zero (a b : List UInt8) : ∀ n, accX a b n = 0 ↔ ∀ j, j < n → a.getD j 0 = b.getD j 0
  | 0 => by simp [accX]
  | n + 1 => by
    have key : ∀ x y z : UInt8, (x ||| (y ^^^ z) = 0) ↔ (x = 0 ∧ y = z) := by
      intro x y z
      rw [UInt8.or_eq_zero_iff, UInt8.xor_eq_zero_iff]
    rw [accX, key, accX_zero a b n]
    constructor
    · rintro ⟨h1, h2⟩ j hj
      by_cases hjn : j < n
      · exact h1 j hjn
      · obtain rfl : j = n := by omega
        exact h2
    · intro h
      exact ⟨fun j hj => h j (by omega), h n (by omega)⟩
theorem eq_of_getD {a b : List UInt8} (hl : a.length = b.length) (h : ∀ j, j < a.length → a.getD j 0 = b.getD j 0) : a = b := by
  refine List.ext_getElem hl fun j h1 h2 => ?_
  have := h j h1
  rwa [List.getD_eq_getElem?_getD, List.getD_eq_getElem?_getD, List.getElem?_eq_getElem h1, List.getElem?_eq_getElem h2] at this
theorem same_ok (f g : Fl) (a b : List UInt8) (ha : a.length < 2 ^ 62) (hb : b.length < 2 ^ 62) : RC Tryd.prog 18 [.sl f a.length (bl a), .sl g b.length (bl b)] [.bool (decide (a = b))] := by
  refine RC.of_wp c18 rfl ?_
  by_cases hl : a.length = b.length
  · obtain ⟨n, hn⟩ : ∃ n, n = a.length := ⟨_, rfl⟩
    have hbn : b.length = n := by omega
    rw [← hn, hbn]
    have hla : (bl a).length = n := by rw [bl_length, hn]
    have hlb : (bl b).length = n := by rw [bl_length, hbn]
    simp -implicitDefEqProofs (maxSteps := 2000000) only [m18_1, m18_2, m18_3, m18_4, m18_5, m18_6, m18_7, m18_8, m18_9, m18_10, m18_r, m18_b, m18, wk, act, asV, ↓reduceIte, Nat.reduceEqDiff, reduceCtorEq, Nat.reduceAdd, Nat.reduceLeDiff, Nat.reduceSub, Nat.reduceMul, List.reduceReplicate, Int.reduceEq, Int.reduceLT, Int.reduceLE, Int.reduceAdd, Int.reduceSub, Int.reduceMul, Nat.reduceLT, Int.reduceToNat]
    refine Wp_loop (fun m s => ∃ i, i ≤ n ∧ m = n - i ∧ s.t 0 = .sl f n (bl a) ∧ s.t 1 = .sl g n (bl b) ∧ s.t 5 = .int .u8 ((accX a b i).toNat : Nat) ∧ s.t 14 = .int .i64 (i : Nat) ∧ s.t 13 = .int .i64 (n : Nat)) n ⟨0, by omega, rfl, rfl, rfl, rfl, rfl, by simp -implicitDefEqProofs (maxSteps := 2000000) only [wk, act, asV, ↓reduceIte, Nat.reduceEqDiff, reduceCtorEq, Nat.reduceAdd, Nat.reduceLeDiff, Nat.reduceSub, Nat.reduceMul, List.reduceReplicate, Int.reduceEq, Int.reduceLT, Int.reduceLE, Int.reduceAdd, Int.reduceSub, Int.reduceMul, Nat.reduceLT, Int.reduceToNat]⟩ ?_
    rintro k s ⟨i, hi, rfl, g0, g1, g5, g14, g13⟩
    by_cases hia : i < n
    · have b1 : ((i : Nat) : Int) < ((n : Nat) : Int) := by omega
      have b3 := at_b (b := a) (k := i) (by omega)
      have b4 := at_b (b := b) (k := i) (by omega)
      have x1 := b_xor (a.getD i 0) (b.getD i 0)
      have x2 := b_or (accX a b i) (a.getD i 0 ^^^ b.getD i 0)
      have wi : IntKind.i64.wrap (((i : Nat) : Int) + 1) = ((i + 1 : Nat) : Int) := by rw [IntKind.wrap_i64]; omega
      have l1 : 1 ≤ (List.drop i (bl a)).length := by rw [List.length_drop, hla]; omega
      have l2 : 1 ≤ (List.drop i (bl b)).length := by rw [List.length_drop, hlb]; omega
      simp -implicitDefEqProofs (maxSteps := 2000000) only [g0, g1, g5, g14, g13, b1, b3, b4, x1, x2, wi, l1, l2, hla, hlb, wk, act, asV, ↓reduceIte, Nat.reduceEqDiff, reduceCtorEq, Nat.reduceAdd, Nat.reduceLeDiff, Nat.reduceSub, Nat.reduceMul, List.reduceReplicate, Int.reduceEq, Int.reduceLT, Int.reduceLE, Int.reduceAdd, Int.reduceSub, Int.reduceMul, Nat.reduceLT, Int.reduceToNat]
      exact ⟨n - (i + 1), by omega, i + 1, by omega, rfl, rfl, rfl⟩
    · obtain rfl : i = n := by omega
      have b1 : ¬ ((i : Nat) : Int) < ((i : Nat) : Int) := by omega
      have hfin : (((accX a b i).toNat : Int) = 0) = (a = b) := by
        apply propext
        have e1 : (((accX a b i).toNat : Int) = 0) ↔ accX a b i = 0 := by
          rw [← UInt8.toNat_inj]
          simp only [UInt8.toNat_zero]
          omega
        rw [e1, accX_zero]
        exact ⟨fun h => eq_of_getD hl fun j hj => h j (by omega), fun h j _ => by rw [h]⟩
      simp -implicitDefEqProofs (maxSteps := 2000000) only [g5, g13, g14, b1, hfin, wk, act, asV, ↓reduceIte, Nat.reduceEqDiff, reduceCtorEq, Nat.reduceAdd, Nat.reduceLeDiff, Nat.reduceSub, Nat.reduceMul, List.reduceReplicate, Int.reduceEq, Int.reduceLT, Int.reduceLE, Int.reduceAdd, Int.reduceSub, Int.reduceMul, Nat.reduceLT, Int.reduceToNat]
  · have hl2 : ¬ ((a.length : Nat) : Int) = (b.length : Nat) := by omega
    have hne : ¬ a = b := fun e => hl (by rw [e])
    rw [decide_eq_false hne]
    simp -implicitDefEqProofs (maxSteps := 2000000) only [m18_1, m18_2, m18_3, m18_4, m18_5, m18_6, m18_7, m18_8, m18_9, m18_10, m18_r, m18_b, m18, hl2, wk, act, asV, ↓reduceIte, Nat.reduceEqDiff, reduceCtorEq, Nat.reduceAdd, Nat.reduceLeDiff, Nat.reduceSub, Nat.reduceMul, List.reduceReplicate, Int.reduceEq, Int.reduceLT, Int.reduceLE, Int.reduceAdd, Int.reduceSub, Int.reduceMul, Nat.reduceLT, Int.reduceToNat]
end Go.Proofs.YtkphojcmjffccaaDoor

