/- Numbers. -/
import Derived.Test.YtmblapgoimegkaaDoorE24
set_option linter.unusedSectionVars false
set_option linter.unusedVariables false
set_option linter.unusedSimpArgs false
namespace Go.Proofs.YtmblapgoimegkaaDoor
open Go.RowKit

def vbits (k : IntKind) : Nat := if k.signed then k.bits - 1 else k.bits

theorem wrapN (k : IntKind) {n : Nat} (h : n < 2 ^ vbits k) : k.wrap (n : Int) = n := by
  cases k <;> simp [vbits, IntKind.signed, IntKind.bits, IntKind.wrap] at * <;> omega
theorem ofIntNat (b x : Nat) : BitVec.ofInt b (x : Int) = BitVec.ofNat b x := by simp
theorem vbits_le (k : IntKind) : vbits k ≤ k.bits := by cases k <;> decide
theorem pow_le {a b : Nat} (h : a ≤ b) : 2 ^ a ≤ 2 ^ b := Nat.pow_le_pow_right (by omega) h

theorem bitsI_or (k : IntKind) {x y : Nat} (hx : x < 2 ^ vbits k) (hy : y < 2 ^ vbits k) : bitsI .or k (x : Int) (y : Int) = some ((x ||| y : Nat) : Int) := by
  have hb := pow_le (vbits_le k)
  simp only [bitsI, ofIntNat, BitVec.toNat_or, BitVec.toNat_ofNat, Nat.mod_eq_of_lt (Nat.lt_of_lt_of_le hx hb), Nat.mod_eq_of_lt (Nat.lt_of_lt_of_le hy hb)]
  rw [wrapN k (Nat.or_lt_two_pow hx hy)]
theorem bitsI_and (k : IntKind) {x y : Nat} (hx : x < 2 ^ vbits k) (hy : y < 2 ^ vbits k) : bitsI .and k (x : Int) (y : Int) = some ((x &&& y : Nat) : Int) := by
  have hb := pow_le (vbits_le k)
  simp only [bitsI, ofIntNat, BitVec.toNat_and, BitVec.toNat_ofNat, Nat.mod_eq_of_lt (Nat.lt_of_lt_of_le hx hb), Nat.mod_eq_of_lt (Nat.lt_of_lt_of_le hy hb)]
  rw [wrapN k (Nat.and_lt_two_pow _ hy)]
theorem bitsI_xor (k : IntKind) {x y : Nat} (hx : x < 2 ^ vbits k) (hy : y < 2 ^ vbits k) : bitsI .xor k (x : Int) (y : Int) = some ((x ^^^ y : Nat) : Int) := by
  have hb := pow_le (vbits_le k)
  simp only [bitsI, ofIntNat, BitVec.toNat_xor, BitVec.toNat_ofNat, Nat.mod_eq_of_lt (Nat.lt_of_lt_of_le hx hb), Nat.mod_eq_of_lt (Nat.lt_of_lt_of_le hy hb)]
  rw [wrapN k (Nat.xor_lt_two_pow hx hy)]
theorem fdiv_pow (x n : Nat) : Int.fdiv (x : Int) (2 ^ n) = ((x >>> n : Nat) : Int) := by
  rw [Nat.shiftRight_eq_div_pow]
  have : (2 : Int) ^ n = ((2 ^ n : Nat) : Int) := by simp
  rw [this]
  first | exact (Int.ofNat_fdiv x (2 ^ n)).symm | (rw [Int.fdiv_eq_ediv_of_nonneg _ (by omega)]; simp)
theorem shI_shr (k : IntKind) {x y : Nat} (hy : y ≤ k.bits) : shI .shr k (x : Int) (y : Int) = some (.int k ((x >>> y : Nat) : Int)) := by
  simp only [shI, if_neg (show ¬ ((y : Int) < 0) by omega), Int.toNat_natCast, Nat.min_eq_left hy, fdiv_pow]
theorem shI_shl (k : IntKind) {x y : Nat} (hy : y ≤ k.bits) (h : x * 2 ^ y < 2 ^ vbits k) : shI .shl k (x : Int) (y : Int) = some (.int k ((x * 2 ^ y : Nat) : Int)) := by
  have : (x : Int) * 2 ^ y = ((x * 2 ^ y : Nat) : Int) := by simp
  simp only [shI, if_neg (show ¬ ((y : Int) < 0) by omega), Int.toNat_natCast, Nat.min_eq_left hy, this, wrapN k h]

theorem wrap_nat {n : Nat} (h : n < 2 ^ 63 - 1) : IntKind.i64.wrap ((n : Int) + 1) = ((n + 1 : Nat) : Int) := by
  rw [IntKind.wrap_i64]; omega
theorem tmod_nat (x m : Nat) : (x : Int).tmod (m : Int) = ((x % m : Nat) : Int) := rfl
theorem drop_il {xs : List Int} {i : Nat} (h : i < xs.length) : (il xs).drop i = .int .i64 xs[i] :: (il xs).drop (i + 1) := by
  rw [List.drop_eq_getElem_cons (by simpa [il] using h)]; simp [il]
theorem take_il (xs : List Int) : (il xs).take xs.length = il xs := List.take_of_length_le (by simp [il])
theorem il_take (xs : List Int) (n : Nat) : (il xs).take n = il (xs.take n) := by simp [il]
theorem il_snoc (xs : List Int) (x : Int) : il xs ++ [.int .i64 x] = il (xs ++ [x]) := by simp [il]
theorem il_scal (xs : List Int) : (il xs).all IV.scal = true := by simp [il, IV.scal]
theorem il_pur (xs : List Int) : IV.purL (il xs) = true := by induction xs <;> simp_all [il, IV.purL, IV.pur]
end Go.Proofs.YtmblapgoimegkaaDoor
