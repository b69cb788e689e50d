/- Bytes held against bytes. -/
import Derived.Test.YtkphojcmjffccaaE31
import Derived.Test.YtkphojcmjffccaaM7
import Derived.Test.YtkphojcmjffccaaM3
set_option linter.unusedVariables false
set_option linter.unusedSimpArgs false
set_option maxRecDepth 100000
set_option maxHeartbeats 2000000
namespace Go.Proofs.Ytkphojcmjffccaa
open Go.RowKit

theorem bytes_backK {f : IV → Option UInt8} (hf : ∀ b : UInt8, f (.int .u8 (b.toNat : Int)) = some b) (xs : List UInt8) : (bl xs).mapM f = some xs := by
  induction xs with
  | nil => rfl
  | cons x xs ih =>
    rw [show bl (x :: xs) = .int .u8 (x.toNat : Int) :: bl xs from rfl, List.mapM_cons, ih, hf]
    rfl

theorem bytes_ok (f f' : Fl) (xs ys : List UInt8) : RC Try.prog 17 [.sl f xs.length (bl xs), .sl f' ys.length (bl ys)] [.bool (decide (xs = ys))] := by
  refine RC.of_wp c17 rfl ?_
  simp -implicitDefEqProofs (maxSteps := 2000000) only [m17_1, m17_r, m17_b, m17, bl_length, bytes_backK, UInt8.ofNat_toNat, wk, act, asV, ↓reduceIte, Nat.reduceEqDiff, reduceCtorEq, Nat.reduceAdd, Nat.reduceLeDiff, Nat.reduceSub, Nat.reduceMul, List.reduceReplicate, Int.reduceEq, Int.reduceLT, Int.reduceLE, Int.reduceAdd, Int.reduceSub, Int.reduceMul, Nat.reduceLT, Int.reduceToNat]

end Go.Proofs.Ytkphojcmjffccaa
/- Parts of bytes. -/
set_option linter.unusedVariables false
set_option linter.unusedSimpArgs false
set_option maxRecDepth 100000
set_option maxHeartbeats 2000000
namespace Go.Proofs.Ytkphojcmjffccaa
open Go.RowKit

def pl (ps : List (Fl × List UInt8)) : List IV := ps.map fun p => .sl p.1 p.2.length (bl p.2)
theorem pl_length (ps : List (Fl × List UInt8)) : (pl ps).length = ps.length := by simp [pl]
theorem drop_pl {ps : List (Fl × List UInt8)} {i : Nat} (h : i < ps.length) : (pl ps).drop i = .sl ps[i].1 ps[i].2.length (bl ps[i].2) :: (pl ps).drop (i + 1) := by
  rw [List.drop_eq_getElem_cons (by simpa [pl] using h)]; simp [pl]
def joined (ps : List (Fl × List UInt8)) : List UInt8 := (ps.map (·.2)).flatten
theorem joined_snoc (ps : List (Fl × List UInt8)) (p : Fl × List UInt8) : joined (ps ++ [p]) = joined ps ++ p.2 := by simp [joined]
theorem roomyB {n : Nat} (h : n ≤ 2 ^ 44) : roomy n 1 = true := by simp [roomy]; omega
end Go.Proofs.Ytkphojcmjffccaa
/- The check of bytes. -/
set_option linter.unusedVariables false
set_option linter.unusedSimpArgs false
set_option maxRecDepth 100000
set_option maxHeartbeats 2000000
namespace Go.Proofs.Ytkphojcmjffccaa
open Go.RowKit

def sealed (b : List UInt8) : List UInt8 := b ++ [u8 (crc b), u8 (crc b >>> 8)]
theorem sealed_length (b : List UInt8) : (sealed b).length = b.length + 2 := by simp [sealed]
theorem bl_sealed (b : List UInt8) : bl (sealed b) = bl b ++ [.int .u8 ((u8 (crc b)).toNat : Int), .int .u8 ((u8 (crc b >>> 8)).toNat : Int)] := by simp [sealed, bl]
theorem take_sealed (b : List UInt8) : List.take (b.length + 2) (bl b ++ [.int .u8 ((u8 (crc b)).toNat : Int), .int .u8 ((u8 (crc b >>> 8)).toNat : Int)]) = bl b ++ [.int .u8 ((u8 (crc b)).toNat : Int), .int .u8 ((u8 (crc b >>> 8)).toNat : Int)] := List.take_of_length_le (by simp [bl])

theorem not16 {n : Nat} (h : n < 65536) : bitsI .xor .u16 65535 (n : Int) = some ((65535 - n : Nat) : Int) := by
  have h1 := bitsI_xor .u16 (x := 65535) (y := n) (by decide) (by simpa [vbits, IntKind.signed, IntKind.bits] using h)
  have h2 : 65535 ^^^ n = 65535 - n := by
    have := congrArg BitVec.toNat (BitVec.allOnes_xor (x := BitVec.ofNat 16 n))
    simp [Nat.mod_eq_of_lt h] at this
    omega
  rw [h2] at h1
  exact h1

theorem more_ok (f : Fl) {c : Nat} (hc : c < 65536) (b : List UInt8) (hl : b.length < 2 ^ 63) : RC Try.prog 53 [.int .u16 c, .sl f b.length (bl b)] [.int .u16 (cmore c b)] := by
  refine RC.of_wp c53 rfl ?_
  simp -implicitDefEqProofs (maxSteps := 2000000) only [m53_1, m53_2, m53_3, m53_4, m53_5, m53_6, m53_7, m53_8, m53_9, m53_10, m53_11, m53_12, m53_13, m53_r, m53_b, m53, wk, act, asV, ↓reduceIte, Nat.reduceEqDiff, reduceCtorEq, Nat.reduceAdd, Nat.reduceLeDiff, Nat.reduceSub, Nat.reduceMul, List.reduceReplicate, Int.reduceEq, Int.reduceLT, Int.reduceLE, Int.reduceAdd, Int.reduceSub, Int.reduceMul, Nat.reduceLT, Int.reduceToNat]
  refine Wp_loop (fun j s => ∃ i, i ≤ b.length ∧ j = b.length - i ∧ s.t 8 = .sl f b.length (bl b) ∧ s.t 9 = .int .i64 b.length ∧ s.t 10 = .int .i64 (i : Nat) ∧ s.t 0 = .int .u16 (cmore c (b.take i))) b.length ⟨0, by omega, rfl, rfl, rfl, rfl, rfl⟩ ?_
  rintro j s ⟨i, hi, rfl, g8, g9, g10, g0⟩
  by_cases hil : i < b.length
  · have hil' : (i : Int) < b.length := by omega
    have hm := cmore_lt (b.take i) hc
    have wb : IntKind.u16.wrap ((b[i].toNat : Nat) : Int) = b[i].toNat := wrapN .u16 (by have := b[i].toNat_lt; simp [vbits, IntKind.signed, IntKind.bits]; omega)
    have hx : bitsI .xor .u16 (cmore c (b.take i) : Int) ((b[i].toNat : Nat) : Int) = some ((cmore c (b.take i) ^^^ b[i].toNat : Nat) : Int) := bitsI_xor .u16 hm (by have := b[i].toNat_lt; simp [vbits, IntKind.signed, IntKind.bits]; omega)
    have hx2 : cmore c (b.take i) ^^^ b[i].toNat < 65536 := byte_xor_lt hm _
    simp -implicitDefEqProofs (maxSteps := 2000000) only [g8, g9, g10, g0, hil', hil, drop_bl hil, bl_length, wb, hx, wk, act, asV, ↓reduceIte, Nat.reduceEqDiff, reduceCtorEq, Nat.reduceAdd, Nat.reduceLeDiff, Nat.reduceSub, Nat.reduceMul, List.reduceReplicate, Int.reduceEq, Int.reduceLT, Int.reduceLE, Int.reduceAdd, Int.reduceSub, Int.reduceMul, Nat.reduceLT, Int.reduceToNat]
    refine Wp_loop (fun j s => ∃ k, k ≤ 8 ∧ j = 8 - k ∧ s.t 8 = .sl f b.length (bl b) ∧ s.t 9 = .int .i64 b.length ∧ s.t 10 = .int .i64 (i : Nat) ∧ s.t 18 = .int .i64 (k : Nat) ∧ s.t 0 = .int .u16 (cbits k (cmore c (b.take i) ^^^ b[i].toNat) : Nat)) 8 ⟨0, by omega, rfl, by simp -implicitDefEqProofs (maxSteps := 2000000) only [g8, wk, act, asV, ↓reduceIte, Nat.reduceEqDiff, reduceCtorEq, Nat.reduceAdd, Nat.reduceLeDiff, Nat.reduceSub, Nat.reduceMul, List.reduceReplicate, Int.reduceEq, Int.reduceLT, Int.reduceLE, Int.reduceAdd, Int.reduceSub, Int.reduceMul, Nat.reduceLT, Int.reduceToNat], by simp -implicitDefEqProofs (maxSteps := 2000000) only [g9, wk, act, asV, ↓reduceIte, Nat.reduceEqDiff, reduceCtorEq, Nat.reduceAdd, Nat.reduceLeDiff, Nat.reduceSub, Nat.reduceMul, List.reduceReplicate, Int.reduceEq, Int.reduceLT, Int.reduceLE, Int.reduceAdd, Int.reduceSub, Int.reduceMul, Nat.reduceLT, Int.reduceToNat], by simp -implicitDefEqProofs (maxSteps := 2000000) only [g10, wk, act, asV, ↓reduceIte, Nat.reduceEqDiff, reduceCtorEq, Nat.reduceAdd, Nat.reduceLeDiff, Nat.reduceSub, Nat.reduceMul, List.reduceReplicate, Int.reduceEq, Int.reduceLT, Int.reduceLE, Int.reduceAdd, Int.reduceSub, Int.reduceMul, Nat.reduceLT, Int.reduceToNat], by simp -implicitDefEqProofs (maxSteps := 2000000) only [wk, act, asV, ↓reduceIte, Nat.reduceEqDiff, reduceCtorEq, Nat.reduceAdd, Nat.reduceLeDiff, Nat.reduceSub, Nat.reduceMul, List.reduceReplicate, Int.reduceEq, Int.reduceLT, Int.reduceLE, Int.reduceAdd, Int.reduceSub, Int.reduceMul, Nat.reduceLT, Int.reduceToNat], by simp -implicitDefEqProofs (maxSteps := 2000000) only [cbits, wk, act, asV, ↓reduceIte, Nat.reduceEqDiff, reduceCtorEq, Nat.reduceAdd, Nat.reduceLeDiff, Nat.reduceSub, Nat.reduceMul, List.reduceReplicate, Int.reduceEq, Int.reduceLT, Int.reduceLE, Int.reduceAdd, Int.reduceSub, Int.reduceMul, Nat.reduceLT, Int.reduceToNat]⟩ ?_
    rintro j s ⟨k, hk, rfl, g8, g9, g10, g18, g0⟩
    by_cases hk8 : k < 8
    · have hk8' : (k : Int) < 8 := by omega
      obtain ⟨d, hd⟩ : ∃ d, d = cbits k (cmore c (b.take i) ^^^ b[i].toNat) := ⟨_, rfl⟩
      rw [← hd] at g0
      have hdl : d < 65536 := by rw [hd]; exact cbits_lt hx2 k
      have ha : bitsI .and .u16 (d : Int) 1 = some ((d &&& 1 : Nat) : Int) := bitsI_and .u16 (x := d) (y := 1) hdl (by decide)
      have hs : shI .shr .u16 (d : Int) 1 = some (.int .u16 ((d >>> 1 : Nat) : Int)) := shI_shr .u16 (x := d) (y := 1) (by decide)
      have hmul : IntKind.u16.wrap (33800 * ((d &&& 1 : Nat) : Int)) = ((33800 * (d &&& 1) : Nat) : Int) := by
        have : (33800 : Int) * ((d &&& 1 : Nat) : Int) = ((33800 * (d &&& 1) : Nat) : Int) := by simp
        rw [this]
        exact wrapN .u16 (by rcases low_cases d with e | e <;> rw [e] <;> decide)
      have hxo : bitsI .xor .u16 ((d >>> 1 : Nat) : Int) ((33800 * (d &&& 1) : Nat) : Int) = some ((cbit d : Nat) : Int) := by
        rw [bitsI_xor .u16 (show _ < 2 ^ vbits .u16 from by rw [Nat.shiftRight_eq_div_pow]; simp [vbits, IntKind.signed, IntKind.bits]; omega) (by rcases low_cases d with e | e <;> rw [e] <;> decide)]
        rfl
      have hcb : cbit d = cbits (k + 1) (cmore c (b.take i) ^^^ b[i].toNat) := by rw [hd]; rfl
      simp -implicitDefEqProofs (maxSteps := 2000000) only [g8, g9, g10, g18, g0, hk8', ha, hs, hmul, hxo, wrap_nat (show k < 2 ^ 63 - 1 by omega), wk, act, asV, ↓reduceIte, Nat.reduceEqDiff, reduceCtorEq, Nat.reduceAdd, Nat.reduceLeDiff, Nat.reduceSub, Nat.reduceMul, List.reduceReplicate, Int.reduceEq, Int.reduceLT, Int.reduceLE, Int.reduceAdd, Int.reduceSub, Int.reduceMul, Nat.reduceLT, Int.reduceToNat]
      rw [hcb]
      exact ⟨8 - (k + 1), by omega, k + 1, by omega, rfl, by and_intros <;> rfl⟩
    · have hke : k = 8 := by omega
      subst hke
      have hby : cbits 8 (cmore c (b.take i) ^^^ b[i].toNat) = cmore c (b.take (i + 1)) := by
        rw [List.take_succ_eq_append_getElem hil, cmore_snoc]; rfl
      rw [hby] at g0
      simp -implicitDefEqProofs (maxSteps := 2000000) only [g8, g9, g10, g18, g0, Int.lt_irrefl, wrap_nat (show i < 2 ^ 63 - 1 by omega), wk, act, asV, ↓reduceIte, Nat.reduceEqDiff, reduceCtorEq, Nat.reduceAdd, Nat.reduceLeDiff, Nat.reduceSub, Nat.reduceMul, List.reduceReplicate, Int.reduceEq, Int.reduceLT, Int.reduceLE, Int.reduceAdd, Int.reduceSub, Int.reduceMul, Nat.reduceLT, Int.reduceToNat]
      exact ⟨b.length - (i + 1), by omega, i + 1, by omega, rfl, by and_intros <;> rfl⟩
  · have hie : i = b.length := by omega
    subst hie
    rw [List.take_length] at g0
    simp -implicitDefEqProofs (maxSteps := 2000000) only [g8, g9, g10, g0, Int.lt_irrefl, wk, act, asV, ↓reduceIte, Nat.reduceEqDiff, reduceCtorEq, Nat.reduceAdd, Nat.reduceLeDiff, Nat.reduceSub, Nat.reduceMul, List.reduceReplicate, Int.reduceEq, Int.reduceLT, Int.reduceLE, Int.reduceAdd, Int.reduceSub, Int.reduceMul, Nat.reduceLT, Int.reduceToNat]

theorem check_ok (f : Fl) (ps : List (Fl × List UInt8)) (hl : ∀ p ∈ ps, ¬ p.1 = .lit ∧ p.2.length < 2 ^ 63) (hn : ps.length < 2 ^ 63) : RC Try.prog 41 [.sl f ps.length (pl ps)] [.int .u16 (crc (joined ps))] := by
  refine RC.of_wp c41 rfl ?_
  simp -implicitDefEqProofs (maxSteps := 2000000) only [m41_1, m41_2, m41_3, m41_4, m41_5, m41_6, m41_7, m41_8, m41_r, m41_b, m41, wk, act, asV, ↓reduceIte, Nat.reduceEqDiff, reduceCtorEq, Nat.reduceAdd, Nat.reduceLeDiff, Nat.reduceSub, Nat.reduceMul, List.reduceReplicate, Int.reduceEq, Int.reduceLT, Int.reduceLE, Int.reduceAdd, Int.reduceSub, Int.reduceMul, Nat.reduceLT, Int.reduceToNat]
  refine Wp_loop (fun j s => ∃ i, i ≤ ps.length ∧ j = ps.length - i ∧ s.t 6 = .sl f ps.length (pl ps) ∧ s.t 7 = .int .i64 ps.length ∧ s.t 8 = .int .i64 (i : Nat) ∧ s.t 3 = .int .u16 (cmore 65535 (joined (ps.take i)))) ps.length ⟨0, by omega, rfl, rfl, rfl, rfl, rfl⟩ ?_
  rintro j s ⟨i, hi, rfl, g6, g7, g8, g3⟩
  by_cases hil : i < ps.length
  · have hil' : (i : Int) < ps.length := by omega
    have hm := cmore_lt (joined (ps.take i)) (c := 65535) (by omega)
    have hmo := more_ok ps[i].1 hm ps[i].2 (hl _ (List.getElem_mem hil)).2
    have hfl := (hl _ (List.getElem_mem hil)).1
    rw [← cmore_append, ← joined_snoc, ← List.take_succ_eq_append_getElem hil] at hmo
    repeat' (first | simp -implicitDefEqProofs (maxSteps := 2000000) only [hfl, g6, g7, g8, g3, hil', hil, drop_pl hil, pl_length, wrap_nat (show i < 2 ^ 63 - 1 by omega), wk, act, asV, ↓reduceIte, Nat.reduceEqDiff, reduceCtorEq, Nat.reduceAdd, Nat.reduceLeDiff, Nat.reduceSub, Nat.reduceMul, List.reduceReplicate, Int.reduceEq, Int.reduceLT, Int.reduceLE, Int.reduceAdd, Int.reduceSub, Int.reduceMul, Nat.reduceLT, Int.reduceToNat] | ((first | ((with_reducible refine CallL.gate ?_); apply CallL.of) | ((with_reducible refine CallP.gate ?_); apply CallP.of)); (case h1 => (simp -implicitDefEqProofs (maxSteps := 2000000) only [hfl, g6, g7, g8, g3, hil', hil, drop_pl hil, pl_length, wrap_nat (show i < 2 ^ 63 - 1 by omega), wk, act, asV, ↓reduceIte, Nat.reduceEqDiff, reduceCtorEq, Nat.reduceAdd, Nat.reduceLeDiff, Nat.reduceSub, Nat.reduceMul, List.reduceReplicate, Int.reduceEq, Int.reduceLT, Int.reduceLE, Int.reduceAdd, Int.reduceSub, Int.reduceMul, Nat.reduceLT, Int.reduceToNat]; first | done | (with_reducible rfl))); (case h2 => (first | exact hmo)); (case h3 => simp -implicitDefEqProofs (maxSteps := 2000000) only [hfl, g6, g7, g8, g3, hil', hil, drop_pl hil, pl_length, wrap_nat (show i < 2 ^ 63 - 1 by omega), wk, act, asV, ↓reduceIte, Nat.reduceEqDiff, reduceCtorEq, Nat.reduceAdd, Nat.reduceLeDiff, Nat.reduceSub, Nat.reduceMul, List.reduceReplicate, Int.reduceEq, Int.reduceLT, Int.reduceLE, Int.reduceAdd, Int.reduceSub, Int.reduceMul, Nat.reduceLT, Int.reduceToNat])))
    exact ⟨ps.length - (i + 1), by omega, i + 1, by omega, rfl, by and_intros <;> rfl⟩
  · have hie : i = ps.length := by omega
    subst hie
    rw [List.take_length] at g3
    have hnt := not16 (cmore_lt (joined ps) (c := 65535) (by omega))
    have hmax : IntKind.u16.max = 65535 := rfl
    have hsg : IntKind.u16.signed = false := rfl
    simp -implicitDefEqProofs (maxSteps := 2000000) only [g6, g7, g8, g3, Int.lt_irrefl, hnt, hmax, hsg, wk, act, asV, ↓reduceIte, Nat.reduceEqDiff, reduceCtorEq, Nat.reduceAdd, Nat.reduceLeDiff, Nat.reduceSub, Nat.reduceMul, List.reduceReplicate, Int.reduceEq, Int.reduceLT, Int.reduceLE, Int.reduceAdd, Int.reduceSub, Int.reduceMul, Nat.reduceLT, Int.reduceToNat]
    rfl
end Go.Proofs.Ytkphojcmjffccaa
/- The reference of the check of bytes. -/
set_option linter.unusedVariables false
set_option linter.unusedSimpArgs false
set_option maxRecDepth 100000
set_option maxHeartbeats 2000000
namespace Go.Proofs.Ytkphojcmjffccaa
open Go.RowKit

theorem rmore_ok (f : Fl) {c : Nat} (hc : c < 65536) (b : List UInt8) (hl : b.length < 2 ^ 63) : RC Try.prog 57 [.int .u16 c, .sl f b.length (bl b)] [.int .u16 (cmore c b)] := by
  refine RC.of_wp c57 rfl ?_
  simp -implicitDefEqProofs (maxSteps := 2000000) only [m57_1, m57_2, m57_3, m57_4, m57_5, m57_6, m57_7, m57_8, m57_9, m57_10, m57_11, m57_12, m57_r, m57_b, m57, wk, act, asV, ↓reduceIte, Nat.reduceEqDiff, reduceCtorEq, Nat.reduceAdd, Nat.reduceLeDiff, Nat.reduceSub, Nat.reduceMul, List.reduceReplicate, Int.reduceEq, Int.reduceLT, Int.reduceLE, Int.reduceAdd, Int.reduceSub, Int.reduceMul, Nat.reduceLT, Int.reduceToNat]
  refine Wp_loop (fun j s => ∃ i, i ≤ b.length ∧ j = b.length - i ∧ s.t 1 = .sl f b.length (bl b) ∧ s.t 5 = .int .i64 (i : Nat) ∧ s.t 0 = .int .u16 (cmore c (b.take i))) b.length ⟨0, by omega, rfl, rfl, rfl, rfl⟩ ?_
  rintro j s ⟨i, hi, rfl, g1, g5, g0⟩
  by_cases hil : i < b.length
  · have hil' : (i : Int) < b.length := by omega
    have hm := cmore_lt (b.take i) hc
    have wb : IntKind.u16.wrap ((b[i].toNat : Nat) : Int) = b[i].toNat := wrapN .u16 (by have := b[i].toNat_lt; simp [vbits, IntKind.signed, IntKind.bits]; omega)
    have hx : bitsI .xor .u16 (cmore c (b.take i) : Int) ((b[i].toNat : Nat) : Int) = some ((cmore c (b.take i) ^^^ b[i].toNat : Nat) : Int) := bitsI_xor .u16 hm (by have := b[i].toNat_lt; simp [vbits, IntKind.signed, IntKind.bits]; omega)
    have hx2 : cmore c (b.take i) ^^^ b[i].toNat < 65536 := byte_xor_lt hm _
    simp -implicitDefEqProofs (maxSteps := 2000000) only [g1, g5, g0, hil', hil, drop_bl hil, bl_length, wb, hx, wk, act, asV, ↓reduceIte, Nat.reduceEqDiff, reduceCtorEq, Nat.reduceAdd, Nat.reduceLeDiff, Nat.reduceSub, Nat.reduceMul, List.reduceReplicate, Int.reduceEq, Int.reduceLT, Int.reduceLE, Int.reduceAdd, Int.reduceSub, Int.reduceMul, Nat.reduceLT, Int.reduceToNat]
    refine Wp_loop (fun j s => ∃ k, k ≤ 8 ∧ j = 8 - k ∧ s.t 1 = .sl f b.length (bl b) ∧ s.t 5 = .int .i64 (i : Nat) ∧ s.t 6 = .int .i64 (k : Nat) ∧ s.t 0 = .int .u16 (cbits k (cmore c (b.take i) ^^^ b[i].toNat) : Nat)) 8 ⟨0, by omega, rfl, by simp -implicitDefEqProofs (maxSteps := 2000000) only [g1, wk, act, asV, ↓reduceIte, Nat.reduceEqDiff, reduceCtorEq, Nat.reduceAdd, Nat.reduceLeDiff, Nat.reduceSub, Nat.reduceMul, List.reduceReplicate, Int.reduceEq, Int.reduceLT, Int.reduceLE, Int.reduceAdd, Int.reduceSub, Int.reduceMul, Nat.reduceLT, Int.reduceToNat], by simp -implicitDefEqProofs (maxSteps := 2000000) only [g5, wk, act, asV, ↓reduceIte, Nat.reduceEqDiff, reduceCtorEq, Nat.reduceAdd, Nat.reduceLeDiff, Nat.reduceSub, Nat.reduceMul, List.reduceReplicate, Int.reduceEq, Int.reduceLT, Int.reduceLE, Int.reduceAdd, Int.reduceSub, Int.reduceMul, Nat.reduceLT, Int.reduceToNat], by simp -implicitDefEqProofs (maxSteps := 2000000) only [wk, act, asV, ↓reduceIte, Nat.reduceEqDiff, reduceCtorEq, Nat.reduceAdd, Nat.reduceLeDiff, Nat.reduceSub, Nat.reduceMul, List.reduceReplicate, Int.reduceEq, Int.reduceLT, Int.reduceLE, Int.reduceAdd, Int.reduceSub, Int.reduceMul, Nat.reduceLT, Int.reduceToNat], by simp -implicitDefEqProofs (maxSteps := 2000000) only [cbits, wk, act, asV, ↓reduceIte, Nat.reduceEqDiff, reduceCtorEq, Nat.reduceAdd, Nat.reduceLeDiff, Nat.reduceSub, Nat.reduceMul, List.reduceReplicate, Int.reduceEq, Int.reduceLT, Int.reduceLE, Int.reduceAdd, Int.reduceSub, Int.reduceMul, Nat.reduceLT, Int.reduceToNat]⟩ ?_
    rintro j s ⟨k, hk, rfl, g1, g5, g6, g0⟩
    by_cases hk8 : k < 8
    · have hk8' : (k : Int) < 8 := by omega
      obtain ⟨d, hd⟩ : ∃ d, d = cbits k (cmore c (b.take i) ^^^ b[i].toNat) := ⟨_, rfl⟩
      rw [← hd] at g0
      have hdl : d < 65536 := by rw [hd]; exact cbits_lt hx2 k
      have ha : bitsI .and .u16 (d : Int) 1 = some ((d &&& 1 : Nat) : Int) := bitsI_and .u16 (x := d) (y := 1) hdl (by decide)
      have hs : shI .shr .u16 (d : Int) 1 = some (.int .u16 ((d >>> 1 : Nat) : Int)) := shI_shr .u16 (x := d) (y := 1) (by decide)
      have hcb : cbit d = cbits (k + 1) (cmore c (b.take i) ^^^ b[i].toNat) := by rw [hd]; rfl
      rcases low_cases d with e | e
      · have hz : ((d &&& 1 : Nat) : Int) = 0 := by rw [e]; rfl
        have hres : d >>> 1 = cbit d := by unfold cbit; rw [e]; simp
        simp -implicitDefEqProofs (maxSteps := 2000000) only [g1, g5, g6, g0, hk8', ha, hs, hz, wrap_nat (show k < 2 ^ 63 - 1 by omega), wk, act, asV, ↓reduceIte, Nat.reduceEqDiff, reduceCtorEq, Nat.reduceAdd, Nat.reduceLeDiff, Nat.reduceSub, Nat.reduceMul, List.reduceReplicate, Int.reduceEq, Int.reduceLT, Int.reduceLE, Int.reduceAdd, Int.reduceSub, Int.reduceMul, Nat.reduceLT, Int.reduceToNat]
        rw [hres, hcb]
        exact ⟨8 - (k + 1), by omega, k + 1, by omega, rfl, by and_intros <;> rfl⟩
      · have hz : ((d &&& 1 : Nat) : Int) = 1 := by rw [e]; rfl
        have hxo : bitsI .xor .u16 ((d >>> 1 : Nat) : Int) 33800 = some ((cbit d : Nat) : Int) := by
          have := bitsI_xor .u16 (x := d >>> 1) (y := 33800) (show _ < 2 ^ vbits .u16 from by rw [Nat.shiftRight_eq_div_pow]; simp [vbits, IntKind.signed, IntKind.bits]; omega) (by decide)
          unfold cbit; rw [e]; exact this
        simp -implicitDefEqProofs (maxSteps := 2000000) only [g1, g5, g6, g0, hk8', ha, hs, hz, hxo, wrap_nat (show k < 2 ^ 63 - 1 by omega), wk, act, asV, ↓reduceIte, Nat.reduceEqDiff, reduceCtorEq, Nat.reduceAdd, Nat.reduceLeDiff, Nat.reduceSub, Nat.reduceMul, List.reduceReplicate, Int.reduceEq, Int.reduceLT, Int.reduceLE, Int.reduceAdd, Int.reduceSub, Int.reduceMul, Nat.reduceLT, Int.reduceToNat]
        rw [hcb]
        exact ⟨8 - (k + 1), by omega, k + 1, by omega, rfl, by and_intros <;> rfl⟩
    · have hke : k = 8 := by omega
      subst hke
      have hby : cbits 8 (cmore c (b.take i) ^^^ b[i].toNat) = cmore c (b.take (i + 1)) := by
        rw [List.take_succ_eq_append_getElem hil, cmore_snoc]; rfl
      rw [hby] at g0
      simp -implicitDefEqProofs (maxSteps := 2000000) only [g1, g5, g6, g0, Int.lt_irrefl, wrap_nat (show i < 2 ^ 63 - 1 by omega), wk, act, asV, ↓reduceIte, Nat.reduceEqDiff, reduceCtorEq, Nat.reduceAdd, Nat.reduceLeDiff, Nat.reduceSub, Nat.reduceMul, List.reduceReplicate, Int.reduceEq, Int.reduceLT, Int.reduceLE, Int.reduceAdd, Int.reduceSub, Int.reduceMul, Nat.reduceLT, Int.reduceToNat]
      exact ⟨b.length - (i + 1), by omega, i + 1, by omega, rfl, by and_intros <;> rfl⟩
  · have hie : i = b.length := by omega
    subst hie
    rw [List.take_length] at g0
    simp -implicitDefEqProofs (maxSteps := 2000000) only [g1, g5, g0, Int.lt_irrefl, wk, act, asV, ↓reduceIte, Nat.reduceEqDiff, reduceCtorEq, Nat.reduceAdd, Nat.reduceLeDiff, Nat.reduceSub, Nat.reduceMul, List.reduceReplicate, Int.reduceEq, Int.reduceLT, Int.reduceLE, Int.reduceAdd, Int.reduceSub, Int.reduceMul, Nat.reduceLT, Int.reduceToNat]

theorem rcheck_ok (f : Fl) (ps : List (Fl × List UInt8)) (hl : ∀ p ∈ ps, ¬ p.1 = .lit ∧ p.2.length < 2 ^ 63) (hn : ps.length < 2 ^ 63) : RC Try.prog 54 [.sl f ps.length (pl ps)] [.int .u16 (crc (joined ps))] := by
  refine RC.of_wp c54 rfl ?_
  simp -implicitDefEqProofs (maxSteps := 2000000) only [m54_1, m54_2, m54_3, m54_4, m54_5, m54_6, m54_r, m54_b, m54, wk, act, asV, ↓reduceIte, Nat.reduceEqDiff, reduceCtorEq, Nat.reduceAdd, Nat.reduceLeDiff, Nat.reduceSub, Nat.reduceMul, List.reduceReplicate, Int.reduceEq, Int.reduceLT, Int.reduceLE, Int.reduceAdd, Int.reduceSub, Int.reduceMul, Nat.reduceLT, Int.reduceToNat]
  refine Wp_loop (fun j s => ∃ i, i ≤ ps.length ∧ j = ps.length - i ∧ s.t 0 = .sl f ps.length (pl ps) ∧ s.t 4 = .int .i64 (i : Nat) ∧ s.t 3 = .int .u16 (cmore 65535 (joined (ps.take i)))) ps.length ⟨0, by omega, rfl, rfl, rfl, rfl⟩ ?_
  rintro j s ⟨i, hi, rfl, g0, g4, g3⟩
  by_cases hil : i < ps.length
  · have hil' : (i : Int) < ps.length := by omega
    have hm := cmore_lt (joined (ps.take i)) (c := 65535) (by omega)
    have hmo := rmore_ok ps[i].1 hm ps[i].2 (hl _ (List.getElem_mem hil)).2
    have hfl := (hl _ (List.getElem_mem hil)).1
    rw [← cmore_append, ← joined_snoc, ← List.take_succ_eq_append_getElem hil] at hmo
    repeat' (first | simp -implicitDefEqProofs (maxSteps := 2000000) only [hfl, g0, g4, g3, hil', hil, drop_pl hil, pl_length, wrap_nat (show i < 2 ^ 63 - 1 by omega), wk, act, asV, ↓reduceIte, Nat.reduceEqDiff, reduceCtorEq, Nat.reduceAdd, Nat.reduceLeDiff, Nat.reduceSub, Nat.reduceMul, List.reduceReplicate, Int.reduceEq, Int.reduceLT, Int.reduceLE, Int.reduceAdd, Int.reduceSub, Int.reduceMul, Nat.reduceLT, Int.reduceToNat] | ((first | ((with_reducible refine CallL.gate ?_); apply CallL.of) | ((with_reducible refine CallP.gate ?_); apply CallP.of)); (case h1 => (simp -implicitDefEqProofs (maxSteps := 2000000) only [hfl, g0, g4, g3, hil', hil, drop_pl hil, pl_length, wrap_nat (show i < 2 ^ 63 - 1 by omega), wk, act, asV, ↓reduceIte, Nat.reduceEqDiff, reduceCtorEq, Nat.reduceAdd, Nat.reduceLeDiff, Nat.reduceSub, Nat.reduceMul, List.reduceReplicate, Int.reduceEq, Int.reduceLT, Int.reduceLE, Int.reduceAdd, Int.reduceSub, Int.reduceMul, Nat.reduceLT, Int.reduceToNat]; first | done | (with_reducible rfl))); (case h2 => (first | exact hmo)); (case h3 => simp -implicitDefEqProofs (maxSteps := 2000000) only [hfl, g0, g4, g3, hil', hil, drop_pl hil, pl_length, wrap_nat (show i < 2 ^ 63 - 1 by omega), wk, act, asV, ↓reduceIte, Nat.reduceEqDiff, reduceCtorEq, Nat.reduceAdd, Nat.reduceLeDiff, Nat.reduceSub, Nat.reduceMul, List.reduceReplicate, Int.reduceEq, Int.reduceLT, Int.reduceLE, Int.reduceAdd, Int.reduceSub, Int.reduceMul, Nat.reduceLT, Int.reduceToNat])))
    exact ⟨ps.length - (i + 1), by omega, i + 1, by omega, rfl, by and_intros <;> rfl⟩
  · have hie : i = ps.length := by omega
    subst hie
    rw [List.take_length] at g3
    have hnt := not16 (cmore_lt (joined ps) (c := 65535) (by omega))
    have hmax : IntKind.u16.max = 65535 := rfl
    have hsg : IntKind.u16.signed = false := rfl
    simp -implicitDefEqProofs (maxSteps := 2000000) only [g0, g4, g3, Int.lt_irrefl, hnt, hmax, hsg, wk, act, asV, ↓reduceIte, Nat.reduceEqDiff, reduceCtorEq, Nat.reduceAdd, Nat.reduceLeDiff, Nat.reduceSub, Nat.reduceMul, List.reduceReplicate, Int.reduceEq, Int.reduceLT, Int.reduceLE, Int.reduceAdd, Int.reduceSub, Int.reduceMul, Nat.reduceLT, Int.reduceToNat]
    rfl

theorem sealed_ok (f : Fl) (hf : ¬ f = .lit) (b : List UInt8) (hl : b.length ≤ 2 ^ 40) : RC Try.prog 43 [.sl f b.length (bl b)] [.own (b.length + 2) 1 (bl (sealed b))] := by
  refine RC.of_wp c43 rfl ?_
  have hck := rcheck_ok .full [(.plain, b)] (by intro p hp; simp only [List.mem_singleton] at hp; subst hp; exact ⟨by simp, by simp only; omega⟩) (by simp)
  have e1 : joined [(Fl.plain, b)] = b := by simp [joined]
  rw [e1] at hck
  have hc := crc_lt b
  have w0 : IntKind.u8.wrap ((crc b : Nat) : Int) = ((u8 (crc b)).toNat : Int) := wrap_u8 _
  have w1 : IntKind.u8.wrap ((crc b >>> 8 : Nat) : Int) = ((u8 (crc b >>> 8)).toNat : Int) := wrap_u8 _
  have hs : shI .shr .u16 ((crc b : Nat) : Int) 8 = some (.int .u16 ((crc b >>> 8 : Nat) : Int)) := shI_shr .u16 (x := crc b) (y := 8) (by decide)
  have r1 : roomy b.length 1 = true := roomyB (by omega)
  have r2 : roomy (b.length + 2) 1 = true := roomyB (by omega)
  have e2 : bl (sealed b) = bl b ++ [.int .u8 ((u8 (crc b)).toNat : Int), .int .u8 ((u8 (crc b >>> 8)).toNat : Int)] := by simp [sealed, bl]
  have htk : List.take (b.length + 2) (bl b ++ [.int .u8 ((u8 (crc b)).toNat : Int), .int .u8 ((u8 (crc b >>> 8)).toNat : Int)]) = bl b ++ [.int .u8 ((u8 (crc b)).toNat : Int), .int .u8 ((u8 (crc b >>> 8)).toNat : Int)] := List.take_of_length_le (by simp [bl])
  rw [e2]
  cases f with
  | lit => exact absurd rfl hf
  | _ => repeat' (first | simp -implicitDefEqProofs (maxSteps := 2000000) only [htk, List.length_singleton, m43_1, m43_2, m43_r, m43_b, m43, pl, w0, w1, hs, r1, r2, bl_length, wk, act, asV, ↓reduceIte, Nat.reduceEqDiff, reduceCtorEq, Nat.reduceAdd, Nat.reduceLeDiff, Nat.reduceSub, Nat.reduceMul, List.reduceReplicate, Int.reduceEq, Int.reduceLT, Int.reduceLE, Int.reduceAdd, Int.reduceSub, Int.reduceMul, Nat.reduceLT, Int.reduceToNat] | ((first | ((with_reducible refine CallL.gate ?_); apply CallL.of) | ((with_reducible refine CallP.gate ?_); apply CallP.of)); (case h1 => (simp -implicitDefEqProofs (maxSteps := 2000000) only [htk, List.length_singleton, m43_1, m43_2, m43_r, m43_b, m43, pl, w0, w1, hs, r1, r2, bl_length, wk, act, asV, ↓reduceIte, Nat.reduceEqDiff, reduceCtorEq, Nat.reduceAdd, Nat.reduceLeDiff, Nat.reduceSub, Nat.reduceMul, List.reduceReplicate, Int.reduceEq, Int.reduceLT, Int.reduceLE, Int.reduceAdd, Int.reduceSub, Int.reduceMul, Nat.reduceLT, Int.reduceToNat]; first | done | (with_reducible rfl))); (case h2 => (first | exact hck)); (case h3 => simp -implicitDefEqProofs (maxSteps := 2000000) only [htk, List.length_singleton, m43_1, m43_2, m43_r, m43_b, m43, pl, w0, w1, hs, r1, r2, bl_length, wk, act, asV, ↓reduceIte, Nat.reduceEqDiff, reduceCtorEq, Nat.reduceAdd, Nat.reduceLeDiff, Nat.reduceSub, Nat.reduceMul, List.reduceReplicate, Int.reduceEq, Int.reduceLT, Int.reduceLE, Int.reduceAdd, Int.reduceSub, Int.reduceMul, Nat.reduceLT, Int.reduceToNat])))
end Go.Proofs.Ytkphojcmjffccaa
/- Rows joined, cloned, held against one another. -/
set_option linter.unusedVariables false
set_option linter.unusedSimpArgs false
set_option maxRecDepth 100000
set_option maxHeartbeats 2000000
namespace Go.Proofs.Ytkphojcmjffccaa
open Go.RowKit

theorem grow_ok {n : Nat} (hn : n ≤ 2 ^ 44) : RC Try.prog 46 [.sl .full 0 [], .int .i64 (n : Nat)] [.own 0 1 []] := by
  refine RC.of_wpW c46 rfl ?_
  have h0 : IntKind.i64.wrap (n : Int) = n := by rw [IntKind.wrap_i64]; omega
  have hz : IntKind.i64.wrap 0 = 0 := by decide
  have hge : ¬ (n : Int) < 0 := by omega
  have hr := roomyB hn
  by_cases hp : 0 < n
  · have hp' : (0 : Int) < n := by omega
    simp -implicitDefEqProofs (maxSteps := 2000000) only [m46_1, m46_2, m46_3, m46_4, m46_5, m46_6, m46_7, m46_r, m46_b, m46, h0, hz, hge, hp, hp', hr, Int.sub_zero, wk, act, asV, ↓reduceIte, Nat.reduceEqDiff, reduceCtorEq, Nat.reduceAdd, Nat.reduceLeDiff, Nat.reduceSub, Nat.reduceMul, List.reduceReplicate, Int.reduceEq, Int.reduceLT, Int.reduceLE, Int.reduceAdd, Int.reduceSub, Int.reduceMul, Nat.reduceLT, Int.reduceToNat]
    exact PostW.mk (r' := [.own 0 1 []]) (by simp -implicitDefEqProofs (maxSteps := 2000000) only [wk, act, asV, ↓reduceIte, Nat.reduceEqDiff, reduceCtorEq, Nat.reduceAdd, Nat.reduceLeDiff, Nat.reduceSub, Nat.reduceMul, List.reduceReplicate, Int.reduceEq, Int.reduceLT, Int.reduceLE, Int.reduceAdd, Int.reduceSub, Int.reduceMul, Nat.reduceLT, Int.reduceToNat]) (.cons (.inl rfl) .nil) (by decide) (by decide)
  · have hz0 : n = 0 := by omega
    subst hz0
    simp -implicitDefEqProofs (maxSteps := 2000000) only [m46_1, m46_2, m46_3, m46_4, m46_5, m46_6, m46_7, m46_r, m46_b, m46, h0, hz, hge, hr, Int.sub_zero, Int.lt_irrefl, wk, act, asV, ↓reduceIte, Nat.reduceEqDiff, reduceCtorEq, Nat.reduceAdd, Nat.reduceLeDiff, Nat.reduceSub, Nat.reduceMul, List.reduceReplicate, Int.reduceEq, Int.reduceLT, Int.reduceLE, Int.reduceAdd, Int.reduceSub, Int.reduceMul, Nat.reduceLT, Int.reduceToNat]
    exact PostW.mk (r' := [.sl .full 0 []]) (by simp -implicitDefEqProofs (maxSteps := 2000000) only [wk, act, asV, ↓reduceIte, Nat.reduceEqDiff, reduceCtorEq, Nat.reduceAdd, Nat.reduceLeDiff, Nat.reduceSub, Nat.reduceMul, List.reduceReplicate, Int.reduceEq, Int.reduceLT, Int.reduceLE, Int.reduceAdd, Int.reduceSub, Int.reduceMul, Nat.reduceLT, Int.reduceToNat]) (.cons (.inr ⟨rfl, 1, rfl⟩) .nil) (by decide) (by decide)

theorem joined_take_le (ps : List (Fl × List UInt8)) (i : Nat) : (joined (ps.take i)).length ≤ (joined ps).length := by
  have : joined ps = joined (ps.take i) ++ joined (ps.drop i) := by rw [joined, joined, joined, ← List.flatten_append, ← List.map_append, List.take_append_drop]
  rw [this, List.length_append]; omega

theorem concat_ok (f : Fl) (ps : List (Fl × List UInt8)) (hl : (joined ps).length ≤ 2 ^ 43) (hn : ps.length < 2 ^ 63) : RC Try.prog 33 [.sl f ps.length (pl ps)] [.own (joined ps).length 1 (bl (joined ps))] := by
  refine RC.of_wp c33 rfl ?_
  simp -implicitDefEqProofs (maxSteps := 2000000) only [m33_1, m33_2, m33_3, m33_4, m33_5, m33_6, m33_7, m33_8, m33_9, m33_10, m33_11, m33_12, m33_13, m33_14, m33_15, m33_16, m33_17, m33_r, m33_b, m33, wk, act, asV, ↓reduceIte, Nat.reduceEqDiff, reduceCtorEq, Nat.reduceAdd, Nat.reduceLeDiff, Nat.reduceSub, Nat.reduceMul, List.reduceReplicate, Int.reduceEq, Int.reduceLT, Int.reduceLE, Int.reduceAdd, Int.reduceSub, Int.reduceMul, Nat.reduceLT, Int.reduceToNat]
  refine Wp_loop (fun j s => ∃ i, i ≤ ps.length ∧ j = ps.length - i ∧ s.t 0 = .sl f ps.length (pl ps) ∧ s.t 9 = .sl f ps.length (pl ps) ∧ s.t 10 = .int .i64 ps.length ∧ s.t 11 = .int .i64 (i : Nat) ∧ s.t 3 = .int .i64 ((joined (ps.take i)).length : Nat)) ps.length ⟨0, by omega, rfl, rfl, rfl, rfl, rfl, rfl⟩ ?_
  rintro j s ⟨i, hi, rfl, g0, g9, g10, g11, g3⟩
  by_cases hil : i < ps.length
  · have hil' : (i : Int) < ps.length := by omega
    have htl := joined_take_le ps (i + 1)
    have hsn : (joined (ps.take (i + 1))).length = (joined (ps.take i)).length + ps[i].2.length := by rw [List.take_succ_eq_append_getElem hil, joined_snoc, List.length_append]
    have hw : IntKind.i64.wrap (((joined (ps.take i)).length : Int) + (ps[i].2.length : Int)) = ((joined (ps.take (i + 1))).length : Nat) := by rw [IntKind.wrap_i64, hsn]; omega
    have hng : ¬ (((joined (ps.take (i + 1))).length : Nat) : Int) < 0 := by omega
    simp -implicitDefEqProofs (maxSteps := 2000000) only [g0, g9, g10, g11, g3, hil', hil, drop_pl hil, pl_length, hw, hng, wrap_nat (show i < 2 ^ 63 - 1 by omega), wk, act, asV, ↓reduceIte, Nat.reduceEqDiff, reduceCtorEq, Nat.reduceAdd, Nat.reduceLeDiff, Nat.reduceSub, Nat.reduceMul, List.reduceReplicate, Int.reduceEq, Int.reduceLT, Int.reduceLE, Int.reduceAdd, Int.reduceSub, Int.reduceMul, Nat.reduceLT, Int.reduceToNat]
    exact ⟨ps.length - (i + 1), by omega, i + 1, by omega, rfl, by and_intros <;> rfl⟩
  · have hie : i = ps.length := by omega
    subst hie
    rw [List.take_length] at g3
    have hgr := grow_ok (n := (joined ps).length) (by omega)
    repeat' (first | simp -implicitDefEqProofs (maxSteps := 2000000) only [g0, g9, g10, g11, g3, Int.lt_irrefl, wk, act, asV, ↓reduceIte, Nat.reduceEqDiff, reduceCtorEq, Nat.reduceAdd, Nat.reduceLeDiff, Nat.reduceSub, Nat.reduceMul, List.reduceReplicate, Int.reduceEq, Int.reduceLT, Int.reduceLE, Int.reduceAdd, Int.reduceSub, Int.reduceMul, Nat.reduceLT, Int.reduceToNat] | ((first | ((with_reducible refine CallL.gate ?_); apply CallL.of) | ((with_reducible refine CallP.gate ?_); apply CallP.of)); (case h1 => (simp -implicitDefEqProofs (maxSteps := 2000000) only [g0, g9, g10, g11, g3, Int.lt_irrefl, wk, act, asV, ↓reduceIte, Nat.reduceEqDiff, reduceCtorEq, Nat.reduceAdd, Nat.reduceLeDiff, Nat.reduceSub, Nat.reduceMul, List.reduceReplicate, Int.reduceEq, Int.reduceLT, Int.reduceLE, Int.reduceAdd, Int.reduceSub, Int.reduceMul, Nat.reduceLT, Int.reduceToNat]; first | done | (with_reducible rfl))); (case h2 => (first | exact hgr)); (case h3 => simp -implicitDefEqProofs (maxSteps := 2000000) only [g0, g9, g10, g11, g3, Int.lt_irrefl, wk, act, asV, ↓reduceIte, Nat.reduceEqDiff, reduceCtorEq, Nat.reduceAdd, Nat.reduceLeDiff, Nat.reduceSub, Nat.reduceMul, List.reduceReplicate, Int.reduceEq, Int.reduceLT, Int.reduceLE, Int.reduceAdd, Int.reduceSub, Int.reduceMul, Nat.reduceLT, Int.reduceToNat])))
    refine Wp_loop (fun j s => ∃ i, i ≤ ps.length ∧ j = ps.length - i ∧ s.t 25 = .sl f ps.length (pl ps) ∧ s.t 26 = .int .i64 ps.length ∧ s.t 27 = .int .i64 (i : Nat) ∧ ∃ hm ver, (hm = 24 ∨ hm = 33) ∧ s.t 6 = .row hm 0 (joined (ps.take i)).length 1 ver ∧ s.h hm = ⟨ver, true, true, true, bl (joined (ps.take i))⟩) ps.length ⟨0, by omega, rfl, by simp -implicitDefEqProofs (maxSteps := 2000000) only [g0, wk, act, asV, ↓reduceIte, Nat.reduceEqDiff, reduceCtorEq, Nat.reduceAdd, Nat.reduceLeDiff, Nat.reduceSub, Nat.reduceMul, List.reduceReplicate, Int.reduceEq, Int.reduceLT, Int.reduceLE, Int.reduceAdd, Int.reduceSub, Int.reduceMul, Nat.reduceLT, Int.reduceToNat], by simp -implicitDefEqProofs (maxSteps := 2000000) only [wk, act, asV, ↓reduceIte, Nat.reduceEqDiff, reduceCtorEq, Nat.reduceAdd, Nat.reduceLeDiff, Nat.reduceSub, Nat.reduceMul, List.reduceReplicate, Int.reduceEq, Int.reduceLT, Int.reduceLE, Int.reduceAdd, Int.reduceSub, Int.reduceMul, Nat.reduceLT, Int.reduceToNat], by simp -implicitDefEqProofs (maxSteps := 2000000) only [wk, act, asV, ↓reduceIte, Nat.reduceEqDiff, reduceCtorEq, Nat.reduceAdd, Nat.reduceLeDiff, Nat.reduceSub, Nat.reduceMul, List.reduceReplicate, Int.reduceEq, Int.reduceLT, Int.reduceLE, Int.reduceAdd, Int.reduceSub, Int.reduceMul, Nat.reduceLT, Int.reduceToNat], 24, _, .inl rfl, by simp -implicitDefEqProofs (maxSteps := 2000000) only [wk, act, asV, ↓reduceIte, Nat.reduceEqDiff, reduceCtorEq, Nat.reduceAdd, Nat.reduceLeDiff, Nat.reduceSub, Nat.reduceMul, List.reduceReplicate, Int.reduceEq, Int.reduceLT, Int.reduceLE, Int.reduceAdd, Int.reduceSub, Int.reduceMul, Nat.reduceLT, Int.reduceToNat]; first | done | rfl, by simp -implicitDefEqProofs (maxSteps := 2000000) only [wk, act, asV, ↓reduceIte, Nat.reduceEqDiff, reduceCtorEq, Nat.reduceAdd, Nat.reduceLeDiff, Nat.reduceSub, Nat.reduceMul, List.reduceReplicate, Int.reduceEq, Int.reduceLT, Int.reduceLE, Int.reduceAdd, Int.reduceSub, Int.reduceMul, Nat.reduceLT, Int.reduceToNat]; first | done | rfl⟩ ?_
    rintro j s ⟨i, hi, rfl, g25, g26, g27, hm, ver, hhm, g6, gh⟩
    by_cases hil : i < ps.length
    · have hil' : (i : Int) < ps.length := by omega
      have htl := joined_take_le ps (i + 1)
      have hsn0 : joined (ps.take (i + 1)) = joined (ps.take i) ++ ps[i].2 := by rw [List.take_succ_eq_append_getElem hil, joined_snoc]
      have hsn : (joined (ps.take (i + 1))).length = (joined (ps.take i)).length + ps[i].2.length := by rw [hsn0, List.length_append]
      have hr : roomy ((joined (ps.take i)).length + ps[i].2.length) 1 = true := roomyB (by omega)
      have hb : bl (joined (ps.take i)) ++ bl ps[i].2 = bl (joined (ps.take (i + 1))) := by rw [hsn0, bl_append]
      rcases hhm with rfl | rfl
      all_goals
        simp -implicitDefEqProofs (maxSteps := 2000000) only [g25, g26, g27, g6, gh, hil', hil, drop_pl hil, pl_length, bl_length, hr, hb, wrap_nat (show i < 2 ^ 63 - 1 by omega), wk, act, asV, ↓reduceIte, Nat.reduceEqDiff, reduceCtorEq, Nat.reduceAdd, Nat.reduceLeDiff, Nat.reduceSub, Nat.reduceMul, List.reduceReplicate, Int.reduceEq, Int.reduceLT, Int.reduceLE, Int.reduceAdd, Int.reduceSub, Int.reduceMul, Nat.reduceLT, Int.reduceToNat]
        refine ⟨ps.length - (i + 1), by omega, i + 1, by omega, rfl, rfl, 33, _, .inr rfl, by rw [hsn], by simp -implicitDefEqProofs (maxSteps := 2000000) only [wk, act, asV, ↓reduceIte, Nat.reduceEqDiff, reduceCtorEq, Nat.reduceAdd, Nat.reduceLeDiff, Nat.reduceSub, Nat.reduceMul, List.reduceReplicate, Int.reduceEq, Int.reduceLT, Int.reduceLE, Int.reduceAdd, Int.reduceSub, Int.reduceMul, Nat.reduceLT, Int.reduceToNat]; first | done | rfl⟩
    · have hie : i = ps.length := by omega
      subst hie
      rw [List.take_length] at g6 gh
      rcases hhm with rfl | rfl
      all_goals simp -implicitDefEqProofs (maxSteps := 2000000) only [g25, g26, g27, g6, gh, Int.lt_irrefl, take_bl, wk, act, asV, ↓reduceIte, Nat.reduceEqDiff, reduceCtorEq, Nat.reduceAdd, Nat.reduceLeDiff, Nat.reduceSub, Nat.reduceMul, List.reduceReplicate, Int.reduceEq, Int.reduceLT, Int.reduceLE, Int.reduceAdd, Int.reduceSub, Int.reduceMul, Nat.reduceLT, Int.reduceToNat]
end Go.Proofs.Ytkphojcmjffccaa
/- Numbers put into bytes, and read out of them. -/
set_option linter.unusedVariables false
set_option linter.unusedSimpArgs false
set_option maxRecDepth 100000
set_option maxHeartbeats 2000000
namespace Go.Proofs.Ytkphojcmjffccaa
open Go.RowKit

def putle (n k : Nat) : List UInt8 := (List.range k).map fun i => u8 (n >>> (8 * i))
theorem putle_snoc (n k : Nat) : putle n (k + 1) = putle n k ++ [u8 (n >>> (8 * k))] := by simp [putle, List.range_succ]
theorem putle_length (n k : Nat) : (putle n k).length = k := by simp [putle]

theorem put_ok {n k : Nat} (hn : n < 2 ^ 32) (hk : k ≤ 4) (hk0 : 0 < k) : RC Try.prog 42 [.int .u32 (n : Nat), .int .i64 (k : Nat)] [.own k 1 (bl (putle n k))] := by
  refine RC.of_wp c42 rfl ?_
  simp -implicitDefEqProofs (maxSteps := 2000000) only [m42_1, m42_2, m42_3, m42_4, m42_5, m42_6, m42_r, m42_b, m42, wk, act, asV, ↓reduceIte, Nat.reduceEqDiff, reduceCtorEq, Nat.reduceAdd, Nat.reduceLeDiff, Nat.reduceSub, Nat.reduceMul, List.reduceReplicate, Int.reduceEq, Int.reduceLT, Int.reduceLE, Int.reduceAdd, Int.reduceSub, Int.reduceMul, Nat.reduceLT, Int.reduceToNat]
  refine Wp_loop (fun j s => ∃ i, i ≤ k ∧ j = k - i ∧ s.t 0 = .int .u32 (n : Nat) ∧ s.t 1 = .int .i64 (k : Nat) ∧ s.t 6 = .int .i64 (i : Nat) ∧ ((i = 0 ∧ s.t 5 = .sl .full 0 []) ∨ (0 < i ∧ ∃ ver, s.t 5 = .row 20 0 i 1 ver ∧ s.h 20 = ⟨ver, true, true, true, bl (putle n i)⟩))) k ⟨0, by omega, rfl, by simp -implicitDefEqProofs (maxSteps := 2000000) only [wk, act, asV, ↓reduceIte, Nat.reduceEqDiff, reduceCtorEq, Nat.reduceAdd, Nat.reduceLeDiff, Nat.reduceSub, Nat.reduceMul, List.reduceReplicate, Int.reduceEq, Int.reduceLT, Int.reduceLE, Int.reduceAdd, Int.reduceSub, Int.reduceMul, Nat.reduceLT, Int.reduceToNat], by simp -implicitDefEqProofs (maxSteps := 2000000) only [wk, act, asV, ↓reduceIte, Nat.reduceEqDiff, reduceCtorEq, Nat.reduceAdd, Nat.reduceLeDiff, Nat.reduceSub, Nat.reduceMul, List.reduceReplicate, Int.reduceEq, Int.reduceLT, Int.reduceLE, Int.reduceAdd, Int.reduceSub, Int.reduceMul, Nat.reduceLT, Int.reduceToNat], by simp -implicitDefEqProofs (maxSteps := 2000000) only [wk, act, asV, ↓reduceIte, Nat.reduceEqDiff, reduceCtorEq, Nat.reduceAdd, Nat.reduceLeDiff, Nat.reduceSub, Nat.reduceMul, List.reduceReplicate, Int.reduceEq, Int.reduceLT, Int.reduceLE, Int.reduceAdd, Int.reduceSub, Int.reduceMul, Nat.reduceLT, Int.reduceToNat], .inl ⟨rfl, by simp -implicitDefEqProofs (maxSteps := 2000000) only [wk, act, asV, ↓reduceIte, Nat.reduceEqDiff, reduceCtorEq, Nat.reduceAdd, Nat.reduceLeDiff, Nat.reduceSub, Nat.reduceMul, List.reduceReplicate, Int.reduceEq, Int.reduceLT, Int.reduceLE, Int.reduceAdd, Int.reduceSub, Int.reduceMul, Nat.reduceLT, Int.reduceToNat]⟩⟩ ?_
  rintro j s ⟨i, hi, rfl, g0, g1, g6, g5⟩
  by_cases hil : i < k
  · have hil' : (i : Int) < k := by omega
    have hm : IntKind.i64.wrap (8 * (i : Int)) = ((8 * i : Nat) : Int) := by rw [IntKind.wrap_i64]; omega
    have hu : IntKind.u64.wrap ((8 * i : Nat) : Int) = ((8 * i : Nat) : Int) := wrapN .u64 (by simp [vbits, IntKind.signed, IntKind.bits]; omega)
    have hs : shI .shr .u32 (n : Int) ((8 * i : Nat) : Int) = some (.int .u32 ((n >>> (8 * i) : Nat) : Int)) := shI_shr .u32 (by simp [IntKind.bits]; omega)
    have w : IntKind.u8.wrap ((n >>> (8 * i) : Nat) : Int) = ((u8 (n >>> (8 * i))).toNat : Int) := wrap_u8 _
    have hr : roomy (i + 1) 1 = true := roomyB (by omega)
    have e : bl (putle n (i + 1)) = bl (putle n i) ++ [.int .u8 ((u8 (n >>> (8 * i))).toNat : Int)] := by rw [putle_snoc]; simp [bl]
    have hpl : (bl (putle n i)).length = i := by rw [bl_length, putle_length]
    rcases g5 with ⟨hi0, g5⟩ | ⟨hpos, ver, g5, gh⟩
    · have hr1 : roomy 1 1 = true := by decide
      simp -implicitDefEqProofs (maxSteps := 2000000) only [g0, g1, g5, g6, hil', hil, hm, hu, hs, w, hr1, wrap_nat (show i < 2 ^ 63 - 1 by omega), wk, act, asV, ↓reduceIte, Nat.reduceEqDiff, reduceCtorEq, Nat.reduceAdd, Nat.reduceLeDiff, Nat.reduceSub, Nat.reduceMul, List.reduceReplicate, Int.reduceEq, Int.reduceLT, Int.reduceLE, Int.reduceAdd, Int.reduceSub, Int.reduceMul, Nat.reduceLT, Int.reduceToNat]
      refine ⟨k - (i + 1), by omega, i + 1, by omega, rfl, rfl, by omega, ?_⟩
      rw [e]
      subst hi0
      exact ⟨_, rfl, rfl⟩
    · simp -implicitDefEqProofs (maxSteps := 2000000) only [g0, g1, g5, g6, gh, hil', hil, hm, hu, hs, w, hr, hpl, wrap_nat (show i < 2 ^ 63 - 1 by omega), wk, act, asV, ↓reduceIte, Nat.reduceEqDiff, reduceCtorEq, Nat.reduceAdd, Nat.reduceLeDiff, Nat.reduceSub, Nat.reduceMul, List.reduceReplicate, Int.reduceEq, Int.reduceLT, Int.reduceLE, Int.reduceAdd, Int.reduceSub, Int.reduceMul, Nat.reduceLT, Int.reduceToNat]
      refine ⟨k - (i + 1), by omega, i + 1, by omega, rfl, rfl, by omega, ?_⟩
      rw [e]
      exact ⟨_, rfl, rfl⟩
  · have hie : i = k := by omega
    subst hie
    rcases g5 with ⟨rfl, g5⟩ | ⟨hpos, ver, g5, gh⟩
    · omega
    · have htk : List.take i (bl (putle n i)) = bl (putle n i) := List.take_of_length_le (by rw [bl_length, putle_length]; exact Nat.le_refl _)
      simp -implicitDefEqProofs (maxSteps := 2000000) only [g0, g1, g5, g6, gh, Int.lt_irrefl, htk, wk, act, asV, ↓reduceIte, Nat.reduceEqDiff, reduceCtorEq, Nat.reduceAdd, Nat.reduceLeDiff, Nat.reduceSub, Nat.reduceMul, List.reduceReplicate, Int.reduceEq, Int.reduceLT, Int.reduceLE, Int.reduceAdd, Int.reduceSub, Int.reduceMul, Nat.reduceLT, Int.reduceToNat]

end Go.Proofs.Ytkphojcmjffccaa
