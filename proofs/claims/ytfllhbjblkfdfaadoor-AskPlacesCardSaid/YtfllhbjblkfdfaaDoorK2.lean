/- The check of bytes. -/
import Derived.Test.YtfllhbjblkfdfaaDoorE31
import Derived.Test.YtfllhbjblkfdfaaDoorM3
import Derived.Test.YtfllhbjblkfdfaaDoorK0
set_option linter.unusedVariables false
set_option linter.unusedSimpArgs false
set_option maxRecDepth 100000
set_option maxHeartbeats 2000000
namespace Go.Proofs.YtfllhbjblkfdfaaDoor
open Go.RowKit

/-- bytes, and their check behind -/
def sealed (b : List UInt8) : List UInt8 := b ++ [u8 (crc b), u8 (crc b >>> 8)]
theorem sealed_length (b : List UInt8) : (sealed b).length = b.length + 2 := by simp [sealed]
theorem bl_sealed (b : List UInt8) : bl (sealed b) = bl b ++ [.int .u8 ((u8 (crc b)).toNat : Int), .int .u8 ((u8 (crc b >>> 8)).toNat : Int)] := by simp [sealed, bl]
theorem take_sealed (b : List UInt8) : List.take (b.length + 2) (bl b ++ [.int .u8 ((u8 (crc b)).toNat : Int), .int .u8 ((u8 (crc b >>> 8)).toNat : Int)]) = bl b ++ [.int .u8 ((u8 (crc b)).toNat : Int), .int .u8 ((u8 (crc b >>> 8)).toNat : Int)] := List.take_of_length_le (by simp [bl])

theorem not16 {n : Nat} (h : n < 65536) : bitsI .xor .u16 65535 (n : Int) = some ((65535 - n : Nat) : Int) := by
  have h1 := bitsI_xor .u16 (x := 65535) (y := n) (by decide) (by simpa [vbits, IntKind.signed, IntKind.bits] using h)
  have h2 : 65535 ^^^ n = 65535 - n := by
    have := congrArg BitVec.toNat (BitVec.allOnes_xor (x := BitVec.ofNat 16 n))
    simp [Nat.mod_eq_of_lt h] at this
    omega
  rw [h2] at h1
  exact h1

theorem more_ok (f : Fl) {c : Nat} (hc : c < 65536) (b : List UInt8) (hl : b.length < 2 ^ 63) : RC Tryd.prog 29 [.int .u16 c, .sl f b.length (bl b)] [.int .u16 (cmore c b)] := by
  refine RC.of_wp c29 rfl ?_
  simp -implicitDefEqProofs (maxSteps := 2000000) only [m29_1, m29_2, m29_3, m29_4, m29_5, m29_6, m29_7, m29_8, m29_9, m29_10, m29_11, m29_12, m29_13, m29_r, m29_b, m29, wk, act, asV, ↓reduceIte, Nat.reduceEqDiff, reduceCtorEq, Nat.reduceAdd, Nat.reduceLeDiff, Nat.reduceSub, Nat.reduceMul, List.reduceReplicate, Int.reduceEq, Int.reduceLT, Int.reduceLE, Int.reduceAdd, Int.reduceSub, Int.reduceMul, Nat.reduceLT, Int.reduceToNat]
  refine Wp_loop (fun j s => ∃ i, i ≤ b.length ∧ j = b.length - i ∧ s.t 8 = .sl f b.length (bl b) ∧ s.t 9 = .int .i64 b.length ∧ s.t 10 = .int .i64 (i : Nat) ∧ s.t 0 = .int .u16 (cmore c (b.take i))) b.length ⟨0, by omega, rfl, rfl, rfl, rfl, rfl⟩ ?_
  rintro j s ⟨i, hi, rfl, g8, g9, g10, g0⟩
  by_cases hil : i < b.length
  · have hil' : (i : Int) < b.length := by omega
    have hm := cmore_lt (b.take i) hc
    have wb : IntKind.u16.wrap ((b[i].toNat : Nat) : Int) = b[i].toNat := wrapN .u16 (by have := b[i].toNat_lt; simp [vbits, IntKind.signed, IntKind.bits]; omega)
    have hx : bitsI .xor .u16 (cmore c (b.take i) : Int) ((b[i].toNat : Nat) : Int) = some ((cmore c (b.take i) ^^^ b[i].toNat : Nat) : Int) := bitsI_xor .u16 hm (by have := b[i].toNat_lt; simp [vbits, IntKind.signed, IntKind.bits]; omega)
    have hx2 : cmore c (b.take i) ^^^ b[i].toNat < 65536 := byte_xor_lt hm _
    simp -implicitDefEqProofs (maxSteps := 2000000) only [g8, g9, g10, g0, hil', hil, drop_bl hil, bl_length, wb, hx, wk, act, asV, ↓reduceIte, Nat.reduceEqDiff, reduceCtorEq, Nat.reduceAdd, Nat.reduceLeDiff, Nat.reduceSub, Nat.reduceMul, List.reduceReplicate, Int.reduceEq, Int.reduceLT, Int.reduceLE, Int.reduceAdd, Int.reduceSub, Int.reduceMul, Nat.reduceLT, Int.reduceToNat]
    refine Wp_loop (fun j s => ∃ k, k ≤ 8 ∧ j = 8 - k ∧ s.t 8 = .sl f b.length (bl b) ∧ s.t 9 = .int .i64 b.length ∧ s.t 10 = .int .i64 (i : Nat) ∧ s.t 18 = .int .i64 (k : Nat) ∧ s.t 0 = .int .u16 (cbits k (cmore c (b.take i) ^^^ b[i].toNat) : Nat)) 8 ⟨0, by omega, rfl, by simp -implicitDefEqProofs (maxSteps := 2000000) only [g8, wk, act, asV, ↓reduceIte, Nat.reduceEqDiff, reduceCtorEq, Nat.reduceAdd, Nat.reduceLeDiff, Nat.reduceSub, Nat.reduceMul, List.reduceReplicate, Int.reduceEq, Int.reduceLT, Int.reduceLE, Int.reduceAdd, Int.reduceSub, Int.reduceMul, Nat.reduceLT, Int.reduceToNat], by simp -implicitDefEqProofs (maxSteps := 2000000) only [g9, wk, act, asV, ↓reduceIte, Nat.reduceEqDiff, reduceCtorEq, Nat.reduceAdd, Nat.reduceLeDiff, Nat.reduceSub, Nat.reduceMul, List.reduceReplicate, Int.reduceEq, Int.reduceLT, Int.reduceLE, Int.reduceAdd, Int.reduceSub, Int.reduceMul, Nat.reduceLT, Int.reduceToNat], by simp -implicitDefEqProofs (maxSteps := 2000000) only [g10, wk, act, asV, ↓reduceIte, Nat.reduceEqDiff, reduceCtorEq, Nat.reduceAdd, Nat.reduceLeDiff, Nat.reduceSub, Nat.reduceMul, List.reduceReplicate, Int.reduceEq, Int.reduceLT, Int.reduceLE, Int.reduceAdd, Int.reduceSub, Int.reduceMul, Nat.reduceLT, Int.reduceToNat], by simp -implicitDefEqProofs (maxSteps := 2000000) only [wk, act, asV, ↓reduceIte, Nat.reduceEqDiff, reduceCtorEq, Nat.reduceAdd, Nat.reduceLeDiff, Nat.reduceSub, Nat.reduceMul, List.reduceReplicate, Int.reduceEq, Int.reduceLT, Int.reduceLE, Int.reduceAdd, Int.reduceSub, Int.reduceMul, Nat.reduceLT, Int.reduceToNat], by simp -implicitDefEqProofs (maxSteps := 2000000) only [cbits, wk, act, asV, ↓reduceIte, Nat.reduceEqDiff, reduceCtorEq, Nat.reduceAdd, Nat.reduceLeDiff, Nat.reduceSub, Nat.reduceMul, List.reduceReplicate, Int.reduceEq, Int.reduceLT, Int.reduceLE, Int.reduceAdd, Int.reduceSub, Int.reduceMul, Nat.reduceLT, Int.reduceToNat]⟩ ?_
    rintro j s ⟨k, hk, rfl, g8, g9, g10, g18, g0⟩
    by_cases hk8 : k < 8
    · have hk8' : (k : Int) < 8 := by omega
      obtain ⟨d, hd⟩ : ∃ d, d = cbits k (cmore c (b.take i) ^^^ b[i].toNat) := ⟨_, rfl⟩
      rw [← hd] at g0
      have hdl : d < 65536 := by rw [hd]; exact cbits_lt hx2 k
      have ha : bitsI .and .u16 (d : Int) 1 = some ((d &&& 1 : Nat) : Int) := bitsI_and .u16 (x := d) (y := 1) hdl (by decide)
      have hs : shI .shr .u16 (d : Int) 1 = some (.int .u16 ((d >>> 1 : Nat) : Int)) := shI_shr .u16 (x := d) (y := 1) (by decide)
      have hmul : IntKind.u16.wrap (33800 * ((d &&& 1 : Nat) : Int)) = ((33800 * (d &&& 1) : Nat) : Int) := by
        have : (33800 : Int) * ((d &&& 1 : Nat) : Int) = ((33800 * (d &&& 1) : Nat) : Int) := by simp
        rw [this]
        exact wrapN .u16 (by rcases low_cases d with e | e <;> rw [e] <;> decide)
      have hxo : bitsI .xor .u16 ((d >>> 1 : Nat) : Int) ((33800 * (d &&& 1) : Nat) : Int) = some ((cbit d : Nat) : Int) := by
        rw [bitsI_xor .u16 (show _ < 2 ^ vbits .u16 from by rw [Nat.shiftRight_eq_div_pow]; simp [vbits, IntKind.signed, IntKind.bits]; omega) (by rcases low_cases d with e | e <;> rw [e] <;> decide)]
        rfl
      have hcb : cbit d = cbits (k + 1) (cmore c (b.take i) ^^^ b[i].toNat) := by rw [hd]; rfl
      simp -implicitDefEqProofs (maxSteps := 2000000) only [g8, g9, g10, g18, g0, hk8', ha, hs, hmul, hxo, wrap_nat (show k < 2 ^ 63 - 1 by omega), wk, act, asV, ↓reduceIte, Nat.reduceEqDiff, reduceCtorEq, Nat.reduceAdd, Nat.reduceLeDiff, Nat.reduceSub, Nat.reduceMul, List.reduceReplicate, Int.reduceEq, Int.reduceLT, Int.reduceLE, Int.reduceAdd, Int.reduceSub, Int.reduceMul, Nat.reduceLT, Int.reduceToNat]
      rw [hcb]
      exact ⟨8 - (k + 1), by omega, k + 1, by omega, rfl, by and_intros <;> rfl⟩
    · have hke : k = 8 := by omega
      subst hke
      have hby : cbits 8 (cmore c (b.take i) ^^^ b[i].toNat) = cmore c (b.take (i + 1)) := by
        rw [List.take_succ_eq_append_getElem hil, cmore_snoc]; rfl
      rw [hby] at g0
      simp -implicitDefEqProofs (maxSteps := 2000000) only [g8, g9, g10, g18, g0, Int.lt_irrefl, wrap_nat (show i < 2 ^ 63 - 1 by omega), wk, act, asV, ↓reduceIte, Nat.reduceEqDiff, reduceCtorEq, Nat.reduceAdd, Nat.reduceLeDiff, Nat.reduceSub, Nat.reduceMul, List.reduceReplicate, Int.reduceEq, Int.reduceLT, Int.reduceLE, Int.reduceAdd, Int.reduceSub, Int.reduceMul, Nat.reduceLT, Int.reduceToNat]
      exact ⟨b.length - (i + 1), by omega, i + 1, by omega, rfl, by and_intros <;> rfl⟩
  · have hie : i = b.length := by omega
    subst hie
    rw [List.take_length] at g0
    simp -implicitDefEqProofs (maxSteps := 2000000) only [g8, g9, g10, g0, Int.lt_irrefl, wk, act, asV, ↓reduceIte, Nat.reduceEqDiff, reduceCtorEq, Nat.reduceAdd, Nat.reduceLeDiff, Nat.reduceSub, Nat.reduceMul, List.reduceReplicate, Int.reduceEq, Int.reduceLT, Int.reduceLE, Int.reduceAdd, Int.reduceSub, Int.reduceMul, Nat.reduceLT, Int.reduceToNat]

theorem check_ok (f : Fl) (ps : List (Fl × List UInt8)) (hl : ∀ p ∈ ps, ¬ p.1 = .lit ∧ p.2.length < 2 ^ 63) (hn : ps.length < 2 ^ 63) : RC Tryd.prog 16 [.sl f ps.length (pl ps)] [.int .u16 (crc (joined ps))] := by
  refine RC.of_wp c16 rfl ?_
  simp -implicitDefEqProofs (maxSteps := 2000000) only [m16_1, m16_2, m16_3, m16_4, m16_5, m16_6, m16_7, m16_8, m16_r, m16_b, m16, wk, act, asV, ↓reduceIte, Nat.reduceEqDiff, reduceCtorEq, Nat.reduceAdd, Nat.reduceLeDiff, Nat.reduceSub, Nat.reduceMul, List.reduceReplicate, Int.reduceEq, Int.reduceLT, Int.reduceLE, Int.reduceAdd, Int.reduceSub, Int.reduceMul, Nat.reduceLT, Int.reduceToNat]
  refine Wp_loop (fun j s => ∃ i, i ≤ ps.length ∧ j = ps.length - i ∧ s.t 6 = .sl f ps.length (pl ps) ∧ s.t 7 = .int .i64 ps.length ∧ s.t 8 = .int .i64 (i : Nat) ∧ s.t 3 = .int .u16 (cmore 65535 (joined (ps.take i)))) ps.length ⟨0, by omega, rfl, rfl, rfl, rfl, rfl⟩ ?_
  rintro j s ⟨i, hi, rfl, g6, g7, g8, g3⟩
  by_cases hil : i < ps.length
  · have hil' : (i : Int) < ps.length := by omega
    have hm := cmore_lt (joined (ps.take i)) (c := 65535) (by omega)
    have hmo := more_ok ps[i].1 hm ps[i].2 (hl _ (List.getElem_mem hil)).2
    have hfl := (hl _ (List.getElem_mem hil)).1
    rw [← cmore_append, ← joined_snoc, ← List.take_succ_eq_append_getElem hil] at hmo
    repeat' (first | simp -implicitDefEqProofs (maxSteps := 2000000) only [hfl, g6, g7, g8, g3, hil', hil, drop_pl hil, pl_length, wrap_nat (show i < 2 ^ 63 - 1 by omega), wk, act, asV, ↓reduceIte, Nat.reduceEqDiff, reduceCtorEq, Nat.reduceAdd, Nat.reduceLeDiff, Nat.reduceSub, Nat.reduceMul, List.reduceReplicate, Int.reduceEq, Int.reduceLT, Int.reduceLE, Int.reduceAdd, Int.reduceSub, Int.reduceMul, Nat.reduceLT, Int.reduceToNat] | ((with_reducible refine CallL.gate ?_); refine CallL.of (by simp -implicitDefEqProofs (maxSteps := 2000000) only [hfl, g6, g7, g8, g3, hil', hil, drop_pl hil, pl_length, wrap_nat (show i < 2 ^ 63 - 1 by omega), wk, act, asV, ↓reduceIte, Nat.reduceEqDiff, reduceCtorEq, Nat.reduceAdd, Nat.reduceLeDiff, Nat.reduceSub, Nat.reduceMul, List.reduceReplicate, Int.reduceEq, Int.reduceLT, Int.reduceLE, Int.reduceAdd, Int.reduceSub, Int.reduceMul, Nat.reduceLT, Int.reduceToNat]; first | done | (with_reducible rfl)) (by first | exact hmo) (by simp -implicitDefEqProofs (maxSteps := 2000000) only [hfl, g6, g7, g8, g3, hil', hil, drop_pl hil, pl_length, wrap_nat (show i < 2 ^ 63 - 1 by omega), wk, act, asV, ↓reduceIte, Nat.reduceEqDiff, reduceCtorEq, Nat.reduceAdd, Nat.reduceLeDiff, Nat.reduceSub, Nat.reduceMul, List.reduceReplicate, Int.reduceEq, Int.reduceLT, Int.reduceLE, Int.reduceAdd, Int.reduceSub, Int.reduceMul, Nat.reduceLT, Int.reduceToNat]) ?_) | ((with_reducible refine CallP.gate ?_); refine CallP.of (by simp -implicitDefEqProofs (maxSteps := 2000000) only [hfl, g6, g7, g8, g3, hil', hil, drop_pl hil, pl_length, wrap_nat (show i < 2 ^ 63 - 1 by omega), wk, act, asV, ↓reduceIte, Nat.reduceEqDiff, reduceCtorEq, Nat.reduceAdd, Nat.reduceLeDiff, Nat.reduceSub, Nat.reduceMul, List.reduceReplicate, Int.reduceEq, Int.reduceLT, Int.reduceLE, Int.reduceAdd, Int.reduceSub, Int.reduceMul, Nat.reduceLT, Int.reduceToNat]; first | done | (with_reducible rfl)) (by first | exact hmo) (by simp -implicitDefEqProofs (maxSteps := 2000000) only [hfl, g6, g7, g8, g3, hil', hil, drop_pl hil, pl_length, wrap_nat (show i < 2 ^ 63 - 1 by omega), wk, act, asV, ↓reduceIte, Nat.reduceEqDiff, reduceCtorEq, Nat.reduceAdd, Nat.reduceLeDiff, Nat.reduceSub, Nat.reduceMul, List.reduceReplicate, Int.reduceEq, Int.reduceLT, Int.reduceLE, Int.reduceAdd, Int.reduceSub, Int.reduceMul, Nat.reduceLT, Int.reduceToNat]) ?_))
    exact ⟨ps.length - (i + 1), by omega, i + 1, by omega, rfl, by and_intros <;> rfl⟩
  · have hie : i = ps.length := by omega
    subst hie
    rw [List.take_length] at g3
    have hnt := not16 (cmore_lt (joined ps) (c := 65535) (by omega))
    have hmax : IntKind.u16.max = 65535 := rfl
    have hsg : IntKind.u16.signed = false := rfl
    simp -implicitDefEqProofs (maxSteps := 2000000) only [g6, g7, g8, g3, Int.lt_irrefl, hnt, hmax, hsg, wk, act, asV, ↓reduceIte, Nat.reduceEqDiff, reduceCtorEq, Nat.reduceAdd, Nat.reduceLeDiff, Nat.reduceSub, Nat.reduceMul, List.reduceReplicate, Int.reduceEq, Int.reduceLT, Int.reduceLE, Int.reduceAdd, Int.reduceSub, Int.reduceMul, Nat.reduceLT, Int.reduceToNat]
    rfl
end Go.Proofs.YtfllhbjblkfdfaaDoor
