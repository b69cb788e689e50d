/- The reference of the check of bytes. -/
import Derived.Test.YtfllhbjblkfdfaaDoorK2
set_option linter.unusedVariables false
set_option linter.unusedSimpArgs false
set_option maxRecDepth 100000
set_option maxHeartbeats 2000000
namespace Go.Proofs.YtfllhbjblkfdfaaDoor
open Go.RowKit

theorem rmore_ok (f : Fl) {c : Nat} (hc : c < 65536) (b : List UInt8) (hl : b.length < 2 ^ 63) : RC Tryd.prog 46 [.int .u16 c, .sl f b.length (bl b)] [.int .u16 (cmore c b)] := by
  refine RC.of_wp c46 rfl ?_
  simp -implicitDefEqProofs (maxSteps := 2000000) only [m46_1, m46_2, m46_3, m46_4, m46_5, m46_6, m46_7, m46_8, m46_9, m46_10, m46_11, m46_12, m46_r, m46_b, m46, wk, act, asV, ↓reduceIte, Nat.reduceEqDiff, reduceCtorEq, Nat.reduceAdd, Nat.reduceLeDiff, Nat.reduceSub, Nat.reduceMul, List.reduceReplicate, Int.reduceEq, Int.reduceLT, Int.reduceLE, Int.reduceAdd, Int.reduceSub, Int.reduceMul, Nat.reduceLT, Int.reduceToNat]
  refine Wp_loop (fun j s => ∃ i, i ≤ b.length ∧ j = b.length - i ∧ s.t 1 = .sl f b.length (bl b) ∧ s.t 5 = .int .i64 (i : Nat) ∧ s.t 0 = .int .u16 (cmore c (b.take i))) b.length ⟨0, by omega, rfl, rfl, rfl, rfl⟩ ?_
  rintro j s ⟨i, hi, rfl, g1, g5, g0⟩
  by_cases hil : i < b.length
  · have hil' : (i : Int) < b.length := by omega
    have hm := cmore_lt (b.take i) hc
    have wb : IntKind.u16.wrap ((b[i].toNat : Nat) : Int) = b[i].toNat := wrapN .u16 (by have := b[i].toNat_lt; simp [vbits, IntKind.signed, IntKind.bits]; omega)
    have hx : bitsI .xor .u16 (cmore c (b.take i) : Int) ((b[i].toNat : Nat) : Int) = some ((cmore c (b.take i) ^^^ b[i].toNat : Nat) : Int) := bitsI_xor .u16 hm (by have := b[i].toNat_lt; simp [vbits, IntKind.signed, IntKind.bits]; omega)
    have hx2 : cmore c (b.take i) ^^^ b[i].toNat < 65536 := byte_xor_lt hm _
    simp -implicitDefEqProofs (maxSteps := 2000000) only [g1, g5, g0, hil', hil, drop_bl hil, bl_length, wb, hx, wk, act, asV, ↓reduceIte, Nat.reduceEqDiff, reduceCtorEq, Nat.reduceAdd, Nat.reduceLeDiff, Nat.reduceSub, Nat.reduceMul, List.reduceReplicate, Int.reduceEq, Int.reduceLT, Int.reduceLE, Int.reduceAdd, Int.reduceSub, Int.reduceMul, Nat.reduceLT, Int.reduceToNat]
    refine Wp_loop (fun j s => ∃ k, k ≤ 8 ∧ j = 8 - k ∧ s.t 1 = .sl f b.length (bl b) ∧ s.t 5 = .int .i64 (i : Nat) ∧ s.t 6 = .int .i64 (k : Nat) ∧ s.t 0 = .int .u16 (cbits k (cmore c (b.take i) ^^^ b[i].toNat) : Nat)) 8 ⟨0, by omega, rfl, by simp -implicitDefEqProofs (maxSteps := 2000000) only [g1, wk, act, asV, ↓reduceIte, Nat.reduceEqDiff, reduceCtorEq, Nat.reduceAdd, Nat.reduceLeDiff, Nat.reduceSub, Nat.reduceMul, List.reduceReplicate, Int.reduceEq, Int.reduceLT, Int.reduceLE, Int.reduceAdd, Int.reduceSub, Int.reduceMul, Nat.reduceLT, Int.reduceToNat], by simp -implicitDefEqProofs (maxSteps := 2000000) only [g5, wk, act, asV, ↓reduceIte, Nat.reduceEqDiff, reduceCtorEq, Nat.reduceAdd, Nat.reduceLeDiff, Nat.reduceSub, Nat.reduceMul, List.reduceReplicate, Int.reduceEq, Int.reduceLT, Int.reduceLE, Int.reduceAdd, Int.reduceSub, Int.reduceMul, Nat.reduceLT, Int.reduceToNat], by simp -implicitDefEqProofs (maxSteps := 2000000) only [wk, act, asV, ↓reduceIte, Nat.reduceEqDiff, reduceCtorEq, Nat.reduceAdd, Nat.reduceLeDiff, Nat.reduceSub, Nat.reduceMul, List.reduceReplicate, Int.reduceEq, Int.reduceLT, Int.reduceLE, Int.reduceAdd, Int.reduceSub, Int.reduceMul, Nat.reduceLT, Int.reduceToNat], by simp -implicitDefEqProofs (maxSteps := 2000000) only [cbits, wk, act, asV, ↓reduceIte, Nat.reduceEqDiff, reduceCtorEq, Nat.reduceAdd, Nat.reduceLeDiff, Nat.reduceSub, Nat.reduceMul, List.reduceReplicate, Int.reduceEq, Int.reduceLT, Int.reduceLE, Int.reduceAdd, Int.reduceSub, Int.reduceMul, Nat.reduceLT, Int.reduceToNat]⟩ ?_
    rintro j s ⟨k, hk, rfl, g1, g5, g6, g0⟩
    by_cases hk8 : k < 8
    · have hk8' : (k : Int) < 8 := by omega
      obtain ⟨d, hd⟩ : ∃ d, d = cbits k (cmore c (b.take i) ^^^ b[i].toNat) := ⟨_, rfl⟩
      rw [← hd] at g0
      have hdl : d < 65536 := by rw [hd]; exact cbits_lt hx2 k
      have ha : bitsI .and .u16 (d : Int) 1 = some ((d &&& 1 : Nat) : Int) := bitsI_and .u16 (x := d) (y := 1) hdl (by decide)
      have hs : shI .shr .u16 (d : Int) 1 = some (.int .u16 ((d >>> 1 : Nat) : Int)) := shI_shr .u16 (x := d) (y := 1) (by decide)
      have hcb : cbit d = cbits (k + 1) (cmore c (b.take i) ^^^ b[i].toNat) := by rw [hd]; rfl
      rcases low_cases d with e | e
      · have hz : ((d &&& 1 : Nat) : Int) = 0 := by rw [e]; rfl
        have hres : d >>> 1 = cbit d := by unfold cbit; rw [e]; simp
        simp -implicitDefEqProofs (maxSteps := 2000000) only [g1, g5, g6, g0, hk8', ha, hs, hz, wrap_nat (show k < 2 ^ 63 - 1 by omega), wk, act, asV, ↓reduceIte, Nat.reduceEqDiff, reduceCtorEq, Nat.reduceAdd, Nat.reduceLeDiff, Nat.reduceSub, Nat.reduceMul, List.reduceReplicate, Int.reduceEq, Int.reduceLT, Int.reduceLE, Int.reduceAdd, Int.reduceSub, Int.reduceMul, Nat.reduceLT, Int.reduceToNat]
        rw [hres, hcb]
        exact ⟨8 - (k + 1), by omega, k + 1, by omega, rfl, by and_intros <;> rfl⟩
      · have hz : ((d &&& 1 : Nat) : Int) = 1 := by rw [e]; rfl
        have hxo : bitsI .xor .u16 ((d >>> 1 : Nat) : Int) 33800 = some ((cbit d : Nat) : Int) := by
          have := bitsI_xor .u16 (x := d >>> 1) (y := 33800) (show _ < 2 ^ vbits .u16 from by rw [Nat.shiftRight_eq_div_pow]; simp [vbits, IntKind.signed, IntKind.bits]; omega) (by decide)
          unfold cbit; rw [e]; exact this
        simp -implicitDefEqProofs (maxSteps := 2000000) only [g1, g5, g6, g0, hk8', ha, hs, hz, hxo, wrap_nat (show k < 2 ^ 63 - 1 by omega), wk, act, asV, ↓reduceIte, Nat.reduceEqDiff, reduceCtorEq, Nat.reduceAdd, Nat.reduceLeDiff, Nat.reduceSub, Nat.reduceMul, List.reduceReplicate, Int.reduceEq, Int.reduceLT, Int.reduceLE, Int.reduceAdd, Int.reduceSub, Int.reduceMul, Nat.reduceLT, Int.reduceToNat]
        rw [hcb]
        exact ⟨8 - (k + 1), by omega, k + 1, by omega, rfl, by and_intros <;> rfl⟩
    · have hke : k = 8 := by omega
      subst hke
      have hby : cbits 8 (cmore c (b.take i) ^^^ b[i].toNat) = cmore c (b.take (i + 1)) := by
        rw [List.take_succ_eq_append_getElem hil, cmore_snoc]; rfl
      rw [hby] at g0
      simp -implicitDefEqProofs (maxSteps := 2000000) only [g1, g5, g6, g0, Int.lt_irrefl, wrap_nat (show i < 2 ^ 63 - 1 by omega), wk, act, asV, ↓reduceIte, Nat.reduceEqDiff, reduceCtorEq, Nat.reduceAdd, Nat.reduceLeDiff, Nat.reduceSub, Nat.reduceMul, List.reduceReplicate, Int.reduceEq, Int.reduceLT, Int.reduceLE, Int.reduceAdd, Int.reduceSub, Int.reduceMul, Nat.reduceLT, Int.reduceToNat]
      exact ⟨b.length - (i + 1), by omega, i + 1, by omega, rfl, by and_intros <;> rfl⟩
  · have hie : i = b.length := by omega
    subst hie
    rw [List.take_length] at g0
    simp -implicitDefEqProofs (maxSteps := 2000000) only [g1, g5, g0, Int.lt_irrefl, wk, act, asV, ↓reduceIte, Nat.reduceEqDiff, reduceCtorEq, Nat.reduceAdd, Nat.reduceLeDiff, Nat.reduceSub, Nat.reduceMul, List.reduceReplicate, Int.reduceEq, Int.reduceLT, Int.reduceLE, Int.reduceAdd, Int.reduceSub, Int.reduceMul, Nat.reduceLT, Int.reduceToNat]

theorem rcheck_ok (f : Fl) (ps : List (Fl × List UInt8)) (hl : ∀ p ∈ ps, ¬ p.1 = .lit ∧ p.2.length < 2 ^ 63) (hn : ps.length < 2 ^ 63) : RC Tryd.prog 33 [.sl f ps.length (pl ps)] [.int .u16 (crc (joined ps))] := by
  refine RC.of_wp c33 rfl ?_
  simp -implicitDefEqProofs (maxSteps := 2000000) only [m33_1, m33_2, m33_3, m33_4, m33_5, m33_6, m33_r, m33_b, m33, wk, act, asV, ↓reduceIte, Nat.reduceEqDiff, reduceCtorEq, Nat.reduceAdd, Nat.reduceLeDiff, Nat.reduceSub, Nat.reduceMul, List.reduceReplicate, Int.reduceEq, Int.reduceLT, Int.reduceLE, Int.reduceAdd, Int.reduceSub, Int.reduceMul, Nat.reduceLT, Int.reduceToNat]
  refine Wp_loop (fun j s => ∃ i, i ≤ ps.length ∧ j = ps.length - i ∧ s.t 0 = .sl f ps.length (pl ps) ∧ s.t 4 = .int .i64 (i : Nat) ∧ s.t 3 = .int .u16 (cmore 65535 (joined (ps.take i)))) ps.length ⟨0, by omega, rfl, rfl, rfl, rfl⟩ ?_
  rintro j s ⟨i, hi, rfl, g0, g4, g3⟩
  by_cases hil : i < ps.length
  · have hil' : (i : Int) < ps.length := by omega
    have hm := cmore_lt (joined (ps.take i)) (c := 65535) (by omega)
    have hmo := rmore_ok ps[i].1 hm ps[i].2 (hl _ (List.getElem_mem hil)).2
    have hfl := (hl _ (List.getElem_mem hil)).1
    rw [← cmore_append, ← joined_snoc, ← List.take_succ_eq_append_getElem hil] at hmo
    repeat' (first | simp -implicitDefEqProofs (maxSteps := 2000000) only [hfl, g0, g4, g3, hil', hil, drop_pl hil, pl_length, wrap_nat (show i < 2 ^ 63 - 1 by omega), wk, act, asV, ↓reduceIte, Nat.reduceEqDiff, reduceCtorEq, Nat.reduceAdd, Nat.reduceLeDiff, Nat.reduceSub, Nat.reduceMul, List.reduceReplicate, Int.reduceEq, Int.reduceLT, Int.reduceLE, Int.reduceAdd, Int.reduceSub, Int.reduceMul, Nat.reduceLT, Int.reduceToNat] | ((with_reducible refine CallL.gate ?_); refine CallL.of (by simp -implicitDefEqProofs (maxSteps := 2000000) only [hfl, g0, g4, g3, hil', hil, drop_pl hil, pl_length, wrap_nat (show i < 2 ^ 63 - 1 by omega), wk, act, asV, ↓reduceIte, Nat.reduceEqDiff, reduceCtorEq, Nat.reduceAdd, Nat.reduceLeDiff, Nat.reduceSub, Nat.reduceMul, List.reduceReplicate, Int.reduceEq, Int.reduceLT, Int.reduceLE, Int.reduceAdd, Int.reduceSub, Int.reduceMul, Nat.reduceLT, Int.reduceToNat]; first | done | (with_reducible rfl)) (by first | exact hmo) (by simp -implicitDefEqProofs (maxSteps := 2000000) only [hfl, g0, g4, g3, hil', hil, drop_pl hil, pl_length, wrap_nat (show i < 2 ^ 63 - 1 by omega), wk, act, asV, ↓reduceIte, Nat.reduceEqDiff, reduceCtorEq, Nat.reduceAdd, Nat.reduceLeDiff, Nat.reduceSub, Nat.reduceMul, List.reduceReplicate, Int.reduceEq, Int.reduceLT, Int.reduceLE, Int.reduceAdd, Int.reduceSub, Int.reduceMul, Nat.reduceLT, Int.reduceToNat]) ?_) | ((with_reducible refine CallP.gate ?_); refine CallP.of (by simp -implicitDefEqProofs (maxSteps := 2000000) only [hfl, g0, g4, g3, hil', hil, drop_pl hil, pl_length, wrap_nat (show i < 2 ^ 63 - 1 by omega), wk, act, asV, ↓reduceIte, Nat.reduceEqDiff, reduceCtorEq, Nat.reduceAdd, Nat.reduceLeDiff, Nat.reduceSub, Nat.reduceMul, List.reduceReplicate, Int.reduceEq, Int.reduceLT, Int.reduceLE, Int.reduceAdd, Int.reduceSub, Int.reduceMul, Nat.reduceLT, Int.reduceToNat]; first | done | (with_reducible rfl)) (by first | exact hmo) (by simp -implicitDefEqProofs (maxSteps := 2000000) only [hfl, g0, g4, g3, hil', hil, drop_pl hil, pl_length, wrap_nat (show i < 2 ^ 63 - 1 by omega), wk, act, asV, ↓reduceIte, Nat.reduceEqDiff, reduceCtorEq, Nat.reduceAdd, Nat.reduceLeDiff, Nat.reduceSub, Nat.reduceMul, List.reduceReplicate, Int.reduceEq, Int.reduceLT, Int.reduceLE, Int.reduceAdd, Int.reduceSub, Int.reduceMul, Nat.reduceLT, Int.reduceToNat]) ?_))
    exact ⟨ps.length - (i + 1), by omega, i + 1, by omega, rfl, by and_intros <;> rfl⟩
  · have hie : i = ps.length := by omega
    subst hie
    rw [List.take_length] at g3
    have hnt := not16 (cmore_lt (joined ps) (c := 65535) (by omega))
    have hmax : IntKind.u16.max = 65535 := rfl
    have hsg : IntKind.u16.signed = false := rfl
    simp -implicitDefEqProofs (maxSteps := 2000000) only [g0, g4, g3, Int.lt_irrefl, hnt, hmax, hsg, wk, act, asV, ↓reduceIte, Nat.reduceEqDiff, reduceCtorEq, Nat.reduceAdd, Nat.reduceLeDiff, Nat.reduceSub, Nat.reduceMul, List.reduceReplicate, Int.reduceEq, Int.reduceLT, Int.reduceLE, Int.reduceAdd, Int.reduceSub, Int.reduceMul, Nat.reduceLT, Int.reduceToNat]
    rfl

theorem sealed_ok (f : Fl) (hf : ¬ f = .lit) (b : List UInt8) (hl : b.length ≤ 2 ^ 40) : RC Tryd.prog 22 [.sl f b.length (bl b)] [.own (b.length + 2) 1 (bl (sealed b))] := by
  refine RC.of_wp c22 rfl ?_
  have hck := rcheck_ok .full [(.plain, b)] (by intro p hp; simp only [List.mem_singleton] at hp; subst hp; exact ⟨by simp, by simp only; omega⟩) (by simp)
  have e1 : joined [(Fl.plain, b)] = b := by simp [joined]
  rw [e1] at hck
  have hc := crc_lt b
  have w0 : IntKind.u8.wrap ((crc b : Nat) : Int) = ((u8 (crc b)).toNat : Int) := wrap_u8 _
  have w1 : IntKind.u8.wrap ((crc b >>> 8 : Nat) : Int) = ((u8 (crc b >>> 8)).toNat : Int) := wrap_u8 _
  have hs : shI .shr .u16 ((crc b : Nat) : Int) 8 = some (.int .u16 ((crc b >>> 8 : Nat) : Int)) := shI_shr .u16 (x := crc b) (y := 8) (by decide)
  have r1 : roomy b.length 1 = true := roomyB (by omega)
  have r2 : roomy (b.length + 2) 1 = true := roomyB (by omega)
  have e2 : bl (sealed b) = bl b ++ [.int .u8 ((u8 (crc b)).toNat : Int), .int .u8 ((u8 (crc b >>> 8)).toNat : Int)] := by simp [sealed, bl]
  have htk : List.take (b.length + 2) (bl b ++ [.int .u8 ((u8 (crc b)).toNat : Int), .int .u8 ((u8 (crc b >>> 8)).toNat : Int)]) = bl b ++ [.int .u8 ((u8 (crc b)).toNat : Int), .int .u8 ((u8 (crc b >>> 8)).toNat : Int)] := List.take_of_length_le (by simp [bl])
  rw [e2]
  cases f with
  | lit => exact absurd rfl hf
  | _ => repeat' (first | simp -implicitDefEqProofs (maxSteps := 2000000) only [htk, List.length_singleton, m22_1, m22_2, m22_r, m22_b, m22, pl, w0, w1, hs, r1, r2, bl_length, wk, act, asV, ↓reduceIte, Nat.reduceEqDiff, reduceCtorEq, Nat.reduceAdd, Nat.reduceLeDiff, Nat.reduceSub, Nat.reduceMul, List.reduceReplicate, Int.reduceEq, Int.reduceLT, Int.reduceLE, Int.reduceAdd, Int.reduceSub, Int.reduceMul, Nat.reduceLT, Int.reduceToNat] | ((with_reducible refine CallL.gate ?_); refine CallL.of (by simp -implicitDefEqProofs (maxSteps := 2000000) only [htk, List.length_singleton, m22_1, m22_2, m22_r, m22_b, m22, pl, w0, w1, hs, r1, r2, bl_length, wk, act, asV, ↓reduceIte, Nat.reduceEqDiff, reduceCtorEq, Nat.reduceAdd, Nat.reduceLeDiff, Nat.reduceSub, Nat.reduceMul, List.reduceReplicate, Int.reduceEq, Int.reduceLT, Int.reduceLE, Int.reduceAdd, Int.reduceSub, Int.reduceMul, Nat.reduceLT, Int.reduceToNat]; first | done | (with_reducible rfl)) (by first | exact hck) (by simp -implicitDefEqProofs (maxSteps := 2000000) only [htk, List.length_singleton, m22_1, m22_2, m22_r, m22_b, m22, pl, w0, w1, hs, r1, r2, bl_length, wk, act, asV, ↓reduceIte, Nat.reduceEqDiff, reduceCtorEq, Nat.reduceAdd, Nat.reduceLeDiff, Nat.reduceSub, Nat.reduceMul, List.reduceReplicate, Int.reduceEq, Int.reduceLT, Int.reduceLE, Int.reduceAdd, Int.reduceSub, Int.reduceMul, Nat.reduceLT, Int.reduceToNat]) ?_) | ((with_reducible refine CallP.gate ?_); refine CallP.of (by simp -implicitDefEqProofs (maxSteps := 2000000) only [htk, List.length_singleton, m22_1, m22_2, m22_r, m22_b, m22, pl, w0, w1, hs, r1, r2, bl_length, wk, act, asV, ↓reduceIte, Nat.reduceEqDiff, reduceCtorEq, Nat.reduceAdd, Nat.reduceLeDiff, Nat.reduceSub, Nat.reduceMul, List.reduceReplicate, Int.reduceEq, Int.reduceLT, Int.reduceLE, Int.reduceAdd, Int.reduceSub, Int.reduceMul, Nat.reduceLT, Int.reduceToNat]; first | done | (with_reducible rfl)) (by first | exact hck) (by simp -implicitDefEqProofs (maxSteps := 2000000) only [htk, List.length_singleton, m22_1, m22_2, m22_r, m22_b, m22, pl, w0, w1, hs, r1, r2, bl_length, wk, act, asV, ↓reduceIte, Nat.reduceEqDiff, reduceCtorEq, Nat.reduceAdd, Nat.reduceLeDiff, Nat.reduceSub, Nat.reduceMul, List.reduceReplicate, Int.reduceEq, Int.reduceLT, Int.reduceLE, Int.reduceAdd, Int.reduceSub, Int.reduceMul, Nat.reduceLT, Int.reduceToNat]) ?_))
end Go.Proofs.YtfllhbjblkfdfaaDoor
