/- Numbers put into bytes, and read out of them. -/
import Derived.Test.YtfllhbjblkfdfaaDoorE31
import Derived.Test.YtfllhbjblkfdfaaDoorM5
import Derived.Test.YtfllhbjblkfdfaaDoorK0
set_option linter.unusedVariables false
set_option linter.unusedSimpArgs false
set_option maxRecDepth 100000
set_option maxHeartbeats 2000000
namespace Go.Proofs.YtfllhbjblkfdfaaDoor
open Go.RowKit

/-- the lower byte first -/
def putle (n k : Nat) : List UInt8 := (List.range k).map fun i => u8 (n >>> (8 * i))
def lenum : List UInt8 → Nat
  | [] => 0
  | b :: l => b.toNat + 256 * lenum l
theorem lenum_lt : ∀ l : List UInt8, lenum l < 256 ^ l.length
  | [] => by simp [lenum]
  | b :: l => by
    have := lenum_lt l
    have hb := b.toNat_lt
    simp only [lenum, List.length_cons, Nat.pow_succ]
    omega
theorem putle_snoc (n k : Nat) : putle n (k + 1) = putle n k ++ [u8 (n >>> (8 * k))] := by simp [putle, List.range_succ]
theorem putle_length (n k : Nat) : (putle n k).length = k := by simp [putle]

theorem put_ok {n k : Nat} (hn : n < 2 ^ 32) (hk : k ≤ 4) (hk0 : 0 < k) : RC Tryd.prog 45 [.int .u32 (n : Nat), .int .i64 (k : Nat)] [.own k 1 (bl (putle n k))] := by
  refine RC.of_wp c45 rfl ?_
  simp -implicitDefEqProofs (maxSteps := 2000000) only [m45_1, m45_2, m45_3, m45_4, m45_5, m45_6, m45_r, m45_b, m45, wk, act, asV, ↓reduceIte, Nat.reduceEqDiff, reduceCtorEq, Nat.reduceAdd, Nat.reduceLeDiff, Nat.reduceSub, Nat.reduceMul, List.reduceReplicate, Int.reduceEq, Int.reduceLT, Int.reduceLE, Int.reduceAdd, Int.reduceSub, Int.reduceMul, Nat.reduceLT, Int.reduceToNat]
  refine Wp_loop (fun j s => ∃ i, i ≤ k ∧ j = k - i ∧ s.t 0 = .int .u32 (n : Nat) ∧ s.t 1 = .int .i64 (k : Nat) ∧ s.t 6 = .int .i64 (i : Nat) ∧ ((i = 0 ∧ s.t 5 = .sl .full 0 []) ∨ (0 < i ∧ ∃ ver, s.t 5 = .row 20 0 i 1 ver ∧ s.h 20 = ⟨ver, true, true, true, bl (putle n i)⟩))) k ⟨0, by omega, rfl, by simp -implicitDefEqProofs (maxSteps := 2000000) only [wk, act, asV, ↓reduceIte, Nat.reduceEqDiff, reduceCtorEq, Nat.reduceAdd, Nat.reduceLeDiff, Nat.reduceSub, Nat.reduceMul, List.reduceReplicate, Int.reduceEq, Int.reduceLT, Int.reduceLE, Int.reduceAdd, Int.reduceSub, Int.reduceMul, Nat.reduceLT, Int.reduceToNat], by simp -implicitDefEqProofs (maxSteps := 2000000) only [wk, act, asV, ↓reduceIte, Nat.reduceEqDiff, reduceCtorEq, Nat.reduceAdd, Nat.reduceLeDiff, Nat.reduceSub, Nat.reduceMul, List.reduceReplicate, Int.reduceEq, Int.reduceLT, Int.reduceLE, Int.reduceAdd, Int.reduceSub, Int.reduceMul, Nat.reduceLT, Int.reduceToNat], by simp -implicitDefEqProofs (maxSteps := 2000000) only [wk, act, asV, ↓reduceIte, Nat.reduceEqDiff, reduceCtorEq, Nat.reduceAdd, Nat.reduceLeDiff, Nat.reduceSub, Nat.reduceMul, List.reduceReplicate, Int.reduceEq, Int.reduceLT, Int.reduceLE, Int.reduceAdd, Int.reduceSub, Int.reduceMul, Nat.reduceLT, Int.reduceToNat], .inl ⟨rfl, by simp -implicitDefEqProofs (maxSteps := 2000000) only [wk, act, asV, ↓reduceIte, Nat.reduceEqDiff, reduceCtorEq, Nat.reduceAdd, Nat.reduceLeDiff, Nat.reduceSub, Nat.reduceMul, List.reduceReplicate, Int.reduceEq, Int.reduceLT, Int.reduceLE, Int.reduceAdd, Int.reduceSub, Int.reduceMul, Nat.reduceLT, Int.reduceToNat]⟩⟩ ?_
  rintro j s ⟨i, hi, rfl, g0, g1, g6, g5⟩
  by_cases hil : i < k
  · have hil' : (i : Int) < k := by omega
    have hm : IntKind.i64.wrap (8 * (i : Int)) = ((8 * i : Nat) : Int) := by rw [IntKind.wrap_i64]; omega
    have hu : IntKind.u64.wrap ((8 * i : Nat) : Int) = ((8 * i : Nat) : Int) := wrapN .u64 (by simp [vbits, IntKind.signed, IntKind.bits]; omega)
    have hs : shI .shr .u32 (n : Int) ((8 * i : Nat) : Int) = some (.int .u32 ((n >>> (8 * i) : Nat) : Int)) := shI_shr .u32 (by simp [IntKind.bits]; omega)
    have w : IntKind.u8.wrap ((n >>> (8 * i) : Nat) : Int) = ((u8 (n >>> (8 * i))).toNat : Int) := wrap_u8 _
    have hr : roomy (i + 1) 1 = true := roomyB (by omega)
    have e : bl (putle n (i + 1)) = bl (putle n i) ++ [.int .u8 ((u8 (n >>> (8 * i))).toNat : Int)] := by rw [putle_snoc]; simp [bl]
    have hpl : (bl (putle n i)).length = i := by rw [bl_length, putle_length]
    rcases g5 with ⟨hi0, g5⟩ | ⟨hpos, ver, g5, gh⟩
    · have hr1 : roomy 1 1 = true := by decide
      simp -implicitDefEqProofs (maxSteps := 2000000) only [g0, g1, g5, g6, hil', hil, hm, hu, hs, w, hr1, wrap_nat (show i < 2 ^ 63 - 1 by omega), wk, act, asV, ↓reduceIte, Nat.reduceEqDiff, reduceCtorEq, Nat.reduceAdd, Nat.reduceLeDiff, Nat.reduceSub, Nat.reduceMul, List.reduceReplicate, Int.reduceEq, Int.reduceLT, Int.reduceLE, Int.reduceAdd, Int.reduceSub, Int.reduceMul, Nat.reduceLT, Int.reduceToNat]
      refine ⟨k - (i + 1), by omega, i + 1, by omega, rfl, rfl, by omega, ?_⟩
      rw [e]
      subst hi0
      exact ⟨_, rfl, rfl⟩
    · simp -implicitDefEqProofs (maxSteps := 2000000) only [g0, g1, g5, g6, gh, hil', hil, hm, hu, hs, w, hr, hpl, wrap_nat (show i < 2 ^ 63 - 1 by omega), wk, act, asV, ↓reduceIte, Nat.reduceEqDiff, reduceCtorEq, Nat.reduceAdd, Nat.reduceLeDiff, Nat.reduceSub, Nat.reduceMul, List.reduceReplicate, Int.reduceEq, Int.reduceLT, Int.reduceLE, Int.reduceAdd, Int.reduceSub, Int.reduceMul, Nat.reduceLT, Int.reduceToNat]
      refine ⟨k - (i + 1), by omega, i + 1, by omega, rfl, rfl, by omega, ?_⟩
      rw [e]
      exact ⟨_, rfl, rfl⟩
  · have hie : i = k := by omega
    subst hie
    rcases g5 with ⟨rfl, g5⟩ | ⟨hpos, ver, g5, gh⟩
    · omega
    · have htk : List.take i (bl (putle n i)) = bl (putle n i) := List.take_of_length_le (by rw [bl_length, putle_length]; exact Nat.le_refl _)
      simp -implicitDefEqProofs (maxSteps := 2000000) only [g0, g1, g5, g6, gh, Int.lt_irrefl, htk, wk, act, asV, ↓reduceIte, Nat.reduceEqDiff, reduceCtorEq, Nat.reduceAdd, Nat.reduceLeDiff, Nat.reduceSub, Nat.reduceMul, List.reduceReplicate, Int.reduceEq, Int.reduceLT, Int.reduceLE, Int.reduceAdd, Int.reduceSub, Int.reduceMul, Nat.reduceLT, Int.reduceToNat]

theorem num_ok (f : Fl) (b : List UInt8) (hl : b.length ≤ 4) : RC Tryd.prog 36 [.sl f b.length (bl b)] [.int .u32 (lenum b : Nat)] := by
  refine RC.of_wp c36 rfl ?_
  have hw0 : IntKind.i64.wrap ((b.length : Int) - 1) = (b.length : Int) - 1 := by rw [IntKind.wrap_i64]; omega
  simp -implicitDefEqProofs (maxSteps := 2000000) only [m36_1, m36_2, m36_3, m36_4, m36_5, m36_6, m36_r, m36_b, m36, hw0, wk, act, asV, ↓reduceIte, Nat.reduceEqDiff, reduceCtorEq, Nat.reduceAdd, Nat.reduceLeDiff, Nat.reduceSub, Nat.reduceMul, List.reduceReplicate, Int.reduceEq, Int.reduceLT, Int.reduceLE, Int.reduceAdd, Int.reduceSub, Int.reduceMul, Nat.reduceLT, Int.reduceToNat]
  refine Wp_loop (fun j s => j ≤ b.length ∧ s.t 0 = .sl f b.length (bl b) ∧ s.t 4 = .int .i64 ((j : Int) - 1) ∧ s.t 3 = .int .u32 (lenum (b.drop j) : Nat)) b.length ⟨Nat.le_refl _, by simp -implicitDefEqProofs (maxSteps := 2000000) only [wk, act, asV, ↓reduceIte, Nat.reduceEqDiff, reduceCtorEq, Nat.reduceAdd, Nat.reduceLeDiff, Nat.reduceSub, Nat.reduceMul, List.reduceReplicate, Int.reduceEq, Int.reduceLT, Int.reduceLE, Int.reduceAdd, Int.reduceSub, Int.reduceMul, Nat.reduceLT, Int.reduceToNat], by simp -implicitDefEqProofs (maxSteps := 2000000) only [wk, act, asV, ↓reduceIte, Nat.reduceEqDiff, reduceCtorEq, Nat.reduceAdd, Nat.reduceLeDiff, Nat.reduceSub, Nat.reduceMul, List.reduceReplicate, Int.reduceEq, Int.reduceLT, Int.reduceLE, Int.reduceAdd, Int.reduceSub, Int.reduceMul, Nat.reduceLT, Int.reduceToNat], by simp -implicitDefEqProofs (maxSteps := 2000000) only [List.drop_length, lenum, wk, act, asV, ↓reduceIte, Nat.reduceEqDiff, reduceCtorEq, Nat.reduceAdd, Nat.reduceLeDiff, Nat.reduceSub, Nat.reduceMul, List.reduceReplicate, Int.reduceEq, Int.reduceLT, Int.reduceLE, Int.reduceAdd, Int.reduceSub, Int.reduceMul, Nat.reduceLT, Int.reduceToNat]⟩ ?_
  rintro j s ⟨hj, g0, g4, g3⟩
  by_cases hj0 : 0 < j
  · obtain ⟨i, rfl⟩ : ∃ i, j = i + 1 := ⟨j - 1, by omega⟩
    have e1 : ((i + 1 : Nat) : Int) - 1 = (i : Int) := by omega
    rw [e1] at g4
    have hil : i < b.length := by omega
    have hil' : (i : Int) < b.length := by omega
    have hlt := lenum_lt (b.drop (i + 1))
    have hle : 256 ^ (b.drop (i + 1)).length ≤ 256 ^ 3 := Nat.pow_le_pow_right (by omega) (by rw [List.length_drop]; omega)
    have hb := b[i].toNat_lt
    have hs : shI .shl .u32 ((lenum (b.drop (i + 1)) : Nat) : Int) 8 = some (.int .u32 ((lenum (b.drop (i + 1)) * 2 ^ 8 : Nat) : Int)) := shI_shl .u32 (y := 8) (by decide) (by simp [vbits, IntKind.signed, IntKind.bits]; omega)
    have w : IntKind.u32.wrap ((b[i].toNat : Nat) : Int) = (b[i].toNat : Nat) := wrapN .u32 (by simp [vbits, IntKind.signed, IntKind.bits]; omega)
    have e2 : lenum (b.drop i) = lenum (b.drop (i + 1)) * 2 ^ 8 + b[i].toNat := by rw [List.drop_eq_getElem_cons hil, lenum]; omega
    have w2 : IntKind.u32.wrap (((lenum (b.drop (i + 1)) * 2 ^ 8 : Nat) : Int) + ((b[i].toNat : Nat) : Int)) = (lenum (b.drop i) : Nat) := by
      rw [e2, ← Int.natCast_add]
      exact wrapN .u32 (by simp [vbits, IntKind.signed, IntKind.bits]; omega)
    have w3 : IntKind.i64.wrap ((i : Int) - 1) = (i : Int) - 1 := by rw [IntKind.wrap_i64]; omega
    simp -implicitDefEqProofs (maxSteps := 2000000) only [g0, g4, g3, hil', hil, drop_bl hil, bl_length, hs, w, w2, w3, wk, act, asV, ↓reduceIte, Nat.reduceEqDiff, reduceCtorEq, Nat.reduceAdd, Nat.reduceLeDiff, Nat.reduceSub, Nat.reduceMul, List.reduceReplicate, Int.reduceEq, Int.reduceLT, Int.reduceLE, Int.reduceAdd, Int.reduceSub, Int.reduceMul, Nat.reduceLT, Int.reduceToNat]
    exact ⟨i, by omega, by omega, by and_intros <;> rfl⟩
  · have hj1 : j = 0 := by omega
    subst hj1
    simp -implicitDefEqProofs (maxSteps := 2000000) only [g0, g4, g3, wk, act, asV, ↓reduceIte, Nat.reduceEqDiff, reduceCtorEq, Nat.reduceAdd, Nat.reduceLeDiff, Nat.reduceSub, Nat.reduceMul, List.reduceReplicate, Int.reduceEq, Int.reduceLT, Int.reduceLE, Int.reduceAdd, Int.reduceSub, Int.reduceMul, Nat.reduceLT, Int.reduceToNat]
end Go.Proofs.YtfllhbjblkfdfaaDoor
