/- A key's block, and its pads. -/
import Derived.Test.YtlbilkldjhhopaaZ10
import Derived.Test.YtlbilkldjhhopaaU6
import Derived.Test.YtlbilkldjhhopaaE31
import Derived.Test.YtlbilkldjhhopaaM10
set_option linter.unusedVariables false
set_option linter.unusedSimpArgs false
set_option linter.unusedSectionVars false
set_option maxRecDepth 100000
set_option maxHeartbeats 4000000
namespace Go.Proofs.Ytlbilkldjhhopaa
open Go.RowKit

theorem bl_allp {p : IV → Bool} (h : ∀ n, p (.int .u8 n) = true) (xs : List UInt8) : (bl xs).all p = true := by simp [bl, h]
theorem zb_len (n : Nat) : (zb n).length = n := by simp [zb]
theorem z64_cells : List.replicate 64 (IV.int .u8 0) = bl (zb 64) := rfl
theorem zb_drop (n k : Nat) : (zb n).drop k = zb (n - k) := by simp [zb]
def keyB (k : List UInt8) : List UInt8 := if 64 < k.length then shaB k else k
theorem keyB_le (k : List UInt8) : (keyB k).length ≤ 64 := by
  unfold keyB; split
  · rw [show (shaB k).length = 32 from digest_length _]; omega
  · omega
def blockB (k : List UInt8) : List UInt8 := keyB k ++ zb (64 - (keyB k).length)
theorem blockB_length (k : List UInt8) : (blockB k).length = 64 := by
  have := keyB_le k
  rw [blockB, List.length_append, zb_len]; omega
def padX (b : List UInt8) (y : UInt8) : List UInt8 := b.map (· ^^^ y)
theorem padX_length (b : List UInt8) (y : UInt8) : (padX b y).length = b.length := by simp [padX]
theorem padX_step (b : List UInt8) (y : UInt8) {i : Nat} (h : i < b.length) :
    List.take i ((padX b y).take i ++ b.drop i) ++ ((b.getD i 0 ^^^ y) :: List.drop (i + 1) ((padX b y).take i ++ b.drop i)) = (padX b y).take (i + 1) ++ b.drop (i + 1) := by
  have l1 : ((padX b y).take i).length = i := by rw [List.length_take, padX_length]; omega
  have hp : i < (padX b y).length := by rw [padX_length]; exact h
  rw [List.take_left' l1, List.drop_append, l1, List.drop_of_length_le (by omega), List.nil_append, List.drop_drop, show i + (i + 1 - i) = i + 1 by omega, List.take_succ_eq_append_getElem hp, List.append_assoc]
  congr 2
  simp [padX, List.getD, h]
theorem padX_at (b : List UInt8) (y : UInt8) {i : Nat} (h : i < b.length) : ((padX b y).take i ++ b.drop i).getD i 0 = b.getD i 0 := by
  have l1 : ((padX b y).take i).length = i := by rw [List.length_take, padX_length]; omega
  rw [List.getD_eq_getElem?_getD, List.getD_eq_getElem?_getD, List.getElem?_append_right (by omega), l1, Nat.sub_self, List.getElem?_drop, Nat.add_zero]

theorem kblock_ok (f : Fl) (hf : ¬ f = .lit) (k : List UInt8) (hk : k.length ≤ 2 ^ 39) : RC Try.prog 30 [.sl f k.length (bl k)] [.agg (bl (blockB k))] := by
  have hff : f = .plain ∨ f = .full := by cases f <;> simp_all
  clear hf
  rcases hff with rfl | rfl
  all_goals
    refine RC.of_wp c30 rfl ?_
    have zl : (bl (zb 64)).length = 64 := by rw [bl_length, zb_len]
    obtain ⟨Z, hZ⟩ : ∃ Z, Z = zb 64 := ⟨_, rfl⟩
    have z6 := z64_cells
    rw [← hZ] at z6 zl
    have dB := blockB_length k
    have hx := bl_scal (blockB k)
    have tB : List.take 64 (bl (blockB k)) = bl (blockB k) := List.take_of_length_le (by rw [bl_length]; omega)
    have xB : List.drop 64 (bl Z) = [] := List.drop_of_length_le (by omega)
    by_cases h : 64 < k.length
    · have h' : (64 : Int) < ((k.length : Nat) : Int) := by omega
      have cs := sum_ok .full (by decide) [(.plain, k)] (by simp) (by rw [one_part]; omega)
      rw [one_part] at cs
      have ep : pl [(Fl.plain, k)] = [.sl .plain k.length (bl k)] := rfl
      rw [ep, List.length_cons, List.length_nil] at cs
      have eB : bl (shaB k) ++ List.drop 32 (bl Z) = bl (blockB k) := by
        rw [hZ, bl_drop, ← bl_append, zb_drop]
        have : keyB k = shaB k := if_pos h
        rw [blockB, this, show (shaB k).length = 32 from digest_length _]
      have dl : (shaB k).length = 32 := digest_length _
      obtain ⟨G, hG⟩ : ∃ G, G = shaB k := ⟨_, rfl⟩
      rw [← hG] at cs dl eB
      have x1 : List.take 32 (bl G) = bl G := List.take_of_length_le (by rw [bl_length, dl]; exact Nat.le_refl _)
      have x2 : List.drop 32 (bl G) = [] := List.drop_of_length_le (by rw [bl_length, dl]; exact Nat.le_refl _)
      have x3 : (bl G).length = 32 := by rw [bl_length, dl]
      obtain ⟨B, hB⟩ : ∃ B, B = blockB k := ⟨_, rfl⟩
      rw [← hB] at eB dB hx tB ⊢
      repeat' (first | simp -implicitDefEqProofs (maxSteps := 2000000) only [m30_1, m30_2, m30_3, m30_4, m30_5, m30_6, m30_7, m30_r, m30_b, m30, h', (show min 32 64 = 32 from rfl), z6, zl, x1, x2, x3, eB, dB, hx, tB, xB, bl_length, bl_scal, bl_pur, wk, act, asV, ↓reduceIte, Nat.reduceEqDiff, reduceCtorEq, Nat.reduceAdd, Nat.reduceLeDiff, Nat.reduceSub, Nat.reduceMul, List.reduceReplicate, Int.reduceEq, Int.reduceLT, Int.reduceLE, Int.reduceAdd, Int.reduceSub, Int.reduceMul, Nat.reduceLT, Int.reduceToNat] | ((with_reducible refine CallL.gate ?_); refine CallL.of (by simp -implicitDefEqProofs (maxSteps := 2000000) only [m30_1, m30_2, m30_3, m30_4, m30_5, m30_6, m30_7, m30_r, m30_b, m30, h', (show min 32 64 = 32 from rfl), z6, zl, x1, x2, x3, eB, dB, hx, tB, xB, bl_length, bl_scal, bl_pur, wk, act, asV, ↓reduceIte, Nat.reduceEqDiff, reduceCtorEq, Nat.reduceAdd, Nat.reduceLeDiff, Nat.reduceSub, Nat.reduceMul, List.reduceReplicate, Int.reduceEq, Int.reduceLT, Int.reduceLE, Int.reduceAdd, Int.reduceSub, Int.reduceMul, Nat.reduceLT, Int.reduceToNat]; first | done | (with_reducible rfl)) (by first | exact cs) (by simp -implicitDefEqProofs (maxSteps := 2000000) only [m30_1, m30_2, m30_3, m30_4, m30_5, m30_6, m30_7, m30_r, m30_b, m30, h', (show min 32 64 = 32 from rfl), z6, zl, x1, x2, x3, eB, dB, hx, tB, xB, bl_length, bl_scal, bl_pur, wk, act, asV, ↓reduceIte, Nat.reduceEqDiff, reduceCtorEq, Nat.reduceAdd, Nat.reduceLeDiff, Nat.reduceSub, Nat.reduceMul, List.reduceReplicate, Int.reduceEq, Int.reduceLT, Int.reduceLE, Int.reduceAdd, Int.reduceSub, Int.reduceMul, Nat.reduceLT, Int.reduceToNat]) ?_) | ((with_reducible refine CallP.gate ?_); refine CallP.of (by simp -implicitDefEqProofs (maxSteps := 2000000) only [m30_1, m30_2, m30_3, m30_4, m30_5, m30_6, m30_7, m30_r, m30_b, m30, h', (show min 32 64 = 32 from rfl), z6, zl, x1, x2, x3, eB, dB, hx, tB, xB, bl_length, bl_scal, bl_pur, wk, act, asV, ↓reduceIte, Nat.reduceEqDiff, reduceCtorEq, Nat.reduceAdd, Nat.reduceLeDiff, Nat.reduceSub, Nat.reduceMul, List.reduceReplicate, Int.reduceEq, Int.reduceLT, Int.reduceLE, Int.reduceAdd, Int.reduceSub, Int.reduceMul, Nat.reduceLT, Int.reduceToNat]; first | done | (with_reducible rfl)) (by first | exact cs) (by simp -implicitDefEqProofs (maxSteps := 2000000) only [m30_1, m30_2, m30_3, m30_4, m30_5, m30_6, m30_7, m30_r, m30_b, m30, h', (show min 32 64 = 32 from rfl), z6, zl, x1, x2, x3, eB, dB, hx, tB, xB, bl_length, bl_scal, bl_pur, wk, act, asV, ↓reduceIte, Nat.reduceEqDiff, reduceCtorEq, Nat.reduceAdd, Nat.reduceLeDiff, Nat.reduceSub, Nat.reduceMul, List.reduceReplicate, Int.reduceEq, Int.reduceLT, Int.reduceLE, Int.reduceAdd, Int.reduceSub, Int.reduceMul, Nat.reduceLT, Int.reduceToNat]) ?_))
    · have h' : ¬ (64 : Int) < ((k.length : Nat) : Int) := by omega
      have eB : bl k ++ List.drop k.length (bl Z) = bl (blockB k) := by
        rw [hZ, bl_drop, ← bl_append, zb_drop]
        have : keyB k = k := if_neg h
        rw [blockB, this]
      have mn : min k.length 64 = k.length := by omega
      have tk := take_bl k
      have hl : (bl k).length = k.length := bl_length k
      obtain ⟨B, hB⟩ : ∃ B, B = blockB k := ⟨_, rfl⟩
      rw [← hB] at eB dB hx tB ⊢
      simp -implicitDefEqProofs (maxSteps := 2000000) only [m30_1, m30_2, m30_3, m30_4, m30_5, m30_6, m30_7, m30_r, m30_b, m30, h', z6, zl, tk, hl, mn, eB, dB, hx, tB, xB, bl_length, bl_scal, bl_pur, wk, act, asV, ↓reduceIte, Nat.reduceEqDiff, reduceCtorEq, Nat.reduceAdd, Nat.reduceLeDiff, Nat.reduceSub, Nat.reduceMul, List.reduceReplicate, Int.reduceEq, Int.reduceLT, Int.reduceLE, Int.reduceAdd, Int.reduceSub, Int.reduceMul, Nat.reduceLT, Int.reduceToNat]

theorem kpad_ok (b : List UInt8) (hb : b.length = 64) (y : UInt8) : RC Try.prog 47 [.agg (bl b), .int .u8 (y.toNat : Int)] [.sl .plain 64 (bl (padX b y))] := by
  refine RC.of_wp c47 rfl ?_
  have hlb : (bl b).length = 64 := by rw [bl_length, hb]
  have hx := bl_scal b
  simp -implicitDefEqProofs (maxSteps := 2000000) only [m47_1, m47_2, m47_3, m47_4, m47_5, m47_6, m47_7, m47_r, m47_b, m47, hlb, hx, wk, act, asV, ↓reduceIte, Nat.reduceEqDiff, reduceCtorEq, Nat.reduceAdd, Nat.reduceLeDiff, Nat.reduceSub, Nat.reduceMul, List.reduceReplicate, Int.reduceEq, Int.reduceLT, Int.reduceLE, Int.reduceAdd, Int.reduceSub, Int.reduceMul, Nat.reduceLT, Int.reduceToNat]
  refine Wp_loop (fun m s => ∃ i, i ≤ 64 ∧ m = 64 - i ∧ s.t 6 = .int .i64 (i : Nat) ∧ s.t 1 = .int .u8 (y.toNat : Int) ∧ (∃ v2, s.t 2 = .ptr 2 0 v2 ∧ s.h 2 = ⟨v2, true, true, false, bl ((padX b y).take i ++ b.drop i)⟩)) 64 ⟨0, by omega, rfl, by simp -implicitDefEqProofs (maxSteps := 2000000) only [wk, act, asV, ↓reduceIte, Nat.reduceEqDiff, reduceCtorEq, Nat.reduceAdd, Nat.reduceLeDiff, Nat.reduceSub, Nat.reduceMul, List.reduceReplicate, Int.reduceEq, Int.reduceLT, Int.reduceLE, Int.reduceAdd, Int.reduceSub, Int.reduceMul, Nat.reduceLT, Int.reduceToNat], by simp -implicitDefEqProofs (maxSteps := 2000000) only [wk, act, asV, ↓reduceIte, Nat.reduceEqDiff, reduceCtorEq, Nat.reduceAdd, Nat.reduceLeDiff, Nat.reduceSub, Nat.reduceMul, List.reduceReplicate, Int.reduceEq, Int.reduceLT, Int.reduceLE, Int.reduceAdd, Int.reduceSub, Int.reduceMul, Nat.reduceLT, Int.reduceToNat], ⟨_, by simp -implicitDefEqProofs (maxSteps := 2000000) only [wk, act, asV, ↓reduceIte, Nat.reduceEqDiff, reduceCtorEq, Nat.reduceAdd, Nat.reduceLeDiff, Nat.reduceSub, Nat.reduceMul, List.reduceReplicate, Int.reduceEq, Int.reduceLT, Int.reduceLE, Int.reduceAdd, Int.reduceSub, Int.reduceMul, Nat.reduceLT, Int.reduceToNat]; first | done | rfl, by simp -implicitDefEqProofs (maxSteps := 2000000) only [wk, act, asV, ↓reduceIte, Nat.reduceEqDiff, reduceCtorEq, Nat.reduceAdd, Nat.reduceLeDiff, Nat.reduceSub, Nat.reduceMul, List.reduceReplicate, Int.reduceEq, Int.reduceLT, Int.reduceLE, Int.reduceAdd, Int.reduceSub, Int.reduceMul, Nat.reduceLT, Int.reduceToNat]; first | done | rfl⟩⟩ ?_
  rintro m s ⟨i, hi, rfl, k6, k1, ⟨v2, k2, kh2⟩⟩
  have hil0 : (padX b y).length = 64 := by rw [padX_length, hb]
  have hX : (bl ((padX b y).take i ++ b.drop i)).length = 64 := by rw [bl_length, List.length_append, List.length_take, List.length_drop, hil0, hb]; omega
  by_cases hil : i < 64
  · have hil' : (i : Int) < 64 := by omega
    have hib : i < b.length := by omega
    have h63 : i ≤ 63 := by omega
    have b3 := at_b (b := (padX b y).take i ++ b.drop i) (k := i) (by rw [bl_length] at hX; omega)
    rw [padX_at b y hib] at b3
    have x1 := b_xor (b.getD i 0) y
    have wi : IntKind.i64.wrap (((i : Nat) : Int) + 1) = ((i + 1 : Nat) : Int) := by rw [IntKind.wrap_i64]; omega
    have eS : List.take i (bl ((padX b y).take i ++ b.drop i)) ++ [IV.int .u8 ((b.getD i 0 ^^^ y).toNat : Int)] ++ List.drop (i + 1) (bl ((padX b y).take i ++ b.drop i)) = bl ((padX b y).take (i + 1) ++ b.drop (i + 1)) := by
      rw [← padX_step b y hib, bl_take, bl_drop, bl_append (List.take i (List.take i (padX b y) ++ List.drop i b)), List.append_assoc]; rfl
    simp -implicitDefEqProofs (maxSteps := 2000000) only [k6, k1, k2, kh2, hil', hil, h63, b3, x1, wi, hX, eS, wk, act, asV, ↓reduceIte, Nat.reduceEqDiff, reduceCtorEq, Nat.reduceAdd, Nat.reduceLeDiff, Nat.reduceSub, Nat.reduceMul, List.reduceReplicate, Int.reduceEq, Int.reduceLT, Int.reduceLE, Int.reduceAdd, Int.reduceSub, Int.reduceMul, Nat.reduceLT, Int.reduceToNat]
    exact ⟨64 - (i + 1), by omega, i + 1, by omega, rfl, rfl, _, rfl, rfl⟩
  · obtain rfl : i = 64 := by omega
    have e6 : (padX b y).take 64 ++ b.drop 64 = padX b y := by
      rw [List.take_of_length_le (by omega), List.drop_of_length_le (by omega), List.append_nil]
    rw [e6] at kh2 hX
    have tX : List.take 64 (bl (padX b y)) = bl (padX b y) := List.take_of_length_le (by omega)
    simp -implicitDefEqProofs (maxSteps := 2000000) only [k6, k2, kh2, hX, tX, bl_pur, bl_scal, wk, act, asV, ↓reduceIte, Nat.reduceEqDiff, reduceCtorEq, Nat.reduceAdd, Nat.reduceLeDiff, Nat.reduceSub, Nat.reduceMul, List.reduceReplicate, Int.reduceEq, Int.reduceLT, Int.reduceLE, Int.reduceAdd, Int.reduceSub, Int.reduceMul, Nat.reduceLT, Int.reduceToNat]
end Go.Proofs.Ytlbilkldjhhopaa
