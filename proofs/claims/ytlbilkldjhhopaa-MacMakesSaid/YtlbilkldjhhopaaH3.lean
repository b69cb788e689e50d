/- The tag of parts by a key, by the reference. -/
import Derived.Test.YtlbilkldjhhopaaH2
import Derived.Test.YtlbilkldjhhopaaE31
import Derived.Test.YtlbilkldjhhopaaM10
set_option linter.unusedVariables false
set_option linter.unusedSimpArgs false
set_option linter.unusedSectionVars false
set_option maxRecDepth 100000
set_option maxHeartbeats 16000000
namespace Go.Proofs.Ytlbilkldjhhopaa
open Go.RowKit

theorem row_step (P Z : List UInt8) (hl : Z.length = P.length) {i : Nat} (h : i < P.length) :
    List.take i (bl (P.take i ++ Z.drop i)) ++ [IV.int .u8 ((P.getD i 0).toNat : Int)] ++ List.drop (i + 1) (bl (P.take i ++ Z.drop i)) = bl (P.take (i + 1) ++ Z.drop (i + 1)) := by
  have l1 : (P.take i).length = i := by rw [List.length_take]; omega
  have e : [IV.int .u8 ((P.getD i 0).toNat : Int)] = bl [P.getD i 0] := rfl
  rw [e, bl_take, bl_drop, ← bl_append, ← bl_append, List.take_left' l1, List.drop_append, l1, List.drop_of_length_le (by omega), List.nil_append, List.drop_drop, show i + (i + 1 - i) = i + 1 by omega, List.take_succ_eq_append_getElem h]
  congr 3
  simp [List.getD, h]
theorem padX_getD (b : List UInt8) (y : UInt8) {i : Nat} (h : i < b.length) : (padX b y).getD i 0 = b.getD i 0 ^^^ y := by
  simp [padX, List.getD, h]

theorem kblockR_ok (f : Fl) (hf : ¬ f = .lit) (k : List UInt8) (hk : k.length ≤ 2 ^ 39) : RC Try.prog 31 [.sl f k.length (bl k)] [.agg (bl (blockB k))] := by
  have hff : f = .plain ∨ f = .full := by cases f <;> simp_all
  clear hf
  rcases hff with rfl | rfl
  all_goals
    refine RC.of_wp c31 rfl ?_
    have zl : (bl (zb 64)).length = 64 := by rw [bl_length, zb_len]
    obtain ⟨Z, hZ⟩ : ∃ Z, Z = zb 64 := ⟨_, rfl⟩
    have z6 := z64_cells
    rw [← hZ] at z6 zl
    have dB := blockB_length k
    have hx := bl_scal (blockB k)
    have tB : List.take 64 (bl (blockB k)) = bl (blockB k) := List.take_of_length_le (by rw [bl_length]; omega)
    have xB : List.drop 64 (bl Z) = [] := List.drop_of_length_le (by omega)
    by_cases h : 64 < k.length
    · have h' : (64 : Int) < ((k.length : Nat) : Int) := by omega
      have cs := sumR_ok .full [(.plain, k)] (by simp) (by rw [one_part]; omega)
      rw [one_part] at cs
      have ep : pl [(Fl.plain, k)] = [.sl .plain k.length (bl k)] := rfl
      rw [ep, List.length_cons, List.length_nil] at cs
      have eB : bl (shaB k) ++ List.drop 32 (bl Z) = bl (blockB k) := by
        rw [hZ, bl_drop, ← bl_append, zb_drop]
        have : keyB k = shaB k := if_pos h
        rw [blockB, this, show (shaB k).length = 32 from digest_length _]
      have dl : (shaB k).length = 32 := digest_length _
      obtain ⟨G, hG⟩ : ∃ G, G = shaB k := ⟨_, rfl⟩
      rw [← hG] at cs dl eB
      have x1 : List.take 32 (bl G) = bl G := List.take_of_length_le (by rw [bl_length, dl]; exact Nat.le_refl _)
      have x2 : List.drop 32 (bl G) = [] := List.drop_of_length_le (by rw [bl_length, dl]; exact Nat.le_refl _)
      have x3 : (bl G).length = 32 := by rw [bl_length, dl]
      obtain ⟨B, hB⟩ : ∃ B, B = blockB k := ⟨_, rfl⟩
      rw [← hB] at eB dB hx tB ⊢
      repeat' (first | simp -implicitDefEqProofs (maxSteps := 2000000) only [m31_1, m31_2, m31_3, m31_4, m31_5, m31_6, m31_7, m31_8, m31_9, m31_r, m31_b, m31, h', (show min 32 64 = 32 from rfl), z6, zl, x1, x2, x3, eB, dB, hx, tB, xB, bl_length, bl_scal, bl_pur, wk, act, asV, ↓reduceIte, Nat.reduceEqDiff, reduceCtorEq, Nat.reduceAdd, Nat.reduceLeDiff, Nat.reduceSub, Nat.reduceMul, List.reduceReplicate, Int.reduceEq, Int.reduceLT, Int.reduceLE, Int.reduceAdd, Int.reduceSub, Int.reduceMul, Nat.reduceLT, Int.reduceToNat] | ((with_reducible refine CallL.gate ?_); refine CallL.of (by simp -implicitDefEqProofs (maxSteps := 2000000) only [m31_1, m31_2, m31_3, m31_4, m31_5, m31_6, m31_7, m31_8, m31_9, m31_r, m31_b, m31, h', (show min 32 64 = 32 from rfl), z6, zl, x1, x2, x3, eB, dB, hx, tB, xB, bl_length, bl_scal, bl_pur, wk, act, asV, ↓reduceIte, Nat.reduceEqDiff, reduceCtorEq, Nat.reduceAdd, Nat.reduceLeDiff, Nat.reduceSub, Nat.reduceMul, List.reduceReplicate, Int.reduceEq, Int.reduceLT, Int.reduceLE, Int.reduceAdd, Int.reduceSub, Int.reduceMul, Nat.reduceLT, Int.reduceToNat]; first | done | (with_reducible rfl)) (by first | exact cs) (by simp -implicitDefEqProofs (maxSteps := 2000000) only [m31_1, m31_2, m31_3, m31_4, m31_5, m31_6, m31_7, m31_8, m31_9, m31_r, m31_b, m31, h', (show min 32 64 = 32 from rfl), z6, zl, x1, x2, x3, eB, dB, hx, tB, xB, bl_length, bl_scal, bl_pur, wk, act, asV, ↓reduceIte, Nat.reduceEqDiff, reduceCtorEq, Nat.reduceAdd, Nat.reduceLeDiff, Nat.reduceSub, Nat.reduceMul, List.reduceReplicate, Int.reduceEq, Int.reduceLT, Int.reduceLE, Int.reduceAdd, Int.reduceSub, Int.reduceMul, Nat.reduceLT, Int.reduceToNat]) ?_) | ((with_reducible refine CallP.gate ?_); refine CallP.of (by simp -implicitDefEqProofs (maxSteps := 2000000) only [m31_1, m31_2, m31_3, m31_4, m31_5, m31_6, m31_7, m31_8, m31_9, m31_r, m31_b, m31, h', (show min 32 64 = 32 from rfl), z6, zl, x1, x2, x3, eB, dB, hx, tB, xB, bl_length, bl_scal, bl_pur, wk, act, asV, ↓reduceIte, Nat.reduceEqDiff, reduceCtorEq, Nat.reduceAdd, Nat.reduceLeDiff, Nat.reduceSub, Nat.reduceMul, List.reduceReplicate, Int.reduceEq, Int.reduceLT, Int.reduceLE, Int.reduceAdd, Int.reduceSub, Int.reduceMul, Nat.reduceLT, Int.reduceToNat]; first | done | (with_reducible rfl)) (by first | exact cs) (by simp -implicitDefEqProofs (maxSteps := 2000000) only [m31_1, m31_2, m31_3, m31_4, m31_5, m31_6, m31_7, m31_8, m31_9, m31_r, m31_b, m31, h', (show min 32 64 = 32 from rfl), z6, zl, x1, x2, x3, eB, dB, hx, tB, xB, bl_length, bl_scal, bl_pur, wk, act, asV, ↓reduceIte, Nat.reduceEqDiff, reduceCtorEq, Nat.reduceAdd, Nat.reduceLeDiff, Nat.reduceSub, Nat.reduceMul, List.reduceReplicate, Int.reduceEq, Int.reduceLT, Int.reduceLE, Int.reduceAdd, Int.reduceSub, Int.reduceMul, Nat.reduceLT, Int.reduceToNat]) ?_))
    · have h' : ¬ (64 : Int) < ((k.length : Nat) : Int) := by omega
      have eB : bl k ++ List.drop k.length (bl Z) = bl (blockB k) := by
        rw [hZ, bl_drop, ← bl_append, zb_drop]
        have : keyB k = k := if_neg h
        rw [blockB, this]
      have mn : min k.length 64 = k.length := by omega
      have tk := take_bl k
      have hl : (bl k).length = k.length := bl_length k
      obtain ⟨B, hB⟩ : ∃ B, B = blockB k := ⟨_, rfl⟩
      rw [← hB] at eB dB hx tB ⊢
      simp -implicitDefEqProofs (maxSteps := 2000000) only [m31_1, m31_2, m31_3, m31_4, m31_5, m31_6, m31_7, m31_8, m31_9, m31_r, m31_b, m31, h', z6, zl, tk, hl, mn, eB, dB, hx, tB, xB, bl_length, bl_scal, bl_pur, wk, act, asV, ↓reduceIte, Nat.reduceEqDiff, reduceCtorEq, Nat.reduceAdd, Nat.reduceLeDiff, Nat.reduceSub, Nat.reduceMul, List.reduceReplicate, Int.reduceEq, Int.reduceLT, Int.reduceLE, Int.reduceAdd, Int.reduceSub, Int.reduceMul, Nat.reduceLT, Int.reduceToNat]

theorem macR_ok (f g : Fl) (hf : ¬ f = .lit) (hg : ¬ g = .lit) (k : List UInt8) (ps : List (Fl × List UInt8)) (hk : k.length ≤ 2 ^ 39) (hn : ps.length ≤ 2 ^ 30) (hl : (joined ps).length ≤ 2 ^ 38) :
    RC Try.prog 29 [.sl f k.length (bl k), .sl g ps.length (pl ps)] [.agg (bl (macB k (joined ps)))] := by
  refine RC.of_wp c29 rfl ?_
  have cb := kblockR_ok f hf k hk
  have dB := blockB_length k
  have dI : (padX (blockB k) 54).length = 64 := by rw [padX_length, dB]
  have dO : (padX (blockB k) 92).length = 64 := by rw [padX_length, dB]
  have gI := fun i (h : i < 64) => padX_getD (blockB k) 54 (i := i) (by omega)
  have gO := fun i (h : i < 64) => padX_getD (blockB k) 92 (i := i) (by omega)
  obtain ⟨I, hI⟩ : ∃ I, I = padX (blockB k) 54 := ⟨_, rfl⟩
  obtain ⟨O, hO⟩ : ∃ I, I = padX (blockB k) 92 := ⟨_, rfl⟩
  have hm : macB k (joined ps) = shaB (O ++ shaB (I ++ joined ps)) := by rw [macB, hI, hO]
  rw [hm]
  rw [← hI] at dI gI
  rw [← hO] at dO gO
  obtain ⟨B, hB⟩ : ∃ B, B = blockB k := ⟨_, rfl⟩
  rw [← hB] at cb dB gI gO
  have cs := sumR_ok .plain ((.plain, I) :: ps) (by simp; omega) (by simp only [joined, List.map_cons, List.flatten_cons, List.length_append]; simp only [joined] at hl; omega)
  have ej : joined ((Fl.plain, I) :: ps) = I ++ joined ps := by simp [joined]
  have ep : pl ((Fl.plain, I) :: ps) = .sl .plain 64 (bl I) :: pl ps := by rw [pl, List.map_cons, dI]; rfl
  rw [ej, ep, List.length_cons] at cs
  have dl : (shaB (I ++ joined ps)).length = 32 := digest_length _
  obtain ⟨G, hG⟩ : ∃ G, G = shaB (I ++ joined ps) := ⟨_, rfl⟩
  rw [← hG] at cs dl ⊢
  have ct := sumR_ok .full [(.plain, O), (.plain, G)] (by simp) (by simp [joined]; omega)
  have ej2 : joined [(Fl.plain, O), (.plain, G)] = O ++ G := by simp [joined]
  have ep2 : pl [(Fl.plain, O), (.plain, G)] = [.sl .plain 64 (bl O), .sl .plain 32 (bl G)] := by rw [pl, List.map_cons, List.map_cons, dO, dl]; rfl
  rw [ej2, ep2, List.length_cons, List.length_cons, List.length_nil] at ct
  have dT : (shaB (O ++ G)).length = 32 := digest_length _
  obtain ⟨T, hT⟩ : ∃ X, X = shaB (O ++ G) := ⟨_, rfl⟩
  rw [← hT] at ct dT ⊢
  have zl : (bl (zb 64)).length = 64 := by rw [bl_length, zb_len]
  have lz : (zb 64).length = 64 := zb_len 64
  obtain ⟨Z, hZ⟩ : ∃ Z, Z = zb 64 := ⟨_, rfl⟩
  have z6 := z64_cells
  rw [← hZ] at z6 zl lz
  have zr : repl 64 [IV.int .u8 0] = bl Z := by rw [← z6]; rfl
  have xZ : List.drop 64 (bl Z) = [] := List.drop_of_length_le (by omega)
  have lB : (bl B).length = 64 := by rw [bl_length, dB]
  have tB : List.take 64 (bl B) = bl B := List.take_of_length_le (by omega)
  have lG : (bl G).length = 32 := by rw [bl_length, dl]
  have tG : List.take 32 (bl G) = bl G := List.take_of_length_le (by omega)
  have xG : List.drop 32 (bl G) = [] := List.drop_of_length_le (by omega)
  have lT : (bl T).length = 32 := by rw [bl_length, dT]
  have tT : List.take 32 (bl T) = bl T := List.take_of_length_le (by omega)
  have tp := pl_take ps
  have hlp := pl_length ps
  have hp1 := pl_pur ps
  have r6 : roomy 64 1 = true := by decide
  repeat' (first | simp -implicitDefEqProofs (maxSteps := 2000000) only [m29_1, m29_2, m29_3, m29_4, m29_5, m29_6, m29_7, m29_8, m29_9, m29_10, m29_r, m29_b, m29, hf, hg, tp, hlp, hp1, z6, zr, zl, xZ, lB, tB, r6, bl_scal, bl_pur, bl_allp, wk, act, asV, ↓reduceIte, Nat.reduceEqDiff, reduceCtorEq, Nat.reduceAdd, Nat.reduceLeDiff, Nat.reduceSub, Nat.reduceMul, List.reduceReplicate, Int.reduceEq, Int.reduceLT, Int.reduceLE, Int.reduceAdd, Int.reduceSub, Int.reduceMul, Nat.reduceLT, Int.reduceToNat] | (with_reducible refine And.intro ?_ ?_) | ((with_reducible refine CallL.gate ?_); refine CallL.of (by simp -implicitDefEqProofs (maxSteps := 2000000) only [m29_1, m29_2, m29_3, m29_4, m29_5, m29_6, m29_7, m29_8, m29_9, m29_10, m29_r, m29_b, m29, hf, hg, tp, hlp, hp1, z6, zr, zl, xZ, lB, tB, r6, bl_scal, bl_pur, bl_allp, wk, act, asV, ↓reduceIte, Nat.reduceEqDiff, reduceCtorEq, Nat.reduceAdd, Nat.reduceLeDiff, Nat.reduceSub, Nat.reduceMul, List.reduceReplicate, Int.reduceEq, Int.reduceLT, Int.reduceLE, Int.reduceAdd, Int.reduceSub, Int.reduceMul, Nat.reduceLT, Int.reduceToNat]; first | done | (with_reducible rfl)) (by first | exact cb) (by simp -implicitDefEqProofs (maxSteps := 2000000) only [m29_1, m29_2, m29_3, m29_4, m29_5, m29_6, m29_7, m29_8, m29_9, m29_10, m29_r, m29_b, m29, hf, hg, tp, hlp, hp1, z6, zr, zl, xZ, lB, tB, r6, bl_scal, bl_pur, bl_allp, wk, act, asV, ↓reduceIte, Nat.reduceEqDiff, reduceCtorEq, Nat.reduceAdd, Nat.reduceLeDiff, Nat.reduceSub, Nat.reduceMul, List.reduceReplicate, Int.reduceEq, Int.reduceLT, Int.reduceLE, Int.reduceAdd, Int.reduceSub, Int.reduceMul, Nat.reduceLT, Int.reduceToNat]) ?_) | ((with_reducible refine CallP.gate ?_); refine CallP.of (by simp -implicitDefEqProofs (maxSteps := 2000000) only [m29_1, m29_2, m29_3, m29_4, m29_5, m29_6, m29_7, m29_8, m29_9, m29_10, m29_r, m29_b, m29, hf, hg, tp, hlp, hp1, z6, zr, zl, xZ, lB, tB, r6, bl_scal, bl_pur, bl_allp, wk, act, asV, ↓reduceIte, Nat.reduceEqDiff, reduceCtorEq, Nat.reduceAdd, Nat.reduceLeDiff, Nat.reduceSub, Nat.reduceMul, List.reduceReplicate, Int.reduceEq, Int.reduceLT, Int.reduceLE, Int.reduceAdd, Int.reduceSub, Int.reduceMul, Nat.reduceLT, Int.reduceToNat]; first | done | (with_reducible rfl)) (by first | exact cb) (by simp -implicitDefEqProofs (maxSteps := 2000000) only [m29_1, m29_2, m29_3, m29_4, m29_5, m29_6, m29_7, m29_8, m29_9, m29_10, m29_r, m29_b, m29, hf, hg, tp, hlp, hp1, z6, zr, zl, xZ, lB, tB, r6, bl_scal, bl_pur, bl_allp, wk, act, asV, ↓reduceIte, Nat.reduceEqDiff, reduceCtorEq, Nat.reduceAdd, Nat.reduceLeDiff, Nat.reduceSub, Nat.reduceMul, List.reduceReplicate, Int.reduceEq, Int.reduceLT, Int.reduceLE, Int.reduceAdd, Int.reduceSub, Int.reduceMul, Nat.reduceLT, Int.reduceToNat]) ?_))
  refine Wp_loop (fun m s => ∃ i, i ≤ 64 ∧ m = 64 - i ∧ s.t 8 = .int .i64 (i : Nat) ∧ s.t 1 = .sl g ps.length (pl ps) ∧ (∃ v5, s.t 5 = .ptr 5 0 v5 ∧ s.h 5 = ⟨v5, true, true, false, bl B⟩) ∧ (∃ v, s.t 6 = .row 12 0 64 1 v ∧ s.h 12 = ⟨v, true, true, true, bl (I.take i ++ Z.drop i)⟩) ∧ (∃ v, s.t 7 = .row 13 0 64 1 v ∧ s.h 13 = ⟨v, true, true, true, bl (O.take i ++ Z.drop i)⟩) ∧ (∃ v4, s.t 4 = .ptr 4 0 v4 ∧ s.h 4 = ⟨v4, true, true, false, List.replicate 32 (.int .u8 0)⟩)) 64 ⟨0, by omega, rfl, by simp -implicitDefEqProofs (maxSteps := 2000000) only [wk, act, asV, ↓reduceIte, Nat.reduceEqDiff, reduceCtorEq, Nat.reduceAdd, Nat.reduceLeDiff, Nat.reduceSub, Nat.reduceMul, List.reduceReplicate, Int.reduceEq, Int.reduceLT, Int.reduceLE, Int.reduceAdd, Int.reduceSub, Int.reduceMul, Nat.reduceLT, Int.reduceToNat], by simp -implicitDefEqProofs (maxSteps := 2000000) only [wk, act, asV, ↓reduceIte, Nat.reduceEqDiff, reduceCtorEq, Nat.reduceAdd, Nat.reduceLeDiff, Nat.reduceSub, Nat.reduceMul, List.reduceReplicate, Int.reduceEq, Int.reduceLT, Int.reduceLE, Int.reduceAdd, Int.reduceSub, Int.reduceMul, Nat.reduceLT, Int.reduceToNat], ⟨_, by simp -implicitDefEqProofs (maxSteps := 2000000) only [wk, act, asV, ↓reduceIte, Nat.reduceEqDiff, reduceCtorEq, Nat.reduceAdd, Nat.reduceLeDiff, Nat.reduceSub, Nat.reduceMul, List.reduceReplicate, Int.reduceEq, Int.reduceLT, Int.reduceLE, Int.reduceAdd, Int.reduceSub, Int.reduceMul, Nat.reduceLT, Int.reduceToNat]; first | done | rfl, by simp -implicitDefEqProofs (maxSteps := 2000000) only [wk, act, asV, ↓reduceIte, Nat.reduceEqDiff, reduceCtorEq, Nat.reduceAdd, Nat.reduceLeDiff, Nat.reduceSub, Nat.reduceMul, List.reduceReplicate, Int.reduceEq, Int.reduceLT, Int.reduceLE, Int.reduceAdd, Int.reduceSub, Int.reduceMul, Nat.reduceLT, Int.reduceToNat]; first | done | rfl⟩, ⟨_, by simp -implicitDefEqProofs (maxSteps := 2000000) only [wk, act, asV, ↓reduceIte, Nat.reduceEqDiff, reduceCtorEq, Nat.reduceAdd, Nat.reduceLeDiff, Nat.reduceSub, Nat.reduceMul, List.reduceReplicate, Int.reduceEq, Int.reduceLT, Int.reduceLE, Int.reduceAdd, Int.reduceSub, Int.reduceMul, Nat.reduceLT, Int.reduceToNat]; first | done | rfl, by simp -implicitDefEqProofs (maxSteps := 2000000) only [wk, act, asV, ↓reduceIte, Nat.reduceEqDiff, reduceCtorEq, Nat.reduceAdd, Nat.reduceLeDiff, Nat.reduceSub, Nat.reduceMul, List.reduceReplicate, Int.reduceEq, Int.reduceLT, Int.reduceLE, Int.reduceAdd, Int.reduceSub, Int.reduceMul, Nat.reduceLT, Int.reduceToNat]; first | done | rfl⟩, ⟨_, by simp -implicitDefEqProofs (maxSteps := 2000000) only [wk, act, asV, ↓reduceIte, Nat.reduceEqDiff, reduceCtorEq, Nat.reduceAdd, Nat.reduceLeDiff, Nat.reduceSub, Nat.reduceMul, List.reduceReplicate, Int.reduceEq, Int.reduceLT, Int.reduceLE, Int.reduceAdd, Int.reduceSub, Int.reduceMul, Nat.reduceLT, Int.reduceToNat]; first | done | rfl, by simp -implicitDefEqProofs (maxSteps := 2000000) only [wk, act, asV, ↓reduceIte, Nat.reduceEqDiff, reduceCtorEq, Nat.reduceAdd, Nat.reduceLeDiff, Nat.reduceSub, Nat.reduceMul, List.reduceReplicate, Int.reduceEq, Int.reduceLT, Int.reduceLE, Int.reduceAdd, Int.reduceSub, Int.reduceMul, Nat.reduceLT, Int.reduceToNat]; first | done | rfl⟩, ⟨_, by simp -implicitDefEqProofs (maxSteps := 2000000) only [wk, act, asV, ↓reduceIte, Nat.reduceEqDiff, reduceCtorEq, Nat.reduceAdd, Nat.reduceLeDiff, Nat.reduceSub, Nat.reduceMul, List.reduceReplicate, Int.reduceEq, Int.reduceLT, Int.reduceLE, Int.reduceAdd, Int.reduceSub, Int.reduceMul, Nat.reduceLT, Int.reduceToNat]; first | done | rfl, by simp -implicitDefEqProofs (maxSteps := 2000000) only [wk, act, asV, ↓reduceIte, Nat.reduceEqDiff, reduceCtorEq, Nat.reduceAdd, Nat.reduceLeDiff, Nat.reduceSub, Nat.reduceMul, List.reduceReplicate, Int.reduceEq, Int.reduceLT, Int.reduceLE, Int.reduceAdd, Int.reduceSub, Int.reduceMul, Nat.reduceLT, Int.reduceToNat]; first | done | rfl⟩⟩ ?_
  rintro m s ⟨i, hi, rfl, k8, k1, ⟨v5, k5, kh5⟩, ⟨v6, k6, kh6⟩, ⟨v7, k7, kh7⟩, ⟨v4, k4, kh4⟩⟩
  have lI : (bl (I.take i ++ Z.drop i)).length = 64 := by rw [bl_length, List.length_append, List.length_take, List.length_drop, dI, lz]; omega
  have lO : (bl (O.take i ++ Z.drop i)).length = 64 := by rw [bl_length, List.length_append, List.length_take, List.length_drop, dO, lz]; omega
  by_cases hil : i < 64
  · have hil' : (i : Int) < 64 := by omega
    have h63 : i ≤ 63 := by omega
    have b3 := at_b (b := B) (k := i) (by omega)
    have x1 := b_xor (B.getD i 0) 54
    have x2 := b_xor (B.getD i 0) 92
    have u1 : ((54 : UInt8).toNat : Int) = 54 := rfl
    have u2 : ((92 : UInt8).toNat : Int) = 92 := rfl
    rw [u1, ← gI i hil] at x1
    rw [u2, ← gO i hil] at x2
    have s1 := row_step I Z (by omega) (i := i) (by omega)
    have s2 := row_step O Z (by omega) (i := i) (by omega)
    have wi : IntKind.i64.wrap (((i : Nat) : Int) + 1) = ((i + 1 : Nat) : Int) := by rw [IntKind.wrap_i64]; omega
    obtain ⟨a1, ha1⟩ : ∃ a, a = bl (I.take i ++ Z.drop i) := ⟨_, rfl⟩
    obtain ⟨a2, ha2⟩ : ∃ a, a = bl (O.take i ++ Z.drop i) := ⟨_, rfl⟩
    rw [← ha1] at s1 lI kh6
    rw [← ha2] at s2 lO kh7
    obtain ⟨c1, hc1⟩ : ∃ a, a = bl (I.take (i + 1) ++ Z.drop (i + 1)) := ⟨_, rfl⟩
    obtain ⟨c2, hc2⟩ : ∃ a, a = bl (O.take (i + 1) ++ Z.drop (i + 1)) := ⟨_, rfl⟩
    rw [← hc1] at s1
    rw [← hc2] at s2
    have done : ∃ k', k' < 64 - i ∧ k' = 64 - (i + 1) := ⟨_, by omega, rfl⟩
    repeat' (first | simp -implicitDefEqProofs (maxSteps := 2000000) only [k8, k1, k5, kh5, k6, kh6, k7, kh7, k4, kh4, hil', hil, h63, b3, x1, x2, wi, lI, lO, lB, s1, s2, wk, act, asV, ↓reduceIte, Nat.reduceEqDiff, reduceCtorEq, Nat.reduceAdd, Nat.reduceLeDiff, Nat.reduceSub, Nat.reduceMul, List.reduceReplicate, Int.reduceEq, Int.reduceLT, Int.reduceLE, Int.reduceAdd, Int.reduceSub, Int.reduceMul, Nat.reduceLT, Int.reduceToNat] | (with_reducible refine And.intro ?_ ?_) | ((with_reducible refine CallL.gate ?_); refine CallL.of (by simp -implicitDefEqProofs (maxSteps := 2000000) only [k8, k1, k5, kh5, k6, kh6, k7, kh7, k4, kh4, hil', hil, h63, b3, x1, x2, wi, lI, lO, lB, s1, s2, wk, act, asV, ↓reduceIte, Nat.reduceEqDiff, reduceCtorEq, Nat.reduceAdd, Nat.reduceLeDiff, Nat.reduceSub, Nat.reduceMul, List.reduceReplicate, Int.reduceEq, Int.reduceLT, Int.reduceLE, Int.reduceAdd, Int.reduceSub, Int.reduceMul, Nat.reduceLT, Int.reduceToNat]; first | done | (with_reducible rfl)) (by first | exact cb) (by simp -implicitDefEqProofs (maxSteps := 2000000) only [k8, k1, k5, kh5, k6, kh6, k7, kh7, k4, kh4, hil', hil, h63, b3, x1, x2, wi, lI, lO, lB, s1, s2, wk, act, asV, ↓reduceIte, Nat.reduceEqDiff, reduceCtorEq, Nat.reduceAdd, Nat.reduceLeDiff, Nat.reduceSub, Nat.reduceMul, List.reduceReplicate, Int.reduceEq, Int.reduceLT, Int.reduceLE, Int.reduceAdd, Int.reduceSub, Int.reduceMul, Nat.reduceLT, Int.reduceToNat]) ?_) | ((with_reducible refine CallP.gate ?_); refine CallP.of (by simp -implicitDefEqProofs (maxSteps := 2000000) only [k8, k1, k5, kh5, k6, kh6, k7, kh7, k4, kh4, hil', hil, h63, b3, x1, x2, wi, lI, lO, lB, s1, s2, wk, act, asV, ↓reduceIte, Nat.reduceEqDiff, reduceCtorEq, Nat.reduceAdd, Nat.reduceLeDiff, Nat.reduceSub, Nat.reduceMul, List.reduceReplicate, Int.reduceEq, Int.reduceLT, Int.reduceLE, Int.reduceAdd, Int.reduceSub, Int.reduceMul, Nat.reduceLT, Int.reduceToNat]; first | done | (with_reducible rfl)) (by first | exact cb) (by simp -implicitDefEqProofs (maxSteps := 2000000) only [k8, k1, k5, kh5, k6, kh6, k7, kh7, k4, kh4, hil', hil, h63, b3, x1, x2, wi, lI, lO, lB, s1, s2, wk, act, asV, ↓reduceIte, Nat.reduceEqDiff, reduceCtorEq, Nat.reduceAdd, Nat.reduceLeDiff, Nat.reduceSub, Nat.reduceMul, List.reduceReplicate, Int.reduceEq, Int.reduceLT, Int.reduceLE, Int.reduceAdd, Int.reduceSub, Int.reduceMul, Nat.reduceLT, Int.reduceToNat]) ?_))
    all_goals exact ⟨64 - (i + 1), by omega, i + 1, by omega, rfl, rfl, ⟨_, rfl, rfl⟩, ⟨_, rfl, by rw [hc1]⟩, ⟨_, rfl, by rw [hc2]⟩, ⟨_, rfl, rfl⟩⟩
  · obtain rfl : i = 64 := by omega
    have eI : I.take 64 ++ Z.drop 64 = I := by rw [List.take_of_length_le (by omega), List.drop_of_length_le (by omega), List.append_nil]
    have eO : O.take 64 ++ Z.drop 64 = O := by rw [List.take_of_length_le (by omega), List.drop_of_length_le (by omega), List.append_nil]
    rw [eI] at kh6 lI
    rw [eO] at kh7 lO
    have tI : List.take 64 (bl I) = bl I := List.take_of_length_le (by omega)
    have tO : List.take 64 (bl O) = bl O := List.take_of_length_le (by omega)
    have r2 : roomy (ps.length + 1) 24 = true := roomyP (by omega)
    have e1 : 1 + ps.length = ps.length + 1 := Nat.add_comm _ _
    repeat' (first | simp -implicitDefEqProofs (maxSteps := 2000000) only [k8, k1, k5, kh5, k6, kh6, k7, kh7, k4, kh4, tI, tO, lI, lO, r2, e1, hg, tp, hlp, hp1, lG, tG, xG, lT, tT, bl_scal, bl_pur, bl_allp, wk, act, asV, ↓reduceIte, Nat.reduceEqDiff, reduceCtorEq, Nat.reduceAdd, Nat.reduceLeDiff, Nat.reduceSub, Nat.reduceMul, List.reduceReplicate, Int.reduceEq, Int.reduceLT, Int.reduceLE, Int.reduceAdd, Int.reduceSub, Int.reduceMul, Nat.reduceLT, Int.reduceToNat] | (with_reducible refine And.intro ?_ ?_) | ((with_reducible refine CallL.gate ?_); refine CallL.of (by simp -implicitDefEqProofs (maxSteps := 2000000) only [k8, k1, k5, kh5, k6, kh6, k7, kh7, k4, kh4, tI, tO, lI, lO, r2, e1, hg, tp, hlp, hp1, lG, tG, xG, lT, tT, bl_scal, bl_pur, bl_allp, wk, act, asV, ↓reduceIte, Nat.reduceEqDiff, reduceCtorEq, Nat.reduceAdd, Nat.reduceLeDiff, Nat.reduceSub, Nat.reduceMul, List.reduceReplicate, Int.reduceEq, Int.reduceLT, Int.reduceLE, Int.reduceAdd, Int.reduceSub, Int.reduceMul, Nat.reduceLT, Int.reduceToNat]; first | done | (with_reducible rfl)) (by first | exact cs | exact ct) (by simp -implicitDefEqProofs (maxSteps := 2000000) only [k8, k1, k5, kh5, k6, kh6, k7, kh7, k4, kh4, tI, tO, lI, lO, r2, e1, hg, tp, hlp, hp1, lG, tG, xG, lT, tT, bl_scal, bl_pur, bl_allp, wk, act, asV, ↓reduceIte, Nat.reduceEqDiff, reduceCtorEq, Nat.reduceAdd, Nat.reduceLeDiff, Nat.reduceSub, Nat.reduceMul, List.reduceReplicate, Int.reduceEq, Int.reduceLT, Int.reduceLE, Int.reduceAdd, Int.reduceSub, Int.reduceMul, Nat.reduceLT, Int.reduceToNat]) ?_) | ((with_reducible refine CallP.gate ?_); refine CallP.of (by simp -implicitDefEqProofs (maxSteps := 2000000) only [k8, k1, k5, kh5, k6, kh6, k7, kh7, k4, kh4, tI, tO, lI, lO, r2, e1, hg, tp, hlp, hp1, lG, tG, xG, lT, tT, bl_scal, bl_pur, bl_allp, wk, act, asV, ↓reduceIte, Nat.reduceEqDiff, reduceCtorEq, Nat.reduceAdd, Nat.reduceLeDiff, Nat.reduceSub, Nat.reduceMul, List.reduceReplicate, Int.reduceEq, Int.reduceLT, Int.reduceLE, Int.reduceAdd, Int.reduceSub, Int.reduceMul, Nat.reduceLT, Int.reduceToNat]; first | done | (with_reducible rfl)) (by first | exact cs | exact ct) (by simp -implicitDefEqProofs (maxSteps := 2000000) only [k8, k1, k5, kh5, k6, kh6, k7, kh7, k4, kh4, tI, tO, lI, lO, r2, e1, hg, tp, hlp, hp1, lG, tG, xG, lT, tT, bl_scal, bl_pur, bl_allp, wk, act, asV, ↓reduceIte, Nat.reduceEqDiff, reduceCtorEq, Nat.reduceAdd, Nat.reduceLeDiff, Nat.reduceSub, Nat.reduceMul, List.reduceReplicate, Int.reduceEq, Int.reduceLT, Int.reduceLE, Int.reduceAdd, Int.reduceSub, Int.reduceMul, Nat.reduceLT, Int.reduceToNat]) ?_))
end Go.Proofs.Ytlbilkldjhhopaa
