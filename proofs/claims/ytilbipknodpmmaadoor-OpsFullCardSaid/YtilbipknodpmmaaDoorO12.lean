/- The law OpsFull: the walk. -/
import Derived.Test.YtilbipknodpmmaaDoorO11
import Derived.Test.YtilbipknodpmmaaDoorE31
import Derived.Test.YtilbipknodpmmaaDoorM36
set_option linter.unusedVariables false
set_option linter.unusedSimpArgs false
set_option linter.unusedSectionVars false
set_option maxRecDepth 100000
set_option maxHeartbeats 8000000
namespace Go.Proofs.YtilbipknodpmmaaDoor
open Go.RowKit

theorem opsFull (xs : List UInt8) (gn : UInt8) (hx : xs.length < 2 ^ 63) : RC Tryd.prog 6 [.sl .plain xs.length (bl xs), .int .u8 (gn.toNat : Nat)] [.bool true] := by
  refine RC.of_wp c6 rfl ?_
  have zc := zs_cells
  have t0' := tab0
  have lz : (bl (zs 32)).length = 32 := rfl
  have tz : List.take 32 (bl (zs 32)) = bl (zs 32) := rfl
  have dz : List.drop 32 (bl (zs 32)) = [] := rfl
  have lx := bl_length xs
  by_cases h12 : (12 : Int) < xs.length
  · repeat' (first | simp -implicitDefEqProofs (maxSteps := 2000000) only [m6_1, m6_2, m6_3, m6_4, m6_5, m6_6, m6_7, m6_8, m6_9, m6_10, m6_11, m6_12, m6_13, m6_14, m6_15, m6_16, m6_17, m6_18, m6_19, m6_20, m6_21, m6_22, m6_23, m6_24, m6_25, m6_26, m6_27, m6_28, m6_29, m6_30, m6_31, m6_32, m6_33, m6_34, m6_35, m6_r, m6_b, m6, h12, wk, act, asV, ↓reduceIte, Nat.reduceEqDiff, reduceCtorEq, Nat.reduceAdd, Nat.reduceLeDiff, Nat.reduceSub, Nat.reduceMul, List.reduceReplicate, Int.reduceEq, Int.reduceLT, Int.reduceLE, Int.reduceAdd, Int.reduceSub, Int.reduceMul, Nat.reduceLT, Int.reduceToNat] | ((first | ((with_reducible refine CallL.gate ?_); apply CallL.of) | ((with_reducible refine CallP.gate ?_); apply CallP.of)); (case h1 => (simp -implicitDefEqProofs (maxSteps := 2000000) only [m6_1, m6_2, m6_3, m6_4, m6_5, m6_6, m6_7, m6_8, m6_9, m6_10, m6_11, m6_12, m6_13, m6_14, m6_15, m6_16, m6_17, m6_18, m6_19, m6_20, m6_21, m6_22, m6_23, m6_24, m6_25, m6_26, m6_27, m6_28, m6_29, m6_30, m6_31, m6_32, m6_33, m6_34, m6_35, m6_r, m6_b, m6, h12, wk, act, asV, ↓reduceIte, Nat.reduceEqDiff, reduceCtorEq, Nat.reduceAdd, Nat.reduceLeDiff, Nat.reduceSub, Nat.reduceMul, List.reduceReplicate, Int.reduceEq, Int.reduceLT, Int.reduceLE, Int.reduceAdd, Int.reduceSub, Int.reduceMul, Nat.reduceLT, Int.reduceToNat]; first | done | (with_reducible rfl))); (case h2 => (first | exact wakesO_ok)); (case h3 => simp -implicitDefEqProofs (maxSteps := 2000000) only [m6_1, m6_2, m6_3, m6_4, m6_5, m6_6, m6_7, m6_8, m6_9, m6_10, m6_11, m6_12, m6_13, m6_14, m6_15, m6_16, m6_17, m6_18, m6_19, m6_20, m6_21, m6_22, m6_23, m6_24, m6_25, m6_26, m6_27, m6_28, m6_29, m6_30, m6_31, m6_32, m6_33, m6_34, m6_35, m6_r, m6_b, m6, h12, wk, act, asV, ↓reduceIte, Nat.reduceEqDiff, reduceCtorEq, Nat.reduceAdd, Nat.reduceLeDiff, Nat.reduceSub, Nat.reduceMul, List.reduceReplicate, Int.reduceEq, Int.reduceLT, Int.reduceLE, Int.reduceAdd, Int.reduceSub, Int.reduceMul, Nat.reduceLT, Int.reduceToNat])))
  · simp -implicitDefEqProofs (maxSteps := 2000000) only [m6_1, m6_2, m6_3, m6_4, m6_5, m6_6, m6_7, m6_8, m6_9, m6_10, m6_11, m6_12, m6_13, m6_14, m6_15, m6_16, m6_17, m6_18, m6_19, m6_20, m6_21, m6_22, m6_23, m6_24, m6_25, m6_26, m6_27, m6_28, m6_29, m6_30, m6_31, m6_32, m6_33, m6_34, m6_35, m6_r, m6_b, m6, h12, zc, lz, tz, dz, wk, act, asV, ↓reduceIte, Nat.reduceEqDiff, reduceCtorEq, Nat.reduceAdd, Nat.reduceLeDiff, Nat.reduceSub, Nat.reduceMul, List.reduceReplicate, Int.reduceEq, Int.reduceLT, Int.reduceLE, Int.reduceAdd, Int.reduceSub, Int.reduceMul, Nat.reduceLT, Int.reduceToNat]
    refine Wp_loop (fun m s => ∃ i vs many left w5, i ≤ xs.length ∧ m = xs.length - i ∧ FI vs i many left ∧ s.t 0 = .sl .plain xs.length (bl xs) ∧ s.t 1 = .int .u8 (gn.toNat : Nat) ∧ s.t 5 = .ptr 5 0 w5 ∧ s.t 6 = .int .i64 (many : Nat) ∧ s.t 7 = .int .i64 (left : Nat) ∧ s.t 8 = .int .i64 (i : Nat) ∧ s.h 5 = ⟨w5, true, true, false, bl (tabB vs)⟩) xs.length ⟨0, [], 0, 11, _, by omega, rfl, FI.start, by simp -implicitDefEqProofs (maxSteps := 2000000) only [wk, act, asV, ↓reduceIte, Nat.reduceEqDiff, reduceCtorEq, Nat.reduceAdd, Nat.reduceLeDiff, Nat.reduceSub, Nat.reduceMul, List.reduceReplicate, Int.reduceEq, Int.reduceLT, Int.reduceLE, Int.reduceAdd, Int.reduceSub, Int.reduceMul, Nat.reduceLT, Int.reduceToNat], by simp -implicitDefEqProofs (maxSteps := 2000000) only [wk, act, asV, ↓reduceIte, Nat.reduceEqDiff, reduceCtorEq, Nat.reduceAdd, Nat.reduceLeDiff, Nat.reduceSub, Nat.reduceMul, List.reduceReplicate, Int.reduceEq, Int.reduceLT, Int.reduceLE, Int.reduceAdd, Int.reduceSub, Int.reduceMul, Nat.reduceLT, Int.reduceToNat], by simp -implicitDefEqProofs (maxSteps := 2000000) only [wk, act, asV, ↓reduceIte, Nat.reduceEqDiff, reduceCtorEq, Nat.reduceAdd, Nat.reduceLeDiff, Nat.reduceSub, Nat.reduceMul, List.reduceReplicate, Int.reduceEq, Int.reduceLT, Int.reduceLE, Int.reduceAdd, Int.reduceSub, Int.reduceMul, Nat.reduceLT, Int.reduceToNat]; first | done | rfl, by simp -implicitDefEqProofs (maxSteps := 2000000) only [wk, act, asV, ↓reduceIte, Nat.reduceEqDiff, reduceCtorEq, Nat.reduceAdd, Nat.reduceLeDiff, Nat.reduceSub, Nat.reduceMul, List.reduceReplicate, Int.reduceEq, Int.reduceLT, Int.reduceLE, Int.reduceAdd, Int.reduceSub, Int.reduceMul, Nat.reduceLT, Int.reduceToNat]; first | done | rfl, by simp -implicitDefEqProofs (maxSteps := 2000000) only [wk, act, asV, ↓reduceIte, Nat.reduceEqDiff, reduceCtorEq, Nat.reduceAdd, Nat.reduceLeDiff, Nat.reduceSub, Nat.reduceMul, List.reduceReplicate, Int.reduceEq, Int.reduceLT, Int.reduceLE, Int.reduceAdd, Int.reduceSub, Int.reduceMul, Nat.reduceLT, Int.reduceToNat]; first | done | rfl, by simp -implicitDefEqProofs (maxSteps := 2000000) only [wk, act, asV, ↓reduceIte, Nat.reduceEqDiff, reduceCtorEq, Nat.reduceAdd, Nat.reduceLeDiff, Nat.reduceSub, Nat.reduceMul, List.reduceReplicate, Int.reduceEq, Int.reduceLT, Int.reduceLE, Int.reduceAdd, Int.reduceSub, Int.reduceMul, Nat.reduceLT, Int.reduceToNat]; first | done | rfl, by rw [t0']; simp -implicitDefEqProofs (maxSteps := 2000000) only [wk, act, asV, ↓reduceIte, Nat.reduceEqDiff, reduceCtorEq, Nat.reduceAdd, Nat.reduceLeDiff, Nat.reduceSub, Nat.reduceMul, List.reduceReplicate, Int.reduceEq, Int.reduceLT, Int.reduceLE, Int.reduceAdd, Int.reduceSub, Int.reduceMul, Nat.reduceLT, Int.reduceToNat]; first | done | rfl⟩ ?_
    rintro m s ⟨i, vs, many, left, w5, hi, rfl, fi, k0, k1, k5, k6, k7, k8, kh5⟩
    have lB : (bl (tabB vs)).length = 32 := by rw [bl_length]; exact tabB_length (goodV_len fi.g)
    have tB : List.take 32 (bl (tabB vs)) = bl (tabB vs) := List.take_of_length_le (by omega)
    have m3 := goodV_len fi.g
    have hmv := fi.many
    have hl := fi.left
    by_cases hil : i < xs.length
    · have hil' : (i : Int) < xs.length := by omega
      have hi12 : i < 12 := by omega
      have dI := drop_bl hil
      obtain ⟨n, h1, h4, en⟩ : ∃ n, 1 ≤ n ∧ n ≤ 4 ∧ IntKind.i64.wrap (1 + (IntKind.i64.wrap ((xs[i].toNat : Nat) : Int)).tmod 4) = (n : Nat) := by
        refine ⟨1 + xs[i].toNat % 4, by omega, by omega, ?_⟩
        rw [w64_u8, show ((xs[i].toNat : Nat) : Int).tmod 4 = ((xs[i].toNat % 4 : Nat) : Int) from tmod_nat _ 4, IntKind.wrap_i64]
        omega
      have w1 : IntKind.u8.wrap ((i : Nat) : Int) = (i : Nat) := by rw [wrap_u8, u8_toNat]; omega
      have w2 : IntKind.u8.wrap (97 + ((i : Nat) : Int)) = ((97 + i : Nat) : Int) := by rw [show (97 : Int) + ((i : Nat) : Int) = ((97 + i : Nat) : Int) by omega, wrap_u8, u8_toNat]; omega
      have w3 : (((97 + i : Nat) : Int)).toNat = 97 + i := Int.toNat_natCast _
      have wi : IntKind.i64.wrap (((i : Nat) : Int) + 1) = ((i + 1 : Nat) : Int) := by rw [IntKind.wrap_i64]; omega
      have ec : [UInt8.ofNat (97 + i)] = chr i := rfl
      rcases fi.make hi12 h1 h4 with ⟨fr, ps, V, hk, hm3, hnl, fV, c1⟩ | ⟨hne, hno, fV, c1⟩
      · have lV := vl_length V
        rw [hk.lV] at lV
        have pV := vl_pur V
        have lP := ptL_length hk.h32
        rw [hk.len] at lP
        have sP := ptL_scal ps
        have pP := ptL_pur ps
        have tP : List.take ((n + 1) * 33) (ptL ps) = ptL ps := List.take_of_length_le (by omega)
        have eN := hk.last
        have eN1 : List.drop (n * 33 + 1) (ptL ps) = bl (tabB V) := by rw [← List.drop_drop, eN]; rfl
        have r1 : n * 33 + 1 ≤ (n + 1) * 33 := by omega
        have r2 : n * 33 + 1 + 32 ≤ (n + 1) * 33 := by omega
        have r3 : n * 33 + 33 ≤ (n + 1) * 33 := by omega
        have lB2 : (bl (tabB V)).length = 32 := by rw [bl_length]; exact tabB_length hk.v3
        have tB2 : List.take 32 (bl (tabB V)) = bl (tabB V) := List.take_of_length_le (by omega)
        have dB2 : List.drop 32 (bl (tabB vs)) = [] := List.drop_of_length_le (by omega)
        have hm3' : (many : Int) < 3 := by omega
        have hnl' : (n : Int) ≤ (left : Nat) := by omega
        have wn : IntKind.i64.wrap (((n : Nat) : Int) + 1) = ((n + 1 : Nat) : Int) := by rw [IntKind.wrap_i64]; omega
        have wm : IntKind.i64.wrap (((many : Nat) : Int) + 1) = ((many + 1 : Nat) : Int) := by rw [IntKind.wrap_i64]; omega
        have wd : IntKind.i64.wrap (((left : Nat) : Int) - (n : Nat)) = ((left - n : Nat) : Int) := by rw [IntKind.wrap_i64]; omega
        have hnn : ((n : Nat) : Int) < ((n + 1 : Nat) : Int) := by omega
        have c2 := volsP_ok (tabB V) (tabB_length hk.v3)
        rw [decV_tab hk.gV] at c2
        unfold ownV at c2
        rw [if_neg (by rw [hk.eV]; simp), hk.lV, ← hmv] at c2
        rw [← hmv] at lV
        repeat' (first | simp -implicitDefEqProofs (maxSteps := 2000000) only [k0, k1, k5, k6, k7, k8, kh5, lB, tB, hil', lx, dI, en, w1, w2, w3, ec, lV, pV, lP, sP, pP, tP, eN, eN1, r1, r2, r3, lB2, tB2, dB2, hm3', hnl', wn, wm, wd, hnn, wi, bl_scal, bl_allO, List.mapM_cons, List.mapM_nil, Option.bind_eq_bind, Option.bind_some, Option.pure_def, wk, act, asV, ↓reduceIte, Nat.reduceEqDiff, reduceCtorEq, Nat.reduceAdd, Nat.reduceLeDiff, Nat.reduceSub, Nat.reduceMul, List.reduceReplicate, Int.reduceEq, Int.reduceLT, Int.reduceLE, Int.reduceAdd, Int.reduceSub, Int.reduceMul, Nat.reduceLT, Int.reduceToNat] | ((first | ((with_reducible refine CallL.gate ?_); apply CallL.of) | ((with_reducible refine CallP.gate ?_); apply CallP.of)); (case h1 => (simp -implicitDefEqProofs (maxSteps := 2000000) only [k0, k1, k5, k6, k7, k8, kh5, lB, tB, hil', lx, dI, en, w1, w2, w3, ec, lV, pV, lP, sP, pP, tP, eN, eN1, r1, r2, r3, lB2, tB2, dB2, hm3', hnl', wn, wm, wd, hnn, wi, bl_scal, bl_allO, List.mapM_cons, List.mapM_nil, Option.bind_eq_bind, Option.bind_some, Option.pure_def, wk, act, asV, ↓reduceIte, Nat.reduceEqDiff, reduceCtorEq, Nat.reduceAdd, Nat.reduceLeDiff, Nat.reduceSub, Nat.reduceMul, List.reduceReplicate, Int.reduceEq, Int.reduceLT, Int.reduceLE, Int.reduceAdd, Int.reduceSub, Int.reduceMul, Nat.reduceLT, Int.reduceToNat]; first | done | (with_reducible rfl))); (case h2 => (first | exact c1 | exact c2)); (case h3 => simp -implicitDefEqProofs (maxSteps := 2000000) only [k0, k1, k5, k6, k7, k8, kh5, lB, tB, hil', lx, dI, en, w1, w2, w3, ec, lV, pV, lP, sP, pP, tP, eN, eN1, r1, r2, r3, lB2, tB2, dB2, hm3', hnl', wn, wm, wd, hnn, wi, bl_scal, bl_allO, List.mapM_cons, List.mapM_nil, Option.bind_eq_bind, Option.bind_some, Option.pure_def, wk, act, asV, ↓reduceIte, Nat.reduceEqDiff, reduceCtorEq, Nat.reduceAdd, Nat.reduceLeDiff, Nat.reduceSub, Nat.reduceMul, List.reduceReplicate, Int.reduceEq, Int.reduceLT, Int.reduceLE, Int.reduceAdd, Int.reduceSub, Int.reduceMul, Nat.reduceLT, Int.reduceToNat])))
        exact ⟨xs.length - (i + 1), by omega, i + 1, V, many + 1, left - n, w5, by omega, rfl, fV, by and_intros <;> rfl⟩
      · obtain ⟨e0, e1⟩ : ownV vs = .own vs.length 2 (vl vs) ∧ True := ⟨if_neg hne, trivial⟩
        have lV := vl_length vs
        have pV := vl_pur vs
        have c2 := volsP_ok (tabB vs) (tabB_length m3)
        rw [decV_tab fi.g, e0, ← hmv] at c2
        rw [← hmv] at lV
        by_cases hm3 : many < 3
        · have hm3' : (many : Int) < 3 := by omega
          have hnl' : ¬ (n : Int) ≤ (left : Nat) := by omega
          repeat' (first | simp -implicitDefEqProofs (maxSteps := 2000000) only [k0, k1, k5, k6, k7, k8, kh5, lB, tB, hil', lx, dI, en, w1, w2, w3, ec, lV, pV, hm3', hnl', wi, bl_scal, bl_allO, List.mapM_cons, List.mapM_nil, Option.bind_eq_bind, Option.bind_some, Option.pure_def, wk, act, asV, ↓reduceIte, Nat.reduceEqDiff, reduceCtorEq, Nat.reduceAdd, Nat.reduceLeDiff, Nat.reduceSub, Nat.reduceMul, List.reduceReplicate, Int.reduceEq, Int.reduceLT, Int.reduceLE, Int.reduceAdd, Int.reduceSub, Int.reduceMul, Nat.reduceLT, Int.reduceToNat] | ((first | ((with_reducible refine CallL.gate ?_); apply CallL.of) | ((with_reducible refine CallP.gate ?_); apply CallP.of)); (case h1 => (simp -implicitDefEqProofs (maxSteps := 2000000) only [k0, k1, k5, k6, k7, k8, kh5, lB, tB, hil', lx, dI, en, w1, w2, w3, ec, lV, pV, hm3', hnl', wi, bl_scal, bl_allO, List.mapM_cons, List.mapM_nil, Option.bind_eq_bind, Option.bind_some, Option.pure_def, wk, act, asV, ↓reduceIte, Nat.reduceEqDiff, reduceCtorEq, Nat.reduceAdd, Nat.reduceLeDiff, Nat.reduceSub, Nat.reduceMul, List.reduceReplicate, Int.reduceEq, Int.reduceLT, Int.reduceLE, Int.reduceAdd, Int.reduceSub, Int.reduceMul, Nat.reduceLT, Int.reduceToNat]; first | done | (with_reducible rfl))); (case h2 => (first | exact c1 | exact c2)); (case h3 => simp -implicitDefEqProofs (maxSteps := 2000000) only [k0, k1, k5, k6, k7, k8, kh5, lB, tB, hil', lx, dI, en, w1, w2, w3, ec, lV, pV, hm3', hnl', wi, bl_scal, bl_allO, List.mapM_cons, List.mapM_nil, Option.bind_eq_bind, Option.bind_some, Option.pure_def, wk, act, asV, ↓reduceIte, Nat.reduceEqDiff, reduceCtorEq, Nat.reduceAdd, Nat.reduceLeDiff, Nat.reduceSub, Nat.reduceMul, List.reduceReplicate, Int.reduceEq, Int.reduceLT, Int.reduceLE, Int.reduceAdd, Int.reduceSub, Int.reduceMul, Nat.reduceLT, Int.reduceToNat])))
          exact ⟨xs.length - (i + 1), by omega, i + 1, vs, many, left, w5, by omega, rfl, fV, by and_intros <;> rfl⟩
        · have hm3' : ¬ (many : Int) < 3 := by omega
          repeat' (first | simp -implicitDefEqProofs (maxSteps := 2000000) only [k0, k1, k5, k6, k7, k8, kh5, lB, tB, hil', lx, dI, en, w1, w2, w3, ec, lV, pV, hm3', wi, bl_scal, bl_allO, List.mapM_cons, List.mapM_nil, Option.bind_eq_bind, Option.bind_some, Option.pure_def, wk, act, asV, ↓reduceIte, Nat.reduceEqDiff, reduceCtorEq, Nat.reduceAdd, Nat.reduceLeDiff, Nat.reduceSub, Nat.reduceMul, List.reduceReplicate, Int.reduceEq, Int.reduceLT, Int.reduceLE, Int.reduceAdd, Int.reduceSub, Int.reduceMul, Nat.reduceLT, Int.reduceToNat] | ((first | ((with_reducible refine CallL.gate ?_); apply CallL.of) | ((with_reducible refine CallP.gate ?_); apply CallP.of)); (case h1 => (simp -implicitDefEqProofs (maxSteps := 2000000) only [k0, k1, k5, k6, k7, k8, kh5, lB, tB, hil', lx, dI, en, w1, w2, w3, ec, lV, pV, hm3', wi, bl_scal, bl_allO, List.mapM_cons, List.mapM_nil, Option.bind_eq_bind, Option.bind_some, Option.pure_def, wk, act, asV, ↓reduceIte, Nat.reduceEqDiff, reduceCtorEq, Nat.reduceAdd, Nat.reduceLeDiff, Nat.reduceSub, Nat.reduceMul, List.reduceReplicate, Int.reduceEq, Int.reduceLT, Int.reduceLE, Int.reduceAdd, Int.reduceSub, Int.reduceMul, Nat.reduceLT, Int.reduceToNat]; first | done | (with_reducible rfl))); (case h2 => (first | exact c1 | exact c2)); (case h3 => simp -implicitDefEqProofs (maxSteps := 2000000) only [k0, k1, k5, k6, k7, k8, kh5, lB, tB, hil', lx, dI, en, w1, w2, w3, ec, lV, pV, hm3', wi, bl_scal, bl_allO, List.mapM_cons, List.mapM_nil, Option.bind_eq_bind, Option.bind_some, Option.pure_def, wk, act, asV, ↓reduceIte, Nat.reduceEqDiff, reduceCtorEq, Nat.reduceAdd, Nat.reduceLeDiff, Nat.reduceSub, Nat.reduceMul, List.reduceReplicate, Int.reduceEq, Int.reduceLT, Int.reduceLE, Int.reduceAdd, Int.reduceSub, Int.reduceMul, Nat.reduceLT, Int.reduceToNat])))
          exact ⟨xs.length - (i + 1), by omega, i + 1, vs, many, left, w5, by omega, rfl, fV, by and_intros <;> rfl⟩
    · obtain rfl : i = xs.length := by omega
      have hil' : ¬ ((xs.length : Nat) : Int) < xs.length := by omega
      have c1 := volsP_ok (tabB vs) (tabB_length m3)
      rw [decV_tab fi.g] at c1
      have lV := vl_length vs
      have pV := vl_pur vs
      rcases ownV_or vs with ⟨h0, e0⟩ | ⟨h0, e0⟩
      · rw [e0] at c1
        repeat' (first | simp -implicitDefEqProofs (maxSteps := 2000000) only [k0, k1, k5, k6, k7, k8, kh5, lB, tB, hil', lV, pV, bl_scal, bl_allO, wk, act, asV, ↓reduceIte, Nat.reduceEqDiff, reduceCtorEq, Nat.reduceAdd, Nat.reduceLeDiff, Nat.reduceSub, Nat.reduceMul, List.reduceReplicate, Int.reduceEq, Int.reduceLT, Int.reduceLE, Int.reduceAdd, Int.reduceSub, Int.reduceMul, Nat.reduceLT, Int.reduceToNat] | ((first | ((with_reducible refine CallL.gate ?_); apply CallL.of) | ((with_reducible refine CallP.gate ?_); apply CallP.of)); (case h1 => (simp -implicitDefEqProofs (maxSteps := 2000000) only [k0, k1, k5, k6, k7, k8, kh5, lB, tB, hil', lV, pV, bl_scal, bl_allO, wk, act, asV, ↓reduceIte, Nat.reduceEqDiff, reduceCtorEq, Nat.reduceAdd, Nat.reduceLeDiff, Nat.reduceSub, Nat.reduceMul, List.reduceReplicate, Int.reduceEq, Int.reduceLT, Int.reduceLE, Int.reduceAdd, Int.reduceSub, Int.reduceMul, Nat.reduceLT, Int.reduceToNat]; first | done | (with_reducible rfl))); (case h2 => (first | exact c1 | exact wakesO_ok)); (case h3 => simp -implicitDefEqProofs (maxSteps := 2000000) only [k0, k1, k5, k6, k7, k8, kh5, lB, tB, hil', lV, pV, bl_scal, bl_allO, wk, act, asV, ↓reduceIte, Nat.reduceEqDiff, reduceCtorEq, Nat.reduceAdd, Nat.reduceLeDiff, Nat.reduceSub, Nat.reduceMul, List.reduceReplicate, Int.reduceEq, Int.reduceLT, Int.reduceLE, Int.reduceAdd, Int.reduceSub, Int.reduceMul, Nat.reduceLT, Int.reduceToNat])))
      · rw [e0] at c1
        have hv0 : vs.length ≠ 0 := fun h => h0 (List.eq_nil_of_length_eq_zero h)
        have hv0' : ¬ ((vs.length : Nat) : Int) = 0 := by omega
        obtain ⟨j, hj, ej⟩ : ∃ j, j < vs.length ∧ (IntKind.i64.wrap ((gn.toNat : Nat) : Int)).tmod vs.length = (j : Nat) := ⟨_, Nat.mod_lt _ (by omega), by rw [w64_u8]; exact tmod_nat _ _⟩
        obtain ⟨c2, fr, ps, V, hk, c3⟩ := fi.gone hj
        have hj' : (j : Int) < vs.length := by omega
        have dJ := drop_vl hj
        have ge := good_erase fi.g j
        have le : (vs.eraseIdx j).length + 1 = vs.length := by rw [List.length_eraseIdx_of_lt hj]; omega
        have r1 : j * 2 + 2 ≤ vs.length * 2 := by omega
        obtain ⟨ws, hws⟩ : ∃ ws, ws = vs.eraseIdx j := ⟨_, rfl⟩
        rw [← hws] at c2 c3 hk ge le
        have lW : (bl (tabB ws)).length = 32 := by rw [bl_length]; exact tabB_length (goodV_len ge)
        have tW : List.take 32 (bl (tabB ws)) = bl (tabB ws) := List.take_of_length_le (by omega)
        have lR : (IV.int .i64 0 :: bl (tabB ws)).length = 33 := by rw [List.length_cons, lW]
        have tR : List.take 33 (IV.int .i64 0 :: bl (tabB ws)) = .int .i64 0 :: bl (tabB ws) := List.take_of_length_le (by omega)
        have sR : (IV.int .i64 0 :: bl (tabB ws)).all IV.scal = true := ptC_scal (0, tabB ws)
        have c4 := volsP_ok (tabB ws) (tabB_length (goodV_len ge))
        rw [decV_tab ge] at c4
        have lWv := vl_length ws
        have pWv := vl_pur ws
        have lP := ptL_length hk.h32
        rw [hk.len] at lP
        have sP := ptL_scal ps
        have pP := ptL_pur ps
        have hk1 := hk.n1
        have hk4 := hk.n4
        obtain ⟨n, hn⟩ : ∃ n, n = vs[j].blocks.length := ⟨_, rfl⟩
        obtain ⟨N, hN⟩ : ∃ N, N = vs[j].name := ⟨_, rfl⟩
        obtain ⟨B, hB⟩ : ∃ B, B = il vs[j].blocks := ⟨_, rfl⟩
        rw [← hn] at c3 lP dJ hk1 hk4
        rw [← hN] at c2 dJ
        rw [← hB] at dJ
        have tP : List.take ((n + 1) * 33) (ptL ps) = ptL ps := List.take_of_length_le (by omega)
        have wn : IntKind.i64.wrap (((n : Nat) : Int) + 1) = ((n + 1 : Nat) : Int) := by rw [IntKind.wrap_i64]; omega
        have wm : IntKind.i64.wrap (((many : Nat) : Int) - 1) = ((ws.length : Nat) : Int) := by rw [IntKind.wrap_i64]; omega
        rcases ownV_or ws with ⟨z0, f0⟩ | ⟨z0, f0⟩
        · have wz : ((ws.length : Nat) : Int) = 0 := by rw [z0]; rfl
          rw [f0] at c4
          repeat' (first | simp -implicitDefEqProofs (maxSteps := 2000000) only [k0, k1, k5, k6, k7, k8, kh5, lB, tB, hil', lV, pV, hv0', ej, hj', hj, dJ, r1, lW, tW, lR, tR, sR, lWv, pWv, lP, sP, pP, tP, wn, wm, wz, bl_scal, bl_allO, wk, act, asV, ↓reduceIte, Nat.reduceEqDiff, reduceCtorEq, Nat.reduceAdd, Nat.reduceLeDiff, Nat.reduceSub, Nat.reduceMul, List.reduceReplicate, Int.reduceEq, Int.reduceLT, Int.reduceLE, Int.reduceAdd, Int.reduceSub, Int.reduceMul, Nat.reduceLT, Int.reduceToNat] | ((first | ((with_reducible refine CallL.gate ?_); apply CallL.of) | ((with_reducible refine CallP.gate ?_); apply CallP.of)); (case h1 => (simp -implicitDefEqProofs (maxSteps := 2000000) only [k0, k1, k5, k6, k7, k8, kh5, lB, tB, hil', lV, pV, hv0', ej, hj', hj, dJ, r1, lW, tW, lR, tR, sR, lWv, pWv, lP, sP, pP, tP, wn, wm, wz, bl_scal, bl_allO, wk, act, asV, ↓reduceIte, Nat.reduceEqDiff, reduceCtorEq, Nat.reduceAdd, Nat.reduceLeDiff, Nat.reduceSub, Nat.reduceMul, List.reduceReplicate, Int.reduceEq, Int.reduceLT, Int.reduceLE, Int.reduceAdd, Int.reduceSub, Int.reduceMul, Nat.reduceLT, Int.reduceToNat]; first | done | (with_reducible rfl))); (case h2 => (first | exact c1 | exact c2 | exact c3 | exact c4 | exact wakesO_ok)); (case h3 => simp -implicitDefEqProofs (maxSteps := 2000000) only [k0, k1, k5, k6, k7, k8, kh5, lB, tB, hil', lV, pV, hv0', ej, hj', hj, dJ, r1, lW, tW, lR, tR, sR, lWv, pWv, lP, sP, pP, tP, wn, wm, wz, bl_scal, bl_allO, wk, act, asV, ↓reduceIte, Nat.reduceEqDiff, reduceCtorEq, Nat.reduceAdd, Nat.reduceLeDiff, Nat.reduceSub, Nat.reduceMul, List.reduceReplicate, Int.reduceEq, Int.reduceLT, Int.reduceLE, Int.reduceAdd, Int.reduceSub, Int.reduceMul, Nat.reduceLT, Int.reduceToNat])))
          done
        · rw [f0] at c4
          repeat' (first | simp -implicitDefEqProofs (maxSteps := 2000000) only [k0, k1, k5, k6, k7, k8, kh5, lB, tB, hil', lV, pV, hv0', ej, hj', hj, dJ, r1, lW, tW, lR, tR, sR, lWv, pWv, lP, sP, pP, tP, wn, wm, bl_scal, bl_allO, wk, act, asV, ↓reduceIte, Nat.reduceEqDiff, reduceCtorEq, Nat.reduceAdd, Nat.reduceLeDiff, Nat.reduceSub, Nat.reduceMul, List.reduceReplicate, Int.reduceEq, Int.reduceLT, Int.reduceLE, Int.reduceAdd, Int.reduceSub, Int.reduceMul, Nat.reduceLT, Int.reduceToNat] | ((first | ((with_reducible refine CallL.gate ?_); apply CallL.of) | ((with_reducible refine CallP.gate ?_); apply CallP.of)); (case h1 => (simp -implicitDefEqProofs (maxSteps := 2000000) only [k0, k1, k5, k6, k7, k8, kh5, lB, tB, hil', lV, pV, hv0', ej, hj', hj, dJ, r1, lW, tW, lR, tR, sR, lWv, pWv, lP, sP, pP, tP, wn, wm, bl_scal, bl_allO, wk, act, asV, ↓reduceIte, Nat.reduceEqDiff, reduceCtorEq, Nat.reduceAdd, Nat.reduceLeDiff, Nat.reduceSub, Nat.reduceMul, List.reduceReplicate, Int.reduceEq, Int.reduceLT, Int.reduceLE, Int.reduceAdd, Int.reduceSub, Int.reduceMul, Nat.reduceLT, Int.reduceToNat]; first | done | (with_reducible rfl))); (case h2 => (first | exact c1 | exact c2 | exact c3 | exact c4 | exact wakesO_ok)); (case h3 => simp -implicitDefEqProofs (maxSteps := 2000000) only [k0, k1, k5, k6, k7, k8, kh5, lB, tB, hil', lV, pV, hv0', ej, hj', hj, dJ, r1, lW, tW, lR, tR, sR, lWv, pWv, lP, sP, pP, tP, wn, wm, bl_scal, bl_allO, wk, act, asV, ↓reduceIte, Nat.reduceEqDiff, reduceCtorEq, Nat.reduceAdd, Nat.reduceLeDiff, Nat.reduceSub, Nat.reduceMul, List.reduceReplicate, Int.reduceEq, Int.reduceLT, Int.reduceLE, Int.reduceAdd, Int.reduceSub, Int.reduceMul, Nat.reduceLT, Int.reduceToNat])))
          done
end Go.Proofs.YtilbipknodpmmaaDoor
