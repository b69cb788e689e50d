/- Of the ops: writes held against writes; the statements' own example. -/
import Derived.Test.YtilbipknodpmmaaDoorO6
import Derived.Test.YtilbipknodpmmaaDoorE31
import Derived.Test.YtilbipknodpmmaaDoorM13
set_option linter.unusedVariables false
set_option linter.unusedSimpArgs false
set_option linter.unusedSectionVars false
set_option maxRecDepth 100000
set_option maxHeartbeats 8000000
namespace Go.Proofs.YtilbipknodpmmaaDoor
open Go.RowKit

def fillB (v : UInt8) : List UInt8 := List.replicate 32 v
theorem fillB_len (v : UInt8) : (fillB v).length = 32 := List.length_replicate
theorem fill_ok (v : UInt8) : RC Tryd.prog 43 [.int .u8 (v.toNat : Nat)] [.agg (bl (fillB v))] := by
  refine RC.of_wp c43 rfl ?_
  have zc := zs_cells
  simp -implicitDefEqProofs (maxSteps := 2000000) only [m43_1, m43_2, m43_3, m43_4, m43_5, m43_6, m43_r, m43_b, m43, zc, wk, act, asV, ↓reduceIte, Nat.reduceEqDiff, reduceCtorEq, Nat.reduceAdd, Nat.reduceLeDiff, Nat.reduceSub, Nat.reduceMul, List.reduceReplicate, Int.reduceEq, Int.reduceLT, Int.reduceLE, Int.reduceAdd, Int.reduceSub, Int.reduceMul, Nat.reduceLT, Int.reduceToNat]
  refine Wp_loop (fun m s => ∃ i v2 v3, i ≤ 32 ∧ m = 32 - i ∧ s.t 0 = .int .u8 (v.toNat : Nat) ∧ s.t 2 = .ptr 2 0 v2 ∧ s.h 2 = ⟨v2, true, true, false, bl (zs 32)⟩ ∧ s.t 3 = .ptr 3 0 v3 ∧ s.h 3 = ⟨v3, true, true, false, bl (List.replicate i v ++ zs (32 - i))⟩ ∧ s.t 4 = .int .i64 (i : Nat)) 32 ⟨0, _, _, by omega, rfl, rfl, rfl, rfl, rfl, rfl, rfl⟩ ?_
  rintro m s ⟨i, v2, v3, hi, rfl, k0, k2, kh2, k3, kh3, k4⟩
  by_cases hil : i < 32
  · have hil' : (i : Int) < 32 := by omega
    have wi : IntKind.i64.wrap (((i : Nat) : Int) + 1) = ((i + 1 : Nat) : Int) := by rw [IntKind.wrap_i64]; omega
    have e32 : 32 - i = (31 - i) + 1 := by omega
    rw [e32] at kh3
    have hg := grow1 (List.replicate i v) (31 - i) i (List.length_replicate) v
    have l0 : (bl (List.replicate i v ++ zs (31 - i + 1))).length = 32 := by rw [bl_length, List.length_append, List.length_replicate, zs, List.length_replicate]; omega
    have b1 : i + 1 ≤ 32 := by omega
    simp -implicitDefEqProofs (maxSteps := 2000000) only [k0, k2, kh2, k3, kh3, k4, hil', wi, hg, l0, b1, wk, act, asV, ↓reduceIte, Nat.reduceEqDiff, reduceCtorEq, Nat.reduceAdd, Nat.reduceLeDiff, Nat.reduceSub, Nat.reduceMul, List.reduceReplicate, Int.reduceEq, Int.reduceLT, Int.reduceLE, Int.reduceAdd, Int.reduceSub, Int.reduceMul, Nat.reduceLT, Int.reduceToNat]
    exact ⟨32 - (i + 1), by omega, i + 1, v2, v3, by omega, rfl, rfl, rfl, rfl, by rw [List.replicate_succ', show 32 - (i + 1) = 31 - i by omega], rfl⟩
  · obtain rfl : i = 32 := by omega
    have h32 : ((32 : Nat) : Int) = 32 := rfl
    have e0 : List.replicate 32 v ++ zs (32 - 32) = fillB v := List.append_nil _
    rw [e0] at kh3
    have l0 : (bl (fillB v)).length = 32 := by rw [bl_length, fillB_len]
    have t0 : List.take 32 (bl (fillB v)) = bl (fillB v) := List.take_of_length_le (by omega)
    have l1 : (bl (zs 32)).length = 32 := rfl
    have d1 : List.drop 32 (bl (zs 32)) = [] := rfl
    simp -implicitDefEqProofs (maxSteps := 2000000) only [k0, k2, kh2, k3, kh3, k4, h32, l0, t0, l1, d1, bl_scal, wk, act, asV, ↓reduceIte, Nat.reduceEqDiff, reduceCtorEq, Nat.reduceAdd, Nat.reduceLeDiff, Nat.reduceSub, Nat.reduceMul, List.reduceReplicate, Int.reduceEq, Int.reduceLT, Int.reduceLE, Int.reduceAdd, Int.reduceSub, Int.reduceMul, Nat.reduceLT, Int.reduceToNat]

def isEO : IV → Bool
  | .int _ _ => true
  | _ => false
theorem eqO_self : ∀ {cs : List IV}, cs.all isEO = true → eqL cs cs = some true
  | [], _ => rfl
  | .int k n :: cs, h => by
    rw [List.all_cons, Bool.and_eq_true] at h
    rw [eqL, eqO_self h.2]
    simp [eqC]
theorem ptL_drop : ∀ {ps : List (Int × List UInt8)} (h : ∀ p ∈ ps, p.2.length = 32) {i : Nat} (hi : i < ps.length), (ptL ps).drop (i * 33) = ptC ps[i] ++ (ptL ps).drop ((i + 1) * 33)
  | x :: xs, h, 0, hi => by
    have hx := ptC_length (h x (by simp))
    show ptL (x :: xs) = ptC x ++ _
    simp only [ptL, List.flatMap_cons]
    rw [show (0 + 1) * 33 = (ptC x).length by omega, List.drop_left]
  | x :: xs, h, i + 1, hi => by
    have hx := ptC_length (h x (by simp))
    have := ptL_drop (ps := xs) (fun y hy => h y (by simp [hy])) (i := i) (by simpa using hi)
    simp only [List.getElem_cons_succ, ptL, List.flatMap_cons] at this ⊢
    rw [show (i + 1) * 33 = (ptC x).length + i * 33 by omega, show (i + 1 + 1) * 33 = (ptC x).length + (i + 1) * 33 by omega, ← List.drop_drop, ← List.drop_drop, List.drop_left]
    exact this
def ab : List UInt8 := [97, 98]
def V1 : List Vol := [⟨ab, [1, 2]⟩]
def T1 : List UInt8 := tabB V1
def T0 : List UInt8 := tabB []
theorem T1_len : T1.length = 32 := by decide +kernel
theorem T0_len : T0.length = 32 := by decide +kernel
theorem dec_T1 : decV T1 = V1 := by decide +kernel
theorem dec_T0 : decV T0 = [] := by decide +kernel
theorem dec_zs : decV (zs 32) = [] := by decide +kernel
theorem mk1_E : mkE [] ab 2 = 0 := by decide +kernel
theorem mk1_P : mkP [] ab 2 = [(1, zs 32), (2, zs 32), (0, T1)] := by decide +kernel
theorem mk2_E : mkE V1 ab 1 = 16 := by decide +kernel
theorem wr1_E : plE V1 ab 1 = 0 := by decide +kernel
theorem wr1_P : plP V1 ab 1 = 2 := by decide +kernel
theorem wr2_E : plE V1 ab 2 = 17 := by decide +kernel
theorem pl0_E : plE V1 ab 0 = 0 := by decide +kernel
theorem pl0_P : plP V1 ab 0 = 1 := by decide +kernel
theorem gn1_E : gnE V1 ab = 0 := by decide +kernel
theorem gn1_P : gnP V1 ab = [(0, T0)] := by decide +kernel
theorem ownV1 : ownV V1 = .own 1 2 (vl V1) := rfl
theorem wakesO_ok : RC Tryd.prog 12 [] [.bool true] := by
  refine RC.of_wp c12 rfl ?_
  have hn : ab.length < 2 ^ 63 := by decide
  have zc := zs_cells
  have c1 := makeP_ok (zs 32) ab 2 rfl hn
  rw [dec_zs, mk1_E, mk1_P] at c1
  have l7 : (fillB 7).length = 32 := rfl
  have c2 := fill_ok 7
  have c3 := writeP_ok T1 ab (fillB 7) 1 T1_len hn l7
  have c4 := writeP_ok T1 ab (fillB 7) 2 T1_len hn l7
  unfold wrR wrE at c3 c4
  rw [dec_T1, wr1_E, wr1_P, if_pos rfl] at c3
  rw [dec_T1, wr2_E, if_neg (by decide)] at c4
  have c5 := goneP_ok T1 ab T1_len hn
  rw [dec_T1, gn1_E, gn1_P] at c5
  have c6 := makeP_ok T1 ab 1 T1_len hn
  rw [dec_T1, mk2_E] at c6
  have c7 := placeP_ok T1 ab 0 T1_len hn
  rw [dec_T1, pl0_E, pl0_P] at c7
  have c8 := volsP_ok T0 T0_len
  rw [dec_T0, show ownV [] = .sl .full 0 [] from rfl] at c8
  have c9 := volsP_ok T1 T1_len
  rw [dec_T1, ownV1] at c9
  have o1 : outP 0 [(1, zs 32), (2, zs 32), (0, T1)] = .own 3 33 (ptC (1, zs 32) ++ (ptC (2, zs 32) ++ ptC (0, T1))) := by
    unfold outP; rw [if_pos rfl]; simp [ptL]
  have o2 : outP 0 [(0, T0)] = .own 1 33 (ptC (0, T0)) := by unfold outP; rw [if_pos rfl]; simp [ptL]
  have o3 : ∀ ps, outP 16 ps = .sl .full 0 [] := fun ps => if_neg (by decide)
  rw [o1] at c1
  rw [o2] at c5
  rw [o3] at c6
  have abd : ab = [97, 98] := rfl
  have lz : (bl (zs 32)).length = 32 := rfl
  have dz : List.drop 32 (bl (zs 32)) = [] := rfl
  have lT1 : (bl T1).length = 32 := by rw [bl_length, T1_len]
  have tT1 : List.take 32 (bl T1) = bl T1 := List.take_of_length_le (by omega)
  have dT1 : List.drop 32 (bl T1) = [] := List.drop_of_length_le (by omega)
  have lT0 : (bl T0).length = 32 := by rw [bl_length, T0_len]
  have tT0 : List.take 32 (bl T0) = bl T0 := List.take_of_length_le (by omega)
  obtain ⟨W, hW⟩ : ∃ W, W = ptC (1, zs 32) ++ (ptC (2, zs 32) ++ ptC (0, T1)) := ⟨_, rfl⟩
  have p1 : (ptC (1, zs 32)).length = 33 := ptC_length rfl
  have p2 : (ptC (2, zs 32)).length = 33 := ptC_length rfl
  have p3 : (ptC (0, T1)).length = 33 := ptC_length T1_len
  have lW : W.length = 99 := by rw [hW]; simp only [List.length_append, p1, p2, p3]
  have w0 : List.take 1 W = [.int .i64 1] := by rw [hW]; rfl
  have w1 : List.take 1 (List.drop 33 W) = [.int .i64 2] := by
    rw [hW, ← p1, List.drop_left]; rfl
  have d66 : List.drop 66 W = ptC (0, T1) := by
    rw [hW, show 66 = (ptC (1, zs 32)).length + 33 by omega, ← List.drop_drop, List.drop_left, ← p2, List.drop_left]
  have w2 : List.take 1 (List.drop 66 W) = [.int .i64 0] := by rw [d66]; rfl
  have w3 : List.take 32 (List.drop 67 W) = bl T1 := by
    rw [show 67 = 66 + 1 by rfl, ← List.drop_drop, d66]; exact tT1
  have tW : List.take 99 W = W := List.take_of_length_le (by omega)
  rw [← hW] at c1
  have g0 : List.drop 1 (ptC (0, T0)) = bl T0 := rfl
  have g1 : (ptC (0, T0)).length = 33 := ptC_length T0_len
  have q0 : List.take 1 (ptC (2, fillB 7)) = [.int .i64 2] := rfl
  have q1 : (ptC (2, fillB 7)).length = 33 := ptC_length l7
  have q2 := ptC_pur (2, fillB 7)
  have sW : W.all IV.scal = true := by rw [hW, List.all_append, List.all_append, ptC_scal, ptC_scal, ptC_scal]; rfl
  have s5 := ptC_scal (0, T0)
  have t5 : List.take 33 (ptC (0, T0)) = ptC (0, T0) := List.take_of_length_le (by omega)
  have lv : (vl V1).length = 2 := rfl
  have u7 : ((UInt8.toNat 7 : Nat) : Int) = 7 := rfl
  rw [u7] at c2
  rw [abd] at c1 c3 c4 c5 c6 c7
  have l7' : (bl (fillB 7)).length = 32 := by rw [bl_length, l7]
  repeat' (first | simp -implicitDefEqProofs (maxSteps := 2000000) only [m12_1, m12_2, m12_3, m12_4, m12_5, m12_6, m12_7, m12_8, m12_9, m12_10, m12_11, m12_12, m12_13, m12_14, m12_15, m12_16, m12_r, m12_b, m12, zc, lz, dz, lW, w0, w1, w2, w3, tW, lT1, tT1, dT1, lT0, tT0, g0, g1, q0, q1, q2, sW, s5, t5, lv, l7', bl_scal, bl_allO, wk, act, asV, ↓reduceIte, Nat.reduceEqDiff, reduceCtorEq, Nat.reduceAdd, Nat.reduceLeDiff, Nat.reduceSub, Nat.reduceMul, List.reduceReplicate, Int.reduceEq, Int.reduceLT, Int.reduceLE, Int.reduceAdd, Int.reduceSub, Int.reduceMul, Nat.reduceLT, Int.reduceToNat] | ((first | ((with_reducible refine CallL.gate ?_); apply CallL.of) | ((with_reducible refine CallP.gate ?_); apply CallP.of)); (case h1 => (simp -implicitDefEqProofs (maxSteps := 2000000) only [m12_1, m12_2, m12_3, m12_4, m12_5, m12_6, m12_7, m12_8, m12_9, m12_10, m12_11, m12_12, m12_13, m12_14, m12_15, m12_16, m12_r, m12_b, m12, zc, lz, dz, lW, w0, w1, w2, w3, tW, lT1, tT1, dT1, lT0, tT0, g0, g1, q0, q1, q2, sW, s5, t5, lv, l7', bl_scal, bl_allO, wk, act, asV, ↓reduceIte, Nat.reduceEqDiff, reduceCtorEq, Nat.reduceAdd, Nat.reduceLeDiff, Nat.reduceSub, Nat.reduceMul, List.reduceReplicate, Int.reduceEq, Int.reduceLT, Int.reduceLE, Int.reduceAdd, Int.reduceSub, Int.reduceMul, Nat.reduceLT, Int.reduceToNat]; first | done | (with_reducible rfl))); (case h2 => (first | exact c1 | exact c2 | exact c3 | exact c4 | exact c5 | exact c6 | exact c7 | exact c8 | exact c9)); (case h3 => simp -implicitDefEqProofs (maxSteps := 2000000) only [m12_1, m12_2, m12_3, m12_4, m12_5, m12_6, m12_7, m12_8, m12_9, m12_10, m12_11, m12_12, m12_13, m12_14, m12_15, m12_16, m12_r, m12_b, m12, zc, lz, dz, lW, w0, w1, w2, w3, tW, lT1, tT1, dT1, lT0, tT0, g0, g1, q0, q1, q2, sW, s5, t5, lv, l7', bl_scal, bl_allO, wk, act, asV, ↓reduceIte, Nat.reduceEqDiff, reduceCtorEq, Nat.reduceAdd, Nat.reduceLeDiff, Nat.reduceSub, Nat.reduceMul, List.reduceReplicate, Int.reduceEq, Int.reduceLT, Int.reduceLE, Int.reduceAdd, Int.reduceSub, Int.reduceMul, Nat.reduceLT, Int.reduceToNat])))
end Go.Proofs.YtilbipknodpmmaaDoor
