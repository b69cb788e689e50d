/- The law MacKeys. -/
import Derived.Test.YtlbilkldjhhopaaH4
import Derived.Test.YtlbilkldjhhopaaE31
import Derived.Test.YtlbilkldjhhopaaM10
set_option linter.unusedVariables false
set_option linter.unusedSimpArgs false
set_option linter.unusedSectionVars false
set_option maxRecDepth 100000
set_option maxHeartbeats 8000000
namespace Go.Proofs.Ytlbilkldjhhopaa
open Go.RowKit

theorem blockB_sha {k : List UInt8} (h : 64 < k.length) : blockB (shaB k) = blockB k := by
  have e1 : keyB k = shaB k := if_pos h
  have e2 : keyB (shaB k) = shaB k := if_neg (by rw [show (shaB k).length = 32 from digest_length _]; omega)
  rw [blockB, blockB, e1, e2]
theorem blockB_zeros {k : List UInt8} {j : Nat} (h : k.length + j ≤ 64) : blockB (k ++ zb j) = blockB k := by
  have e1 : keyB k = k := if_neg (by omega)
  have e2 : keyB (k ++ zb j) = k ++ zb j := if_neg (by rw [List.length_append, zb_len]; omega)
  have e3 : zb j ++ zb (64 - (k.length + j)) = zb (64 - k.length) := by
    rw [zb, zb, zb, List.replicate_append_replicate, show j + (64 - (k.length + j)) = 64 - k.length by omega]
  rw [blockB, blockB, e1, e2, List.length_append, zb_len, List.append_assoc, e3]
theorem macB_block {k k' : List UInt8} (h : blockB k = blockB k') (m : List UInt8) : macB k m = macB k' m := by rw [macB, macB, h]
theorem two_part (a b : List UInt8) : joined [(Fl.plain, a), (Fl.plain, b)] = a ++ b := by simp [joined]
theorem repl_zb (j : Nat) : repl j [IV.int .u8 0] = bl (zb j) := by
  induction j with
  | zero => rfl
  | succ j ih => simp only [repl, List.replicate_succ, List.flatten_cons] at ih ⊢; rw [ih]; rfl

theorem macKeys (key b : List UInt8) (n0 n1 : UInt8) (hk : key.length < 2 ^ 63) (hb : b.length < 2 ^ 63) :
    RC Try.prog 8 [.sl .plain key.length (bl key), .sl .plain b.length (bl b), .agg [.int .u8 (n0.toNat : Int), .int .u8 (n1.toNat : Int)]] [.bool true] := by
  refine RC.of_wp c8 rfl ?_
  by_cases h1 : (200 : Int) < (key.length : Nat)
  · repeat' (first | simp -implicitDefEqProofs (maxSteps := 2000000) only [m8_1, m8_2, m8_3, m8_4, m8_5, m8_6, m8_7, m8_8, m8_9, m8_10, m8_11, m8_12, m8_13, m8_14, m8_15, m8_r, m8_b, m8, h1, wk, act, asV, ↓reduceIte, Nat.reduceEqDiff, reduceCtorEq, Nat.reduceAdd, Nat.reduceLeDiff, Nat.reduceSub, Nat.reduceMul, List.reduceReplicate, Int.reduceEq, Int.reduceLT, Int.reduceLE, Int.reduceAdd, Int.reduceSub, Int.reduceMul, Nat.reduceLT, Int.reduceToNat] | ((with_reducible refine CallL.gate ?_); refine CallL.of (by simp -implicitDefEqProofs (maxSteps := 2000000) only [m8_1, m8_2, m8_3, m8_4, m8_5, m8_6, m8_7, m8_8, m8_9, m8_10, m8_11, m8_12, m8_13, m8_14, m8_15, m8_r, m8_b, m8, h1, wk, act, asV, ↓reduceIte, Nat.reduceEqDiff, reduceCtorEq, Nat.reduceAdd, Nat.reduceLeDiff, Nat.reduceSub, Nat.reduceMul, List.reduceReplicate, Int.reduceEq, Int.reduceLT, Int.reduceLE, Int.reduceAdd, Int.reduceSub, Int.reduceMul, Nat.reduceLT, Int.reduceToNat]; first | done | (with_reducible rfl)) (by first | exact wakesM_ok) (by simp -implicitDefEqProofs (maxSteps := 2000000) only [m8_1, m8_2, m8_3, m8_4, m8_5, m8_6, m8_7, m8_8, m8_9, m8_10, m8_11, m8_12, m8_13, m8_14, m8_15, m8_r, m8_b, m8, h1, wk, act, asV, ↓reduceIte, Nat.reduceEqDiff, reduceCtorEq, Nat.reduceAdd, Nat.reduceLeDiff, Nat.reduceSub, Nat.reduceMul, List.reduceReplicate, Int.reduceEq, Int.reduceLT, Int.reduceLE, Int.reduceAdd, Int.reduceSub, Int.reduceMul, Nat.reduceLT, Int.reduceToNat]) ?_) | ((with_reducible refine CallP.gate ?_); refine CallP.of (by simp -implicitDefEqProofs (maxSteps := 2000000) only [m8_1, m8_2, m8_3, m8_4, m8_5, m8_6, m8_7, m8_8, m8_9, m8_10, m8_11, m8_12, m8_13, m8_14, m8_15, m8_r, m8_b, m8, h1, wk, act, asV, ↓reduceIte, Nat.reduceEqDiff, reduceCtorEq, Nat.reduceAdd, Nat.reduceLeDiff, Nat.reduceSub, Nat.reduceMul, List.reduceReplicate, Int.reduceEq, Int.reduceLT, Int.reduceLE, Int.reduceAdd, Int.reduceSub, Int.reduceMul, Nat.reduceLT, Int.reduceToNat]; first | done | (with_reducible rfl)) (by first | exact wakesM_ok) (by simp -implicitDefEqProofs (maxSteps := 2000000) only [m8_1, m8_2, m8_3, m8_4, m8_5, m8_6, m8_7, m8_8, m8_9, m8_10, m8_11, m8_12, m8_13, m8_14, m8_15, m8_r, m8_b, m8, h1, wk, act, asV, ↓reduceIte, Nat.reduceEqDiff, reduceCtorEq, Nat.reduceAdd, Nat.reduceLeDiff, Nat.reduceSub, Nat.reduceMul, List.reduceReplicate, Int.reduceEq, Int.reduceLT, Int.reduceLE, Int.reduceAdd, Int.reduceSub, Int.reduceMul, Nat.reduceLT, Int.reduceToNat]) ?_))
  by_cases h2 : (500 : Int) < (b.length : Nat)
  · repeat' (first | simp -implicitDefEqProofs (maxSteps := 2000000) only [m8_1, m8_2, m8_3, m8_4, m8_5, m8_6, m8_7, m8_8, m8_9, m8_10, m8_11, m8_12, m8_13, m8_14, m8_15, m8_r, m8_b, m8, h1, h2, wk, act, asV, ↓reduceIte, Nat.reduceEqDiff, reduceCtorEq, Nat.reduceAdd, Nat.reduceLeDiff, Nat.reduceSub, Nat.reduceMul, List.reduceReplicate, Int.reduceEq, Int.reduceLT, Int.reduceLE, Int.reduceAdd, Int.reduceSub, Int.reduceMul, Nat.reduceLT, Int.reduceToNat] | ((with_reducible refine CallL.gate ?_); refine CallL.of (by simp -implicitDefEqProofs (maxSteps := 2000000) only [m8_1, m8_2, m8_3, m8_4, m8_5, m8_6, m8_7, m8_8, m8_9, m8_10, m8_11, m8_12, m8_13, m8_14, m8_15, m8_r, m8_b, m8, h1, h2, wk, act, asV, ↓reduceIte, Nat.reduceEqDiff, reduceCtorEq, Nat.reduceAdd, Nat.reduceLeDiff, Nat.reduceSub, Nat.reduceMul, List.reduceReplicate, Int.reduceEq, Int.reduceLT, Int.reduceLE, Int.reduceAdd, Int.reduceSub, Int.reduceMul, Nat.reduceLT, Int.reduceToNat]; first | done | (with_reducible rfl)) (by first | exact wakesM_ok) (by simp -implicitDefEqProofs (maxSteps := 2000000) only [m8_1, m8_2, m8_3, m8_4, m8_5, m8_6, m8_7, m8_8, m8_9, m8_10, m8_11, m8_12, m8_13, m8_14, m8_15, m8_r, m8_b, m8, h1, h2, wk, act, asV, ↓reduceIte, Nat.reduceEqDiff, reduceCtorEq, Nat.reduceAdd, Nat.reduceLeDiff, Nat.reduceSub, Nat.reduceMul, List.reduceReplicate, Int.reduceEq, Int.reduceLT, Int.reduceLE, Int.reduceAdd, Int.reduceSub, Int.reduceMul, Nat.reduceLT, Int.reduceToNat]) ?_) | ((with_reducible refine CallP.gate ?_); refine CallP.of (by simp -implicitDefEqProofs (maxSteps := 2000000) only [m8_1, m8_2, m8_3, m8_4, m8_5, m8_6, m8_7, m8_8, m8_9, m8_10, m8_11, m8_12, m8_13, m8_14, m8_15, m8_r, m8_b, m8, h1, h2, wk, act, asV, ↓reduceIte, Nat.reduceEqDiff, reduceCtorEq, Nat.reduceAdd, Nat.reduceLeDiff, Nat.reduceSub, Nat.reduceMul, List.reduceReplicate, Int.reduceEq, Int.reduceLT, Int.reduceLE, Int.reduceAdd, Int.reduceSub, Int.reduceMul, Nat.reduceLT, Int.reduceToNat]; first | done | (with_reducible rfl)) (by first | exact wakesM_ok) (by simp -implicitDefEqProofs (maxSteps := 2000000) only [m8_1, m8_2, m8_3, m8_4, m8_5, m8_6, m8_7, m8_8, m8_9, m8_10, m8_11, m8_12, m8_13, m8_14, m8_15, m8_r, m8_b, m8, h1, h2, wk, act, asV, ↓reduceIte, Nat.reduceEqDiff, reduceCtorEq, Nat.reduceAdd, Nat.reduceLeDiff, Nat.reduceSub, Nat.reduceMul, List.reduceReplicate, Int.reduceEq, Int.reduceLT, Int.reduceLE, Int.reduceAdd, Int.reduceSub, Int.reduceMul, Nat.reduceLT, Int.reduceToNat]) ?_))
  have hn0 : n0.toNat < 256 := n0.toNat_lt
  have hn1 : n1.toNat < 256 := n1.toNat_lt
  obtain ⟨k, hkk⟩ : ∃ k, k = n0.toNat % (b.length + 1) := ⟨_, rfl⟩
  have hkn : k ≤ b.length := by have := Nat.mod_lt n0.toNat (show 0 < b.length + 1 by omega); omega
  have wc : IntKind.i64.wrap ((n0.toNat : Nat) : Int) = ((n0.toNat : Nat) : Int) := by rw [IntKind.wrap_i64]; omega
  have wl' : IntKind.i64.wrap (((b.length : Nat) : Int) + 1) = ((b.length + 1 : Nat) : Int) := by rw [IntKind.wrap_i64]; omega
  have wm : Int.tmod ((n0.toNat : Nat) : Int) ((b.length + 1 : Nat) : Int) = ((k : Nat) : Int) := by rw [← Int.ofNat_tmod, hkk]
  have wn : ¬ ((b.length + 1 : Nat) : Int) = 0 := by omega
  have c1 := mac_ok .plain .full (by decide) (by decide) key [(.plain, b)] (by omega) (by simp) (by rw [one_part]; omega)
  have c2 := mac_ok .plain .full (by decide) (by decide) key [(.plain, b.take k), (.plain, b.drop k)] (by omega) (by simp) (by rw [two_part, List.take_append_drop]; omega)
  have ep1 : pl [(Fl.plain, b)] = [.sl .plain b.length (bl b)] := rfl
  have ep2 : pl [(Fl.plain, b.take k), (Fl.plain, b.drop k)] = [.sl .plain k (List.take k (bl b)), .sl .plain (b.length - k) (List.drop k (bl b))] := by
    rw [pl, List.map_cons, List.map_cons, List.map_nil, List.length_take, List.length_drop, ← bl_take, ← bl_drop, Nat.min_eq_left hkn]
  rw [one_part, ep1, List.length_cons, List.length_nil] at c1
  rw [two_part, List.take_append_drop, ep2, List.length_cons, List.length_cons, List.length_nil] at c2
  have dM := macB_length key b
  have tb := take_bl b
  have hlb : (bl b).length = b.length := bl_length b
  have tk := take_bl key
  have hlk : (bl key).length = key.length := bl_length key
  have r1 : roomy key.length 1 = true := roomyB (by omega)
  by_cases h64 : (64 : Int) < (key.length : Nat)
  · have h64' : 64 < key.length := by omega
    have cs := sum_ok .full (by decide) [(.plain, key)] (by simp) (by rw [one_part]; omega)
    have epk : pl [(Fl.plain, key)] = [.sl .plain key.length (bl key)] := rfl
    rw [one_part, epk, List.length_cons, List.length_nil] at cs
    have dl : (shaB key).length = 32 := digest_length _
    have c3 := mac_ok .plain .full (by decide) (by decide) (shaB key) [(.plain, b)] (by omega) (by simp) (by rw [one_part]; omega)
    rw [one_part, ep1, List.length_cons, List.length_nil, macB_block (blockB_sha h64') b, dl] at c3
    obtain ⟨G, hG⟩ : ∃ G, G = shaB key := ⟨_, rfl⟩
    obtain ⟨M, hM⟩ : ∃ G, G = macB key b := ⟨_, rfl⟩
    rw [← hG] at cs c3 dl
    rw [← hM] at c1 c2 c3 dM
    have x1 : List.take 32 (bl G) = bl G := List.take_of_length_le (by rw [bl_length, dl]; exact Nat.le_refl _)
    have x2 : List.drop 32 (bl G) = [] := List.drop_of_length_le (by rw [bl_length, dl]; exact Nat.le_refl _)
    have x3 : (bl G).length = 32 := by rw [bl_length, dl]
    have y1 : List.take 32 (bl M) = bl M := List.take_of_length_le (by rw [bl_length, dM]; exact Nat.le_refl _)
    have y2 : List.drop 32 (bl M) = [] := List.drop_of_length_le (by rw [bl_length, dM]; exact Nat.le_refl _)
    have y3 : (bl M).length = 32 := by rw [bl_length, dM]
    have q1 := eqL_by M M rfl
    rw [decide_eq_true rfl] at q1
    have f1 := fitR_by dM
    repeat' (first | simp -implicitDefEqProofs (maxSteps := 2000000) only [m8_1, m8_2, m8_3, m8_4, m8_5, m8_6, m8_7, m8_8, m8_9, m8_10, m8_11, m8_12, m8_13, m8_14, m8_15, m8_r, m8_b, m8, h1, h2, h64, wc, wl', wm, wn, hkn, tb, hlb, x1, x2, x3, y1, y2, y3, q1, f1, bl_scal, bl_pur, wk, act, asV, ↓reduceIte, Nat.reduceEqDiff, reduceCtorEq, Nat.reduceAdd, Nat.reduceLeDiff, Nat.reduceSub, Nat.reduceMul, List.reduceReplicate, Int.reduceEq, Int.reduceLT, Int.reduceLE, Int.reduceAdd, Int.reduceSub, Int.reduceMul, Nat.reduceLT, Int.reduceToNat] | ((with_reducible refine CallL.gate ?_); refine CallL.of (by simp -implicitDefEqProofs (maxSteps := 2000000) only [m8_1, m8_2, m8_3, m8_4, m8_5, m8_6, m8_7, m8_8, m8_9, m8_10, m8_11, m8_12, m8_13, m8_14, m8_15, m8_r, m8_b, m8, h1, h2, h64, wc, wl', wm, wn, hkn, tb, hlb, x1, x2, x3, y1, y2, y3, q1, f1, bl_scal, bl_pur, wk, act, asV, ↓reduceIte, Nat.reduceEqDiff, reduceCtorEq, Nat.reduceAdd, Nat.reduceLeDiff, Nat.reduceSub, Nat.reduceMul, List.reduceReplicate, Int.reduceEq, Int.reduceLT, Int.reduceLE, Int.reduceAdd, Int.reduceSub, Int.reduceMul, Nat.reduceLT, Int.reduceToNat]; first | done | (with_reducible rfl)) (by first | exact c1 | exact c2 | exact c3 | exact cs | exact wakesM_ok) (by simp -implicitDefEqProofs (maxSteps := 2000000) only [m8_1, m8_2, m8_3, m8_4, m8_5, m8_6, m8_7, m8_8, m8_9, m8_10, m8_11, m8_12, m8_13, m8_14, m8_15, m8_r, m8_b, m8, h1, h2, h64, wc, wl', wm, wn, hkn, tb, hlb, x1, x2, x3, y1, y2, y3, q1, f1, bl_scal, bl_pur, wk, act, asV, ↓reduceIte, Nat.reduceEqDiff, reduceCtorEq, Nat.reduceAdd, Nat.reduceLeDiff, Nat.reduceSub, Nat.reduceMul, List.reduceReplicate, Int.reduceEq, Int.reduceLT, Int.reduceLE, Int.reduceAdd, Int.reduceSub, Int.reduceMul, Nat.reduceLT, Int.reduceToNat]) ?_) | ((with_reducible refine CallP.gate ?_); refine CallP.of (by simp -implicitDefEqProofs (maxSteps := 2000000) only [m8_1, m8_2, m8_3, m8_4, m8_5, m8_6, m8_7, m8_8, m8_9, m8_10, m8_11, m8_12, m8_13, m8_14, m8_15, m8_r, m8_b, m8, h1, h2, h64, wc, wl', wm, wn, hkn, tb, hlb, x1, x2, x3, y1, y2, y3, q1, f1, bl_scal, bl_pur, wk, act, asV, ↓reduceIte, Nat.reduceEqDiff, reduceCtorEq, Nat.reduceAdd, Nat.reduceLeDiff, Nat.reduceSub, Nat.reduceMul, List.reduceReplicate, Int.reduceEq, Int.reduceLT, Int.reduceLE, Int.reduceAdd, Int.reduceSub, Int.reduceMul, Nat.reduceLT, Int.reduceToNat]; first | done | (with_reducible rfl)) (by first | exact c1 | exact c2 | exact c3 | exact cs | exact wakesM_ok) (by simp -implicitDefEqProofs (maxSteps := 2000000) only [m8_1, m8_2, m8_3, m8_4, m8_5, m8_6, m8_7, m8_8, m8_9, m8_10, m8_11, m8_12, m8_13, m8_14, m8_15, m8_r, m8_b, m8, h1, h2, h64, wc, wl', wm, wn, hkn, tb, hlb, x1, x2, x3, y1, y2, y3, q1, f1, bl_scal, bl_pur, wk, act, asV, ↓reduceIte, Nat.reduceEqDiff, reduceCtorEq, Nat.reduceAdd, Nat.reduceLeDiff, Nat.reduceSub, Nat.reduceMul, List.reduceReplicate, Int.reduceEq, Int.reduceLT, Int.reduceLE, Int.reduceAdd, Int.reduceSub, Int.reduceMul, Nat.reduceLT, Int.reduceToNat]) ?_))
  · obtain ⟨j, hj⟩ : ∃ j, j = n1.toNat % (65 - key.length) := ⟨_, rfl⟩
    have hj64 : key.length + j ≤ 64 := by have := Nat.mod_lt n1.toNat (show 0 < 65 - key.length by omega); omega
    have v1 : IntKind.i64.wrap ((n1.toNat : Nat) : Int) = ((n1.toNat : Nat) : Int) := by rw [IntKind.wrap_i64]; omega
    have v2 : IntKind.i64.wrap (65 - ((key.length : Nat) : Int)) = ((65 - key.length : Nat) : Int) := by rw [IntKind.wrap_i64]; omega
    have v3 : Int.tmod ((n1.toNat : Nat) : Int) ((65 - key.length : Nat) : Int) = ((j : Nat) : Int) := by rw [← Int.ofNat_tmod, hj]
    have v4 : ¬ ((65 - key.length : Nat) : Int) = 0 := by omega
    have r2 : roomy (key.length + j) 1 = true := roomyB (by omega)
    have zj := repl_zb j
    have c3 := mac_ok .plain .full (by decide) (by decide) (key ++ zb j) [(.plain, b)] (by rw [List.length_append, zb_len]; omega) (by simp) (by rw [one_part]; omega)
    have c4 := kblock_ok .plain (by decide) (key ++ zb j) (by rw [List.length_append, zb_len]; omega)
    have c5 := kblock_ok .plain (by decide) key (by omega)
    rw [blockB_zeros hj64, List.length_append, zb_len, bl_append] at c4
    rw [one_part, ep1, List.length_cons, List.length_nil, macB_block (blockB_zeros hj64) b, List.length_append, zb_len, bl_append] at c3
    have hkj : (bl key ++ bl (zb j)).length = key.length + j := by rw [List.length_append, bl_length, bl_length, zb_len]
    have tkj : List.take (key.length + j) (bl key ++ bl (zb j)) = bl key ++ bl (zb j) := List.take_of_length_le (by omega)
    have pkj : IV.purL (bl key ++ bl (zb j)) = true := by rw [← bl_append]; exact bl_pur _
    have dB := blockB_length key
    obtain ⟨M, hM⟩ : ∃ G, G = macB key b := ⟨_, rfl⟩
    obtain ⟨B, hB⟩ : ∃ G, G = blockB key := ⟨_, rfl⟩
    obtain ⟨Zj, hZj⟩ : ∃ G, G = bl (zb j) := ⟨_, rfl⟩
    rw [← hM] at c1 c2 c3 dM
    rw [← hB] at c4 c5 dB
    rw [← hZj] at c3 c4 zj hkj tkj pkj
    have y1 : List.take 32 (bl M) = bl M := List.take_of_length_le (by rw [bl_length, dM]; exact Nat.le_refl _)
    have y2 : List.drop 32 (bl M) = [] := List.drop_of_length_le (by rw [bl_length, dM]; exact Nat.le_refl _)
    have y3 : (bl M).length = 32 := by rw [bl_length, dM]
    have q1 := eqL_by M M rfl
    have q2 := eqL_by B B rfl
    rw [decide_eq_true rfl] at q1 q2
    have f1 := fitR_by dM
    have f2 := fitR_by dB
    repeat' (first | simp -implicitDefEqProofs (maxSteps := 2000000) only [m8_1, m8_2, m8_3, m8_4, m8_5, m8_6, m8_7, m8_8, m8_9, m8_10, m8_11, m8_12, m8_13, m8_14, m8_15, m8_r, m8_b, m8, h1, h2, h64, wc, wl', wm, wn, hkn, tb, hlb, tk, hlk, r1, r2, v1, v2, v3, v4, zj, hkj, tkj, pkj, y1, y2, y3, q1, q2, f1, f2, bl_scal, bl_pur, wk, act, asV, ↓reduceIte, Nat.reduceEqDiff, reduceCtorEq, Nat.reduceAdd, Nat.reduceLeDiff, Nat.reduceSub, Nat.reduceMul, List.reduceReplicate, Int.reduceEq, Int.reduceLT, Int.reduceLE, Int.reduceAdd, Int.reduceSub, Int.reduceMul, Nat.reduceLT, Int.reduceToNat] | ((with_reducible refine CallL.gate ?_); refine CallL.of (by simp -implicitDefEqProofs (maxSteps := 2000000) only [m8_1, m8_2, m8_3, m8_4, m8_5, m8_6, m8_7, m8_8, m8_9, m8_10, m8_11, m8_12, m8_13, m8_14, m8_15, m8_r, m8_b, m8, h1, h2, h64, wc, wl', wm, wn, hkn, tb, hlb, tk, hlk, r1, r2, v1, v2, v3, v4, zj, hkj, tkj, pkj, y1, y2, y3, q1, q2, f1, f2, bl_scal, bl_pur, wk, act, asV, ↓reduceIte, Nat.reduceEqDiff, reduceCtorEq, Nat.reduceAdd, Nat.reduceLeDiff, Nat.reduceSub, Nat.reduceMul, List.reduceReplicate, Int.reduceEq, Int.reduceLT, Int.reduceLE, Int.reduceAdd, Int.reduceSub, Int.reduceMul, Nat.reduceLT, Int.reduceToNat]; first | done | (with_reducible rfl)) (by first | exact c1 | exact c2 | exact c3 | exact c4 | exact c5 | exact wakesM_ok) (by simp -implicitDefEqProofs (maxSteps := 2000000) only [m8_1, m8_2, m8_3, m8_4, m8_5, m8_6, m8_7, m8_8, m8_9, m8_10, m8_11, m8_12, m8_13, m8_14, m8_15, m8_r, m8_b, m8, h1, h2, h64, wc, wl', wm, wn, hkn, tb, hlb, tk, hlk, r1, r2, v1, v2, v3, v4, zj, hkj, tkj, pkj, y1, y2, y3, q1, q2, f1, f2, bl_scal, bl_pur, wk, act, asV, ↓reduceIte, Nat.reduceEqDiff, reduceCtorEq, Nat.reduceAdd, Nat.reduceLeDiff, Nat.reduceSub, Nat.reduceMul, List.reduceReplicate, Int.reduceEq, Int.reduceLT, Int.reduceLE, Int.reduceAdd, Int.reduceSub, Int.reduceMul, Nat.reduceLT, Int.reduceToNat]) ?_) | ((with_reducible refine CallP.gate ?_); refine CallP.of (by simp -implicitDefEqProofs (maxSteps := 2000000) only [m8_1, m8_2, m8_3, m8_4, m8_5, m8_6, m8_7, m8_8, m8_9, m8_10, m8_11, m8_12, m8_13, m8_14, m8_15, m8_r, m8_b, m8, h1, h2, h64, wc, wl', wm, wn, hkn, tb, hlb, tk, hlk, r1, r2, v1, v2, v3, v4, zj, hkj, tkj, pkj, y1, y2, y3, q1, q2, f1, f2, bl_scal, bl_pur, wk, act, asV, ↓reduceIte, Nat.reduceEqDiff, reduceCtorEq, Nat.reduceAdd, Nat.reduceLeDiff, Nat.reduceSub, Nat.reduceMul, List.reduceReplicate, Int.reduceEq, Int.reduceLT, Int.reduceLE, Int.reduceAdd, Int.reduceSub, Int.reduceMul, Nat.reduceLT, Int.reduceToNat]; first | done | (with_reducible rfl)) (by first | exact c1 | exact c2 | exact c3 | exact c4 | exact c5 | exact wakesM_ok) (by simp -implicitDefEqProofs (maxSteps := 2000000) only [m8_1, m8_2, m8_3, m8_4, m8_5, m8_6, m8_7, m8_8, m8_9, m8_10, m8_11, m8_12, m8_13, m8_14, m8_15, m8_r, m8_b, m8, h1, h2, h64, wc, wl', wm, wn, hkn, tb, hlb, tk, hlk, r1, r2, v1, v2, v3, v4, zj, hkj, tkj, pkj, y1, y2, y3, q1, q2, f1, f2, bl_scal, bl_pur, wk, act, asV, ↓reduceIte, Nat.reduceEqDiff, reduceCtorEq, Nat.reduceAdd, Nat.reduceLeDiff, Nat.reduceSub, Nat.reduceMul, List.reduceReplicate, Int.reduceEq, Int.reduceLT, Int.reduceLE, Int.reduceAdd, Int.reduceSub, Int.reduceMul, Nat.reduceLT, Int.reduceToNat]) ?_))
end Go.Proofs.Ytlbilkldjhhopaa
