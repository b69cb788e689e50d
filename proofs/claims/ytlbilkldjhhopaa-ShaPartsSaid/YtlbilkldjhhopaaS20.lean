/- The hash: the law ShaParts. -/
import Derived.Test.YtlbilkldjhhopaaS19
import Derived.Test.YtlbilkldjhhopaaE31
import Derived.Test.YtlbilkldjhhopaaM7
import Derived.Test.YtlbilkldjhhopaaK6
set_option linter.unusedSectionVars false
set_option linter.unusedVariables false
set_option linter.unusedSimpArgs false
set_option maxRecDepth 100000
set_option maxHeartbeats 8000000
namespace Go.Proofs.Ytlbilkldjhhopaa
open Go.RowKit

theorem parts_out (L : List UInt32) (hL : L.length = 8) {v5 : Nat} (Q : Ex → St → Prop) (s1 : St)
    (q1 : ∀ s2 : St, s2.t 6 = s1.t 6 → s2.h 6 = s1.h 6 → (∃ v8, s2.t 11 = .ptr 11 0 v8 ∧ s2.h 11 = ⟨v8, true, true, false, bl (digest L)⟩) → Q (.exit 2) s2)
    (k5 : s1.t 8 = .ptr 8 0 v5) (kh5 : s1.h 8 = ⟨v5, true, true, false, wl L⟩) (k8 : ∃ v8, s1.t 11 = .ptr 11 0 v8 ∧ s1.h 11 = ⟨v8, true, true, false, bl (zb 32)⟩) (k9 : s1.t 12 = .int .i64 0) :
    Wp (RCs Try.prog) (.loop m5_14) Q s1 := by
  refine Wp_loop (fun m s => ∃ i, i ≤ 32 ∧ m = 32 - i ∧ s.t 6 = s1.t 6 ∧ s.h 6 = s1.h 6 ∧ s.t 8 = .ptr 8 0 v5 ∧ s.h 8 = ⟨v5, true, true, false, wl L⟩ ∧ s.t 12 = .int .i64 i ∧ ∃ v8, s.t 11 = .ptr 11 0 v8 ∧ s.h 11 = ⟨v8, true, true, false, bl ((digest L).take i ++ zb (32 - i))⟩) 32 ⟨0, by omega, rfl, rfl, rfl, k5, kh5, k9, by simpa using k8⟩ ?_
  clear k5 kh5 k8 k9
  rintro m s ⟨i, hi, rfl, k2, kh2, k5, kh5, k9, v8, k8, kh8⟩
  by_cases hi32 : i < 32
  · have hi32' : (i : Int) < 32 := by omega
    have hi31 : i ≤ 31 := by omega
    have hq : (i : Int).tdiv 4 = ((i / 4 : Nat) : Int) := by rw [Int.tdiv_eq_ediv_of_nonneg (by omega)]; omega
    have hm : (i : Int).tmod 4 = ((i % 4 : Nat) : Int) := by rw [Int.tmod_eq_emod_of_nonneg (by omega)]; omega
    obtain ⟨q, hq'⟩ : ∃ q, q = i / 4 := ⟨_, rfl⟩
    obtain ⟨r, hr'⟩ : ∃ r, r = i % 4 := ⟨_, rfl⟩
    have hq8 : q < 8 := by omega
    have hq8' : (q : Int) < 8 := by omega
    have hq7 : q ≤ 7 := by omega
    have hr4 : r < 4 := by omega
    rw [← hq'] at hq
    rw [← hr'] at hm
    have wq : IntKind.i64.wrap (q : Int) = q := by rw [IntKind.wrap_i64]; omega
    have wr : IntKind.i64.wrap (r : Int) = r := by rw [IntKind.wrap_i64]; omega
    have w8 : IntKind.i64.wrap (8 * (r : Int)) = ((8 * r : Nat) : Int) := by rw [IntKind.wrap_i64]; omega
    have w24 : IntKind.i64.wrap (24 - ((8 * r : Nat) : Int)) = ((24 - 8 * r : Nat) : Int) := by rw [IntKind.wrap_i64]; omega
    have wu : IntKind.u64.wrap ((24 - 8 * r : Nat) : Int) = ((24 - 8 * r : Nat) : Int) := wrapN .u64 (by simp [vbits, IntKind.signed, IntKind.bits]; omega)
    have aw := at_wl (xs := L) (k := q) (by omega)
    have lw : (wl L).length = 8 := by rw [wl_length, hL]
    have hx : (L.getD q 0).toNat >>> (24 - 8 * r) = (L.getD (i / 4) 0).toNat >>> (24 - 8 * (i % 4)) := by rw [hq', hr']
    obtain ⟨y, hy⟩ : ∃ y, y = L.getD q 0 := ⟨_, rfl⟩
    rw [← hy] at aw hx
    have sr : shI .shr .u32 (y.toNat : Int) ((24 - 8 * r : Nat) : Int) = some (.int .u32 ((y.toNat >>> (24 - 8 * r) : Nat) : Int)) := shI_shr .u32 (by show 24 - 8 * r ≤ 32; omega)
    have wb : IntKind.u8.wrap ((y.toNat >>> (24 - 8 * r) : Nat) : Int) = ((u8 (y.toNat >>> (24 - 8 * r))).toNat : Int) := wrap_u8 _
    have et : (digest L).take (i + 1) = (digest L).take i ++ [u8 (y.toNat >>> (24 - 8 * r))] := by rw [digest_take L hi32, hx]
    have hWl : ((digest L).take i).length = i := by rw [List.length_take, digest_length]; omega
    rw [show 32 - i = (32 - (i + 1)) + 1 by omega] at kh8
    have gr := grow8 ((digest L).take i) (32 - (i + 1)) i hWl (u8 (y.toNat >>> (24 - 8 * r)))
    rw [← et] at gr
    have hcl : (bl ((digest L).take i ++ zb (32 - (i + 1) + 1))).length = 32 := by rw [bl_length, List.length_append, hWl]; simp [zb]; omega
    simp -implicitDefEqProofs (maxSteps := 2000000) only [k2, kh2, k5, kh5, k9, k8, kh8, hi32', hi31, hq, hm, hq8, hq8', hq7, wq, wr, w8, w24, wu, aw, lw, sr, wb, gr, hcl, m5_1, m5_2, m5_3, m5_4, m5_5, m5_6, m5_7, m5_8, m5_9, m5_10, m5_11, m5_12, m5_13, m5_14, m5_15, m5_16, m5_17, m5_18, m5_19, m5_20, m5_21, m5_22, m5_23, m5_24, m5_25, m5_26, m5_27, m5_r, m5_b, m5, wrap_nat (show i < 2 ^ 63 - 1 by omega), wk, act, asV, ↓reduceIte, Nat.reduceEqDiff, reduceCtorEq, Nat.reduceAdd, Nat.reduceLeDiff, Nat.reduceSub, Nat.reduceMul, List.reduceReplicate, Int.reduceEq, Int.reduceLT, Int.reduceLE, Int.reduceAdd, Int.reduceSub, Int.reduceMul, Nat.reduceLT, Int.reduceToNat]
    exact ⟨32 - (i + 1), by omega, i + 1, by omega, rfl, rfl, v8, rfl, rfl⟩
  · obtain rfl : i = 32 := by omega
    have e : (digest L).take 32 ++ zb (32 - 32) = digest L := by rw [List.take_of_length_le (by rw [digest_length]; exact Nat.le_refl _)]; simp [zb]
    rw [e] at kh8
    simp -implicitDefEqProofs (maxSteps := 2000000) only [k9, m5_1, m5_2, m5_3, m5_4, m5_5, m5_6, m5_7, m5_8, m5_9, m5_10, m5_11, m5_12, m5_13, m5_14, m5_15, m5_16, m5_17, m5_18, m5_19, m5_20, m5_21, m5_22, m5_23, m5_24, m5_25, m5_26, m5_27, m5_r, m5_b, m5, wk, act, asV, ↓reduceIte, Nat.reduceEqDiff, reduceCtorEq, Nat.reduceAdd, Nat.reduceLeDiff, Nat.reduceSub, Nat.reduceMul, List.reduceReplicate, Int.reduceEq, Int.reduceLT, Int.reduceLE, Int.reduceAdd, Int.reduceSub, Int.reduceMul, Nat.reduceLT, Int.reduceToNat]
    exact q1 _ (by simp -implicitDefEqProofs (maxSteps := 2000000) only [k2, wk, act, asV, ↓reduceIte, Nat.reduceEqDiff, reduceCtorEq, Nat.reduceAdd, Nat.reduceLeDiff, Nat.reduceSub, Nat.reduceMul, List.reduceReplicate, Int.reduceEq, Int.reduceLT, Int.reduceLE, Int.reduceAdd, Int.reduceSub, Int.reduceMul, Nat.reduceLT, Int.reduceToNat]) (by simp -implicitDefEqProofs (maxSteps := 2000000) only [kh2, wk, act, asV, ↓reduceIte, Nat.reduceEqDiff, reduceCtorEq, Nat.reduceAdd, Nat.reduceLeDiff, Nat.reduceSub, Nat.reduceMul, List.reduceReplicate, Int.reduceEq, Int.reduceLT, Int.reduceLE, Int.reduceAdd, Int.reduceSub, Int.reduceMul, Nat.reduceLT, Int.reduceToNat]) ⟨v8, by simp -implicitDefEqProofs (maxSteps := 2000000) only [k8, wk, act, asV, ↓reduceIte, Nat.reduceEqDiff, reduceCtorEq, Nat.reduceAdd, Nat.reduceLeDiff, Nat.reduceSub, Nat.reduceMul, List.reduceReplicate, Int.reduceEq, Int.reduceLT, Int.reduceLE, Int.reduceAdd, Int.reduceSub, Int.reduceMul, Nat.reduceLT, Int.reduceToNat], by simp -implicitDefEqProofs (maxSteps := 2000000) only [kh8, wk, act, asV, ↓reduceIte, Nat.reduceEqDiff, reduceCtorEq, Nat.reduceAdd, Nat.reduceLeDiff, Nat.reduceSub, Nat.reduceMul, List.reduceReplicate, Int.reduceEq, Int.reduceLT, Int.reduceLE, Int.reduceAdd, Int.reduceSub, Int.reduceMul, Nat.reduceLT, Int.reduceToNat]⟩

theorem shaParts (b : List UInt8) (cut : Int) (hb : b.length < 2 ^ 63) : RC Try.prog 5 [.sl .plain b.length (bl b), .int .i64 cut] [.bool true] := by
  refine RC.of_wp c5 rfl ?_
  by_cases h1 : (3000 : Int) < b.length
  · repeat' (first | simp -implicitDefEqProofs (maxSteps := 2000000) only [m5_1, m5_2, m5_3, m5_4, m5_5, m5_6, m5_7, m5_8, m5_9, m5_10, m5_11, m5_12, m5_13, m5_14, m5_15, m5_16, m5_17, m5_18, m5_19, m5_20, m5_21, m5_22, m5_23, m5_24, m5_25, m5_26, m5_27, m5_r, m5_b, m5, h1, wk, act, asV, ↓reduceIte, Nat.reduceEqDiff, reduceCtorEq, Nat.reduceAdd, Nat.reduceLeDiff, Nat.reduceSub, Nat.reduceMul, List.reduceReplicate, Int.reduceEq, Int.reduceLT, Int.reduceLE, Int.reduceAdd, Int.reduceSub, Int.reduceMul, Nat.reduceLT, Int.reduceToNat] | ((with_reducible refine CallL.gate ?_); refine CallL.of (by simp -implicitDefEqProofs (maxSteps := 2000000) only [m5_1, m5_2, m5_3, m5_4, m5_5, m5_6, m5_7, m5_8, m5_9, m5_10, m5_11, m5_12, m5_13, m5_14, m5_15, m5_16, m5_17, m5_18, m5_19, m5_20, m5_21, m5_22, m5_23, m5_24, m5_25, m5_26, m5_27, m5_r, m5_b, m5, h1, wk, act, asV, ↓reduceIte, Nat.reduceEqDiff, reduceCtorEq, Nat.reduceAdd, Nat.reduceLeDiff, Nat.reduceSub, Nat.reduceMul, List.reduceReplicate, Int.reduceEq, Int.reduceLT, Int.reduceLE, Int.reduceAdd, Int.reduceSub, Int.reduceMul, Nat.reduceLT, Int.reduceToNat]; first | done | (with_reducible rfl)) (by first | exact wakesH_ok) (by simp -implicitDefEqProofs (maxSteps := 2000000) only [m5_1, m5_2, m5_3, m5_4, m5_5, m5_6, m5_7, m5_8, m5_9, m5_10, m5_11, m5_12, m5_13, m5_14, m5_15, m5_16, m5_17, m5_18, m5_19, m5_20, m5_21, m5_22, m5_23, m5_24, m5_25, m5_26, m5_27, m5_r, m5_b, m5, h1, wk, act, asV, ↓reduceIte, Nat.reduceEqDiff, reduceCtorEq, Nat.reduceAdd, Nat.reduceLeDiff, Nat.reduceSub, Nat.reduceMul, List.reduceReplicate, Int.reduceEq, Int.reduceLT, Int.reduceLE, Int.reduceAdd, Int.reduceSub, Int.reduceMul, Nat.reduceLT, Int.reduceToNat]) ?_) | ((with_reducible refine CallP.gate ?_); refine CallP.of (by simp -implicitDefEqProofs (maxSteps := 2000000) only [m5_1, m5_2, m5_3, m5_4, m5_5, m5_6, m5_7, m5_8, m5_9, m5_10, m5_11, m5_12, m5_13, m5_14, m5_15, m5_16, m5_17, m5_18, m5_19, m5_20, m5_21, m5_22, m5_23, m5_24, m5_25, m5_26, m5_27, m5_r, m5_b, m5, h1, wk, act, asV, ↓reduceIte, Nat.reduceEqDiff, reduceCtorEq, Nat.reduceAdd, Nat.reduceLeDiff, Nat.reduceSub, Nat.reduceMul, List.reduceReplicate, Int.reduceEq, Int.reduceLT, Int.reduceLE, Int.reduceAdd, Int.reduceSub, Int.reduceMul, Nat.reduceLT, Int.reduceToNat]; first | done | (with_reducible rfl)) (by first | exact wakesH_ok) (by simp -implicitDefEqProofs (maxSteps := 2000000) only [m5_1, m5_2, m5_3, m5_4, m5_5, m5_6, m5_7, m5_8, m5_9, m5_10, m5_11, m5_12, m5_13, m5_14, m5_15, m5_16, m5_17, m5_18, m5_19, m5_20, m5_21, m5_22, m5_23, m5_24, m5_25, m5_26, m5_27, m5_r, m5_b, m5, h1, wk, act, asV, ↓reduceIte, Nat.reduceEqDiff, reduceCtorEq, Nat.reduceAdd, Nat.reduceLeDiff, Nat.reduceSub, Nat.reduceMul, List.reduceReplicate, Int.reduceEq, Int.reduceLT, Int.reduceLE, Int.reduceAdd, Int.reduceSub, Int.reduceMul, Nat.reduceLT, Int.reduceToNat]) ?_))
  have hl : b.length ≤ 3000 := by omega
  obtain ⟨k, hk⟩ : ∃ k, k = modN cut (b.length + 1) := ⟨_, rfl⟩
  have hkn : k < b.length + 1 := by rw [hk]; exact modN_lt cut (by omega)
  have wn : IntKind.i64.wrap ((b.length : Int) + 1) = ((b.length + 1 : Nat) : Int) := by rw [IntKind.wrap_i64]; omega
  have cm : RC Try.prog 26 [.int .i64 cut, .int .i64 ((b.length + 1 : Nat) : Int)] [.int .i64 (k : Nat)] := by rw [hk]; exact mod_ok cut (n := b.length + 1) (by omega) (by omega)
  have j1 : joined [(Fl.plain, b)] = b := by simp [joined]
  have j2 : joined [(Fl.plain, b.take k), (.plain, []), (.plain, b.drop k)] = b := by simp [joined]
  have c1 := sum_ok .full (by decide) [(.plain, b)] (by simp) (by rw [j1]; omega)
  have c2 := sum_ok .full (by decide) [(.plain, b.take k), (.plain, []), (.plain, b.drop k)] (by simp) (by rw [j2]; omega)
  rw [j1] at c1
  rw [j2] at c2
  have tl : (b.take k).length = k := by rw [List.length_take]; omega
  have dl' : (b.drop k).length = b.length - k := List.length_drop
  have bn : bl [] = [] := rfl
  simp only [pl, List.map_cons, List.map_nil, tl, dl', List.length_nil, List.length_cons, Nat.reduceAdd, bn] at c1 c2
  have wu : IntKind.u64.wrap (b.length : Int) = b.length := wrapN .u64 (by simp [vbits, IntKind.signed, IntKind.bits]; omega)
  have cp := pad_ok b.length (by omega)
  have hpl := padB_length b.length
  have hz : padZ b.length < 64 := Nat.mod_lt _ (by decide)
  have tp := take_bl (padB b.length)
  have dG : (shaB b).length = 32 := digest_length _
  obtain ⟨M, hM⟩ : ∃ M, M = b ++ padB b.length := ⟨_, rfl⟩
  have hMl : M.length = b.length + (padB b.length).length := by rw [hM, List.length_append]
  have hMb : bl M = bl b ++ bl (padB b.length) := by rw [hM, bl_append]
  obtain ⟨K, hK⟩ : ∃ K, K = (b.length + 9 + padZ b.length) / 64 := ⟨_, rfl⟩
  have hMK : M.length = 64 * K := by rw [hMl, hpl, hK]; unfold padZ; omega
  have hd : shaB b = digest (hashN M K).l := by rw [hM, hK]; rfl
  have hrem : ((b.length + (padB b.length).length : Nat) : Int).tmod 64 = 0 := by
    rw [Int.tmod_eq_emod_of_nonneg (by omega)]; omega
  have r0 : roomy b.length 1 = true := roomyB (by omega)
  have r1 : roomy (padB b.length).length 1 = true := roomyB (by omega)
  have r2 : roomy (b.length + (padB b.length).length) 1 = true := roomyB (by omega)
  have l8 : (wl start8.l).length = 8 := rfl
  have t8 : List.take 8 (wl start8.l) = wl start8.l := rfl
  have d8 : List.drop 8 (wl start8.l) = [] := rfl
  have hk1 : k ≤ b.length := by omega
  have bt : List.take k (bl b) = bl (b.take k) := bl_take b k
  have bd : List.drop k (bl b) = bl (b.drop k) := bl_drop b k
  have tb := take_bl b
  obtain ⟨G, hG⟩ : ∃ G, G = shaB b := ⟨_, rfl⟩
  rw [← hG] at c1 c2 dG hd
  have q1 := eqL_by G G rfl
  rw [decide_eq_true rfl] at q1
  have f1 := fitR_by dG
  have x1 : List.take 32 (bl G) = bl G := List.take_of_length_le (by rw [bl_length, dG]; exact Nat.le_refl _)
  have x2 : List.drop 32 (bl G) = [] := List.drop_of_length_le (by rw [bl_length, dG]; exact Nat.le_refl _)
  obtain ⟨p, hp⟩ : ∃ p, p = padB b.length := ⟨_, rfl⟩
  rw [← hp] at cp hpl tp hMl hMb hrem r1 r2
  repeat' (first | simp -implicitDefEqProofs (maxSteps := 2000000) only [m5_1, m5_2, m5_3, m5_4, m5_5, m5_6, m5_7, m5_8, m5_9, m5_10, m5_11, m5_12, m5_13, m5_14, m5_15, m5_16, m5_17, m5_18, m5_19, m5_20, m5_21, m5_22, m5_23, m5_24, m5_25, m5_26, m5_27, m5_r, m5_b, m5, h1, wn, hk1, bt, bd, tb, tp, wu, hrem, r0, r1, r2, l8, t8, d8, wl_scal, bl_length, bl_pur, bl_scal, q1, f1, x1, x2, dG, tl, dl', List.length_append, wk, act, asV, ↓reduceIte, Nat.reduceEqDiff, reduceCtorEq, Nat.reduceAdd, Nat.reduceLeDiff, Nat.reduceSub, Nat.reduceMul, List.reduceReplicate, Int.reduceEq, Int.reduceLT, Int.reduceLE, Int.reduceAdd, Int.reduceSub, Int.reduceMul, Nat.reduceLT, Int.reduceToNat] | ((with_reducible refine CallL.gate ?_); refine CallL.of (by simp -implicitDefEqProofs (maxSteps := 2000000) only [m5_1, m5_2, m5_3, m5_4, m5_5, m5_6, m5_7, m5_8, m5_9, m5_10, m5_11, m5_12, m5_13, m5_14, m5_15, m5_16, m5_17, m5_18, m5_19, m5_20, m5_21, m5_22, m5_23, m5_24, m5_25, m5_26, m5_27, m5_r, m5_b, m5, h1, wn, hk1, bt, bd, tb, tp, wu, hrem, r0, r1, r2, l8, t8, d8, wl_scal, bl_length, bl_pur, bl_scal, q1, f1, x1, x2, dG, tl, dl', List.length_append, wk, act, asV, ↓reduceIte, Nat.reduceEqDiff, reduceCtorEq, Nat.reduceAdd, Nat.reduceLeDiff, Nat.reduceSub, Nat.reduceMul, List.reduceReplicate, Int.reduceEq, Int.reduceLT, Int.reduceLE, Int.reduceAdd, Int.reduceSub, Int.reduceMul, Nat.reduceLT, Int.reduceToNat]; first | done | (with_reducible rfl)) (by first | exact cm | exact c1 | exact c2 | exact cp | exact start_ok) (by simp -implicitDefEqProofs (maxSteps := 2000000) only [m5_1, m5_2, m5_3, m5_4, m5_5, m5_6, m5_7, m5_8, m5_9, m5_10, m5_11, m5_12, m5_13, m5_14, m5_15, m5_16, m5_17, m5_18, m5_19, m5_20, m5_21, m5_22, m5_23, m5_24, m5_25, m5_26, m5_27, m5_r, m5_b, m5, h1, wn, hk1, bt, bd, tb, tp, wu, hrem, r0, r1, r2, l8, t8, d8, wl_scal, bl_length, bl_pur, bl_scal, q1, f1, x1, x2, dG, tl, dl', List.length_append, wk, act, asV, ↓reduceIte, Nat.reduceEqDiff, reduceCtorEq, Nat.reduceAdd, Nat.reduceLeDiff, Nat.reduceSub, Nat.reduceMul, List.reduceReplicate, Int.reduceEq, Int.reduceLT, Int.reduceLE, Int.reduceAdd, Int.reduceSub, Int.reduceMul, Nat.reduceLT, Int.reduceToNat]) ?_) | ((with_reducible refine CallP.gate ?_); refine CallP.of (by simp -implicitDefEqProofs (maxSteps := 2000000) only [m5_1, m5_2, m5_3, m5_4, m5_5, m5_6, m5_7, m5_8, m5_9, m5_10, m5_11, m5_12, m5_13, m5_14, m5_15, m5_16, m5_17, m5_18, m5_19, m5_20, m5_21, m5_22, m5_23, m5_24, m5_25, m5_26, m5_27, m5_r, m5_b, m5, h1, wn, hk1, bt, bd, tb, tp, wu, hrem, r0, r1, r2, l8, t8, d8, wl_scal, bl_length, bl_pur, bl_scal, q1, f1, x1, x2, dG, tl, dl', List.length_append, wk, act, asV, ↓reduceIte, Nat.reduceEqDiff, reduceCtorEq, Nat.reduceAdd, Nat.reduceLeDiff, Nat.reduceSub, Nat.reduceMul, List.reduceReplicate, Int.reduceEq, Int.reduceLT, Int.reduceLE, Int.reduceAdd, Int.reduceSub, Int.reduceMul, Nat.reduceLT, Int.reduceToNat]; first | done | (with_reducible rfl)) (by first | exact cm | exact c1 | exact c2 | exact cp | exact start_ok) (by simp -implicitDefEqProofs (maxSteps := 2000000) only [m5_1, m5_2, m5_3, m5_4, m5_5, m5_6, m5_7, m5_8, m5_9, m5_10, m5_11, m5_12, m5_13, m5_14, m5_15, m5_16, m5_17, m5_18, m5_19, m5_20, m5_21, m5_22, m5_23, m5_24, m5_25, m5_26, m5_27, m5_r, m5_b, m5, h1, wn, hk1, bt, bd, tb, tp, wu, hrem, r0, r1, r2, l8, t8, d8, wl_scal, bl_length, bl_pur, bl_scal, q1, f1, x1, x2, dG, tl, dl', List.length_append, wk, act, asV, ↓reduceIte, Nat.reduceEqDiff, reduceCtorEq, Nat.reduceAdd, Nat.reduceLeDiff, Nat.reduceSub, Nat.reduceMul, List.reduceReplicate, Int.reduceEq, Int.reduceLT, Int.reduceLE, Int.reduceAdd, Int.reduceSub, Int.reduceMul, Nat.reduceLT, Int.reduceToNat]) ?_))
  refine parts_turn M K hMK (by omega) _ _ ?_ (by rw [hMl]; simp -implicitDefEqProofs (maxSteps := 2000000) only [wk, act, asV, ↓reduceIte, Nat.reduceEqDiff, reduceCtorEq, Nat.reduceAdd, Nat.reduceLeDiff, Nat.reduceSub, Nat.reduceMul, List.reduceReplicate, Int.reduceEq, Int.reduceLT, Int.reduceLE, Int.reduceAdd, Int.reduceSub, Int.reduceMul, Nat.reduceLT, Int.reduceToNat]; first | done | rfl) (by rw [hMb]; simp -implicitDefEqProofs (maxSteps := 2000000) only [wk, act, asV, ↓reduceIte, Nat.reduceEqDiff, reduceCtorEq, Nat.reduceAdd, Nat.reduceLeDiff, Nat.reduceSub, Nat.reduceMul, List.reduceReplicate, Int.reduceEq, Int.reduceLT, Int.reduceLE, Int.reduceAdd, Int.reduceSub, Int.reduceMul, Nat.reduceLT, Int.reduceToNat]; first | done | rfl) ⟨_, by simp -implicitDefEqProofs (maxSteps := 2000000) only [wk, act, asV, ↓reduceIte, Nat.reduceEqDiff, reduceCtorEq, Nat.reduceAdd, Nat.reduceLeDiff, Nat.reduceSub, Nat.reduceMul, List.reduceReplicate, Int.reduceEq, Int.reduceLT, Int.reduceLE, Int.reduceAdd, Int.reduceSub, Int.reduceMul, Nat.reduceLT, Int.reduceToNat]; first | done | rfl, by simp -implicitDefEqProofs (maxSteps := 2000000) only [wk, act, asV, ↓reduceIte, Nat.reduceEqDiff, reduceCtorEq, Nat.reduceAdd, Nat.reduceLeDiff, Nat.reduceSub, Nat.reduceMul, List.reduceReplicate, Int.reduceEq, Int.reduceLT, Int.reduceLE, Int.reduceAdd, Int.reduceSub, Int.reduceMul, Nat.reduceLT, Int.reduceToNat]; first | done | rfl⟩ (by simp -implicitDefEqProofs (maxSteps := 2000000) only [wk, act, asV, ↓reduceIte, Nat.reduceEqDiff, reduceCtorEq, Nat.reduceAdd, Nat.reduceLeDiff, Nat.reduceSub, Nat.reduceMul, List.reduceReplicate, Int.reduceEq, Int.reduceLT, Int.reduceLE, Int.reduceAdd, Int.reduceSub, Int.reduceMul, Nat.reduceLT, Int.reduceToNat])
  rintro s3 r6 rh6 ⟨v8, r8, rh8⟩
  simp -implicitDefEqProofs (maxSteps := 2000000) only [wk, act, asV, ↓reduceIte, Nat.reduceEqDiff, reduceCtorEq, Nat.reduceAdd, Nat.reduceLeDiff, Nat.reduceSub, Nat.reduceMul, List.reduceReplicate, Int.reduceEq, Int.reduceLT, Int.reduceLE, Int.reduceAdd, Int.reduceSub, Int.reduceMul, Nat.reduceLT, Int.reduceToNat] at r6
  simp -implicitDefEqProofs (maxSteps := 2000000) only [wk, act, asV, ↓reduceIte, Nat.reduceEqDiff, reduceCtorEq, Nat.reduceAdd, Nat.reduceLeDiff, Nat.reduceSub, Nat.reduceMul, List.reduceReplicate, Int.reduceEq, Int.reduceLT, Int.reduceLE, Int.reduceAdd, Int.reduceSub, Int.reduceMul, Nat.reduceLT, Int.reduceToNat] at rh6
  simp -implicitDefEqProofs (maxSteps := 2000000) only [r8, rh8, wk, act, asV, ↓reduceIte, Nat.reduceEqDiff, reduceCtorEq, Nat.reduceAdd, Nat.reduceLeDiff, Nat.reduceSub, Nat.reduceMul, List.reduceReplicate, Int.reduceEq, Int.reduceLT, Int.reduceLE, Int.reduceAdd, Int.reduceSub, Int.reduceMul, Nat.reduceLT, Int.reduceToNat]
  refine parts_out (hashN M K).l rfl _ _ ?_ (by simp -implicitDefEqProofs (maxSteps := 2000000) only [r8, wk, act, asV, ↓reduceIte, Nat.reduceEqDiff, reduceCtorEq, Nat.reduceAdd, Nat.reduceLeDiff, Nat.reduceSub, Nat.reduceMul, List.reduceReplicate, Int.reduceEq, Int.reduceLT, Int.reduceLE, Int.reduceAdd, Int.reduceSub, Int.reduceMul, Nat.reduceLT, Int.reduceToNat]; first | done | rfl) (by simp -implicitDefEqProofs (maxSteps := 2000000) only [rh8, wk, act, asV, ↓reduceIte, Nat.reduceEqDiff, reduceCtorEq, Nat.reduceAdd, Nat.reduceLeDiff, Nat.reduceSub, Nat.reduceMul, List.reduceReplicate, Int.reduceEq, Int.reduceLT, Int.reduceLE, Int.reduceAdd, Int.reduceSub, Int.reduceMul, Nat.reduceLT, Int.reduceToNat]; first | done | rfl) ⟨_, by simp -implicitDefEqProofs (maxSteps := 2000000) only [wk, act, asV, ↓reduceIte, Nat.reduceEqDiff, reduceCtorEq, Nat.reduceAdd, Nat.reduceLeDiff, Nat.reduceSub, Nat.reduceMul, List.reduceReplicate, Int.reduceEq, Int.reduceLT, Int.reduceLE, Int.reduceAdd, Int.reduceSub, Int.reduceMul, Nat.reduceLT, Int.reduceToNat]; first | done | rfl, by simp -implicitDefEqProofs (maxSteps := 2000000) only [wk, act, asV, ↓reduceIte, Nat.reduceEqDiff, reduceCtorEq, Nat.reduceAdd, Nat.reduceLeDiff, Nat.reduceSub, Nat.reduceMul, List.reduceReplicate, Int.reduceEq, Int.reduceLT, Int.reduceLE, Int.reduceAdd, Int.reduceSub, Int.reduceMul, Nat.reduceLT, Int.reduceToNat]; first | done | rfl⟩ (by simp -implicitDefEqProofs (maxSteps := 2000000) only [wk, act, asV, ↓reduceIte, Nat.reduceEqDiff, reduceCtorEq, Nat.reduceAdd, Nat.reduceLeDiff, Nat.reduceSub, Nat.reduceMul, List.reduceReplicate, Int.reduceEq, Int.reduceLT, Int.reduceLE, Int.reduceAdd, Int.reduceSub, Int.reduceMul, Nat.reduceLT, Int.reduceToNat])
  rintro s4 t6 th6 ⟨v11, t11, th11⟩
  simp -implicitDefEqProofs (maxSteps := 2000000) only [r6, wk, act, asV, ↓reduceIte, Nat.reduceEqDiff, reduceCtorEq, Nat.reduceAdd, Nat.reduceLeDiff, Nat.reduceSub, Nat.reduceMul, List.reduceReplicate, Int.reduceEq, Int.reduceLT, Int.reduceLE, Int.reduceAdd, Int.reduceSub, Int.reduceMul, Nat.reduceLT, Int.reduceToNat] at t6
  simp -implicitDefEqProofs (maxSteps := 2000000) only [rh6, wk, act, asV, ↓reduceIte, Nat.reduceEqDiff, reduceCtorEq, Nat.reduceAdd, Nat.reduceLeDiff, Nat.reduceSub, Nat.reduceMul, List.reduceReplicate, Int.reduceEq, Int.reduceLT, Int.reduceLE, Int.reduceAdd, Int.reduceSub, Int.reduceMul, Nat.reduceLT, Int.reduceToNat] at th6
  rw [← hd] at th11
  repeat' (first | simp -implicitDefEqProofs (maxSteps := 2000000) only [t6, th6, t11, th11, x1, x2, dG, q1, f1, bl_length, bl_scal, wk, act, asV, ↓reduceIte, Nat.reduceEqDiff, reduceCtorEq, Nat.reduceAdd, Nat.reduceLeDiff, Nat.reduceSub, Nat.reduceMul, List.reduceReplicate, Int.reduceEq, Int.reduceLT, Int.reduceLE, Int.reduceAdd, Int.reduceSub, Int.reduceMul, Nat.reduceLT, Int.reduceToNat] | ((with_reducible refine CallL.gate ?_); refine CallL.of (by simp -implicitDefEqProofs (maxSteps := 2000000) only [t6, th6, t11, th11, x1, x2, dG, q1, f1, bl_length, bl_scal, wk, act, asV, ↓reduceIte, Nat.reduceEqDiff, reduceCtorEq, Nat.reduceAdd, Nat.reduceLeDiff, Nat.reduceSub, Nat.reduceMul, List.reduceReplicate, Int.reduceEq, Int.reduceLT, Int.reduceLE, Int.reduceAdd, Int.reduceSub, Int.reduceMul, Nat.reduceLT, Int.reduceToNat]; first | done | (with_reducible rfl)) (by first | exact wakesH_ok) (by simp -implicitDefEqProofs (maxSteps := 2000000) only [t6, th6, t11, th11, x1, x2, dG, q1, f1, bl_length, bl_scal, wk, act, asV, ↓reduceIte, Nat.reduceEqDiff, reduceCtorEq, Nat.reduceAdd, Nat.reduceLeDiff, Nat.reduceSub, Nat.reduceMul, List.reduceReplicate, Int.reduceEq, Int.reduceLT, Int.reduceLE, Int.reduceAdd, Int.reduceSub, Int.reduceMul, Nat.reduceLT, Int.reduceToNat]) ?_) | ((with_reducible refine CallP.gate ?_); refine CallP.of (by simp -implicitDefEqProofs (maxSteps := 2000000) only [t6, th6, t11, th11, x1, x2, dG, q1, f1, bl_length, bl_scal, wk, act, asV, ↓reduceIte, Nat.reduceEqDiff, reduceCtorEq, Nat.reduceAdd, Nat.reduceLeDiff, Nat.reduceSub, Nat.reduceMul, List.reduceReplicate, Int.reduceEq, Int.reduceLT, Int.reduceLE, Int.reduceAdd, Int.reduceSub, Int.reduceMul, Nat.reduceLT, Int.reduceToNat]; first | done | (with_reducible rfl)) (by first | exact wakesH_ok) (by simp -implicitDefEqProofs (maxSteps := 2000000) only [t6, th6, t11, th11, x1, x2, dG, q1, f1, bl_length, bl_scal, wk, act, asV, ↓reduceIte, Nat.reduceEqDiff, reduceCtorEq, Nat.reduceAdd, Nat.reduceLeDiff, Nat.reduceSub, Nat.reduceMul, List.reduceReplicate, Int.reduceEq, Int.reduceLT, Int.reduceLE, Int.reduceAdd, Int.reduceSub, Int.reduceMul, Nat.reduceLT, Int.reduceToNat]) ?_))
end Go.Proofs.Ytlbilkldjhhopaa
