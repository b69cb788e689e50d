/- H behind 64 bytes, by the reference. -/
import Derived.Test.YtlbilkldjhhopaaS5
import Derived.Test.YtlbilkldjhhopaaE31
import Derived.Test.YtlbilkldjhhopaaM7
set_option linter.unusedSectionVars false
set_option linter.unusedVariables false
set_option linter.unusedSimpArgs false
set_option maxRecDepth 100000
set_option maxHeartbeats 8000000
namespace Go.Proofs.Ytlbilkldjhhopaa
open Go.RowKit

theorem turnR_in (hs : H8) (b : List UInt8) {v2 v3 v4 v5 : Nat} (B : List UInt32) (Q : Ex → St → Prop) (s1 : St)
    (q1 : ∀ s2 : St, s2.t 2 = s1.t 2 → s2.h 2 = s1.h 2 → s2.t 4 = s1.t 4 → s2.h 4 = s1.h 4 → (∃ v6, s2.t 10 = .ptr 10 0 v6 ∧ s2.h 10 = ⟨v6, true, true, false, wl (rnds hs (schN b 64) 64).l⟩) → Q (.exit 2) s2)
    (k5 : s1.t 9 = .ptr 9 0 v5) (kh5 : s1.h 9 = ⟨v5, true, true, false, wl K64⟩) (k6 : ∃ v6, s1.t 10 = .ptr 10 0 v6 ∧ s1.h 10 = ⟨v6, true, true, false, wl hs.l⟩) (k21 : s1.t 5 = .ptr 5 0 v3) (kh21 : s1.h 5 = ⟨v3, true, true, false, wl (schN b 64)⟩) (k22 : s1.t 11 = .int .i64 0) :
    Wp (RCs Try.prog) (.loop m21_16) Q s1 := by
  refine Wp_loop (fun m s => ∃ t, t ≤ 64 ∧ m = 64 - t ∧ s.t 2 = s1.t 2 ∧ s.h 2 = s1.h 2 ∧ s.t 4 = s1.t 4 ∧ s.h 4 = s1.h 4 ∧ s.t 9 = .ptr 9 0 v5 ∧ s.h 9 = ⟨v5, true, true, false, wl K64⟩ ∧ s.t 5 = .ptr 5 0 v3 ∧ s.h 5 = ⟨v3, true, true, false, wl (schN b 64)⟩ ∧ s.t 11 = .int .i64 t ∧ ∃ v6, s.t 10 = .ptr 10 0 v6 ∧ s.h 10 = ⟨v6, true, true, false, wl (rnds hs (schN b 64) t).l⟩) 64 ⟨0, by omega, rfl, rfl, rfl, rfl, rfl, k5, kh5, k21, kh21, k22, k6⟩ ?_
  clear k5 kh5 k6 k21 kh21 k22
  rintro m s ⟨t, ht, rfl, k2, kh2, k4, kh4, k5, kh5, k21, kh21, k22, v6, k6, kh6⟩
  have hW := schN_length b 64
  by_cases ht64 : t < 64
  · have ht64' : (t : Int) < 64 := by omega
    have aw := at_wl (xs := schN b 64) (k := t) (by rw [hW]; omega)
    have ak := at_wl (xs := K64) (k := t) (by rw [K64_length]; omega)
    have lw : (wl (schN b 64)).length = 64 := by rw [wl_length, hW]
    have lk : (wl K64).length = 64 := rfl
    obtain ⟨v, hv⟩ : ∃ v, v = rnds hs (schN b 64) t := ⟨_, rfl⟩
    have er : rnds hs (schN b 64) (t + 1) = rnd v (K64.getD t 0) ((schN b 64).getD t 0) := by rw [hv]; rfl
    obtain ⟨w, hw⟩ : ∃ w, w = (schN b 64).getD t 0 := ⟨_, rfl⟩
    obtain ⟨k, hk⟩ : ∃ k, k = K64.getD t 0 := ⟨_, rfl⟩
    rw [← hw] at aw er
    rw [← hk] at ak er
    rw [← hv] at kh6
    obtain ⟨a, b', c, d, e, f, g, h⟩ := v
    have ecells : wl (H8.l ⟨a, b', c, d, e, f, g, h⟩) = [.int .u32 (a.toNat : Int), .int .u32 (b'.toNat : Int), .int .u32 (c.toNat : Int), .int .u32 (d.toNat : Int), .int .u32 (e.toNat : Int), .int .u32 (f.toNat : Int), .int .u32 (g.toNat : Int), .int .u32 (h.toNat : Int)] := rfl
    rw [ecells] at kh6
    have c1 := right_ok e (k := 6) (by decide)
    have c2 := right_ok e (k := 11) (by decide)
    have c3 := right_ok e (k := 25) (by decide)
    have c4 := right_ok a (k := 2) (by decide)
    have c5 := right_ok a (k := 13) (by decide)
    have c6 := right_ok a (k := 22) (by decide)
    have y1 := w_xor (rotr e 6) (rotr e 11)
    have y2 := w_xor (rotr e 6 ^^^ rotr e 11) (rotr e 25)
    have y3 := w_xor (rotr a 2) (rotr a 13)
    have y4 := w_xor (rotr a 2 ^^^ rotr a 13) (rotr a 22)
    obtain ⟨x1, hx1⟩ : ∃ x, x = turnedW e 6 11 25 false := ⟨_, rfl⟩
    obtain ⟨x2, hx2⟩ : ∃ x, x = turnedW a 2 13 22 false := ⟨_, rfl⟩
    rw [show rotr e 6 ^^^ rotr e 11 ^^^ rotr e 25 = x1 from hx1.symm] at y2
    rw [show rotr a 2 ^^^ rotr a 13 ^^^ rotr a 22 = x2 from hx2.symm] at y4
    have d1 := w_add h x1
    have d2 := w_and e f
    have d3 := w_notx e
    have d4 := w_and (~~~e) g
    have d5 := w_xor (e &&& f) (~~~e &&& g)
    have d6 := w_add (h + x1) (e &&& f ^^^ ~~~e &&& g)
    have d7 := w_add (h + x1 + (e &&& f ^^^ ~~~e &&& g)) k
    have d8 := w_add (h + x1 + (e &&& f ^^^ ~~~e &&& g) + k) w
    obtain ⟨F, hF⟩ : ∃ F, F = h + x1 + (e &&& f ^^^ ~~~e &&& g) + k + w := ⟨_, rfl⟩
    rw [← hF] at d8
    have d9 := w_and a b'
    have d10 := w_and a c
    have d11 := w_xor (a &&& b') (a &&& c)
    have d12 := w_and b' c
    have d13 := w_xor (a &&& b' ^^^ a &&& c) (b' &&& c)
    have d14 := w_add x2 (a &&& b' ^^^ a &&& c ^^^ b' &&& c)
    obtain ⟨S, hS⟩ : ∃ S, S = x2 + (a &&& b' ^^^ a &&& c ^^^ b' &&& c) := ⟨_, rfl⟩
    rw [← hS] at d14
    have d15 := w_add F S
    have d16 := w_add d F
    have ht63 : t ≤ 63 := by omega
    have hsg : IntKind.u32.signed = false := rfl
    have hmx : IntKind.u32.max = 4294967295 := rfl
    repeat' (first | simp -implicitDefEqProofs (maxSteps := 2000000) only [y1, y2, y3, y4, hsg, hmx, Bool.false_eq_true, k2, kh2, k4, kh4, k5, kh5, k21, kh21, k22, k6, kh6, ht64', aw, ak, lw, lk, d1, d2, d3, d4, d5, d6, d7, d8, d9, d10, d11, d12, d13, d14, d15, d16, ht63, m21_1, m21_2, m21_3, m21_4, m21_5, m21_6, m21_7, m21_8, m21_9, m21_10, m21_11, m21_12, m21_13, m21_14, m21_15, m21_16, m21_17, m21_18, m21_19, m21_20, m21_21, m21_22, m21_23, m21_24, m21_25, m21_26, m21_27, m21_r, m21_b, m21, wrap_nat (show t < 2 ^ 63 - 1 by omega), wk, act, asV, ↓reduceIte, Nat.reduceEqDiff, reduceCtorEq, Nat.reduceAdd, Nat.reduceLeDiff, Nat.reduceSub, Nat.reduceMul, List.reduceReplicate, Int.reduceEq, Int.reduceLT, Int.reduceLE, Int.reduceAdd, Int.reduceSub, Int.reduceMul, Nat.reduceLT, Int.reduceToNat] | ((with_reducible refine CallL.gate ?_); refine CallL.of (by simp -implicitDefEqProofs (maxSteps := 2000000) only [y1, y2, y3, y4, hsg, hmx, Bool.false_eq_true, k2, kh2, k4, kh4, k5, kh5, k21, kh21, k22, k6, kh6, ht64', aw, ak, lw, lk, d1, d2, d3, d4, d5, d6, d7, d8, d9, d10, d11, d12, d13, d14, d15, d16, ht63, m21_1, m21_2, m21_3, m21_4, m21_5, m21_6, m21_7, m21_8, m21_9, m21_10, m21_11, m21_12, m21_13, m21_14, m21_15, m21_16, m21_17, m21_18, m21_19, m21_20, m21_21, m21_22, m21_23, m21_24, m21_25, m21_26, m21_27, m21_r, m21_b, m21, wrap_nat (show t < 2 ^ 63 - 1 by omega), wk, act, asV, ↓reduceIte, Nat.reduceEqDiff, reduceCtorEq, Nat.reduceAdd, Nat.reduceLeDiff, Nat.reduceSub, Nat.reduceMul, List.reduceReplicate, Int.reduceEq, Int.reduceLT, Int.reduceLE, Int.reduceAdd, Int.reduceSub, Int.reduceMul, Nat.reduceLT, Int.reduceToNat]; first | done | (with_reducible rfl)) (by first | exact c1 | exact c2 | exact c3 | exact c4 | exact c5 | exact c6) (by simp -implicitDefEqProofs (maxSteps := 2000000) only [y1, y2, y3, y4, hsg, hmx, Bool.false_eq_true, k2, kh2, k4, kh4, k5, kh5, k21, kh21, k22, k6, kh6, ht64', aw, ak, lw, lk, d1, d2, d3, d4, d5, d6, d7, d8, d9, d10, d11, d12, d13, d14, d15, d16, ht63, m21_1, m21_2, m21_3, m21_4, m21_5, m21_6, m21_7, m21_8, m21_9, m21_10, m21_11, m21_12, m21_13, m21_14, m21_15, m21_16, m21_17, m21_18, m21_19, m21_20, m21_21, m21_22, m21_23, m21_24, m21_25, m21_26, m21_27, m21_r, m21_b, m21, wrap_nat (show t < 2 ^ 63 - 1 by omega), wk, act, asV, ↓reduceIte, Nat.reduceEqDiff, reduceCtorEq, Nat.reduceAdd, Nat.reduceLeDiff, Nat.reduceSub, Nat.reduceMul, List.reduceReplicate, Int.reduceEq, Int.reduceLT, Int.reduceLE, Int.reduceAdd, Int.reduceSub, Int.reduceMul, Nat.reduceLT, Int.reduceToNat]) ?_) | ((with_reducible refine CallP.gate ?_); refine CallP.of (by simp -implicitDefEqProofs (maxSteps := 2000000) only [y1, y2, y3, y4, hsg, hmx, Bool.false_eq_true, k2, kh2, k4, kh4, k5, kh5, k21, kh21, k22, k6, kh6, ht64', aw, ak, lw, lk, d1, d2, d3, d4, d5, d6, d7, d8, d9, d10, d11, d12, d13, d14, d15, d16, ht63, m21_1, m21_2, m21_3, m21_4, m21_5, m21_6, m21_7, m21_8, m21_9, m21_10, m21_11, m21_12, m21_13, m21_14, m21_15, m21_16, m21_17, m21_18, m21_19, m21_20, m21_21, m21_22, m21_23, m21_24, m21_25, m21_26, m21_27, m21_r, m21_b, m21, wrap_nat (show t < 2 ^ 63 - 1 by omega), wk, act, asV, ↓reduceIte, Nat.reduceEqDiff, reduceCtorEq, Nat.reduceAdd, Nat.reduceLeDiff, Nat.reduceSub, Nat.reduceMul, List.reduceReplicate, Int.reduceEq, Int.reduceLT, Int.reduceLE, Int.reduceAdd, Int.reduceSub, Int.reduceMul, Nat.reduceLT, Int.reduceToNat]; first | done | (with_reducible rfl)) (by first | exact c1 | exact c2 | exact c3 | exact c4 | exact c5 | exact c6) (by simp -implicitDefEqProofs (maxSteps := 2000000) only [y1, y2, y3, y4, hsg, hmx, Bool.false_eq_true, k2, kh2, k4, kh4, k5, kh5, k21, kh21, k22, k6, kh6, ht64', aw, ak, lw, lk, d1, d2, d3, d4, d5, d6, d7, d8, d9, d10, d11, d12, d13, d14, d15, d16, ht63, m21_1, m21_2, m21_3, m21_4, m21_5, m21_6, m21_7, m21_8, m21_9, m21_10, m21_11, m21_12, m21_13, m21_14, m21_15, m21_16, m21_17, m21_18, m21_19, m21_20, m21_21, m21_22, m21_23, m21_24, m21_25, m21_26, m21_27, m21_r, m21_b, m21, wrap_nat (show t < 2 ^ 63 - 1 by omega), wk, act, asV, ↓reduceIte, Nat.reduceEqDiff, reduceCtorEq, Nat.reduceAdd, Nat.reduceLeDiff, Nat.reduceSub, Nat.reduceMul, List.reduceReplicate, Int.reduceEq, Int.reduceLT, Int.reduceLE, Int.reduceAdd, Int.reduceSub, Int.reduceMul, Nat.reduceLT, Int.reduceToNat]) ?_))
    refine ⟨64 - (t + 1), by omega, t + 1, by omega, rfl, rfl, v6, rfl, ?_⟩
    rw [er]
    have e2 : rnd ⟨a, b', c, d, e, f, g, h⟩ k w = ⟨F + S, a, b', c, d + F, e, f, g⟩ := by
      simp only [rnd, first8, second8, ← hx1, ← hx2, ← hF, ← hS]
    rw [e2]; rfl
  · obtain rfl : t = 64 := by omega
    simp -implicitDefEqProofs (maxSteps := 2000000) only [k22, m21_1, m21_2, m21_3, m21_4, m21_5, m21_6, m21_7, m21_8, m21_9, m21_10, m21_11, m21_12, m21_13, m21_14, m21_15, m21_16, m21_17, m21_18, m21_19, m21_20, m21_21, m21_22, m21_23, m21_24, m21_25, m21_26, m21_27, m21_r, m21_b, m21, wk, act, asV, ↓reduceIte, Nat.reduceEqDiff, reduceCtorEq, Nat.reduceAdd, Nat.reduceLeDiff, Nat.reduceSub, Nat.reduceMul, List.reduceReplicate, Int.reduceEq, Int.reduceLT, Int.reduceLE, Int.reduceAdd, Int.reduceSub, Int.reduceMul, Nat.reduceLT, Int.reduceToNat]
    exact q1 _ (by simp -implicitDefEqProofs (maxSteps := 2000000) only [k2, wk, act, asV, ↓reduceIte, Nat.reduceEqDiff, reduceCtorEq, Nat.reduceAdd, Nat.reduceLeDiff, Nat.reduceSub, Nat.reduceMul, List.reduceReplicate, Int.reduceEq, Int.reduceLT, Int.reduceLE, Int.reduceAdd, Int.reduceSub, Int.reduceMul, Nat.reduceLT, Int.reduceToNat]) (by simp -implicitDefEqProofs (maxSteps := 2000000) only [kh2, wk, act, asV, ↓reduceIte, Nat.reduceEqDiff, reduceCtorEq, Nat.reduceAdd, Nat.reduceLeDiff, Nat.reduceSub, Nat.reduceMul, List.reduceReplicate, Int.reduceEq, Int.reduceLT, Int.reduceLE, Int.reduceAdd, Int.reduceSub, Int.reduceMul, Nat.reduceLT, Int.reduceToNat]) (by simp -implicitDefEqProofs (maxSteps := 2000000) only [k4, wk, act, asV, ↓reduceIte, Nat.reduceEqDiff, reduceCtorEq, Nat.reduceAdd, Nat.reduceLeDiff, Nat.reduceSub, Nat.reduceMul, List.reduceReplicate, Int.reduceEq, Int.reduceLT, Int.reduceLE, Int.reduceAdd, Int.reduceSub, Int.reduceMul, Nat.reduceLT, Int.reduceToNat]) (by simp -implicitDefEqProofs (maxSteps := 2000000) only [kh4, wk, act, asV, ↓reduceIte, Nat.reduceEqDiff, reduceCtorEq, Nat.reduceAdd, Nat.reduceLeDiff, Nat.reduceSub, Nat.reduceMul, List.reduceReplicate, Int.reduceEq, Int.reduceLT, Int.reduceLE, Int.reduceAdd, Int.reduceSub, Int.reduceMul, Nat.reduceLT, Int.reduceToNat]) ⟨v6, by simp -implicitDefEqProofs (maxSteps := 2000000) only [k6, wk, act, asV, ↓reduceIte, Nat.reduceEqDiff, reduceCtorEq, Nat.reduceAdd, Nat.reduceLeDiff, Nat.reduceSub, Nat.reduceMul, List.reduceReplicate, Int.reduceEq, Int.reduceLT, Int.reduceLE, Int.reduceAdd, Int.reduceSub, Int.reduceMul, Nat.reduceLT, Int.reduceToNat], by simp -implicitDefEqProofs (maxSteps := 2000000) only [kh6, wk, act, asV, ↓reduceIte, Nat.reduceEqDiff, reduceCtorEq, Nat.reduceAdd, Nat.reduceLeDiff, Nat.reduceSub, Nat.reduceMul, List.reduceReplicate, Int.reduceEq, Int.reduceLT, Int.reduceLE, Int.reduceAdd, Int.reduceSub, Int.reduceMul, Nat.reduceLT, Int.reduceToNat]⟩

theorem turnR_add (hs : H8) (L : List UInt32) (hL : L.length = 8) {v2 : Nat} (Q : Ex → St → Prop) (s1 : St)
    (q1 : ∀ s2 : St, s2.t 4 = s1.t 4 → s2.h 4 = s1.h 4 → (∃ v6, s2.t 10 = .ptr 10 0 v6 ∧ s2.h 10 = ⟨v6, true, true, false, wl (addTo L hs.l 8)⟩) → Q (.exit 4) s2)
    (k2 : s1.t 2 = .ptr 2 0 v2) (kh2 : s1.h 2 = ⟨v2, true, true, false, wl hs.l⟩) (k6 : ∃ v6, s1.t 10 = .ptr 10 0 v6 ∧ s1.h 10 = ⟨v6, true, true, false, wl L⟩) (k87 : s1.t 20 = .int .i64 0) :
    Wp (RCs Try.prog) (.loop m21_19) Q s1 := by
  refine Wp_loop (fun m s => ∃ i, i ≤ 8 ∧ m = 8 - i ∧ s.t 2 = .ptr 2 0 v2 ∧ s.h 2 = ⟨v2, true, true, false, wl hs.l⟩ ∧ s.t 4 = s1.t 4 ∧ s.h 4 = s1.h 4 ∧ s.t 20 = .int .i64 i ∧ ∃ v6, s.t 10 = .ptr 10 0 v6 ∧ s.h 10 = ⟨v6, true, true, false, wl (addTo L hs.l i)⟩) 8 ⟨0, by omega, rfl, k2, kh2, rfl, rfl, k87, by rw [addTo_zero _ hL]; exact k6⟩ ?_
  clear k2 kh2 k6 k87
  rintro m s ⟨i, hi, rfl, k2, kh2, k4, kh4, k87, v6, k6, kh6⟩
  by_cases hi8 : i < 8
  · have hi8' : (i : Int) < 8 := by omega
    have hi7 : i ≤ 7 := by omega
    have a1 := at_wl (xs := addTo L hs.l i) (k := i) (by rw [addTo_length]; exact hi8)
    rw [addTo_get _ _ _ hi8, if_neg (Nat.lt_irrefl i)] at a1
    have a2 := at_wl (xs := hs.l) (k := i) (by rw [H8.l_length]; exact hi8)
    have d := w_add (L.getD i 0) (hs.l.getD i 0)
    have st := set_wl (xs := addTo L hs.l i) (k := i) (by rw [addTo_length]; exact hi8) (L.getD i 0 + hs.l.getD i 0)
    rw [addTo_set _ _ hi8] at st
    have l1 : (wl (addTo L hs.l i)).length = 8 := by rw [wl_length, addTo_length]
    have l2 : (wl hs.l).length = 8 := rfl
    obtain ⟨x, hx⟩ : ∃ x, x = L.getD i 0 := ⟨_, rfl⟩
    obtain ⟨y, hy⟩ : ∃ y, y = hs.l.getD i 0 := ⟨_, rfl⟩
    rw [← hx] at a1 d st
    rw [← hy] at a2 d st
    simp -implicitDefEqProofs (maxSteps := 2000000) only [k2, kh2, k4, kh4, k87, k6, kh6, hi8', hi7, a1, a2, d, st, l1, l2, m21_1, m21_2, m21_3, m21_4, m21_5, m21_6, m21_7, m21_8, m21_9, m21_10, m21_11, m21_12, m21_13, m21_14, m21_15, m21_16, m21_17, m21_18, m21_19, m21_20, m21_21, m21_22, m21_23, m21_24, m21_25, m21_26, m21_27, m21_r, m21_b, m21, wrap_nat (show i < 2 ^ 63 - 1 by omega), wk, act, asV, ↓reduceIte, Nat.reduceEqDiff, reduceCtorEq, Nat.reduceAdd, Nat.reduceLeDiff, Nat.reduceSub, Nat.reduceMul, List.reduceReplicate, Int.reduceEq, Int.reduceLT, Int.reduceLE, Int.reduceAdd, Int.reduceSub, Int.reduceMul, Nat.reduceLT, Int.reduceToNat]
    exact ⟨8 - (i + 1), by omega, i + 1, by omega, rfl, rfl, v6, rfl, rfl⟩
  · obtain rfl : i = 8 := by omega
    simp -implicitDefEqProofs (maxSteps := 2000000) only [k87, m21_1, m21_2, m21_3, m21_4, m21_5, m21_6, m21_7, m21_8, m21_9, m21_10, m21_11, m21_12, m21_13, m21_14, m21_15, m21_16, m21_17, m21_18, m21_19, m21_20, m21_21, m21_22, m21_23, m21_24, m21_25, m21_26, m21_27, m21_r, m21_b, m21, wk, act, asV, ↓reduceIte, Nat.reduceEqDiff, reduceCtorEq, Nat.reduceAdd, Nat.reduceLeDiff, Nat.reduceSub, Nat.reduceMul, List.reduceReplicate, Int.reduceEq, Int.reduceLT, Int.reduceLE, Int.reduceAdd, Int.reduceSub, Int.reduceMul, Nat.reduceLT, Int.reduceToNat]
    exact q1 _ (by simp -implicitDefEqProofs (maxSteps := 2000000) only [k4, wk, act, asV, ↓reduceIte, Nat.reduceEqDiff, reduceCtorEq, Nat.reduceAdd, Nat.reduceLeDiff, Nat.reduceSub, Nat.reduceMul, List.reduceReplicate, Int.reduceEq, Int.reduceLT, Int.reduceLE, Int.reduceAdd, Int.reduceSub, Int.reduceMul, Nat.reduceLT, Int.reduceToNat]) (by simp -implicitDefEqProofs (maxSteps := 2000000) only [kh4, wk, act, asV, ↓reduceIte, Nat.reduceEqDiff, reduceCtorEq, Nat.reduceAdd, Nat.reduceLeDiff, Nat.reduceSub, Nat.reduceMul, List.reduceReplicate, Int.reduceEq, Int.reduceLT, Int.reduceLE, Int.reduceAdd, Int.reduceSub, Int.reduceMul, Nat.reduceLT, Int.reduceToNat]) ⟨v6, by simp -implicitDefEqProofs (maxSteps := 2000000) only [k6, wk, act, asV, ↓reduceIte, Nat.reduceEqDiff, reduceCtorEq, Nat.reduceAdd, Nat.reduceLeDiff, Nat.reduceSub, Nat.reduceMul, List.reduceReplicate, Int.reduceEq, Int.reduceLT, Int.reduceLE, Int.reduceAdd, Int.reduceSub, Int.reduceMul, Nat.reduceLT, Int.reduceToNat], by simp -implicitDefEqProofs (maxSteps := 2000000) only [kh6, wk, act, asV, ↓reduceIte, Nat.reduceEqDiff, reduceCtorEq, Nat.reduceAdd, Nat.reduceLeDiff, Nat.reduceSub, Nat.reduceMul, List.reduceReplicate, Int.reduceEq, Int.reduceLT, Int.reduceLE, Int.reduceAdd, Int.reduceSub, Int.reduceMul, Nat.reduceLT, Int.reduceToNat]⟩


theorem turnR_ok (hs : H8) (b : List UInt8) (hb : b.length = 64) : RC Try.prog 21 [.agg (wl hs.l), .agg (bl b)] [.agg (wl (turnH hs b))] := by
  refine RC.of_wp c21 rfl ?_
  have hbl : (bl b).length = 64 := by rw [bl_length, hb]
  have l8 : (wl hs.l).length = 8 := rfl
  have t8 : List.take 8 (wl hs.l) = wl hs.l := rfl
  have d8 : List.drop 8 (wl hs.l) = [] := rfl
  have lk : (wl K64).length = 64 := rfl
  have tk : List.take 64 (wl K64) = wl K64 := rfl
  have dk : List.drop 64 (wl K64) = [] := rfl
  simp -implicitDefEqProofs (maxSteps := 2000000) only [m21_1, m21_2, m21_3, m21_4, m21_5, m21_6, m21_7, m21_8, m21_9, m21_10, m21_11, m21_12, m21_13, m21_14, m21_15, m21_16, m21_17, m21_18, m21_19, m21_20, m21_21, m21_22, m21_23, m21_24, m21_25, m21_26, m21_27, m21_r, m21_b, m21, hbl, l8, bl_scal, wl_scal, wk, act, asV, ↓reduceIte, Nat.reduceEqDiff, reduceCtorEq, Nat.reduceAdd, Nat.reduceLeDiff, Nat.reduceSub, Nat.reduceMul, List.reduceReplicate, Int.reduceEq, Int.reduceLT, Int.reduceLE, Int.reduceAdd, Int.reduceSub, Int.reduceMul, Nat.reduceLT, Int.reduceToNat]
  refine turnR_sch b hb _ _ ?_ (by simp -implicitDefEqProofs (maxSteps := 2000000) only [wk, act, asV, ↓reduceIte, Nat.reduceEqDiff, reduceCtorEq, Nat.reduceAdd, Nat.reduceLeDiff, Nat.reduceSub, Nat.reduceMul, List.reduceReplicate, Int.reduceEq, Int.reduceLT, Int.reduceLE, Int.reduceAdd, Int.reduceSub, Int.reduceMul, Nat.reduceLT, Int.reduceToNat]; first | done | rfl) (by simp -implicitDefEqProofs (maxSteps := 2000000) only [wk, act, asV, ↓reduceIte, Nat.reduceEqDiff, reduceCtorEq, Nat.reduceAdd, Nat.reduceLeDiff, Nat.reduceSub, Nat.reduceMul, List.reduceReplicate, Int.reduceEq, Int.reduceLT, Int.reduceLE, Int.reduceAdd, Int.reduceSub, Int.reduceMul, Nat.reduceLT, Int.reduceToNat]; first | done | rfl) ⟨_, by simp -implicitDefEqProofs (maxSteps := 2000000) only [wk, act, asV, ↓reduceIte, Nat.reduceEqDiff, reduceCtorEq, Nat.reduceAdd, Nat.reduceLeDiff, Nat.reduceSub, Nat.reduceMul, List.reduceReplicate, Int.reduceEq, Int.reduceLT, Int.reduceLE, Int.reduceAdd, Int.reduceSub, Int.reduceMul, Nat.reduceLT, Int.reduceToNat]; first | done | rfl, by simp -implicitDefEqProofs (maxSteps := 2000000) only [wk, act, asV, ↓reduceIte, Nat.reduceEqDiff, reduceCtorEq, Nat.reduceAdd, Nat.reduceLeDiff, Nat.reduceSub, Nat.reduceMul, List.reduceReplicate, Int.reduceEq, Int.reduceLT, Int.reduceLE, Int.reduceAdd, Int.reduceSub, Int.reduceMul, Nat.reduceLT, Int.reduceToNat]; first | done | rfl⟩ (by simp -implicitDefEqProofs (maxSteps := 2000000) only [wk, act, asV, ↓reduceIte, Nat.reduceEqDiff, reduceCtorEq, Nat.reduceAdd, Nat.reduceLeDiff, Nat.reduceSub, Nat.reduceMul, List.reduceReplicate, Int.reduceEq, Int.reduceLT, Int.reduceLE, Int.reduceAdd, Int.reduceSub, Int.reduceMul, Nat.reduceLT, Int.reduceToNat])
  intro s2 p2 ph2 p4 ph4 p5
  simp -implicitDefEqProofs (maxSteps := 2000000) only [wk, act, asV, ↓reduceIte, Nat.reduceEqDiff, reduceCtorEq, Nat.reduceAdd, Nat.reduceLeDiff, Nat.reduceSub, Nat.reduceMul, List.reduceReplicate, Int.reduceEq, Int.reduceLT, Int.reduceLE, Int.reduceAdd, Int.reduceSub, Int.reduceMul, Nat.reduceLT, Int.reduceToNat] at p2
  simp -implicitDefEqProofs (maxSteps := 2000000) only [wk, act, asV, ↓reduceIte, Nat.reduceEqDiff, reduceCtorEq, Nat.reduceAdd, Nat.reduceLeDiff, Nat.reduceSub, Nat.reduceMul, List.reduceReplicate, Int.reduceEq, Int.reduceLT, Int.reduceLE, Int.reduceAdd, Int.reduceSub, Int.reduceMul, Nat.reduceLT, Int.reduceToNat] at ph2
  simp -implicitDefEqProofs (maxSteps := 2000000) only [wk, act, asV, ↓reduceIte, Nat.reduceEqDiff, reduceCtorEq, Nat.reduceAdd, Nat.reduceLeDiff, Nat.reduceSub, Nat.reduceMul, List.reduceReplicate, Int.reduceEq, Int.reduceLT, Int.reduceLE, Int.reduceAdd, Int.reduceSub, Int.reduceMul, Nat.reduceLT, Int.reduceToNat] at p4
  simp -implicitDefEqProofs (maxSteps := 2000000) only [wk, act, asV, ↓reduceIte, Nat.reduceEqDiff, reduceCtorEq, Nat.reduceAdd, Nat.reduceLeDiff, Nat.reduceSub, Nat.reduceMul, List.reduceReplicate, Int.reduceEq, Int.reduceLT, Int.reduceLE, Int.reduceAdd, Int.reduceSub, Int.reduceMul, Nat.reduceLT, Int.reduceToNat] at ph4
  obtain ⟨v5, p5, ph5⟩ := p5
  repeat' (first | simp -implicitDefEqProofs (maxSteps := 2000000) only [p2, ph2, p4, ph4, p5, ph5, l8, t8, d8, lk, tk, dk, wl_scal, wk, act, asV, ↓reduceIte, Nat.reduceEqDiff, reduceCtorEq, Nat.reduceAdd, Nat.reduceLeDiff, Nat.reduceSub, Nat.reduceMul, List.reduceReplicate, Int.reduceEq, Int.reduceLT, Int.reduceLE, Int.reduceAdd, Int.reduceSub, Int.reduceMul, Nat.reduceLT, Int.reduceToNat] | ((with_reducible refine CallL.gate ?_); refine CallL.of (by simp -implicitDefEqProofs (maxSteps := 2000000) only [p2, ph2, p4, ph4, p5, ph5, l8, t8, d8, lk, tk, dk, wl_scal, wk, act, asV, ↓reduceIte, Nat.reduceEqDiff, reduceCtorEq, Nat.reduceAdd, Nat.reduceLeDiff, Nat.reduceSub, Nat.reduceMul, List.reduceReplicate, Int.reduceEq, Int.reduceLT, Int.reduceLE, Int.reduceAdd, Int.reduceSub, Int.reduceMul, Nat.reduceLT, Int.reduceToNat]; first | done | (with_reducible rfl)) (by first | exact table_ok) (by simp -implicitDefEqProofs (maxSteps := 2000000) only [p2, ph2, p4, ph4, p5, ph5, l8, t8, d8, lk, tk, dk, wl_scal, wk, act, asV, ↓reduceIte, Nat.reduceEqDiff, reduceCtorEq, Nat.reduceAdd, Nat.reduceLeDiff, Nat.reduceSub, Nat.reduceMul, List.reduceReplicate, Int.reduceEq, Int.reduceLT, Int.reduceLE, Int.reduceAdd, Int.reduceSub, Int.reduceMul, Nat.reduceLT, Int.reduceToNat]) ?_) | ((with_reducible refine CallP.gate ?_); refine CallP.of (by simp -implicitDefEqProofs (maxSteps := 2000000) only [p2, ph2, p4, ph4, p5, ph5, l8, t8, d8, lk, tk, dk, wl_scal, wk, act, asV, ↓reduceIte, Nat.reduceEqDiff, reduceCtorEq, Nat.reduceAdd, Nat.reduceLeDiff, Nat.reduceSub, Nat.reduceMul, List.reduceReplicate, Int.reduceEq, Int.reduceLT, Int.reduceLE, Int.reduceAdd, Int.reduceSub, Int.reduceMul, Nat.reduceLT, Int.reduceToNat]; first | done | (with_reducible rfl)) (by first | exact table_ok) (by simp -implicitDefEqProofs (maxSteps := 2000000) only [p2, ph2, p4, ph4, p5, ph5, l8, t8, d8, lk, tk, dk, wl_scal, wk, act, asV, ↓reduceIte, Nat.reduceEqDiff, reduceCtorEq, Nat.reduceAdd, Nat.reduceLeDiff, Nat.reduceSub, Nat.reduceMul, List.reduceReplicate, Int.reduceEq, Int.reduceLT, Int.reduceLE, Int.reduceAdd, Int.reduceSub, Int.reduceMul, Nat.reduceLT, Int.reduceToNat]) ?_))
  refine turnR_in hs b (v2 := 0) (v3 := v5) (v4 := 0) [] _ _ ?_ (by simp -implicitDefEqProofs (maxSteps := 2000000) only [wk, act, asV, ↓reduceIte, Nat.reduceEqDiff, reduceCtorEq, Nat.reduceAdd, Nat.reduceLeDiff, Nat.reduceSub, Nat.reduceMul, List.reduceReplicate, Int.reduceEq, Int.reduceLT, Int.reduceLE, Int.reduceAdd, Int.reduceSub, Int.reduceMul, Nat.reduceLT, Int.reduceToNat]; first | done | rfl) (by simp -implicitDefEqProofs (maxSteps := 2000000) only [wk, act, asV, ↓reduceIte, Nat.reduceEqDiff, reduceCtorEq, Nat.reduceAdd, Nat.reduceLeDiff, Nat.reduceSub, Nat.reduceMul, List.reduceReplicate, Int.reduceEq, Int.reduceLT, Int.reduceLE, Int.reduceAdd, Int.reduceSub, Int.reduceMul, Nat.reduceLT, Int.reduceToNat]; first | done | rfl) ⟨_, by simp -implicitDefEqProofs (maxSteps := 2000000) only [wk, act, asV, ↓reduceIte, Nat.reduceEqDiff, reduceCtorEq, Nat.reduceAdd, Nat.reduceLeDiff, Nat.reduceSub, Nat.reduceMul, List.reduceReplicate, Int.reduceEq, Int.reduceLT, Int.reduceLE, Int.reduceAdd, Int.reduceSub, Int.reduceMul, Nat.reduceLT, Int.reduceToNat]; first | done | rfl, by simp -implicitDefEqProofs (maxSteps := 2000000) only [wk, act, asV, ↓reduceIte, Nat.reduceEqDiff, reduceCtorEq, Nat.reduceAdd, Nat.reduceLeDiff, Nat.reduceSub, Nat.reduceMul, List.reduceReplicate, Int.reduceEq, Int.reduceLT, Int.reduceLE, Int.reduceAdd, Int.reduceSub, Int.reduceMul, Nat.reduceLT, Int.reduceToNat]; first | done | rfl⟩ (by simp -implicitDefEqProofs (maxSteps := 2000000) only [p5, wk, act, asV, ↓reduceIte, Nat.reduceEqDiff, reduceCtorEq, Nat.reduceAdd, Nat.reduceLeDiff, Nat.reduceSub, Nat.reduceMul, List.reduceReplicate, Int.reduceEq, Int.reduceLT, Int.reduceLE, Int.reduceAdd, Int.reduceSub, Int.reduceMul, Nat.reduceLT, Int.reduceToNat]) (by simp -implicitDefEqProofs (maxSteps := 2000000) only [ph5, wk, act, asV, ↓reduceIte, Nat.reduceEqDiff, reduceCtorEq, Nat.reduceAdd, Nat.reduceLeDiff, Nat.reduceSub, Nat.reduceMul, List.reduceReplicate, Int.reduceEq, Int.reduceLT, Int.reduceLE, Int.reduceAdd, Int.reduceSub, Int.reduceMul, Nat.reduceLT, Int.reduceToNat]) (by simp -implicitDefEqProofs (maxSteps := 2000000) only [wk, act, asV, ↓reduceIte, Nat.reduceEqDiff, reduceCtorEq, Nat.reduceAdd, Nat.reduceLeDiff, Nat.reduceSub, Nat.reduceMul, List.reduceReplicate, Int.reduceEq, Int.reduceLT, Int.reduceLE, Int.reduceAdd, Int.reduceSub, Int.reduceMul, Nat.reduceLT, Int.reduceToNat])
  intro s3 q2 qh2 q4 qh4 q6
  simp -implicitDefEqProofs (maxSteps := 2000000) only [p2, wk, act, asV, ↓reduceIte, Nat.reduceEqDiff, reduceCtorEq, Nat.reduceAdd, Nat.reduceLeDiff, Nat.reduceSub, Nat.reduceMul, List.reduceReplicate, Int.reduceEq, Int.reduceLT, Int.reduceLE, Int.reduceAdd, Int.reduceSub, Int.reduceMul, Nat.reduceLT, Int.reduceToNat] at q2
  simp -implicitDefEqProofs (maxSteps := 2000000) only [ph2, wk, act, asV, ↓reduceIte, Nat.reduceEqDiff, reduceCtorEq, Nat.reduceAdd, Nat.reduceLeDiff, Nat.reduceSub, Nat.reduceMul, List.reduceReplicate, Int.reduceEq, Int.reduceLT, Int.reduceLE, Int.reduceAdd, Int.reduceSub, Int.reduceMul, Nat.reduceLT, Int.reduceToNat] at qh2
  simp -implicitDefEqProofs (maxSteps := 2000000) only [p4, wk, act, asV, ↓reduceIte, Nat.reduceEqDiff, reduceCtorEq, Nat.reduceAdd, Nat.reduceLeDiff, Nat.reduceSub, Nat.reduceMul, List.reduceReplicate, Int.reduceEq, Int.reduceLT, Int.reduceLE, Int.reduceAdd, Int.reduceSub, Int.reduceMul, Nat.reduceLT, Int.reduceToNat] at q4
  simp -implicitDefEqProofs (maxSteps := 2000000) only [ph4, wk, act, asV, ↓reduceIte, Nat.reduceEqDiff, reduceCtorEq, Nat.reduceAdd, Nat.reduceLeDiff, Nat.reduceSub, Nat.reduceMul, List.reduceReplicate, Int.reduceEq, Int.reduceLT, Int.reduceLE, Int.reduceAdd, Int.reduceSub, Int.reduceMul, Nat.reduceLT, Int.reduceToNat] at qh4
  simp -implicitDefEqProofs (maxSteps := 2000000) only [wk, act, asV, ↓reduceIte, Nat.reduceEqDiff, reduceCtorEq, Nat.reduceAdd, Nat.reduceLeDiff, Nat.reduceSub, Nat.reduceMul, List.reduceReplicate, Int.reduceEq, Int.reduceLT, Int.reduceLE, Int.reduceAdd, Int.reduceSub, Int.reduceMul, Nat.reduceLT, Int.reduceToNat]
  refine turnR_add hs (rnds hs (schN b 64) 64).l (rnds_l _ _ _) _ _ ?_ (by simp -implicitDefEqProofs (maxSteps := 2000000) only [q2, wk, act, asV, ↓reduceIte, Nat.reduceEqDiff, reduceCtorEq, Nat.reduceAdd, Nat.reduceLeDiff, Nat.reduceSub, Nat.reduceMul, List.reduceReplicate, Int.reduceEq, Int.reduceLT, Int.reduceLE, Int.reduceAdd, Int.reduceSub, Int.reduceMul, Nat.reduceLT, Int.reduceToNat]; first | done | rfl) (by simp -implicitDefEqProofs (maxSteps := 2000000) only [qh2, wk, act, asV, ↓reduceIte, Nat.reduceEqDiff, reduceCtorEq, Nat.reduceAdd, Nat.reduceLeDiff, Nat.reduceSub, Nat.reduceMul, List.reduceReplicate, Int.reduceEq, Int.reduceLT, Int.reduceLE, Int.reduceAdd, Int.reduceSub, Int.reduceMul, Nat.reduceLT, Int.reduceToNat]; first | done | rfl) (by obtain ⟨v6, r6, rh6⟩ := q6; exact ⟨v6, by simp -implicitDefEqProofs (maxSteps := 2000000) only [r6, wk, act, asV, ↓reduceIte, Nat.reduceEqDiff, reduceCtorEq, Nat.reduceAdd, Nat.reduceLeDiff, Nat.reduceSub, Nat.reduceMul, List.reduceReplicate, Int.reduceEq, Int.reduceLT, Int.reduceLE, Int.reduceAdd, Int.reduceSub, Int.reduceMul, Nat.reduceLT, Int.reduceToNat], by simp -implicitDefEqProofs (maxSteps := 2000000) only [rh6, wk, act, asV, ↓reduceIte, Nat.reduceEqDiff, reduceCtorEq, Nat.reduceAdd, Nat.reduceLeDiff, Nat.reduceSub, Nat.reduceMul, List.reduceReplicate, Int.reduceEq, Int.reduceLT, Int.reduceLE, Int.reduceAdd, Int.reduceSub, Int.reduceMul, Nat.reduceLT, Int.reduceToNat]⟩) (by simp -implicitDefEqProofs (maxSteps := 2000000) only [wk, act, asV, ↓reduceIte, Nat.reduceEqDiff, reduceCtorEq, Nat.reduceAdd, Nat.reduceLeDiff, Nat.reduceSub, Nat.reduceMul, List.reduceReplicate, Int.reduceEq, Int.reduceLT, Int.reduceLE, Int.reduceAdd, Int.reduceSub, Int.reduceMul, Nat.reduceLT, Int.reduceToNat])
  intro s4 r4 rh4 r6
  obtain ⟨v6, r6, rh6⟩ := r6
  simp -implicitDefEqProofs (maxSteps := 2000000) only [q4, wk, act, asV, ↓reduceIte, Nat.reduceEqDiff, reduceCtorEq, Nat.reduceAdd, Nat.reduceLeDiff, Nat.reduceSub, Nat.reduceMul, List.reduceReplicate, Int.reduceEq, Int.reduceLT, Int.reduceLE, Int.reduceAdd, Int.reduceSub, Int.reduceMul, Nat.reduceLT, Int.reduceToNat] at r4
  simp -implicitDefEqProofs (maxSteps := 2000000) only [qh4, wk, act, asV, ↓reduceIte, Nat.reduceEqDiff, reduceCtorEq, Nat.reduceAdd, Nat.reduceLeDiff, Nat.reduceSub, Nat.reduceMul, List.reduceReplicate, Int.reduceEq, Int.reduceLT, Int.reduceLE, Int.reduceAdd, Int.reduceSub, Int.reduceMul, Nat.reduceLT, Int.reduceToNat] at rh4
  have lt : (wl (turnH hs b)).length = 8 := by rw [wl_length]; exact addTo_length _ _ _
  have tt : List.take 8 (wl (turnH hs b)) = wl (turnH hs b) := List.take_of_length_le (by omega)
  have dt : List.drop 8 (wl (turnH hs b)) = [] := List.drop_of_length_le (by omega)
  rw [show addTo (rnds hs (schN b 64) 64).l hs.l 8 = turnH hs b from rfl] at rh6
  simp -implicitDefEqProofs (maxSteps := 2000000) only [r4, rh4, r6, rh6, lt, tt, dt, wl_scal, wk, act, asV, ↓reduceIte, Nat.reduceEqDiff, reduceCtorEq, Nat.reduceAdd, Nat.reduceLeDiff, Nat.reduceSub, Nat.reduceMul, List.reduceReplicate, Int.reduceEq, Int.reduceLT, Int.reduceLE, Int.reduceAdd, Int.reduceSub, Int.reduceMul, Nat.reduceLT, Int.reduceToNat]
end Go.Proofs.Ytlbilkldjhhopaa
