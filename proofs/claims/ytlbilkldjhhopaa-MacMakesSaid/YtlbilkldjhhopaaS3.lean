/- H behind 64 bytes, by the program. -/
import Derived.Test.YtlbilkldjhhopaaS2
import Derived.Test.YtlbilkldjhhopaaE31
import Derived.Test.YtlbilkldjhhopaaM7
set_option linter.unusedSectionVars false
set_option linter.unusedVariables false
set_option linter.unusedSimpArgs false
set_option maxRecDepth 100000
set_option maxHeartbeats 8000000
namespace Go.Proofs.Ytlbilkldjhhopaa
open Go.RowKit

def K64 : List UInt32 := [0x428a2f98, 0x71374491, 0xb5c0fbcf, 0xe9b5dba5, 0x3956c25b, 0x59f111f1, 0x923f82a4, 0xab1c5ed5, 0xd807aa98, 0x12835b01, 0x243185be, 0x550c7dc3, 0x72be5d74, 0x80deb1fe, 0x9bdc06a7, 0xc19bf174, 0xe49b69c1, 0xefbe4786, 0x0fc19dc6, 0x240ca1cc, 0x2de92c6f, 0x4a7484aa, 0x5cb0a9dc, 0x76f988da, 0x983e5152, 0xa831c66d, 0xb00327c8, 0xbf597fc7, 0xc6e00bf3, 0xd5a79147, 0x06ca6351, 0x14292967, 0x27b70a85, 0x2e1b2138, 0x4d2c6dfc, 0x53380d13, 0x650a7354, 0x766a0abb, 0x81c2c92e, 0x92722c85, 0xa2bfe8a1, 0xa81a664b, 0xc24b8b70, 0xc76c51a3, 0xd192e819, 0xd6990624, 0xf40e3585, 0x106aa070, 0x19a4c116, 0x1e376c08, 0x2748774c, 0x34b0bcb5, 0x391c0cb3, 0x4ed8aa4a, 0x5b9cca4f, 0x682e6ff3, 0x748f82ee, 0x78a5636f, 0x84c87814, 0x8cc70208, 0x90befffa, 0xa4506ceb, 0xbef9a3f7, 0xc67178f2]
theorem K64_length : K64.length = 64 := rfl
theorem constants_ok : RC Try.prog 40 [] [.agg (wl K64)] := by
  refine RC.of_wp c40 rfl ?_
  simp -implicitDefEqProofs (maxSteps := 2000000) only [m40_1, m40_r, m40_b, m40, wk, act, asV, ↓reduceIte, Nat.reduceEqDiff, reduceCtorEq, Nat.reduceAdd, Nat.reduceLeDiff, Nat.reduceSub, Nat.reduceMul, List.reduceReplicate, Int.reduceEq, Int.reduceLT, Int.reduceLE, Int.reduceAdd, Int.reduceSub, Int.reduceMul, Nat.reduceLT, Int.reduceToNat]
  first | done | kernel_rfl
theorem table_ok : RC Try.prog 44 [] [.agg (wl K64)] := by
  refine RC.of_wp c44 rfl ?_
  simp -implicitDefEqProofs (maxSteps := 2000000) only [m44_1, m44_r, m44_b, m44, wk, act, asV, ↓reduceIte, Nat.reduceEqDiff, reduceCtorEq, Nat.reduceAdd, Nat.reduceLeDiff, Nat.reduceSub, Nat.reduceMul, List.reduceReplicate, Int.reduceEq, Int.reduceLT, Int.reduceLE, Int.reduceAdd, Int.reduceSub, Int.reduceMul, Nat.reduceLT, Int.reduceToNat]
  first | done | kernel_rfl
structure H8 where
  a : UInt32
  b : UInt32
  c : UInt32
  d : UInt32
  e : UInt32
  f : UInt32
  g : UInt32
  h : UInt32
def H8.l (v : H8) : List UInt32 := [v.a, v.b, v.c, v.d, v.e, v.f, v.g, v.h]
def first8 (v : H8) (k w : UInt32) : UInt32 := v.h + turnedW v.e 6 11 25 false + (v.e &&& v.f ^^^ ~~~v.e &&& v.g) + k + w
def second8 (v : H8) : UInt32 := turnedW v.a 2 13 22 false + (v.a &&& v.b ^^^ v.a &&& v.c ^^^ v.b &&& v.c)
def rnd (v : H8) (k w : UInt32) : H8 := ⟨first8 v k w + second8 v, v.a, v.b, v.c, v.d + first8 v k w, v.e, v.f, v.g⟩
def rnds (v : H8) (W : List UInt32) : Nat → H8
  | 0 => v
  | t + 1 => rnd (rnds v W t) (K64.getD t 0) (W.getD t 0)
def addTo (L h : List UInt32) (i : Nat) : List UInt32 := (List.range 8).map fun j => if j < i then L.getD j 0 + h.getD j 0 else L.getD j 0
def turnH (h : H8) (b : List UInt8) : List UInt32 := addTo (rnds h (schN b 64) 64).l h.l 8
theorem w_not (x : UInt32) : ((~~~x).toNat : Int) = 4294967295 - (x.toNat : Int) := by
  have := x.toNat_lt
  rw [UInt32.toNat_not]
  show (((4294967296 - 1 - x.toNat : Nat)) : Int) = _
  omega
theorem w_notx (x : UInt32) : bitsI .xor .u32 4294967295 (x.toNat : Int) = some (((~~~x).toNat : Nat) : Int) := by
  have h := w_xor (4294967295 : UInt32) x
  have e : (4294967295 : UInt32) ^^^ x = ~~~x := by
    rw [UInt32.xor_comm]; exact UInt32.xor_neg_one ..
  rw [e] at h
  exact h

theorem turn_in (hs : H8) (b : List UInt8) {v2 v3 v4 v5 : Nat} (B : List UInt32) (Q : Ex → St → Prop) (s1 : St)
    (q1 : ∀ s2 : St, s2.t 2 = s1.t 2 → s2.h 2 = s1.h 2 → s2.t 4 = s1.t 4 → s2.h 4 = s1.h 4 → (∃ v6, s2.t 6 = .ptr 6 0 v6 ∧ s2.h 6 = ⟨v6, true, true, false, wl (rnds hs (schN b 64) 64).l⟩) → Q (.exit 0) s2)
    (k5 : s1.t 5 = .ptr 5 0 v5) (kh5 : s1.h 5 = ⟨v5, true, true, false, wl K64⟩) (k6 : ∃ v6, s1.t 6 = .ptr 6 0 v6 ∧ s1.h 6 = ⟨v6, true, true, false, wl hs.l⟩) (k21 : s1.t 21 = .agg (wl (schN b 64))) (k22 : s1.t 22 = .int .i64 0) :
    Wp (RCs Try.prog) (.loop m20_9) Q s1 := by
  refine Wp_loop (fun m s => ∃ t, t ≤ 64 ∧ m = 64 - t ∧ s.t 2 = s1.t 2 ∧ s.h 2 = s1.h 2 ∧ s.t 4 = s1.t 4 ∧ s.h 4 = s1.h 4 ∧ s.t 5 = .ptr 5 0 v5 ∧ s.h 5 = ⟨v5, true, true, false, wl K64⟩ ∧ s.t 21 = .agg (wl (schN b 64)) ∧ s.t 22 = .int .i64 t ∧ ∃ v6, s.t 6 = .ptr 6 0 v6 ∧ s.h 6 = ⟨v6, true, true, false, wl (rnds hs (schN b 64) t).l⟩) 64 ⟨0, by omega, rfl, rfl, rfl, rfl, rfl, k5, kh5, k21, k22, k6⟩ ?_
  clear k5 kh5 k6 k21 k22
  rintro m s ⟨t, ht, rfl, k2, kh2, k4, kh4, k5, kh5, k21, k22, v6, k6, kh6⟩
  have hW := schN_length b 64
  by_cases ht64 : t < 64
  · have ht64' : (t : Int) < 64 := by omega
    have aw := at_wl (xs := schN b 64) (k := t) (by rw [hW]; omega)
    have ak := at_wl (xs := K64) (k := t) (by rw [K64_length]; omega)
    have lw : (wl (schN b 64)).length = 64 := by rw [wl_length, hW]
    have lk : (wl K64).length = 64 := rfl
    obtain ⟨v, hv⟩ : ∃ v, v = rnds hs (schN b 64) t := ⟨_, rfl⟩
    have er : rnds hs (schN b 64) (t + 1) = rnd v (K64.getD t 0) ((schN b 64).getD t 0) := by rw [hv]; rfl
    obtain ⟨w, hw⟩ : ∃ w, w = (schN b 64).getD t 0 := ⟨_, rfl⟩
    obtain ⟨k, hk⟩ : ∃ k, k = K64.getD t 0 := ⟨_, rfl⟩
    rw [← hw] at aw er
    rw [← hk] at ak er
    rw [← hv] at kh6
    obtain ⟨a, b', c, d, e, f, g, h⟩ := v
    have ecells : wl (H8.l ⟨a, b', c, d, e, f, g, h⟩) = [.int .u32 (a.toNat : Int), .int .u32 (b'.toNat : Int), .int .u32 (c.toNat : Int), .int .u32 (d.toNat : Int), .int .u32 (e.toNat : Int), .int .u32 (f.toNat : Int), .int .u32 (g.toNat : Int), .int .u32 (h.toNat : Int)] := rfl
    rw [ecells] at kh6
    have c1 := turned_ok e (a := 6) (b := 11) (c := 25) false (by decide) (by decide) (by decide) (by decide) (by decide) (by decide)
    have c2 := turned_ok a (a := 2) (b := 13) (c := 22) false (by decide) (by decide) (by decide) (by decide) (by decide) (by decide)
    obtain ⟨x1, hx1⟩ : ∃ x, x = turnedW e 6 11 25 false := ⟨_, rfl⟩
    obtain ⟨x2, hx2⟩ : ∃ x, x = turnedW a 2 13 22 false := ⟨_, rfl⟩
    rw [← hx1] at c1
    rw [← hx2] at c2
    have d1 := w_add h x1
    have d2 := w_and e f
    have d3 := w_notx e
    have d4 := w_and (~~~e) g
    have d5 := w_xor (e &&& f) (~~~e &&& g)
    have d6 := w_add (h + x1) (e &&& f ^^^ ~~~e &&& g)
    have d7 := w_add (h + x1 + (e &&& f ^^^ ~~~e &&& g)) k
    have d8 := w_add (h + x1 + (e &&& f ^^^ ~~~e &&& g) + k) w
    obtain ⟨F, hF⟩ : ∃ F, F = h + x1 + (e &&& f ^^^ ~~~e &&& g) + k + w := ⟨_, rfl⟩
    rw [← hF] at d8
    have d9 := w_and a b'
    have d10 := w_and a c
    have d11 := w_xor (a &&& b') (a &&& c)
    have d12 := w_and b' c
    have d13 := w_xor (a &&& b' ^^^ a &&& c) (b' &&& c)
    have d14 := w_add x2 (a &&& b' ^^^ a &&& c ^^^ b' &&& c)
    obtain ⟨S, hS⟩ : ∃ S, S = x2 + (a &&& b' ^^^ a &&& c ^^^ b' &&& c) := ⟨_, rfl⟩
    rw [← hS] at d14
    have d15 := w_add F S
    have d16 := w_add d F
    have ht63 : t ≤ 63 := by omega
    have hsg : IntKind.u32.signed = false := rfl
    have hmx : IntKind.u32.max = 4294967295 := rfl
    repeat' (first | simp -implicitDefEqProofs (maxSteps := 2000000) only [hsg, hmx, Bool.false_eq_true, k2, kh2, k4, kh4, k5, kh5, k21, k22, k6, kh6, ht64', aw, ak, lw, lk, d1, d2, d3, d4, d5, d6, d7, d8, d9, d10, d11, d12, d13, d14, d15, d16, ht63, m20_1, m20_2, m20_3, m20_4, m20_5, m20_6, m20_7, m20_8, m20_9, m20_10, m20_11, m20_12, m20_13, m20_14, m20_15, m20_16, m20_17, m20_18, m20_19, m20_20, m20_r, m20_b, m20, wrap_nat (show t < 2 ^ 63 - 1 by omega), wk, act, asV, ↓reduceIte, Nat.reduceEqDiff, reduceCtorEq, Nat.reduceAdd, Nat.reduceLeDiff, Nat.reduceSub, Nat.reduceMul, List.reduceReplicate, Int.reduceEq, Int.reduceLT, Int.reduceLE, Int.reduceAdd, Int.reduceSub, Int.reduceMul, Nat.reduceLT, Int.reduceToNat] | ((with_reducible refine CallL.gate ?_); refine CallL.of (by simp -implicitDefEqProofs (maxSteps := 2000000) only [hsg, hmx, Bool.false_eq_true, k2, kh2, k4, kh4, k5, kh5, k21, k22, k6, kh6, ht64', aw, ak, lw, lk, d1, d2, d3, d4, d5, d6, d7, d8, d9, d10, d11, d12, d13, d14, d15, d16, ht63, m20_1, m20_2, m20_3, m20_4, m20_5, m20_6, m20_7, m20_8, m20_9, m20_10, m20_11, m20_12, m20_13, m20_14, m20_15, m20_16, m20_17, m20_18, m20_19, m20_20, m20_r, m20_b, m20, wrap_nat (show t < 2 ^ 63 - 1 by omega), wk, act, asV, ↓reduceIte, Nat.reduceEqDiff, reduceCtorEq, Nat.reduceAdd, Nat.reduceLeDiff, Nat.reduceSub, Nat.reduceMul, List.reduceReplicate, Int.reduceEq, Int.reduceLT, Int.reduceLE, Int.reduceAdd, Int.reduceSub, Int.reduceMul, Nat.reduceLT, Int.reduceToNat]; first | done | (with_reducible rfl)) (by first | exact c1 | exact c2) (by simp -implicitDefEqProofs (maxSteps := 2000000) only [hsg, hmx, Bool.false_eq_true, k2, kh2, k4, kh4, k5, kh5, k21, k22, k6, kh6, ht64', aw, ak, lw, lk, d1, d2, d3, d4, d5, d6, d7, d8, d9, d10, d11, d12, d13, d14, d15, d16, ht63, m20_1, m20_2, m20_3, m20_4, m20_5, m20_6, m20_7, m20_8, m20_9, m20_10, m20_11, m20_12, m20_13, m20_14, m20_15, m20_16, m20_17, m20_18, m20_19, m20_20, m20_r, m20_b, m20, wrap_nat (show t < 2 ^ 63 - 1 by omega), wk, act, asV, ↓reduceIte, Nat.reduceEqDiff, reduceCtorEq, Nat.reduceAdd, Nat.reduceLeDiff, Nat.reduceSub, Nat.reduceMul, List.reduceReplicate, Int.reduceEq, Int.reduceLT, Int.reduceLE, Int.reduceAdd, Int.reduceSub, Int.reduceMul, Nat.reduceLT, Int.reduceToNat]) ?_) | ((with_reducible refine CallP.gate ?_); refine CallP.of (by simp -implicitDefEqProofs (maxSteps := 2000000) only [hsg, hmx, Bool.false_eq_true, k2, kh2, k4, kh4, k5, kh5, k21, k22, k6, kh6, ht64', aw, ak, lw, lk, d1, d2, d3, d4, d5, d6, d7, d8, d9, d10, d11, d12, d13, d14, d15, d16, ht63, m20_1, m20_2, m20_3, m20_4, m20_5, m20_6, m20_7, m20_8, m20_9, m20_10, m20_11, m20_12, m20_13, m20_14, m20_15, m20_16, m20_17, m20_18, m20_19, m20_20, m20_r, m20_b, m20, wrap_nat (show t < 2 ^ 63 - 1 by omega), wk, act, asV, ↓reduceIte, Nat.reduceEqDiff, reduceCtorEq, Nat.reduceAdd, Nat.reduceLeDiff, Nat.reduceSub, Nat.reduceMul, List.reduceReplicate, Int.reduceEq, Int.reduceLT, Int.reduceLE, Int.reduceAdd, Int.reduceSub, Int.reduceMul, Nat.reduceLT, Int.reduceToNat]; first | done | (with_reducible rfl)) (by first | exact c1 | exact c2) (by simp -implicitDefEqProofs (maxSteps := 2000000) only [hsg, hmx, Bool.false_eq_true, k2, kh2, k4, kh4, k5, kh5, k21, k22, k6, kh6, ht64', aw, ak, lw, lk, d1, d2, d3, d4, d5, d6, d7, d8, d9, d10, d11, d12, d13, d14, d15, d16, ht63, m20_1, m20_2, m20_3, m20_4, m20_5, m20_6, m20_7, m20_8, m20_9, m20_10, m20_11, m20_12, m20_13, m20_14, m20_15, m20_16, m20_17, m20_18, m20_19, m20_20, m20_r, m20_b, m20, wrap_nat (show t < 2 ^ 63 - 1 by omega), wk, act, asV, ↓reduceIte, Nat.reduceEqDiff, reduceCtorEq, Nat.reduceAdd, Nat.reduceLeDiff, Nat.reduceSub, Nat.reduceMul, List.reduceReplicate, Int.reduceEq, Int.reduceLT, Int.reduceLE, Int.reduceAdd, Int.reduceSub, Int.reduceMul, Nat.reduceLT, Int.reduceToNat]) ?_))
    refine ⟨64 - (t + 1), by omega, t + 1, by omega, rfl, rfl, v6, rfl, ?_⟩
    rw [er]
    have e2 : rnd ⟨a, b', c, d, e, f, g, h⟩ k w = ⟨F + S, a, b', c, d + F, e, f, g⟩ := by
      simp only [rnd, first8, second8, ← hx1, ← hx2, ← hF, ← hS]
    rw [e2]; rfl
  · obtain rfl : t = 64 := by omega
    simp -implicitDefEqProofs (maxSteps := 2000000) only [k22, m20_1, m20_2, m20_3, m20_4, m20_5, m20_6, m20_7, m20_8, m20_9, m20_10, m20_11, m20_12, m20_13, m20_14, m20_15, m20_16, m20_17, m20_18, m20_19, m20_20, m20_r, m20_b, m20, wk, act, asV, ↓reduceIte, Nat.reduceEqDiff, reduceCtorEq, Nat.reduceAdd, Nat.reduceLeDiff, Nat.reduceSub, Nat.reduceMul, List.reduceReplicate, Int.reduceEq, Int.reduceLT, Int.reduceLE, Int.reduceAdd, Int.reduceSub, Int.reduceMul, Nat.reduceLT, Int.reduceToNat]
    exact q1 _ (by simp -implicitDefEqProofs (maxSteps := 2000000) only [k2, wk, act, asV, ↓reduceIte, Nat.reduceEqDiff, reduceCtorEq, Nat.reduceAdd, Nat.reduceLeDiff, Nat.reduceSub, Nat.reduceMul, List.reduceReplicate, Int.reduceEq, Int.reduceLT, Int.reduceLE, Int.reduceAdd, Int.reduceSub, Int.reduceMul, Nat.reduceLT, Int.reduceToNat]) (by simp -implicitDefEqProofs (maxSteps := 2000000) only [kh2, wk, act, asV, ↓reduceIte, Nat.reduceEqDiff, reduceCtorEq, Nat.reduceAdd, Nat.reduceLeDiff, Nat.reduceSub, Nat.reduceMul, List.reduceReplicate, Int.reduceEq, Int.reduceLT, Int.reduceLE, Int.reduceAdd, Int.reduceSub, Int.reduceMul, Nat.reduceLT, Int.reduceToNat]) (by simp -implicitDefEqProofs (maxSteps := 2000000) only [k4, wk, act, asV, ↓reduceIte, Nat.reduceEqDiff, reduceCtorEq, Nat.reduceAdd, Nat.reduceLeDiff, Nat.reduceSub, Nat.reduceMul, List.reduceReplicate, Int.reduceEq, Int.reduceLT, Int.reduceLE, Int.reduceAdd, Int.reduceSub, Int.reduceMul, Nat.reduceLT, Int.reduceToNat]) (by simp -implicitDefEqProofs (maxSteps := 2000000) only [kh4, wk, act, asV, ↓reduceIte, Nat.reduceEqDiff, reduceCtorEq, Nat.reduceAdd, Nat.reduceLeDiff, Nat.reduceSub, Nat.reduceMul, List.reduceReplicate, Int.reduceEq, Int.reduceLT, Int.reduceLE, Int.reduceAdd, Int.reduceSub, Int.reduceMul, Nat.reduceLT, Int.reduceToNat]) ⟨v6, by simp -implicitDefEqProofs (maxSteps := 2000000) only [k6, wk, act, asV, ↓reduceIte, Nat.reduceEqDiff, reduceCtorEq, Nat.reduceAdd, Nat.reduceLeDiff, Nat.reduceSub, Nat.reduceMul, List.reduceReplicate, Int.reduceEq, Int.reduceLT, Int.reduceLE, Int.reduceAdd, Int.reduceSub, Int.reduceMul, Nat.reduceLT, Int.reduceToNat], by simp -implicitDefEqProofs (maxSteps := 2000000) only [kh6, wk, act, asV, ↓reduceIte, Nat.reduceEqDiff, reduceCtorEq, Nat.reduceAdd, Nat.reduceLeDiff, Nat.reduceSub, Nat.reduceMul, List.reduceReplicate, Int.reduceEq, Int.reduceLT, Int.reduceLE, Int.reduceAdd, Int.reduceSub, Int.reduceMul, Nat.reduceLT, Int.reduceToNat]⟩
end Go.Proofs.Ytlbilkldjhhopaa
