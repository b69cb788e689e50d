/- H behind 64 bytes, by the program. -/
import Derived.Test.YtkphojcmjffccaaS2
import Derived.Test.YtkphojcmjffccaaE31
import Derived.Test.YtkphojcmjffccaaK0
set_option linter.unusedSectionVars false
set_option linter.unusedVariables false
set_option linter.unusedSimpArgs false
set_option maxRecDepth 100000
set_option maxHeartbeats 8000000
namespace Go.Proofs.Ytkphojcmjffccaa
open Go.RowKit

def K64 : List UInt32 := [0x428a2f98, 0x71374491, 0xb5c0fbcf, 0xe9b5dba5, 0x3956c25b, 0x59f111f1, 0x923f82a4, 0xab1c5ed5, 0xd807aa98, 0x12835b01, 0x243185be, 0x550c7dc3, 0x72be5d74, 0x80deb1fe, 0x9bdc06a7, 0xc19bf174, 0xe49b69c1, 0xefbe4786, 0x0fc19dc6, 0x240ca1cc, 0x2de92c6f, 0x4a7484aa, 0x5cb0a9dc, 0x76f988da, 0x983e5152, 0xa831c66d, 0xb00327c8, 0xbf597fc7, 0xc6e00bf3, 0xd5a79147, 0x06ca6351, 0x14292967, 0x27b70a85, 0x2e1b2138, 0x4d2c6dfc, 0x53380d13, 0x650a7354, 0x766a0abb, 0x81c2c92e, 0x92722c85, 0xa2bfe8a1, 0xa81a664b, 0xc24b8b70, 0xc76c51a3, 0xd192e819, 0xd6990624, 0xf40e3585, 0x106aa070, 0x19a4c116, 0x1e376c08, 0x2748774c, 0x34b0bcb5, 0x391c0cb3, 0x4ed8aa4a, 0x5b9cca4f, 0x682e6ff3, 0x748f82ee, 0x78a5636f, 0x84c87814, 0x8cc70208, 0x90befffa, 0xa4506ceb, 0xbef9a3f7, 0xc67178f2]
theorem K64_length : K64.length = 64 := rfl
theorem constants_ok : RC Try.prog 48 [] [.agg (wl K64)] := by
  refine RC.of_wp c48 rfl ?_
  simp -implicitDefEqProofs (maxSteps := 2000000) only [m48_1, m48_r, m48_b, m48, wk, act, asV, ↓reduceIte, Nat.reduceEqDiff, reduceCtorEq, Nat.reduceAdd, Nat.reduceLeDiff, Nat.reduceSub, Nat.reduceMul, List.reduceReplicate, Int.reduceEq, Int.reduceLT, Int.reduceLE, Int.reduceAdd, Int.reduceSub, Int.reduceMul, Nat.reduceLT, Int.reduceToNat]
  first | done | kernel_rfl
structure H8 where
  a : UInt32
  b : UInt32
  c : UInt32
  d : UInt32
  e : UInt32
  f : UInt32
  g : UInt32
  h : UInt32
def H8.l (v : H8) : List UInt32 := [v.a, v.b, v.c, v.d, v.e, v.f, v.g, v.h]
def first8 (v : H8) (k w : UInt32) : UInt32 := v.h + turnedW v.e 6 11 25 false + (v.e &&& v.f ^^^ ~~~v.e &&& v.g) + k + w
def second8 (v : H8) : UInt32 := turnedW v.a 2 13 22 false + (v.a &&& v.b ^^^ v.a &&& v.c ^^^ v.b &&& v.c)
def rnd (v : H8) (k w : UInt32) : H8 := ⟨first8 v k w + second8 v, v.a, v.b, v.c, v.d + first8 v k w, v.e, v.f, v.g⟩
def rnds (v : H8) (W : List UInt32) : Nat → H8
  | 0 => v
  | t + 1 => rnd (rnds v W t) (K64.getD t 0) (W.getD t 0)
def addTo (L h : List UInt32) (i : Nat) : List UInt32 := (List.range 8).map fun j => if j < i then L.getD j 0 + h.getD j 0 else L.getD j 0
def turnH (h : H8) (b : List UInt8) : List UInt32 := addTo (rnds h (schN b 64) 64).l h.l 8
theorem w_notx (x : UInt32) : bitsI .xor .u32 4294967295 (x.toNat : Int) = some (((~~~x).toNat : Nat) : Int) := by
  have h := w_xor (4294967295 : UInt32) x
  have e : (4294967295 : UInt32) ^^^ x = ~~~x := by
    rw [UInt32.xor_comm]; exact UInt32.xor_neg_one ..
  rw [e] at h
  exact h

theorem turn_in (hs : H8) (b : List UInt8) {v2 v3 v4 v5 : Nat} (B : List UInt32) (Q : Ex → St → Prop) (s1 : St)
    (q1 : ∀ s2 : St, s2.t 2 = s1.t 2 → s2.h 2 = s1.h 2 → s2.t 4 = s1.t 4 → s2.h 4 = s1.h 4 → (∃ v6, s2.t 6 = .ptr 6 0 v6 ∧ s2.h 6 = ⟨v6, true, true, false, wl (rnds hs (schN b 64) 64).l⟩) → Q (.exit 0) s2)
    (k5 : s1.t 5 = .ptr 5 0 v5) (kh5 : s1.h 5 = ⟨v5, true, true, false, wl K64⟩) (k6 : ∃ v6, s1.t 6 = .ptr 6 0 v6 ∧ s1.h 6 = ⟨v6, true, true, false, wl hs.l⟩) (k21 : s1.t 21 = .agg (wl (schN b 64))) (k22 : s1.t 22 = .int .i64 0) :
    Wp (RCs Try.prog) (.loop m37_9) Q s1 := by
  refine Wp_loop (fun m s => ∃ t, t ≤ 64 ∧ m = 64 - t ∧ s.t 2 = s1.t 2 ∧ s.h 2 = s1.h 2 ∧ s.t 4 = s1.t 4 ∧ s.h 4 = s1.h 4 ∧ s.t 5 = .ptr 5 0 v5 ∧ s.h 5 = ⟨v5, true, true, false, wl K64⟩ ∧ s.t 21 = .agg (wl (schN b 64)) ∧ s.t 22 = .int .i64 t ∧ ∃ v6, s.t 6 = .ptr 6 0 v6 ∧ s.h 6 = ⟨v6, true, true, false, wl (rnds hs (schN b 64) t).l⟩) 64 ⟨0, by omega, rfl, rfl, rfl, rfl, rfl, k5, kh5, k21, k22, k6⟩ ?_
  clear k5 kh5 k6 k21 k22
  rintro m s ⟨t, ht, rfl, k2, kh2, k4, kh4, k5, kh5, k21, k22, v6, k6, kh6⟩
  have hW := schN_length b 64
  by_cases ht64 : t < 64
  · have ht64' : (t : Int) < 64 := by omega
    have aw := at_wl (xs := schN b 64) (k := t) (by rw [hW]; omega)
    have ak := at_wl (xs := K64) (k := t) (by rw [K64_length]; omega)
    have lw : (wl (schN b 64)).length = 64 := by rw [wl_length, hW]
    have lk : (wl K64).length = 64 := rfl
    obtain ⟨v, hv⟩ : ∃ v, v = rnds hs (schN b 64) t := ⟨_, rfl⟩
    have er : rnds hs (schN b 64) (t + 1) = rnd v (K64.getD t 0) ((schN b 64).getD t 0) := by rw [hv]; rfl
    obtain ⟨w, hw⟩ : ∃ w, w = (schN b 64).getD t 0 := ⟨_, rfl⟩
    obtain ⟨k, hk⟩ : ∃ k, k = K64.getD t 0 := ⟨_, rfl⟩
    rw [← hw] at aw er
    rw [← hk] at ak er
    rw [← hv] at kh6
    obtain ⟨a, b', c, d, e, f, g, h⟩ := v
    have ecells : wl (H8.l ⟨a, b', c, d, e, f, g, h⟩) = [.int .u32 (a.toNat : Int), .int .u32 (b'.toNat : Int), .int .u32 (c.toNat : Int), .int .u32 (d.toNat : Int), .int .u32 (e.toNat : Int), .int .u32 (f.toNat : Int), .int .u32 (g.toNat : Int), .int .u32 (h.toNat : Int)] := rfl
    rw [ecells] at kh6
    have c1 := turned_ok e (a := 6) (b := 11) (c := 25) false (by decide) (by decide) (by decide) (by decide) (by decide) (by decide)
    have c2 := turned_ok a (a := 2) (b := 13) (c := 22) false (by decide) (by decide) (by decide) (by decide) (by decide) (by decide)
    obtain ⟨x1, hx1⟩ : ∃ x, x = turnedW e 6 11 25 false := ⟨_, rfl⟩
    obtain ⟨x2, hx2⟩ : ∃ x, x = turnedW a 2 13 22 false := ⟨_, rfl⟩
    rw [← hx1] at c1
    rw [← hx2] at c2
    have d1 := w_add h x1
    have d2 := w_and e f
    have d3 := w_notx e
    have d4 := w_and (~~~e) g
    have d5 := w_xor (e &&& f) (~~~e &&& g)
    have d6 := w_add (h + x1) (e &&& f ^^^ ~~~e &&& g)
    have d7 := w_add (h + x1 + (e &&& f ^^^ ~~~e &&& g)) k
    have d8 := w_add (h + x1 + (e &&& f ^^^ ~~~e &&& g) + k) w
    obtain ⟨F, hF⟩ : ∃ F, F = h + x1 + (e &&& f ^^^ ~~~e &&& g) + k + w := ⟨_, rfl⟩
    rw [← hF] at d8
    have d9 := w_and a b'
    have d10 := w_and a c
    have d11 := w_xor (a &&& b') (a &&& c)
    have d12 := w_and b' c
    have d13 := w_xor (a &&& b' ^^^ a &&& c) (b' &&& c)
    have d14 := w_add x2 (a &&& b' ^^^ a &&& c ^^^ b' &&& c)
    obtain ⟨S, hS⟩ : ∃ S, S = x2 + (a &&& b' ^^^ a &&& c ^^^ b' &&& c) := ⟨_, rfl⟩
    rw [← hS] at d14
    have d15 := w_add F S
    have d16 := w_add d F
    have ht63 : t ≤ 63 := by omega
    have hsg : IntKind.u32.signed = false := rfl
    have hmx : IntKind.u32.max = 4294967295 := rfl
    repeat' (first | simp -implicitDefEqProofs (maxSteps := 2000000) only [hsg, hmx, Bool.false_eq_true, k2, kh2, k4, kh4, k5, kh5, k21, k22, k6, kh6, ht64', aw, ak, lw, lk, d1, d2, d3, d4, d5, d6, d7, d8, d9, d10, d11, d12, d13, d14, d15, d16, ht63, m37_1, m37_2, m37_3, m37_4, m37_5, m37_6, m37_7, m37_8, m37_9, m37_10, m37_11, m37_12, m37_13, m37_14, m37_15, m37_16, m37_17, m37_18, m37_19, m37_20, m37_r, m37_b, m37, wrap_nat (show t < 2 ^ 63 - 1 by omega), wk, act, asV, ↓reduceIte, Nat.reduceEqDiff, reduceCtorEq, Nat.reduceAdd, Nat.reduceLeDiff, Nat.reduceSub, Nat.reduceMul, List.reduceReplicate, Int.reduceEq, Int.reduceLT, Int.reduceLE, Int.reduceAdd, Int.reduceSub, Int.reduceMul, Nat.reduceLT, Int.reduceToNat] | ((first | ((with_reducible refine CallL.gate ?_); apply CallL.of) | ((with_reducible refine CallP.gate ?_); apply CallP.of)); (case h1 => (simp -implicitDefEqProofs (maxSteps := 2000000) only [hsg, hmx, Bool.false_eq_true, k2, kh2, k4, kh4, k5, kh5, k21, k22, k6, kh6, ht64', aw, ak, lw, lk, d1, d2, d3, d4, d5, d6, d7, d8, d9, d10, d11, d12, d13, d14, d15, d16, ht63, m37_1, m37_2, m37_3, m37_4, m37_5, m37_6, m37_7, m37_8, m37_9, m37_10, m37_11, m37_12, m37_13, m37_14, m37_15, m37_16, m37_17, m37_18, m37_19, m37_20, m37_r, m37_b, m37, wrap_nat (show t < 2 ^ 63 - 1 by omega), wk, act, asV, ↓reduceIte, Nat.reduceEqDiff, reduceCtorEq, Nat.reduceAdd, Nat.reduceLeDiff, Nat.reduceSub, Nat.reduceMul, List.reduceReplicate, Int.reduceEq, Int.reduceLT, Int.reduceLE, Int.reduceAdd, Int.reduceSub, Int.reduceMul, Nat.reduceLT, Int.reduceToNat]; first | done | (with_reducible rfl))); (case h2 => (first | exact c1 | exact c2)); (case h3 => simp -implicitDefEqProofs (maxSteps := 2000000) only [hsg, hmx, Bool.false_eq_true, k2, kh2, k4, kh4, k5, kh5, k21, k22, k6, kh6, ht64', aw, ak, lw, lk, d1, d2, d3, d4, d5, d6, d7, d8, d9, d10, d11, d12, d13, d14, d15, d16, ht63, m37_1, m37_2, m37_3, m37_4, m37_5, m37_6, m37_7, m37_8, m37_9, m37_10, m37_11, m37_12, m37_13, m37_14, m37_15, m37_16, m37_17, m37_18, m37_19, m37_20, m37_r, m37_b, m37, wrap_nat (show t < 2 ^ 63 - 1 by omega), wk, act, asV, ↓reduceIte, Nat.reduceEqDiff, reduceCtorEq, Nat.reduceAdd, Nat.reduceLeDiff, Nat.reduceSub, Nat.reduceMul, List.reduceReplicate, Int.reduceEq, Int.reduceLT, Int.reduceLE, Int.reduceAdd, Int.reduceSub, Int.reduceMul, Nat.reduceLT, Int.reduceToNat])))
    refine ⟨64 - (t + 1), by omega, t + 1, by omega, rfl, rfl, v6, rfl, ?_⟩
    rw [er]
    have e2 : rnd ⟨a, b', c, d, e, f, g, h⟩ k w = ⟨F + S, a, b', c, d + F, e, f, g⟩ := by
      simp only [rnd, first8, second8, ← hx1, ← hx2, ← hF, ← hS]
    rw [e2]; rfl
  · obtain rfl : t = 64 := by omega
    simp -implicitDefEqProofs (maxSteps := 2000000) only [k22, m37_1, m37_2, m37_3, m37_4, m37_5, m37_6, m37_7, m37_8, m37_9, m37_10, m37_11, m37_12, m37_13, m37_14, m37_15, m37_16, m37_17, m37_18, m37_19, m37_20, m37_r, m37_b, m37, wk, act, asV, ↓reduceIte, Nat.reduceEqDiff, reduceCtorEq, Nat.reduceAdd, Nat.reduceLeDiff, Nat.reduceSub, Nat.reduceMul, List.reduceReplicate, Int.reduceEq, Int.reduceLT, Int.reduceLE, Int.reduceAdd, Int.reduceSub, Int.reduceMul, Nat.reduceLT, Int.reduceToNat]
    exact q1 _ (by simp -implicitDefEqProofs (maxSteps := 2000000) only [k2, wk, act, asV, ↓reduceIte, Nat.reduceEqDiff, reduceCtorEq, Nat.reduceAdd, Nat.reduceLeDiff, Nat.reduceSub, Nat.reduceMul, List.reduceReplicate, Int.reduceEq, Int.reduceLT, Int.reduceLE, Int.reduceAdd, Int.reduceSub, Int.reduceMul, Nat.reduceLT, Int.reduceToNat]) (by simp -implicitDefEqProofs (maxSteps := 2000000) only [kh2, wk, act, asV, ↓reduceIte, Nat.reduceEqDiff, reduceCtorEq, Nat.reduceAdd, Nat.reduceLeDiff, Nat.reduceSub, Nat.reduceMul, List.reduceReplicate, Int.reduceEq, Int.reduceLT, Int.reduceLE, Int.reduceAdd, Int.reduceSub, Int.reduceMul, Nat.reduceLT, Int.reduceToNat]) (by simp -implicitDefEqProofs (maxSteps := 2000000) only [k4, wk, act, asV, ↓reduceIte, Nat.reduceEqDiff, reduceCtorEq, Nat.reduceAdd, Nat.reduceLeDiff, Nat.reduceSub, Nat.reduceMul, List.reduceReplicate, Int.reduceEq, Int.reduceLT, Int.reduceLE, Int.reduceAdd, Int.reduceSub, Int.reduceMul, Nat.reduceLT, Int.reduceToNat]) (by simp -implicitDefEqProofs (maxSteps := 2000000) only [kh4, wk, act, asV, ↓reduceIte, Nat.reduceEqDiff, reduceCtorEq, Nat.reduceAdd, Nat.reduceLeDiff, Nat.reduceSub, Nat.reduceMul, List.reduceReplicate, Int.reduceEq, Int.reduceLT, Int.reduceLE, Int.reduceAdd, Int.reduceSub, Int.reduceMul, Nat.reduceLT, Int.reduceToNat]) ⟨v6, by simp -implicitDefEqProofs (maxSteps := 2000000) only [k6, wk, act, asV, ↓reduceIte, Nat.reduceEqDiff, reduceCtorEq, Nat.reduceAdd, Nat.reduceLeDiff, Nat.reduceSub, Nat.reduceMul, List.reduceReplicate, Int.reduceEq, Int.reduceLT, Int.reduceLE, Int.reduceAdd, Int.reduceSub, Int.reduceMul, Nat.reduceLT, Int.reduceToNat], by simp -implicitDefEqProofs (maxSteps := 2000000) only [kh6, wk, act, asV, ↓reduceIte, Nat.reduceEqDiff, reduceCtorEq, Nat.reduceAdd, Nat.reduceLeDiff, Nat.reduceSub, Nat.reduceMul, List.reduceReplicate, Int.reduceEq, Int.reduceLT, Int.reduceLE, Int.reduceAdd, Int.reduceSub, Int.reduceMul, Nat.reduceLT, Int.reduceToNat]⟩
end Go.Proofs.Ytkphojcmjffccaa
/- H behind 64 bytes, by the program. -/
set_option linter.unusedSectionVars false
set_option linter.unusedVariables false
set_option linter.unusedSimpArgs false
set_option maxRecDepth 100000
set_option maxHeartbeats 8000000
namespace Go.Proofs.Ytkphojcmjffccaa
open Go.RowKit

theorem addTo_length (L h : List UInt32) (i : Nat) : (addTo L h i).length = 8 := by simp [addTo]
theorem addTo_get (L h : List UInt32) (i : Nat) {j : Nat} (hj : j < 8) : (addTo L h i).getD j 0 = if j < i then L.getD j 0 + h.getD j 0 else L.getD j 0 := by
  simp [addTo, List.getD, hj]
theorem addTo_zero {L : List UInt32} (h : List UInt32) (hl : L.length = 8) : addTo L h 0 = L := by
  apply List.ext_getElem
  · rw [addTo_length, hl]
  · intro j h1 h2
    simp [addTo, List.getD, h2]
theorem addTo_set (L h : List UInt32) {i : Nat} (hi : i < 8) : (addTo L h i).set i (L.getD i 0 + h.getD i 0) = addTo L h (i + 1) := by
  apply List.ext_getElem
  · rw [List.length_set, addTo_length, addTo_length]
  · intro j h1 h2
    rw [addTo_length] at h2
    rw [List.getElem_set]
    split
    · rename_i e; subst e; simp [addTo]
    · rename_i hne
      simp only [addTo, List.getElem_map, List.getElem_range]
      by_cases hj : j < i
      · rw [if_pos hj, if_pos (by omega)]
      · rw [if_neg hj, if_neg (by omega)]
theorem H8.l_length (v : H8) : v.l.length = 8 := rfl

theorem turn_add (hs : H8) (L : List UInt32) (hL : L.length = 8) {v2 : Nat} (Q : Ex → St → Prop) (s1 : St)
    (q1 : ∀ s2 : St, s2.t 4 = s1.t 4 → s2.h 4 = s1.h 4 → (∃ v6, s2.t 6 = .ptr 6 0 v6 ∧ s2.h 6 = ⟨v6, true, true, false, wl (addTo L hs.l 8)⟩) → Q (.exit 2) s2)
    (k2 : s1.t 2 = .ptr 2 0 v2) (kh2 : s1.h 2 = ⟨v2, true, true, false, wl hs.l⟩) (k6 : ∃ v6, s1.t 6 = .ptr 6 0 v6 ∧ s1.h 6 = ⟨v6, true, true, false, wl L⟩) (k87 : s1.t 87 = .int .i64 0) :
    Wp (RCs Try.prog) (.loop m37_14) Q s1 := by
  refine Wp_loop (fun m s => ∃ i, i ≤ 8 ∧ m = 8 - i ∧ s.t 2 = .ptr 2 0 v2 ∧ s.h 2 = ⟨v2, true, true, false, wl hs.l⟩ ∧ s.t 4 = s1.t 4 ∧ s.h 4 = s1.h 4 ∧ s.t 87 = .int .i64 i ∧ ∃ v6, s.t 6 = .ptr 6 0 v6 ∧ s.h 6 = ⟨v6, true, true, false, wl (addTo L hs.l i)⟩) 8 ⟨0, by omega, rfl, k2, kh2, rfl, rfl, k87, by rw [addTo_zero _ hL]; exact k6⟩ ?_
  clear k2 kh2 k6 k87
  rintro m s ⟨i, hi, rfl, k2, kh2, k4, kh4, k87, v6, k6, kh6⟩
  by_cases hi8 : i < 8
  · have hi8' : (i : Int) < 8 := by omega
    have hi7 : i ≤ 7 := by omega
    have a1 := at_wl (xs := addTo L hs.l i) (k := i) (by rw [addTo_length]; exact hi8)
    rw [addTo_get _ _ _ hi8, if_neg (Nat.lt_irrefl i)] at a1
    have a2 := at_wl (xs := hs.l) (k := i) (by rw [H8.l_length]; exact hi8)
    have d := w_add (L.getD i 0) (hs.l.getD i 0)
    have st := set_wl (xs := addTo L hs.l i) (k := i) (by rw [addTo_length]; exact hi8) (L.getD i 0 + hs.l.getD i 0)
    rw [addTo_set _ _ hi8] at st
    have l1 : (wl (addTo L hs.l i)).length = 8 := by rw [wl_length, addTo_length]
    have l2 : (wl hs.l).length = 8 := rfl
    obtain ⟨x, hx⟩ : ∃ x, x = L.getD i 0 := ⟨_, rfl⟩
    obtain ⟨y, hy⟩ : ∃ y, y = hs.l.getD i 0 := ⟨_, rfl⟩
    rw [← hx] at a1 d st
    rw [← hy] at a2 d st
    simp -implicitDefEqProofs (maxSteps := 2000000) only [k2, kh2, k4, kh4, k87, k6, kh6, hi8', hi7, a1, a2, d, st, l1, l2, m37_1, m37_2, m37_3, m37_4, m37_5, m37_6, m37_7, m37_8, m37_9, m37_10, m37_11, m37_12, m37_13, m37_14, m37_15, m37_16, m37_17, m37_18, m37_19, m37_20, m37_r, m37_b, m37, wrap_nat (show i < 2 ^ 63 - 1 by omega), wk, act, asV, ↓reduceIte, Nat.reduceEqDiff, reduceCtorEq, Nat.reduceAdd, Nat.reduceLeDiff, Nat.reduceSub, Nat.reduceMul, List.reduceReplicate, Int.reduceEq, Int.reduceLT, Int.reduceLE, Int.reduceAdd, Int.reduceSub, Int.reduceMul, Nat.reduceLT, Int.reduceToNat]
    exact ⟨8 - (i + 1), by omega, i + 1, by omega, rfl, rfl, v6, rfl, rfl⟩
  · obtain rfl : i = 8 := by omega
    simp -implicitDefEqProofs (maxSteps := 2000000) only [k87, m37_1, m37_2, m37_3, m37_4, m37_5, m37_6, m37_7, m37_8, m37_9, m37_10, m37_11, m37_12, m37_13, m37_14, m37_15, m37_16, m37_17, m37_18, m37_19, m37_20, m37_r, m37_b, m37, wk, act, asV, ↓reduceIte, Nat.reduceEqDiff, reduceCtorEq, Nat.reduceAdd, Nat.reduceLeDiff, Nat.reduceSub, Nat.reduceMul, List.reduceReplicate, Int.reduceEq, Int.reduceLT, Int.reduceLE, Int.reduceAdd, Int.reduceSub, Int.reduceMul, Nat.reduceLT, Int.reduceToNat]
    exact q1 _ (by simp -implicitDefEqProofs (maxSteps := 2000000) only [k4, wk, act, asV, ↓reduceIte, Nat.reduceEqDiff, reduceCtorEq, Nat.reduceAdd, Nat.reduceLeDiff, Nat.reduceSub, Nat.reduceMul, List.reduceReplicate, Int.reduceEq, Int.reduceLT, Int.reduceLE, Int.reduceAdd, Int.reduceSub, Int.reduceMul, Nat.reduceLT, Int.reduceToNat]) (by simp -implicitDefEqProofs (maxSteps := 2000000) only [kh4, wk, act, asV, ↓reduceIte, Nat.reduceEqDiff, reduceCtorEq, Nat.reduceAdd, Nat.reduceLeDiff, Nat.reduceSub, Nat.reduceMul, List.reduceReplicate, Int.reduceEq, Int.reduceLT, Int.reduceLE, Int.reduceAdd, Int.reduceSub, Int.reduceMul, Nat.reduceLT, Int.reduceToNat]) ⟨v6, by simp -implicitDefEqProofs (maxSteps := 2000000) only [k6, wk, act, asV, ↓reduceIte, Nat.reduceEqDiff, reduceCtorEq, Nat.reduceAdd, Nat.reduceLeDiff, Nat.reduceSub, Nat.reduceMul, List.reduceReplicate, Int.reduceEq, Int.reduceLT, Int.reduceLE, Int.reduceAdd, Int.reduceSub, Int.reduceMul, Nat.reduceLT, Int.reduceToNat], by simp -implicitDefEqProofs (maxSteps := 2000000) only [kh6, wk, act, asV, ↓reduceIte, Nat.reduceEqDiff, reduceCtorEq, Nat.reduceAdd, Nat.reduceLeDiff, Nat.reduceSub, Nat.reduceMul, List.reduceReplicate, Int.reduceEq, Int.reduceLT, Int.reduceLE, Int.reduceAdd, Int.reduceSub, Int.reduceMul, Nat.reduceLT, Int.reduceToNat]⟩

theorem rnds_l (hs : H8) (W : List UInt32) (t : Nat) : (rnds hs W t).l.length = 8 := rfl
theorem turn_ok (hs : H8) (b : List UInt8) (hb : b.length = 64) : RC Try.prog 37 [.agg (wl hs.l), .agg (bl b)] [.agg (wl (turnH hs b))] := by
  refine RC.of_wp c37 rfl ?_
  have hbl : (bl b).length = 64 := by rw [bl_length, hb]
  have tb : List.take 64 (bl b) = bl b := List.take_of_length_le (by omega)
  have db : List.drop 64 (bl b) = [] := List.drop_of_length_le (by omega)
  have l8 : (wl hs.l).length = 8 := rfl
  have t8 : List.take 8 (wl hs.l) = wl hs.l := rfl
  have d8 : List.drop 8 (wl hs.l) = [] := rfl
  have lk : (wl K64).length = 64 := rfl
  have tk : List.take 64 (wl K64) = wl K64 := rfl
  have dk : List.drop 64 (wl K64) = [] := rfl
  have c2 := schedule_ok b hb
  repeat' (first | simp -implicitDefEqProofs (maxSteps := 2000000) only [m37_1, m37_2, m37_3, m37_4, m37_5, m37_6, m37_7, m37_8, m37_9, m37_10, m37_11, m37_12, m37_13, m37_14, m37_15, m37_16, m37_17, m37_18, m37_19, m37_20, m37_r, m37_b, m37, hbl, tb, db, l8, t8, d8, lk, tk, dk, wl_scal, bl_scal, wk, act, asV, ↓reduceIte, Nat.reduceEqDiff, reduceCtorEq, Nat.reduceAdd, Nat.reduceLeDiff, Nat.reduceSub, Nat.reduceMul, List.reduceReplicate, Int.reduceEq, Int.reduceLT, Int.reduceLE, Int.reduceAdd, Int.reduceSub, Int.reduceMul, Nat.reduceLT, Int.reduceToNat] | ((first | ((with_reducible refine CallL.gate ?_); apply CallL.of) | ((with_reducible refine CallP.gate ?_); apply CallP.of)); (case h1 => (simp -implicitDefEqProofs (maxSteps := 2000000) only [m37_1, m37_2, m37_3, m37_4, m37_5, m37_6, m37_7, m37_8, m37_9, m37_10, m37_11, m37_12, m37_13, m37_14, m37_15, m37_16, m37_17, m37_18, m37_19, m37_20, m37_r, m37_b, m37, hbl, tb, db, l8, t8, d8, lk, tk, dk, wl_scal, bl_scal, wk, act, asV, ↓reduceIte, Nat.reduceEqDiff, reduceCtorEq, Nat.reduceAdd, Nat.reduceLeDiff, Nat.reduceSub, Nat.reduceMul, List.reduceReplicate, Int.reduceEq, Int.reduceLT, Int.reduceLE, Int.reduceAdd, Int.reduceSub, Int.reduceMul, Nat.reduceLT, Int.reduceToNat]; first | done | (with_reducible rfl))); (case h2 => (first | exact constants_ok | exact c2)); (case h3 => simp -implicitDefEqProofs (maxSteps := 2000000) only [m37_1, m37_2, m37_3, m37_4, m37_5, m37_6, m37_7, m37_8, m37_9, m37_10, m37_11, m37_12, m37_13, m37_14, m37_15, m37_16, m37_17, m37_18, m37_19, m37_20, m37_r, m37_b, m37, hbl, tb, db, l8, t8, d8, lk, tk, dk, wl_scal, bl_scal, wk, act, asV, ↓reduceIte, Nat.reduceEqDiff, reduceCtorEq, Nat.reduceAdd, Nat.reduceLeDiff, Nat.reduceSub, Nat.reduceMul, List.reduceReplicate, Int.reduceEq, Int.reduceLT, Int.reduceLE, Int.reduceAdd, Int.reduceSub, Int.reduceMul, Nat.reduceLT, Int.reduceToNat])))
  refine turn_in hs b (v2 := 0) (v3 := 0) (v4 := 0) [] _ _ ?_ (by simp -implicitDefEqProofs (maxSteps := 2000000) only [wk, act, asV, ↓reduceIte, Nat.reduceEqDiff, reduceCtorEq, Nat.reduceAdd, Nat.reduceLeDiff, Nat.reduceSub, Nat.reduceMul, List.reduceReplicate, Int.reduceEq, Int.reduceLT, Int.reduceLE, Int.reduceAdd, Int.reduceSub, Int.reduceMul, Nat.reduceLT, Int.reduceToNat]; first | done | rfl) (by simp -implicitDefEqProofs (maxSteps := 2000000) only [wk, act, asV, ↓reduceIte, Nat.reduceEqDiff, reduceCtorEq, Nat.reduceAdd, Nat.reduceLeDiff, Nat.reduceSub, Nat.reduceMul, List.reduceReplicate, Int.reduceEq, Int.reduceLT, Int.reduceLE, Int.reduceAdd, Int.reduceSub, Int.reduceMul, Nat.reduceLT, Int.reduceToNat]; first | done | rfl) ⟨_, by simp -implicitDefEqProofs (maxSteps := 2000000) only [wk, act, asV, ↓reduceIte, Nat.reduceEqDiff, reduceCtorEq, Nat.reduceAdd, Nat.reduceLeDiff, Nat.reduceSub, Nat.reduceMul, List.reduceReplicate, Int.reduceEq, Int.reduceLT, Int.reduceLE, Int.reduceAdd, Int.reduceSub, Int.reduceMul, Nat.reduceLT, Int.reduceToNat]; first | done | rfl, by simp -implicitDefEqProofs (maxSteps := 2000000) only [wk, act, asV, ↓reduceIte, Nat.reduceEqDiff, reduceCtorEq, Nat.reduceAdd, Nat.reduceLeDiff, Nat.reduceSub, Nat.reduceMul, List.reduceReplicate, Int.reduceEq, Int.reduceLT, Int.reduceLE, Int.reduceAdd, Int.reduceSub, Int.reduceMul, Nat.reduceLT, Int.reduceToNat]; first | done | rfl⟩ (by simp -implicitDefEqProofs (maxSteps := 2000000) only [wk, act, asV, ↓reduceIte, Nat.reduceEqDiff, reduceCtorEq, Nat.reduceAdd, Nat.reduceLeDiff, Nat.reduceSub, Nat.reduceMul, List.reduceReplicate, Int.reduceEq, Int.reduceLT, Int.reduceLE, Int.reduceAdd, Int.reduceSub, Int.reduceMul, Nat.reduceLT, Int.reduceToNat]) (by simp -implicitDefEqProofs (maxSteps := 2000000) only [wk, act, asV, ↓reduceIte, Nat.reduceEqDiff, reduceCtorEq, Nat.reduceAdd, Nat.reduceLeDiff, Nat.reduceSub, Nat.reduceMul, List.reduceReplicate, Int.reduceEq, Int.reduceLT, Int.reduceLE, Int.reduceAdd, Int.reduceSub, Int.reduceMul, Nat.reduceLT, Int.reduceToNat])
  intro s2 p2 ph2 p4 ph4 p6
  simp -implicitDefEqProofs (maxSteps := 2000000) only [wk, act, asV, ↓reduceIte, Nat.reduceEqDiff, reduceCtorEq, Nat.reduceAdd, Nat.reduceLeDiff, Nat.reduceSub, Nat.reduceMul, List.reduceReplicate, Int.reduceEq, Int.reduceLT, Int.reduceLE, Int.reduceAdd, Int.reduceSub, Int.reduceMul, Nat.reduceLT, Int.reduceToNat] at p2
  simp -implicitDefEqProofs (maxSteps := 2000000) only [wk, act, asV, ↓reduceIte, Nat.reduceEqDiff, reduceCtorEq, Nat.reduceAdd, Nat.reduceLeDiff, Nat.reduceSub, Nat.reduceMul, List.reduceReplicate, Int.reduceEq, Int.reduceLT, Int.reduceLE, Int.reduceAdd, Int.reduceSub, Int.reduceMul, Nat.reduceLT, Int.reduceToNat] at ph2
  simp -implicitDefEqProofs (maxSteps := 2000000) only [wk, act, asV, ↓reduceIte, Nat.reduceEqDiff, reduceCtorEq, Nat.reduceAdd, Nat.reduceLeDiff, Nat.reduceSub, Nat.reduceMul, List.reduceReplicate, Int.reduceEq, Int.reduceLT, Int.reduceLE, Int.reduceAdd, Int.reduceSub, Int.reduceMul, Nat.reduceLT, Int.reduceToNat] at p4
  simp -implicitDefEqProofs (maxSteps := 2000000) only [wk, act, asV, ↓reduceIte, Nat.reduceEqDiff, reduceCtorEq, Nat.reduceAdd, Nat.reduceLeDiff, Nat.reduceSub, Nat.reduceMul, List.reduceReplicate, Int.reduceEq, Int.reduceLT, Int.reduceLE, Int.reduceAdd, Int.reduceSub, Int.reduceMul, Nat.reduceLT, Int.reduceToNat] at ph4
  simp -implicitDefEqProofs (maxSteps := 2000000) only [wk, act, asV, ↓reduceIte, Nat.reduceEqDiff, reduceCtorEq, Nat.reduceAdd, Nat.reduceLeDiff, Nat.reduceSub, Nat.reduceMul, List.reduceReplicate, Int.reduceEq, Int.reduceLT, Int.reduceLE, Int.reduceAdd, Int.reduceSub, Int.reduceMul, Nat.reduceLT, Int.reduceToNat]
  refine turn_add hs (rnds hs (schN b 64) 64).l (rnds_l _ _ _) _ _ ?_ (by simp -implicitDefEqProofs (maxSteps := 2000000) only [p2, wk, act, asV, ↓reduceIte, Nat.reduceEqDiff, reduceCtorEq, Nat.reduceAdd, Nat.reduceLeDiff, Nat.reduceSub, Nat.reduceMul, List.reduceReplicate, Int.reduceEq, Int.reduceLT, Int.reduceLE, Int.reduceAdd, Int.reduceSub, Int.reduceMul, Nat.reduceLT, Int.reduceToNat]; first | done | rfl) (by simp -implicitDefEqProofs (maxSteps := 2000000) only [ph2, wk, act, asV, ↓reduceIte, Nat.reduceEqDiff, reduceCtorEq, Nat.reduceAdd, Nat.reduceLeDiff, Nat.reduceSub, Nat.reduceMul, List.reduceReplicate, Int.reduceEq, Int.reduceLT, Int.reduceLE, Int.reduceAdd, Int.reduceSub, Int.reduceMul, Nat.reduceLT, Int.reduceToNat]; first | done | rfl) (by obtain ⟨v6, q6, qh6⟩ := p6; exact ⟨v6, by simp -implicitDefEqProofs (maxSteps := 2000000) only [q6, wk, act, asV, ↓reduceIte, Nat.reduceEqDiff, reduceCtorEq, Nat.reduceAdd, Nat.reduceLeDiff, Nat.reduceSub, Nat.reduceMul, List.reduceReplicate, Int.reduceEq, Int.reduceLT, Int.reduceLE, Int.reduceAdd, Int.reduceSub, Int.reduceMul, Nat.reduceLT, Int.reduceToNat], by simp -implicitDefEqProofs (maxSteps := 2000000) only [qh6, wk, act, asV, ↓reduceIte, Nat.reduceEqDiff, reduceCtorEq, Nat.reduceAdd, Nat.reduceLeDiff, Nat.reduceSub, Nat.reduceMul, List.reduceReplicate, Int.reduceEq, Int.reduceLT, Int.reduceLE, Int.reduceAdd, Int.reduceSub, Int.reduceMul, Nat.reduceLT, Int.reduceToNat]⟩) (by simp -implicitDefEqProofs (maxSteps := 2000000) only [wk, act, asV, ↓reduceIte, Nat.reduceEqDiff, reduceCtorEq, Nat.reduceAdd, Nat.reduceLeDiff, Nat.reduceSub, Nat.reduceMul, List.reduceReplicate, Int.reduceEq, Int.reduceLT, Int.reduceLE, Int.reduceAdd, Int.reduceSub, Int.reduceMul, Nat.reduceLT, Int.reduceToNat])
  intro s3 r4 rh4 r6
  obtain ⟨v6, r6, rh6⟩ := r6
  simp -implicitDefEqProofs (maxSteps := 2000000) only [p4, wk, act, asV, ↓reduceIte, Nat.reduceEqDiff, reduceCtorEq, Nat.reduceAdd, Nat.reduceLeDiff, Nat.reduceSub, Nat.reduceMul, List.reduceReplicate, Int.reduceEq, Int.reduceLT, Int.reduceLE, Int.reduceAdd, Int.reduceSub, Int.reduceMul, Nat.reduceLT, Int.reduceToNat] at r4
  simp -implicitDefEqProofs (maxSteps := 2000000) only [ph4, wk, act, asV, ↓reduceIte, Nat.reduceEqDiff, reduceCtorEq, Nat.reduceAdd, Nat.reduceLeDiff, Nat.reduceSub, Nat.reduceMul, List.reduceReplicate, Int.reduceEq, Int.reduceLT, Int.reduceLE, Int.reduceAdd, Int.reduceSub, Int.reduceMul, Nat.reduceLT, Int.reduceToNat] at rh4
  have lt : (wl (turnH hs b)).length = 8 := by rw [wl_length]; exact addTo_length _ _ _
  have tt : List.take 8 (wl (turnH hs b)) = wl (turnH hs b) := List.take_of_length_le (by omega)
  have dt : List.drop 8 (wl (turnH hs b)) = [] := List.drop_of_length_le (by omega)
  rw [show addTo (rnds hs (schN b 64) 64).l hs.l 8 = turnH hs b from rfl] at rh6
  simp -implicitDefEqProofs (maxSteps := 2000000) only [r4, rh4, r6, rh6, lt, tt, dt, wl_scal, wk, act, asV, ↓reduceIte, Nat.reduceEqDiff, reduceCtorEq, Nat.reduceAdd, Nat.reduceLeDiff, Nat.reduceSub, Nat.reduceMul, List.reduceReplicate, Int.reduceEq, Int.reduceLT, Int.reduceLE, Int.reduceAdd, Int.reduceSub, Int.reduceMul, Nat.reduceLT, Int.reduceToNat]
end Go.Proofs.Ytkphojcmjffccaa
