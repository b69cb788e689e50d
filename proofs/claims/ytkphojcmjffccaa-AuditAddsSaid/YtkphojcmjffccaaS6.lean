/- H behind 64 bytes, by the reference: its words. -/
import Derived.Test.YtkphojcmjffccaaZ4
import Derived.Test.YtkphojcmjffccaaE31
import Derived.Test.YtkphojcmjffccaaM7
set_option linter.unusedSectionVars false
set_option linter.unusedVariables false
set_option linter.unusedSimpArgs false
set_option maxRecDepth 100000
set_option maxHeartbeats 8000000
namespace Go.Proofs.Ytkphojcmjffccaa
open Go.RowKit

theorem or_add2 {x y i : Nat} (h : x < 2 ^ i) : y * 2 ^ i ||| x = y * 2 ^ i + x := by
  rw [← Nat.shiftLeft_eq, ← Nat.shiftLeft_add_eq_or_of_lt h]
def b32 (c : UInt8) : UInt32 := UInt32.ofNat c.toNat
theorem b32_toNat (c : UInt8) : (b32 c).toNat = c.toNat := by
  have := c.toNat_lt
  simp only [b32, UInt32.toNat_ofNat']
  omega
theorem wsl_toNat {x : UInt32} {k : Nat} (h : x.toNat * 2 ^ k < 2 ^ 32) : (wsl x k).toNat = x.toNat * 2 ^ k := by
  simp only [wsl, UInt32.toNat_ofNat']
  exact Nat.mod_eq_of_lt h
def beR (b : List UInt8) (t : Nat) : UInt32 := wsl (b32 (b.getD (4 * t) 0)) 24 ||| wsl (b32 (b.getD (4 * t + 1) 0)) 16 ||| wsl (b32 (b.getD (4 * t + 2) 0)) 8 ||| b32 (b.getD (4 * t + 3) 0)
theorem beR_eq (b : List UInt8) (t : Nat) : bePart b t 4 = beR b t := by
  apply UInt32.toNat_inj.1
  have e : bePart b t 4 = wsl (wsl (wsl (wsl 0 8 ||| b32 (b.getD (4 * t) 0)) 8 ||| b32 (b.getD (4 * t + 1) 0)) 8 ||| b32 (b.getD (4 * t + 2) 0)) 8 ||| b32 (b.getD (4 * t + 3) 0) := rfl
  rw [e]
  unfold beR
  generalize b.getD (4 * t) 0 = c0
  generalize b.getD (4 * t + 1) 0 = c1
  generalize b.getD (4 * t + 2) 0 = c2
  generalize b.getD (4 * t + 3) 0 = c3
  have h0 := c0.toNat_lt
  have h1 := c1.toNat_lt
  have h2 := c2.toNat_lt
  have h3 := c3.toNat_lt
  have e0 : (wsl 0 8 ||| b32 c0).toNat = c0.toNat := by
    rw [UInt32.toNat_or, b32_toNat, wsl_toNat (by decide)]
    simp
  have e1 : (wsl (wsl 0 8 ||| b32 c0) 8 ||| b32 c1).toNat = c0.toNat * 2 ^ 8 + c1.toNat := by
    rw [UInt32.toNat_or, b32_toNat, wsl_toNat (by rw [e0]; omega), e0, or_add2 (by omega)]
  have e2 : (wsl (wsl (wsl 0 8 ||| b32 c0) 8 ||| b32 c1) 8 ||| b32 c2).toNat = (c0.toNat * 2 ^ 8 + c1.toNat) * 2 ^ 8 + c2.toNat := by
    rw [UInt32.toNat_or, b32_toNat, wsl_toNat (by rw [e1]; omega), e1, or_add2 (by omega)]
  have e3 : (wsl (wsl (wsl (wsl 0 8 ||| b32 c0) 8 ||| b32 c1) 8 ||| b32 c2) 8 ||| b32 c3).toNat = ((c0.toNat * 2 ^ 8 + c1.toNat) * 2 ^ 8 + c2.toNat) * 2 ^ 8 + c3.toNat := by
    rw [UInt32.toNat_or, b32_toNat, wsl_toNat (by rw [e2]; omega), e2, or_add2 (by omega)]
  rw [e3]
  rw [UInt32.toNat_or, UInt32.toNat_or, UInt32.toNat_or, b32_toNat, wsl_toNat (by rw [b32_toNat]; omega), wsl_toNat (by rw [b32_toNat]; omega), wsl_toNat (by rw [b32_toNat]; omega), b32_toNat, b32_toNat, b32_toNat]
  have f1 : c0.toNat * 2 ^ 24 ||| c1.toNat * 2 ^ 16 = (c0.toNat * 2 ^ 8 + c1.toNat) * 2 ^ 16 := by
    rw [or_add2 (i := 24) (by omega)]; omega
  have f2 : (c0.toNat * 2 ^ 8 + c1.toNat) * 2 ^ 16 ||| c2.toNat * 2 ^ 8 = ((c0.toNat * 2 ^ 8 + c1.toNat) * 2 ^ 8 + c2.toNat) * 2 ^ 8 := by
    rw [or_add2 (i := 16) (by omega)]; omega
  rw [f1, f2, or_add2 (by omega)]

theorem turnR_sch (b : List UInt8) (hb : b.length = 64) {v3 : Nat} (Q : Ex → St → Prop) (s1 : St)
    (q1 : ∀ s2 : St, s2.t 2 = s1.t 2 → s2.h 2 = s1.h 2 → s2.t 4 = s1.t 4 → s2.h 4 = s1.h 4 → (∃ v5, s2.t 5 = .ptr 5 0 v5 ∧ s2.h 5 = ⟨v5, true, true, false, wl (schN b 64)⟩) → Q (.exit 0) s2)
    (k3 : s1.t 3 = .ptr 3 0 v3) (kh3 : s1.h 3 = ⟨v3, true, true, false, bl b⟩) (k5 : ∃ v5, s1.t 5 = .ptr 5 0 v5 ∧ s1.h 5 = ⟨v5, true, true, false, wl (zw 64)⟩) (k6 : s1.t 6 = .int .i64 0) :
    Wp (RCs Try.prog) (.loop m40_6) Q s1 := by
  refine Wp_loop (fun m s => ∃ t, t ≤ 64 ∧ m = 64 - t ∧ s.t 2 = s1.t 2 ∧ s.h 2 = s1.h 2 ∧ s.t 4 = s1.t 4 ∧ s.h 4 = s1.h 4 ∧ s.t 3 = .ptr 3 0 v3 ∧ s.h 3 = ⟨v3, true, true, false, bl b⟩ ∧ s.t 6 = .int .i64 t ∧ ∃ v5, s.t 5 = .ptr 5 0 v5 ∧ s.h 5 = ⟨v5, true, true, false, wl (schN b t ++ zw (64 - t))⟩) 64 ⟨0, by omega, rfl, rfl, rfl, rfl, rfl, k3, kh3, k6, k5⟩ ?_
  clear k3 kh3 k5 k6
  rintro m s ⟨t, ht, rfl, k2, kh2, k4, kh4, k3, kh3, k6, v5, k5, kh5⟩
  have hW := schN_length b t
  have hbl : (bl b).length = 64 := by rw [bl_length, hb]
  by_cases ht64 : t < 64
  · have ht64' : (t : Int) < 64 := by omega
    rw [show 64 - t = (63 - t) + 1 by omega, zw_succ] at kh5
    have htot : (schN b t ++ 0 :: zw (63 - t)).length = 64 := by rw [List.length_append, hW, List.length_cons, zw_length]; omega
    have hst := set_wl (xs := schN b t ++ 0 :: zw (63 - t)) (k := t) (by rw [htot]; omega) (wordAt b (schN b t) t)
    rw [mid_set _ _ _ _ hW] at hst
    have hwl : (wl (schN b t ++ 0 :: zw (63 - t))).length = 64 := by rw [wl_length, htot]
    have ht63 : t ≤ 63 := by omega
    have e : schN b (t + 1) ++ zw (64 - (t + 1)) = schN b t ++ wordAt b (schN b t) t :: zw (63 - t) := by
      rw [schN, List.append_assoc, show 64 - (t + 1) = 63 - t by omega]; rfl
    by_cases ht16 : t < 16
    · have ht16' : (t : Int) < 16 := by omega
      have ew : wordAt b (schN b t) t = beR b t := by rw [wordAt, if_pos ht16, beR_eq]
      rw [ew] at hst e
      have w4 : IntKind.i64.wrap (4 * (t : Int)) = ((4 * t : Nat) : Int) := by rw [IntKind.wrap_i64]; omega
      have w5 : ∀ k : Nat, k ≤ 3 → IntKind.i64.wrap (((4 * t : Nat) : Int) + (k : Int)) = ((4 * t + k : Nat) : Int) := by intro k hk; rw [IntKind.wrap_i64]; omega
      have w51 : IntKind.i64.wrap (((4 * t : Nat) : Int) + 1) = ((4 * t + 1 : Nat) : Int) := w5 1 (by omega)
      have w52 : IntKind.i64.wrap (((4 * t : Nat) : Int) + 2) = ((4 * t + 2 : Nat) : Int) := w5 2 (by omega)
      have w53 : IntKind.i64.wrap (((4 * t : Nat) : Int) + 3) = ((4 * t + 3 : Nat) : Int) := w5 3 (by omega)
      have a0 := at_b (b := b) (k := 4 * t) (by omega)
      have a1 := at_b (b := b) (k := 4 * t + 1) (by omega)
      have a2 := at_b (b := b) (k := 4 * t + 2) (by omega)
      have a3 := at_b (b := b) (k := 4 * t + 3) (by omega)
      have er : beR b t = wsl (b32 (b.getD (4 * t) 0)) 24 ||| wsl (b32 (b.getD (4 * t + 1) 0)) 16 ||| wsl (b32 (b.getD (4 * t + 2) 0)) 8 ||| b32 (b.getD (4 * t + 3) 0) := rfl
      obtain ⟨c0, hc0⟩ : ∃ c, c = b.getD (4 * t) 0 := ⟨_, rfl⟩
      obtain ⟨c1, hc1⟩ : ∃ c, c = b.getD (4 * t + 1) 0 := ⟨_, rfl⟩
      obtain ⟨c2, hc2⟩ : ∃ c, c = b.getD (4 * t + 2) 0 := ⟨_, rfl⟩
      obtain ⟨c3, hc3⟩ : ∃ c, c = b.getD (4 * t + 3) 0 := ⟨_, rfl⟩
      rw [← hc0, ← hc1, ← hc2, ← hc3] at er
      rw [← hc0] at a0
      rw [← hc1] at a1
      rw [← hc2] at a2
      rw [← hc3] at a3
      have u0 : IntKind.u32.wrap (c0.toNat : Int) = ((b32 c0).toNat : Int) := w_wrap _
      have u1 : IntKind.u32.wrap (c1.toNat : Int) = ((b32 c1).toNat : Int) := w_wrap _
      have u2 : IntKind.u32.wrap (c2.toNat : Int) = ((b32 c2).toNat : Int) := w_wrap _
      have u3 : IntKind.u32.wrap (c3.toNat : Int) = ((b32 c3).toNat : Int) := w_wrap _
      have s0 : shI .shl .u32 ((b32 c0).toNat : Int) 24 = some (.int .u32 ((wsl (b32 c0) 24).toNat : Int)) := w_shl _ (k := 24) (by decide)
      have s1' : shI .shl .u32 ((b32 c1).toNat : Int) 16 = some (.int .u32 ((wsl (b32 c1) 16).toNat : Int)) := w_shl _ (k := 16) (by decide)
      have s2 : shI .shl .u32 ((b32 c2).toNat : Int) 8 = some (.int .u32 ((wsl (b32 c2) 8).toNat : Int)) := w_shl _ (k := 8) (by decide)
      have o1 := w_or (wsl (b32 c0) 24) (wsl (b32 c1) 16)
      have o2 := w_or (wsl (b32 c0) 24 ||| wsl (b32 c1) 16) (wsl (b32 c2) 8)
      have o3 := w_or (wsl (b32 c0) 24 ||| wsl (b32 c1) 16 ||| wsl (b32 c2) 8) (b32 c3)
      rw [← er] at o3
      have l : ∀ k : Nat, k ≤ 3 → ((4 * t + k : Nat) : Int) < 64 ∧ 4 * t + k ≤ 63 := by intro k hk; omega
      obtain ⟨l0, m0⟩ := l 0 (by omega)
      simp only [Nat.add_zero] at l0 m0
      obtain ⟨l1, m1⟩ := l 1 (by omega)
      obtain ⟨l2, m2⟩ := l 2 (by omega)
      obtain ⟨l3, m3⟩ := l 3 (by omega)
      have m1' : 4 * t ≤ 62 := by omega
      have m2' : 4 * t ≤ 61 := by omega
      have m3' : 4 * t ≤ 60 := by omega
      simp -implicitDefEqProofs (maxSteps := 2000000) only [k2, kh2, k4, kh4, k3, kh3, k6, k5, kh5, ht64', ht16', w4, w51, w52, w53, a0, a1, a2, a3, u0, u1, u2, u3, s0, s1', s2, o1, o2, o3, hst, hwl, hbl, ht63, l0, m0, l1, m1, l2, m2, l3, m3, m1', m2', m3', m40_1, m40_2, m40_3, m40_4, m40_5, m40_6, m40_7, m40_8, m40_9, m40_10, m40_11, m40_12, m40_13, m40_14, m40_15, m40_16, m40_17, m40_18, m40_19, m40_20, m40_21, m40_22, m40_23, m40_24, m40_25, m40_26, m40_27, m40_r, m40_b, m40, wrap_nat (show t < 2 ^ 63 - 1 by omega), wk, act, asV, ↓reduceIte, Nat.reduceEqDiff, reduceCtorEq, Nat.reduceAdd, Nat.reduceLeDiff, Nat.reduceSub, Nat.reduceMul, List.reduceReplicate, Int.reduceEq, Int.reduceLT, Int.reduceLE, Int.reduceAdd, Int.reduceSub, Int.reduceMul, Nat.reduceLT, Int.reduceToNat]
      refine ⟨64 - (t + 1), by omega, t + 1, by omega, rfl, rfl, v5, rfl, ?_⟩
      rw [e]
    · have ht16' : ¬ (t : Int) < 16 := by omega
      have w : ∀ k : Nat, k ≤ 16 → IntKind.i64.wrap ((t : Int) - (k : Int)) = ((t - k : Nat) : Int) := by intro k hk; rw [IntKind.wrap_i64]; omega
      have w2 : IntKind.i64.wrap ((t : Int) - 2) = ((t - 2 : Nat) : Int) := w 2 (by omega)
      have w7 : IntKind.i64.wrap ((t : Int) - 7) = ((t - 7 : Nat) : Int) := w 7 (by omega)
      have w15 : IntKind.i64.wrap ((t : Int) - 15) = ((t - 15 : Nat) : Int) := w 15 (by omega)
      have w16 : IntKind.i64.wrap ((t : Int) - 16) = ((t - 16 : Nat) : Int) := w 16 (by omega)
      have hat : ∀ k : Nat, 0 < k → k ≤ 16 → List.take 1 (List.drop (t - k) (wl (schN b t ++ 0 :: zw (63 - t)))) = [.int .u32 (((schN b t).getD (t - k) 0).toNat : Int)] := by
        intro k h0 hk
        rw [at_wl (by rw [htot]; omega), low_get _ _ (by omega)]
      have a2 := hat 2 (by omega) (by omega)
      have a7 := hat 7 (by omega) (by omega)
      have a15 := hat 15 (by omega) (by omega)
      have a16 := hat 16 (by omega) (by omega)
      have ew : wordAt b (schN b t) t = (rotr ((schN b t).getD (t - 2) 0) 17 ^^^ rotr ((schN b t).getD (t - 2) 0) 19 ^^^ wsh ((schN b t).getD (t - 2) 0) 10) + (schN b t).getD (t - 7) 0 + (rotr ((schN b t).getD (t - 15) 0) 7 ^^^ rotr ((schN b t).getD (t - 15) 0) 18 ^^^ wsh ((schN b t).getD (t - 15) 0) 3) + (schN b t).getD (t - 16) 0 := by rw [wordAt, if_neg ht16]; rfl
      obtain ⟨y, hy⟩ : ∃ x, x = (schN b t).getD (t - 2) 0 := ⟨_, rfl⟩
      obtain ⟨x, hx⟩ : ∃ x, x = (schN b t).getD (t - 15) 0 := ⟨_, rfl⟩
      obtain ⟨y1, hy1⟩ : ∃ x, x = (schN b t).getD (t - 7) 0 := ⟨_, rfl⟩
      obtain ⟨y2, hy2⟩ : ∃ x, x = (schN b t).getD (t - 16) 0 := ⟨_, rfl⟩
      rw [← hy] at a2
      rw [← hx] at a15
      rw [← hy1] at a7
      rw [← hy2] at a16
      rw [← hy, ← hx, ← hy1, ← hy2] at ew
      have c1 := right_ok y (k := 17) (by decide)
      have c2 := right_ok y (k := 19) (by decide)
      have c3 := right_ok x (k := 7) (by decide)
      have c4 := right_ok x (k := 18) (by decide)
      have s10 : shI .shr .u32 (y.toNat : Int) 10 = some (.int .u32 ((wsh y 10).toNat : Int)) := w_shr _ (k := 10) (by decide)
      have s3 : shI .shr .u32 (x.toNat : Int) 3 = some (.int .u32 ((wsh x 3).toNat : Int)) := w_shr _ (k := 3) (by decide)
      have x1 := w_xor (rotr y 17) (rotr y 19)
      have x2 := w_xor (rotr y 17 ^^^ rotr y 19) (wsh y 10)
      have x3 := w_xor (rotr x 7) (rotr x 18)
      have x4 := w_xor (rotr x 7 ^^^ rotr x 18) (wsh x 3)
      obtain ⟨p, hp⟩ : ∃ p, p = rotr y 17 ^^^ rotr y 19 ^^^ wsh y 10 := ⟨_, rfl⟩
      obtain ⟨q, hq⟩ : ∃ q, q = rotr x 7 ^^^ rotr x 18 ^^^ wsh x 3 := ⟨_, rfl⟩
      rw [← hp] at x2 ew
      rw [← hq] at x4 ew
      have d1 := w_add p y1
      have d2 := w_add (p + y1) q
      have d3 := w_add (p + y1 + q) y2
      rw [← ew] at d3
      have l : ∀ k : Nat, 0 < k → k ≤ 16 → ((t - k : Nat) : Int) < 64 ∧ t - k ≤ 63 := by intro k h0 hk; omega
      obtain ⟨l2, m2⟩ := l 2 (by omega) (by omega)
      obtain ⟨l7, m7⟩ := l 7 (by omega) (by omega)
      obtain ⟨l15, m15⟩ := l 15 (by omega) (by omega)
      obtain ⟨l16, m16⟩ := l 16 (by omega) (by omega)
      repeat' (first | simp -implicitDefEqProofs (maxSteps := 2000000) only [k2, kh2, k4, kh4, k3, kh3, k6, k5, kh5, ht64', ht16', w2, w7, w15, w16, a2, a7, a15, a16, s10, s3, x1, x2, x3, x4, d1, d2, d3, hst, hwl, ht63, l2, m2, l7, m7, l15, m15, l16, m16, m40_1, m40_2, m40_3, m40_4, m40_5, m40_6, m40_7, m40_8, m40_9, m40_10, m40_11, m40_12, m40_13, m40_14, m40_15, m40_16, m40_17, m40_18, m40_19, m40_20, m40_21, m40_22, m40_23, m40_24, m40_25, m40_26, m40_27, m40_r, m40_b, m40, wrap_nat (show t < 2 ^ 63 - 1 by omega), wk, act, asV, ↓reduceIte, Nat.reduceEqDiff, reduceCtorEq, Nat.reduceAdd, Nat.reduceLeDiff, Nat.reduceSub, Nat.reduceMul, List.reduceReplicate, Int.reduceEq, Int.reduceLT, Int.reduceLE, Int.reduceAdd, Int.reduceSub, Int.reduceMul, Nat.reduceLT, Int.reduceToNat] | ((first | ((with_reducible refine CallL.gate ?_); apply CallL.of) | ((with_reducible refine CallP.gate ?_); apply CallP.of)); (case h1 => (simp -implicitDefEqProofs (maxSteps := 2000000) only [k2, kh2, k4, kh4, k3, kh3, k6, k5, kh5, ht64', ht16', w2, w7, w15, w16, a2, a7, a15, a16, s10, s3, x1, x2, x3, x4, d1, d2, d3, hst, hwl, ht63, l2, m2, l7, m7, l15, m15, l16, m16, m40_1, m40_2, m40_3, m40_4, m40_5, m40_6, m40_7, m40_8, m40_9, m40_10, m40_11, m40_12, m40_13, m40_14, m40_15, m40_16, m40_17, m40_18, m40_19, m40_20, m40_21, m40_22, m40_23, m40_24, m40_25, m40_26, m40_27, m40_r, m40_b, m40, wrap_nat (show t < 2 ^ 63 - 1 by omega), wk, act, asV, ↓reduceIte, Nat.reduceEqDiff, reduceCtorEq, Nat.reduceAdd, Nat.reduceLeDiff, Nat.reduceSub, Nat.reduceMul, List.reduceReplicate, Int.reduceEq, Int.reduceLT, Int.reduceLE, Int.reduceAdd, Int.reduceSub, Int.reduceMul, Nat.reduceLT, Int.reduceToNat]; first | done | (with_reducible rfl))); (case h2 => (first | exact c1 | exact c2 | exact c3 | exact c4)); (case h3 => simp -implicitDefEqProofs (maxSteps := 2000000) only [k2, kh2, k4, kh4, k3, kh3, k6, k5, kh5, ht64', ht16', w2, w7, w15, w16, a2, a7, a15, a16, s10, s3, x1, x2, x3, x4, d1, d2, d3, hst, hwl, ht63, l2, m2, l7, m7, l15, m15, l16, m16, m40_1, m40_2, m40_3, m40_4, m40_5, m40_6, m40_7, m40_8, m40_9, m40_10, m40_11, m40_12, m40_13, m40_14, m40_15, m40_16, m40_17, m40_18, m40_19, m40_20, m40_21, m40_22, m40_23, m40_24, m40_25, m40_26, m40_27, m40_r, m40_b, m40, wrap_nat (show t < 2 ^ 63 - 1 by omega), wk, act, asV, ↓reduceIte, Nat.reduceEqDiff, reduceCtorEq, Nat.reduceAdd, Nat.reduceLeDiff, Nat.reduceSub, Nat.reduceMul, List.reduceReplicate, Int.reduceEq, Int.reduceLT, Int.reduceLE, Int.reduceAdd, Int.reduceSub, Int.reduceMul, Nat.reduceLT, Int.reduceToNat])))
      refine ⟨64 - (t + 1), by omega, t + 1, by omega, rfl, rfl, v5, rfl, ?_⟩
      rw [e]
  · obtain rfl : t = 64 := by omega
    have hl : (schN b 64 ++ zw (64 - 64)) = schN b 64 := by simp [zw]
    rw [hl] at kh5
    simp -implicitDefEqProofs (maxSteps := 2000000) only [k6, m40_1, m40_2, m40_3, m40_4, m40_5, m40_6, m40_7, m40_8, m40_9, m40_10, m40_11, m40_12, m40_13, m40_14, m40_15, m40_16, m40_17, m40_18, m40_19, m40_20, m40_21, m40_22, m40_23, m40_24, m40_25, m40_26, m40_27, m40_r, m40_b, m40, wk, act, asV, ↓reduceIte, Nat.reduceEqDiff, reduceCtorEq, Nat.reduceAdd, Nat.reduceLeDiff, Nat.reduceSub, Nat.reduceMul, List.reduceReplicate, Int.reduceEq, Int.reduceLT, Int.reduceLE, Int.reduceAdd, Int.reduceSub, Int.reduceMul, Nat.reduceLT, Int.reduceToNat]
    exact q1 _ (by simp -implicitDefEqProofs (maxSteps := 2000000) only [k2, wk, act, asV, ↓reduceIte, Nat.reduceEqDiff, reduceCtorEq, Nat.reduceAdd, Nat.reduceLeDiff, Nat.reduceSub, Nat.reduceMul, List.reduceReplicate, Int.reduceEq, Int.reduceLT, Int.reduceLE, Int.reduceAdd, Int.reduceSub, Int.reduceMul, Nat.reduceLT, Int.reduceToNat]) (by simp -implicitDefEqProofs (maxSteps := 2000000) only [kh2, wk, act, asV, ↓reduceIte, Nat.reduceEqDiff, reduceCtorEq, Nat.reduceAdd, Nat.reduceLeDiff, Nat.reduceSub, Nat.reduceMul, List.reduceReplicate, Int.reduceEq, Int.reduceLT, Int.reduceLE, Int.reduceAdd, Int.reduceSub, Int.reduceMul, Nat.reduceLT, Int.reduceToNat]) (by simp -implicitDefEqProofs (maxSteps := 2000000) only [k4, wk, act, asV, ↓reduceIte, Nat.reduceEqDiff, reduceCtorEq, Nat.reduceAdd, Nat.reduceLeDiff, Nat.reduceSub, Nat.reduceMul, List.reduceReplicate, Int.reduceEq, Int.reduceLT, Int.reduceLE, Int.reduceAdd, Int.reduceSub, Int.reduceMul, Nat.reduceLT, Int.reduceToNat]) (by simp -implicitDefEqProofs (maxSteps := 2000000) only [kh4, wk, act, asV, ↓reduceIte, Nat.reduceEqDiff, reduceCtorEq, Nat.reduceAdd, Nat.reduceLeDiff, Nat.reduceSub, Nat.reduceMul, List.reduceReplicate, Int.reduceEq, Int.reduceLT, Int.reduceLE, Int.reduceAdd, Int.reduceSub, Int.reduceMul, Nat.reduceLT, Int.reduceToNat]) ⟨v5, by simp -implicitDefEqProofs (maxSteps := 2000000) only [k5, wk, act, asV, ↓reduceIte, Nat.reduceEqDiff, reduceCtorEq, Nat.reduceAdd, Nat.reduceLeDiff, Nat.reduceSub, Nat.reduceMul, List.reduceReplicate, Int.reduceEq, Int.reduceLT, Int.reduceLE, Int.reduceAdd, Int.reduceSub, Int.reduceMul, Nat.reduceLT, Int.reduceToNat], by simp -implicitDefEqProofs (maxSteps := 2000000) only [kh5, wk, act, asV, ↓reduceIte, Nat.reduceEqDiff, reduceCtorEq, Nat.reduceAdd, Nat.reduceLeDiff, Nat.reduceSub, Nat.reduceMul, List.reduceReplicate, Int.reduceEq, Int.reduceLT, Int.reduceLE, Int.reduceAdd, Int.reduceSub, Int.reduceMul, Nat.reduceLT, Int.reduceToNat]⟩
end Go.Proofs.Ytkphojcmjffccaa

/-! H behind 64 bytes, by the reference. -/
set_option linter.unusedSectionVars false
set_option linter.unusedVariables false
set_option linter.unusedSimpArgs false
set_option maxRecDepth 100000
set_option maxHeartbeats 8000000
namespace Go.Proofs.Ytkphojcmjffccaa
open Go.RowKit

theorem turnR_in (hs : H8) (b : List UInt8) {v2 v3 v4 v5 : Nat} (B : List UInt32) (Q : Ex → St → Prop) (s1 : St)
    (q1 : ∀ s2 : St, s2.t 2 = s1.t 2 → s2.h 2 = s1.h 2 → s2.t 4 = s1.t 4 → s2.h 4 = s1.h 4 → (∃ v6, s2.t 10 = .ptr 10 0 v6 ∧ s2.h 10 = ⟨v6, true, true, false, wl (rnds hs (schN b 64) 64).l⟩) → Q (.exit 2) s2)
    (k5 : s1.t 9 = .ptr 9 0 v5) (kh5 : s1.h 9 = ⟨v5, true, true, false, wl K64⟩) (k6 : ∃ v6, s1.t 10 = .ptr 10 0 v6 ∧ s1.h 10 = ⟨v6, true, true, false, wl hs.l⟩) (k21 : s1.t 5 = .ptr 5 0 v3) (kh21 : s1.h 5 = ⟨v3, true, true, false, wl (schN b 64)⟩) (k22 : s1.t 11 = .int .i64 0) :
    Wp (RCs Try.prog) (.loop m40_16) Q s1 := by
  refine Wp_loop (fun m s => ∃ t, t ≤ 64 ∧ m = 64 - t ∧ s.t 2 = s1.t 2 ∧ s.h 2 = s1.h 2 ∧ s.t 4 = s1.t 4 ∧ s.h 4 = s1.h 4 ∧ s.t 9 = .ptr 9 0 v5 ∧ s.h 9 = ⟨v5, true, true, false, wl K64⟩ ∧ s.t 5 = .ptr 5 0 v3 ∧ s.h 5 = ⟨v3, true, true, false, wl (schN b 64)⟩ ∧ s.t 11 = .int .i64 t ∧ ∃ v6, s.t 10 = .ptr 10 0 v6 ∧ s.h 10 = ⟨v6, true, true, false, wl (rnds hs (schN b 64) t).l⟩) 64 ⟨0, by omega, rfl, rfl, rfl, rfl, rfl, k5, kh5, k21, kh21, k22, k6⟩ ?_
  clear k5 kh5 k6 k21 kh21 k22
  rintro m s ⟨t, ht, rfl, k2, kh2, k4, kh4, k5, kh5, k21, kh21, k22, v6, k6, kh6⟩
  have hW := schN_length b 64
  by_cases ht64 : t < 64
  · have ht64' : (t : Int) < 64 := by omega
    have aw := at_wl (xs := schN b 64) (k := t) (by rw [hW]; omega)
    have ak := at_wl (xs := K64) (k := t) (by rw [K64_length]; omega)
    have lw : (wl (schN b 64)).length = 64 := by rw [wl_length, hW]
    have lk : (wl K64).length = 64 := rfl
    obtain ⟨v, hv⟩ : ∃ v, v = rnds hs (schN b 64) t := ⟨_, rfl⟩
    have er : rnds hs (schN b 64) (t + 1) = rnd v (K64.getD t 0) ((schN b 64).getD t 0) := by rw [hv]; rfl
    obtain ⟨w, hw⟩ : ∃ w, w = (schN b 64).getD t 0 := ⟨_, rfl⟩
    obtain ⟨k, hk⟩ : ∃ k, k = K64.getD t 0 := ⟨_, rfl⟩
    rw [← hw] at aw er
    rw [← hk] at ak er
    rw [← hv] at kh6
    obtain ⟨a, b', c, d, e, f, g, h⟩ := v
    have ecells : wl (H8.l ⟨a, b', c, d, e, f, g, h⟩) = [.int .u32 (a.toNat : Int), .int .u32 (b'.toNat : Int), .int .u32 (c.toNat : Int), .int .u32 (d.toNat : Int), .int .u32 (e.toNat : Int), .int .u32 (f.toNat : Int), .int .u32 (g.toNat : Int), .int .u32 (h.toNat : Int)] := rfl
    rw [ecells] at kh6
    have c1 := right_ok e (k := 6) (by decide)
    have c2 := right_ok e (k := 11) (by decide)
    have c3 := right_ok e (k := 25) (by decide)
    have c4 := right_ok a (k := 2) (by decide)
    have c5 := right_ok a (k := 13) (by decide)
    have c6 := right_ok a (k := 22) (by decide)
    have y1 := w_xor (rotr e 6) (rotr e 11)
    have y2 := w_xor (rotr e 6 ^^^ rotr e 11) (rotr e 25)
    have y3 := w_xor (rotr a 2) (rotr a 13)
    have y4 := w_xor (rotr a 2 ^^^ rotr a 13) (rotr a 22)
    obtain ⟨x1, hx1⟩ : ∃ x, x = turnedW e 6 11 25 false := ⟨_, rfl⟩
    obtain ⟨x2, hx2⟩ : ∃ x, x = turnedW a 2 13 22 false := ⟨_, rfl⟩
    rw [show rotr e 6 ^^^ rotr e 11 ^^^ rotr e 25 = x1 from hx1.symm] at y2
    rw [show rotr a 2 ^^^ rotr a 13 ^^^ rotr a 22 = x2 from hx2.symm] at y4
    have d1 := w_add h x1
    have d2 := w_and e f
    have d3 := w_notx e
    have d4 := w_and (~~~e) g
    have d5 := w_xor (e &&& f) (~~~e &&& g)
    have d6 := w_add (h + x1) (e &&& f ^^^ ~~~e &&& g)
    have d7 := w_add (h + x1 + (e &&& f ^^^ ~~~e &&& g)) k
    have d8 := w_add (h + x1 + (e &&& f ^^^ ~~~e &&& g) + k) w
    obtain ⟨F, hF⟩ : ∃ F, F = h + x1 + (e &&& f ^^^ ~~~e &&& g) + k + w := ⟨_, rfl⟩
    rw [← hF] at d8
    have d9 := w_and a b'
    have d10 := w_and a c
    have d11 := w_xor (a &&& b') (a &&& c)
    have d12 := w_and b' c
    have d13 := w_xor (a &&& b' ^^^ a &&& c) (b' &&& c)
    have d14 := w_add x2 (a &&& b' ^^^ a &&& c ^^^ b' &&& c)
    obtain ⟨S, hS⟩ : ∃ S, S = x2 + (a &&& b' ^^^ a &&& c ^^^ b' &&& c) := ⟨_, rfl⟩
    rw [← hS] at d14
    have d15 := w_add F S
    have d16 := w_add d F
    have ht63 : t ≤ 63 := by omega
    have hsg : IntKind.u32.signed = false := rfl
    have hmx : IntKind.u32.max = 4294967295 := rfl
    repeat' (first | simp -implicitDefEqProofs (maxSteps := 2000000) only [y1, y2, y3, y4, hsg, hmx, Bool.false_eq_true, k2, kh2, k4, kh4, k5, kh5, k21, kh21, k22, k6, kh6, ht64', aw, ak, lw, lk, d1, d2, d3, d4, d5, d6, d7, d8, d9, d10, d11, d12, d13, d14, d15, d16, ht63, m40_1, m40_2, m40_3, m40_4, m40_5, m40_6, m40_7, m40_8, m40_9, m40_10, m40_11, m40_12, m40_13, m40_14, m40_15, m40_16, m40_17, m40_18, m40_19, m40_20, m40_21, m40_22, m40_23, m40_24, m40_25, m40_26, m40_27, m40_r, m40_b, m40, wrap_nat (show t < 2 ^ 63 - 1 by omega), wk, act, asV, ↓reduceIte, Nat.reduceEqDiff, reduceCtorEq, Nat.reduceAdd, Nat.reduceLeDiff, Nat.reduceSub, Nat.reduceMul, List.reduceReplicate, Int.reduceEq, Int.reduceLT, Int.reduceLE, Int.reduceAdd, Int.reduceSub, Int.reduceMul, Nat.reduceLT, Int.reduceToNat] | ((first | ((with_reducible refine CallL.gate ?_); apply CallL.of) | ((with_reducible refine CallP.gate ?_); apply CallP.of)); (case h1 => (simp -implicitDefEqProofs (maxSteps := 2000000) only [y1, y2, y3, y4, hsg, hmx, Bool.false_eq_true, k2, kh2, k4, kh4, k5, kh5, k21, kh21, k22, k6, kh6, ht64', aw, ak, lw, lk, d1, d2, d3, d4, d5, d6, d7, d8, d9, d10, d11, d12, d13, d14, d15, d16, ht63, m40_1, m40_2, m40_3, m40_4, m40_5, m40_6, m40_7, m40_8, m40_9, m40_10, m40_11, m40_12, m40_13, m40_14, m40_15, m40_16, m40_17, m40_18, m40_19, m40_20, m40_21, m40_22, m40_23, m40_24, m40_25, m40_26, m40_27, m40_r, m40_b, m40, wrap_nat (show t < 2 ^ 63 - 1 by omega), wk, act, asV, ↓reduceIte, Nat.reduceEqDiff, reduceCtorEq, Nat.reduceAdd, Nat.reduceLeDiff, Nat.reduceSub, Nat.reduceMul, List.reduceReplicate, Int.reduceEq, Int.reduceLT, Int.reduceLE, Int.reduceAdd, Int.reduceSub, Int.reduceMul, Nat.reduceLT, Int.reduceToNat]; first | done | (with_reducible rfl))); (case h2 => (first | exact c1 | exact c2 | exact c3 | exact c4 | exact c5 | exact c6)); (case h3 => simp -implicitDefEqProofs (maxSteps := 2000000) only [y1, y2, y3, y4, hsg, hmx, Bool.false_eq_true, k2, kh2, k4, kh4, k5, kh5, k21, kh21, k22, k6, kh6, ht64', aw, ak, lw, lk, d1, d2, d3, d4, d5, d6, d7, d8, d9, d10, d11, d12, d13, d14, d15, d16, ht63, m40_1, m40_2, m40_3, m40_4, m40_5, m40_6, m40_7, m40_8, m40_9, m40_10, m40_11, m40_12, m40_13, m40_14, m40_15, m40_16, m40_17, m40_18, m40_19, m40_20, m40_21, m40_22, m40_23, m40_24, m40_25, m40_26, m40_27, m40_r, m40_b, m40, wrap_nat (show t < 2 ^ 63 - 1 by omega), wk, act, asV, ↓reduceIte, Nat.reduceEqDiff, reduceCtorEq, Nat.reduceAdd, Nat.reduceLeDiff, Nat.reduceSub, Nat.reduceMul, List.reduceReplicate, Int.reduceEq, Int.reduceLT, Int.reduceLE, Int.reduceAdd, Int.reduceSub, Int.reduceMul, Nat.reduceLT, Int.reduceToNat])))
    refine ⟨64 - (t + 1), by omega, t + 1, by omega, rfl, rfl, v6, rfl, ?_⟩
    rw [er]
    have e2 : rnd ⟨a, b', c, d, e, f, g, h⟩ k w = ⟨F + S, a, b', c, d + F, e, f, g⟩ := by
      simp only [rnd, first8, second8, ← hx1, ← hx2, ← hF, ← hS]
    rw [e2]; rfl
  · obtain rfl : t = 64 := by omega
    simp -implicitDefEqProofs (maxSteps := 2000000) only [k22, m40_1, m40_2, m40_3, m40_4, m40_5, m40_6, m40_7, m40_8, m40_9, m40_10, m40_11, m40_12, m40_13, m40_14, m40_15, m40_16, m40_17, m40_18, m40_19, m40_20, m40_21, m40_22, m40_23, m40_24, m40_25, m40_26, m40_27, m40_r, m40_b, m40, wk, act, asV, ↓reduceIte, Nat.reduceEqDiff, reduceCtorEq, Nat.reduceAdd, Nat.reduceLeDiff, Nat.reduceSub, Nat.reduceMul, List.reduceReplicate, Int.reduceEq, Int.reduceLT, Int.reduceLE, Int.reduceAdd, Int.reduceSub, Int.reduceMul, Nat.reduceLT, Int.reduceToNat]
    exact q1 _ (by simp -implicitDefEqProofs (maxSteps := 2000000) only [k2, wk, act, asV, ↓reduceIte, Nat.reduceEqDiff, reduceCtorEq, Nat.reduceAdd, Nat.reduceLeDiff, Nat.reduceSub, Nat.reduceMul, List.reduceReplicate, Int.reduceEq, Int.reduceLT, Int.reduceLE, Int.reduceAdd, Int.reduceSub, Int.reduceMul, Nat.reduceLT, Int.reduceToNat]) (by simp -implicitDefEqProofs (maxSteps := 2000000) only [kh2, wk, act, asV, ↓reduceIte, Nat.reduceEqDiff, reduceCtorEq, Nat.reduceAdd, Nat.reduceLeDiff, Nat.reduceSub, Nat.reduceMul, List.reduceReplicate, Int.reduceEq, Int.reduceLT, Int.reduceLE, Int.reduceAdd, Int.reduceSub, Int.reduceMul, Nat.reduceLT, Int.reduceToNat]) (by simp -implicitDefEqProofs (maxSteps := 2000000) only [k4, wk, act, asV, ↓reduceIte, Nat.reduceEqDiff, reduceCtorEq, Nat.reduceAdd, Nat.reduceLeDiff, Nat.reduceSub, Nat.reduceMul, List.reduceReplicate, Int.reduceEq, Int.reduceLT, Int.reduceLE, Int.reduceAdd, Int.reduceSub, Int.reduceMul, Nat.reduceLT, Int.reduceToNat]) (by simp -implicitDefEqProofs (maxSteps := 2000000) only [kh4, wk, act, asV, ↓reduceIte, Nat.reduceEqDiff, reduceCtorEq, Nat.reduceAdd, Nat.reduceLeDiff, Nat.reduceSub, Nat.reduceMul, List.reduceReplicate, Int.reduceEq, Int.reduceLT, Int.reduceLE, Int.reduceAdd, Int.reduceSub, Int.reduceMul, Nat.reduceLT, Int.reduceToNat]) ⟨v6, by simp -implicitDefEqProofs (maxSteps := 2000000) only [k6, wk, act, asV, ↓reduceIte, Nat.reduceEqDiff, reduceCtorEq, Nat.reduceAdd, Nat.reduceLeDiff, Nat.reduceSub, Nat.reduceMul, List.reduceReplicate, Int.reduceEq, Int.reduceLT, Int.reduceLE, Int.reduceAdd, Int.reduceSub, Int.reduceMul, Nat.reduceLT, Int.reduceToNat], by simp -implicitDefEqProofs (maxSteps := 2000000) only [kh6, wk, act, asV, ↓reduceIte, Nat.reduceEqDiff, reduceCtorEq, Nat.reduceAdd, Nat.reduceLeDiff, Nat.reduceSub, Nat.reduceMul, List.reduceReplicate, Int.reduceEq, Int.reduceLT, Int.reduceLE, Int.reduceAdd, Int.reduceSub, Int.reduceMul, Nat.reduceLT, Int.reduceToNat]⟩

theorem turnR_add (hs : H8) (L : List UInt32) (hL : L.length = 8) {v2 : Nat} (Q : Ex → St → Prop) (s1 : St)
    (q1 : ∀ s2 : St, s2.t 4 = s1.t 4 → s2.h 4 = s1.h 4 → (∃ v6, s2.t 10 = .ptr 10 0 v6 ∧ s2.h 10 = ⟨v6, true, true, false, wl (addTo L hs.l 8)⟩) → Q (.exit 4) s2)
    (k2 : s1.t 2 = .ptr 2 0 v2) (kh2 : s1.h 2 = ⟨v2, true, true, false, wl hs.l⟩) (k6 : ∃ v6, s1.t 10 = .ptr 10 0 v6 ∧ s1.h 10 = ⟨v6, true, true, false, wl L⟩) (k87 : s1.t 20 = .int .i64 0) :
    Wp (RCs Try.prog) (.loop m40_19) Q s1 := by
  refine Wp_loop (fun m s => ∃ i, i ≤ 8 ∧ m = 8 - i ∧ s.t 2 = .ptr 2 0 v2 ∧ s.h 2 = ⟨v2, true, true, false, wl hs.l⟩ ∧ s.t 4 = s1.t 4 ∧ s.h 4 = s1.h 4 ∧ s.t 20 = .int .i64 i ∧ ∃ v6, s.t 10 = .ptr 10 0 v6 ∧ s.h 10 = ⟨v6, true, true, false, wl (addTo L hs.l i)⟩) 8 ⟨0, by omega, rfl, k2, kh2, rfl, rfl, k87, by rw [addTo_zero _ hL]; exact k6⟩ ?_
  clear k2 kh2 k6 k87
  rintro m s ⟨i, hi, rfl, k2, kh2, k4, kh4, k87, v6, k6, kh6⟩
  by_cases hi8 : i < 8
  · have hi8' : (i : Int) < 8 := by omega
    have hi7 : i ≤ 7 := by omega
    have a1 := at_wl (xs := addTo L hs.l i) (k := i) (by rw [addTo_length]; exact hi8)
    rw [addTo_get _ _ _ hi8, if_neg (Nat.lt_irrefl i)] at a1
    have a2 := at_wl (xs := hs.l) (k := i) (by rw [H8.l_length]; exact hi8)
    have d := w_add (L.getD i 0) (hs.l.getD i 0)
    have st := set_wl (xs := addTo L hs.l i) (k := i) (by rw [addTo_length]; exact hi8) (L.getD i 0 + hs.l.getD i 0)
    rw [addTo_set _ _ hi8] at st
    have l1 : (wl (addTo L hs.l i)).length = 8 := by rw [wl_length, addTo_length]
    have l2 : (wl hs.l).length = 8 := rfl
    obtain ⟨x, hx⟩ : ∃ x, x = L.getD i 0 := ⟨_, rfl⟩
    obtain ⟨y, hy⟩ : ∃ y, y = hs.l.getD i 0 := ⟨_, rfl⟩
    rw [← hx] at a1 d st
    rw [← hy] at a2 d st
    simp -implicitDefEqProofs (maxSteps := 2000000) only [k2, kh2, k4, kh4, k87, k6, kh6, hi8', hi7, a1, a2, d, st, l1, l2, m40_1, m40_2, m40_3, m40_4, m40_5, m40_6, m40_7, m40_8, m40_9, m40_10, m40_11, m40_12, m40_13, m40_14, m40_15, m40_16, m40_17, m40_18, m40_19, m40_20, m40_21, m40_22, m40_23, m40_24, m40_25, m40_26, m40_27, m40_r, m40_b, m40, wrap_nat (show i < 2 ^ 63 - 1 by omega), wk, act, asV, ↓reduceIte, Nat.reduceEqDiff, reduceCtorEq, Nat.reduceAdd, Nat.reduceLeDiff, Nat.reduceSub, Nat.reduceMul, List.reduceReplicate, Int.reduceEq, Int.reduceLT, Int.reduceLE, Int.reduceAdd, Int.reduceSub, Int.reduceMul, Nat.reduceLT, Int.reduceToNat]
    exact ⟨8 - (i + 1), by omega, i + 1, by omega, rfl, rfl, v6, rfl, rfl⟩
  · obtain rfl : i = 8 := by omega
    simp -implicitDefEqProofs (maxSteps := 2000000) only [k87, m40_1, m40_2, m40_3, m40_4, m40_5, m40_6, m40_7, m40_8, m40_9, m40_10, m40_11, m40_12, m40_13, m40_14, m40_15, m40_16, m40_17, m40_18, m40_19, m40_20, m40_21, m40_22, m40_23, m40_24, m40_25, m40_26, m40_27, m40_r, m40_b, m40, wk, act, asV, ↓reduceIte, Nat.reduceEqDiff, reduceCtorEq, Nat.reduceAdd, Nat.reduceLeDiff, Nat.reduceSub, Nat.reduceMul, List.reduceReplicate, Int.reduceEq, Int.reduceLT, Int.reduceLE, Int.reduceAdd, Int.reduceSub, Int.reduceMul, Nat.reduceLT, Int.reduceToNat]
    exact q1 _ (by simp -implicitDefEqProofs (maxSteps := 2000000) only [k4, wk, act, asV, ↓reduceIte, Nat.reduceEqDiff, reduceCtorEq, Nat.reduceAdd, Nat.reduceLeDiff, Nat.reduceSub, Nat.reduceMul, List.reduceReplicate, Int.reduceEq, Int.reduceLT, Int.reduceLE, Int.reduceAdd, Int.reduceSub, Int.reduceMul, Nat.reduceLT, Int.reduceToNat]) (by simp -implicitDefEqProofs (maxSteps := 2000000) only [kh4, wk, act, asV, ↓reduceIte, Nat.reduceEqDiff, reduceCtorEq, Nat.reduceAdd, Nat.reduceLeDiff, Nat.reduceSub, Nat.reduceMul, List.reduceReplicate, Int.reduceEq, Int.reduceLT, Int.reduceLE, Int.reduceAdd, Int.reduceSub, Int.reduceMul, Nat.reduceLT, Int.reduceToNat]) ⟨v6, by simp -implicitDefEqProofs (maxSteps := 2000000) only [k6, wk, act, asV, ↓reduceIte, Nat.reduceEqDiff, reduceCtorEq, Nat.reduceAdd, Nat.reduceLeDiff, Nat.reduceSub, Nat.reduceMul, List.reduceReplicate, Int.reduceEq, Int.reduceLT, Int.reduceLE, Int.reduceAdd, Int.reduceSub, Int.reduceMul, Nat.reduceLT, Int.reduceToNat], by simp -implicitDefEqProofs (maxSteps := 2000000) only [kh6, wk, act, asV, ↓reduceIte, Nat.reduceEqDiff, reduceCtorEq, Nat.reduceAdd, Nat.reduceLeDiff, Nat.reduceSub, Nat.reduceMul, List.reduceReplicate, Int.reduceEq, Int.reduceLT, Int.reduceLE, Int.reduceAdd, Int.reduceSub, Int.reduceMul, Nat.reduceLT, Int.reduceToNat]⟩


theorem turnR_ok (hs : H8) (b : List UInt8) (hb : b.length = 64) : RC Try.prog 40 [.agg (wl hs.l), .agg (bl b)] [.agg (wl (turnH hs b))] := by
  refine RC.of_wp c40 rfl ?_
  have hbl : (bl b).length = 64 := by rw [bl_length, hb]
  have l8 : (wl hs.l).length = 8 := rfl
  have t8 : List.take 8 (wl hs.l) = wl hs.l := rfl
  have d8 : List.drop 8 (wl hs.l) = [] := rfl
  have lk : (wl K64).length = 64 := rfl
  have tk : List.take 64 (wl K64) = wl K64 := rfl
  have dk : List.drop 64 (wl K64) = [] := rfl
  simp -implicitDefEqProofs (maxSteps := 2000000) only [m40_1, m40_2, m40_3, m40_4, m40_5, m40_6, m40_7, m40_8, m40_9, m40_10, m40_11, m40_12, m40_13, m40_14, m40_15, m40_16, m40_17, m40_18, m40_19, m40_20, m40_21, m40_22, m40_23, m40_24, m40_25, m40_26, m40_27, m40_r, m40_b, m40, hbl, l8, bl_scal, wl_scal, wk, act, asV, ↓reduceIte, Nat.reduceEqDiff, reduceCtorEq, Nat.reduceAdd, Nat.reduceLeDiff, Nat.reduceSub, Nat.reduceMul, List.reduceReplicate, Int.reduceEq, Int.reduceLT, Int.reduceLE, Int.reduceAdd, Int.reduceSub, Int.reduceMul, Nat.reduceLT, Int.reduceToNat]
  refine turnR_sch b hb _ _ ?_ (by simp -implicitDefEqProofs (maxSteps := 2000000) only [wk, act, asV, ↓reduceIte, Nat.reduceEqDiff, reduceCtorEq, Nat.reduceAdd, Nat.reduceLeDiff, Nat.reduceSub, Nat.reduceMul, List.reduceReplicate, Int.reduceEq, Int.reduceLT, Int.reduceLE, Int.reduceAdd, Int.reduceSub, Int.reduceMul, Nat.reduceLT, Int.reduceToNat]; first | done | rfl) (by simp -implicitDefEqProofs (maxSteps := 2000000) only [wk, act, asV, ↓reduceIte, Nat.reduceEqDiff, reduceCtorEq, Nat.reduceAdd, Nat.reduceLeDiff, Nat.reduceSub, Nat.reduceMul, List.reduceReplicate, Int.reduceEq, Int.reduceLT, Int.reduceLE, Int.reduceAdd, Int.reduceSub, Int.reduceMul, Nat.reduceLT, Int.reduceToNat]; first | done | rfl) ⟨_, by simp -implicitDefEqProofs (maxSteps := 2000000) only [wk, act, asV, ↓reduceIte, Nat.reduceEqDiff, reduceCtorEq, Nat.reduceAdd, Nat.reduceLeDiff, Nat.reduceSub, Nat.reduceMul, List.reduceReplicate, Int.reduceEq, Int.reduceLT, Int.reduceLE, Int.reduceAdd, Int.reduceSub, Int.reduceMul, Nat.reduceLT, Int.reduceToNat]; first | done | rfl, by simp -implicitDefEqProofs (maxSteps := 2000000) only [wk, act, asV, ↓reduceIte, Nat.reduceEqDiff, reduceCtorEq, Nat.reduceAdd, Nat.reduceLeDiff, Nat.reduceSub, Nat.reduceMul, List.reduceReplicate, Int.reduceEq, Int.reduceLT, Int.reduceLE, Int.reduceAdd, Int.reduceSub, Int.reduceMul, Nat.reduceLT, Int.reduceToNat]; first | done | rfl⟩ (by simp -implicitDefEqProofs (maxSteps := 2000000) only [wk, act, asV, ↓reduceIte, Nat.reduceEqDiff, reduceCtorEq, Nat.reduceAdd, Nat.reduceLeDiff, Nat.reduceSub, Nat.reduceMul, List.reduceReplicate, Int.reduceEq, Int.reduceLT, Int.reduceLE, Int.reduceAdd, Int.reduceSub, Int.reduceMul, Nat.reduceLT, Int.reduceToNat])
  intro s2 p2 ph2 p4 ph4 p5
  simp -implicitDefEqProofs (maxSteps := 2000000) only [wk, act, asV, ↓reduceIte, Nat.reduceEqDiff, reduceCtorEq, Nat.reduceAdd, Nat.reduceLeDiff, Nat.reduceSub, Nat.reduceMul, List.reduceReplicate, Int.reduceEq, Int.reduceLT, Int.reduceLE, Int.reduceAdd, Int.reduceSub, Int.reduceMul, Nat.reduceLT, Int.reduceToNat] at p2
  simp -implicitDefEqProofs (maxSteps := 2000000) only [wk, act, asV, ↓reduceIte, Nat.reduceEqDiff, reduceCtorEq, Nat.reduceAdd, Nat.reduceLeDiff, Nat.reduceSub, Nat.reduceMul, List.reduceReplicate, Int.reduceEq, Int.reduceLT, Int.reduceLE, Int.reduceAdd, Int.reduceSub, Int.reduceMul, Nat.reduceLT, Int.reduceToNat] at ph2
  simp -implicitDefEqProofs (maxSteps := 2000000) only [wk, act, asV, ↓reduceIte, Nat.reduceEqDiff, reduceCtorEq, Nat.reduceAdd, Nat.reduceLeDiff, Nat.reduceSub, Nat.reduceMul, List.reduceReplicate, Int.reduceEq, Int.reduceLT, Int.reduceLE, Int.reduceAdd, Int.reduceSub, Int.reduceMul, Nat.reduceLT, Int.reduceToNat] at p4
  simp -implicitDefEqProofs (maxSteps := 2000000) only [wk, act, asV, ↓reduceIte, Nat.reduceEqDiff, reduceCtorEq, Nat.reduceAdd, Nat.reduceLeDiff, Nat.reduceSub, Nat.reduceMul, List.reduceReplicate, Int.reduceEq, Int.reduceLT, Int.reduceLE, Int.reduceAdd, Int.reduceSub, Int.reduceMul, Nat.reduceLT, Int.reduceToNat] at ph4
  obtain ⟨v5, p5, ph5⟩ := p5
  repeat' (first | simp -implicitDefEqProofs (maxSteps := 2000000) only [p2, ph2, p4, ph4, p5, ph5, l8, t8, d8, lk, tk, dk, wl_scal, wk, act, asV, ↓reduceIte, Nat.reduceEqDiff, reduceCtorEq, Nat.reduceAdd, Nat.reduceLeDiff, Nat.reduceSub, Nat.reduceMul, List.reduceReplicate, Int.reduceEq, Int.reduceLT, Int.reduceLE, Int.reduceAdd, Int.reduceSub, Int.reduceMul, Nat.reduceLT, Int.reduceToNat] | ((first | ((with_reducible refine CallL.gate ?_); apply CallL.of) | ((with_reducible refine CallP.gate ?_); apply CallP.of)); (case h1 => (simp -implicitDefEqProofs (maxSteps := 2000000) only [p2, ph2, p4, ph4, p5, ph5, l8, t8, d8, lk, tk, dk, wl_scal, wk, act, asV, ↓reduceIte, Nat.reduceEqDiff, reduceCtorEq, Nat.reduceAdd, Nat.reduceLeDiff, Nat.reduceSub, Nat.reduceMul, List.reduceReplicate, Int.reduceEq, Int.reduceLT, Int.reduceLE, Int.reduceAdd, Int.reduceSub, Int.reduceMul, Nat.reduceLT, Int.reduceToNat]; first | done | (with_reducible rfl))); (case h2 => (first | exact table_ok)); (case h3 => simp -implicitDefEqProofs (maxSteps := 2000000) only [p2, ph2, p4, ph4, p5, ph5, l8, t8, d8, lk, tk, dk, wl_scal, wk, act, asV, ↓reduceIte, Nat.reduceEqDiff, reduceCtorEq, Nat.reduceAdd, Nat.reduceLeDiff, Nat.reduceSub, Nat.reduceMul, List.reduceReplicate, Int.reduceEq, Int.reduceLT, Int.reduceLE, Int.reduceAdd, Int.reduceSub, Int.reduceMul, Nat.reduceLT, Int.reduceToNat])))
  refine turnR_in hs b (v2 := 0) (v3 := v5) (v4 := 0) [] _ _ ?_ (by simp -implicitDefEqProofs (maxSteps := 2000000) only [wk, act, asV, ↓reduceIte, Nat.reduceEqDiff, reduceCtorEq, Nat.reduceAdd, Nat.reduceLeDiff, Nat.reduceSub, Nat.reduceMul, List.reduceReplicate, Int.reduceEq, Int.reduceLT, Int.reduceLE, Int.reduceAdd, Int.reduceSub, Int.reduceMul, Nat.reduceLT, Int.reduceToNat]; first | done | rfl) (by simp -implicitDefEqProofs (maxSteps := 2000000) only [wk, act, asV, ↓reduceIte, Nat.reduceEqDiff, reduceCtorEq, Nat.reduceAdd, Nat.reduceLeDiff, Nat.reduceSub, Nat.reduceMul, List.reduceReplicate, Int.reduceEq, Int.reduceLT, Int.reduceLE, Int.reduceAdd, Int.reduceSub, Int.reduceMul, Nat.reduceLT, Int.reduceToNat]; first | done | rfl) ⟨_, by simp -implicitDefEqProofs (maxSteps := 2000000) only [wk, act, asV, ↓reduceIte, Nat.reduceEqDiff, reduceCtorEq, Nat.reduceAdd, Nat.reduceLeDiff, Nat.reduceSub, Nat.reduceMul, List.reduceReplicate, Int.reduceEq, Int.reduceLT, Int.reduceLE, Int.reduceAdd, Int.reduceSub, Int.reduceMul, Nat.reduceLT, Int.reduceToNat]; first | done | rfl, by simp -implicitDefEqProofs (maxSteps := 2000000) only [wk, act, asV, ↓reduceIte, Nat.reduceEqDiff, reduceCtorEq, Nat.reduceAdd, Nat.reduceLeDiff, Nat.reduceSub, Nat.reduceMul, List.reduceReplicate, Int.reduceEq, Int.reduceLT, Int.reduceLE, Int.reduceAdd, Int.reduceSub, Int.reduceMul, Nat.reduceLT, Int.reduceToNat]; first | done | rfl⟩ (by simp -implicitDefEqProofs (maxSteps := 2000000) only [p5, wk, act, asV, ↓reduceIte, Nat.reduceEqDiff, reduceCtorEq, Nat.reduceAdd, Nat.reduceLeDiff, Nat.reduceSub, Nat.reduceMul, List.reduceReplicate, Int.reduceEq, Int.reduceLT, Int.reduceLE, Int.reduceAdd, Int.reduceSub, Int.reduceMul, Nat.reduceLT, Int.reduceToNat]) (by simp -implicitDefEqProofs (maxSteps := 2000000) only [ph5, wk, act, asV, ↓reduceIte, Nat.reduceEqDiff, reduceCtorEq, Nat.reduceAdd, Nat.reduceLeDiff, Nat.reduceSub, Nat.reduceMul, List.reduceReplicate, Int.reduceEq, Int.reduceLT, Int.reduceLE, Int.reduceAdd, Int.reduceSub, Int.reduceMul, Nat.reduceLT, Int.reduceToNat]) (by simp -implicitDefEqProofs (maxSteps := 2000000) only [wk, act, asV, ↓reduceIte, Nat.reduceEqDiff, reduceCtorEq, Nat.reduceAdd, Nat.reduceLeDiff, Nat.reduceSub, Nat.reduceMul, List.reduceReplicate, Int.reduceEq, Int.reduceLT, Int.reduceLE, Int.reduceAdd, Int.reduceSub, Int.reduceMul, Nat.reduceLT, Int.reduceToNat])
  intro s3 q2 qh2 q4 qh4 q6
  simp -implicitDefEqProofs (maxSteps := 2000000) only [p2, wk, act, asV, ↓reduceIte, Nat.reduceEqDiff, reduceCtorEq, Nat.reduceAdd, Nat.reduceLeDiff, Nat.reduceSub, Nat.reduceMul, List.reduceReplicate, Int.reduceEq, Int.reduceLT, Int.reduceLE, Int.reduceAdd, Int.reduceSub, Int.reduceMul, Nat.reduceLT, Int.reduceToNat] at q2
  simp -implicitDefEqProofs (maxSteps := 2000000) only [ph2, wk, act, asV, ↓reduceIte, Nat.reduceEqDiff, reduceCtorEq, Nat.reduceAdd, Nat.reduceLeDiff, Nat.reduceSub, Nat.reduceMul, List.reduceReplicate, Int.reduceEq, Int.reduceLT, Int.reduceLE, Int.reduceAdd, Int.reduceSub, Int.reduceMul, Nat.reduceLT, Int.reduceToNat] at qh2
  simp -implicitDefEqProofs (maxSteps := 2000000) only [p4, wk, act, asV, ↓reduceIte, Nat.reduceEqDiff, reduceCtorEq, Nat.reduceAdd, Nat.reduceLeDiff, Nat.reduceSub, Nat.reduceMul, List.reduceReplicate, Int.reduceEq, Int.reduceLT, Int.reduceLE, Int.reduceAdd, Int.reduceSub, Int.reduceMul, Nat.reduceLT, Int.reduceToNat] at q4
  simp -implicitDefEqProofs (maxSteps := 2000000) only [ph4, wk, act, asV, ↓reduceIte, Nat.reduceEqDiff, reduceCtorEq, Nat.reduceAdd, Nat.reduceLeDiff, Nat.reduceSub, Nat.reduceMul, List.reduceReplicate, Int.reduceEq, Int.reduceLT, Int.reduceLE, Int.reduceAdd, Int.reduceSub, Int.reduceMul, Nat.reduceLT, Int.reduceToNat] at qh4
  simp -implicitDefEqProofs (maxSteps := 2000000) only [wk, act, asV, ↓reduceIte, Nat.reduceEqDiff, reduceCtorEq, Nat.reduceAdd, Nat.reduceLeDiff, Nat.reduceSub, Nat.reduceMul, List.reduceReplicate, Int.reduceEq, Int.reduceLT, Int.reduceLE, Int.reduceAdd, Int.reduceSub, Int.reduceMul, Nat.reduceLT, Int.reduceToNat]
  refine turnR_add hs (rnds hs (schN b 64) 64).l (rnds_l _ _ _) _ _ ?_ (by simp -implicitDefEqProofs (maxSteps := 2000000) only [q2, wk, act, asV, ↓reduceIte, Nat.reduceEqDiff, reduceCtorEq, Nat.reduceAdd, Nat.reduceLeDiff, Nat.reduceSub, Nat.reduceMul, List.reduceReplicate, Int.reduceEq, Int.reduceLT, Int.reduceLE, Int.reduceAdd, Int.reduceSub, Int.reduceMul, Nat.reduceLT, Int.reduceToNat]; first | done | rfl) (by simp -implicitDefEqProofs (maxSteps := 2000000) only [qh2, wk, act, asV, ↓reduceIte, Nat.reduceEqDiff, reduceCtorEq, Nat.reduceAdd, Nat.reduceLeDiff, Nat.reduceSub, Nat.reduceMul, List.reduceReplicate, Int.reduceEq, Int.reduceLT, Int.reduceLE, Int.reduceAdd, Int.reduceSub, Int.reduceMul, Nat.reduceLT, Int.reduceToNat]; first | done | rfl) (by obtain ⟨v6, r6, rh6⟩ := q6; exact ⟨v6, by simp -implicitDefEqProofs (maxSteps := 2000000) only [r6, wk, act, asV, ↓reduceIte, Nat.reduceEqDiff, reduceCtorEq, Nat.reduceAdd, Nat.reduceLeDiff, Nat.reduceSub, Nat.reduceMul, List.reduceReplicate, Int.reduceEq, Int.reduceLT, Int.reduceLE, Int.reduceAdd, Int.reduceSub, Int.reduceMul, Nat.reduceLT, Int.reduceToNat], by simp -implicitDefEqProofs (maxSteps := 2000000) only [rh6, wk, act, asV, ↓reduceIte, Nat.reduceEqDiff, reduceCtorEq, Nat.reduceAdd, Nat.reduceLeDiff, Nat.reduceSub, Nat.reduceMul, List.reduceReplicate, Int.reduceEq, Int.reduceLT, Int.reduceLE, Int.reduceAdd, Int.reduceSub, Int.reduceMul, Nat.reduceLT, Int.reduceToNat]⟩) (by simp -implicitDefEqProofs (maxSteps := 2000000) only [wk, act, asV, ↓reduceIte, Nat.reduceEqDiff, reduceCtorEq, Nat.reduceAdd, Nat.reduceLeDiff, Nat.reduceSub, Nat.reduceMul, List.reduceReplicate, Int.reduceEq, Int.reduceLT, Int.reduceLE, Int.reduceAdd, Int.reduceSub, Int.reduceMul, Nat.reduceLT, Int.reduceToNat])
  intro s4 r4 rh4 r6
  obtain ⟨v6, r6, rh6⟩ := r6
  simp -implicitDefEqProofs (maxSteps := 2000000) only [q4, wk, act, asV, ↓reduceIte, Nat.reduceEqDiff, reduceCtorEq, Nat.reduceAdd, Nat.reduceLeDiff, Nat.reduceSub, Nat.reduceMul, List.reduceReplicate, Int.reduceEq, Int.reduceLT, Int.reduceLE, Int.reduceAdd, Int.reduceSub, Int.reduceMul, Nat.reduceLT, Int.reduceToNat] at r4
  simp -implicitDefEqProofs (maxSteps := 2000000) only [qh4, wk, act, asV, ↓reduceIte, Nat.reduceEqDiff, reduceCtorEq, Nat.reduceAdd, Nat.reduceLeDiff, Nat.reduceSub, Nat.reduceMul, List.reduceReplicate, Int.reduceEq, Int.reduceLT, Int.reduceLE, Int.reduceAdd, Int.reduceSub, Int.reduceMul, Nat.reduceLT, Int.reduceToNat] at rh4
  have lt : (wl (turnH hs b)).length = 8 := by rw [wl_length]; exact addTo_length _ _ _
  have tt : List.take 8 (wl (turnH hs b)) = wl (turnH hs b) := List.take_of_length_le (by omega)
  have dt : List.drop 8 (wl (turnH hs b)) = [] := List.drop_of_length_le (by omega)
  rw [show addTo (rnds hs (schN b 64) 64).l hs.l 8 = turnH hs b from rfl] at rh6
  simp -implicitDefEqProofs (maxSteps := 2000000) only [r4, rh4, r6, rh6, lt, tt, dt, wl_scal, wk, act, asV, ↓reduceIte, Nat.reduceEqDiff, reduceCtorEq, Nat.reduceAdd, Nat.reduceLeDiff, Nat.reduceSub, Nat.reduceMul, List.reduceReplicate, Int.reduceEq, Int.reduceLT, Int.reduceLE, Int.reduceAdd, Int.reduceSub, Int.reduceMul, Nat.reduceLT, Int.reduceToNat]
end Go.Proofs.Ytkphojcmjffccaa
