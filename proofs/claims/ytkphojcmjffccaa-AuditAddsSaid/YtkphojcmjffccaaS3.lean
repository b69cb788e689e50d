/- The words of 64 bytes, by the program. -/
import Derived.Test.YtkphojcmjffccaaS1
import Derived.Test.YtkphojcmjffccaaE31
import Derived.Test.YtkphojcmjffccaaM7
set_option linter.unusedSectionVars false
set_option linter.unusedVariables false
set_option linter.unusedSimpArgs false
set_option maxRecDepth 100000
set_option maxHeartbeats 8000000
namespace Go.Proofs.Ytkphojcmjffccaa
open Go.RowKit

def wl (xs : List UInt32) : List IV := xs.map fun x => .int .u32 (x.toNat : Int)
theorem wl_length (xs : List UInt32) : (wl xs).length = xs.length := by simp [wl]
theorem wl_scal (xs : List UInt32) : (wl xs).all IV.scal = true := by simp [wl, IV.scal]
theorem at_wl {xs : List UInt32} {k : Nat} (h : k < xs.length) : List.take 1 (List.drop k (wl xs)) = [.int .u32 ((xs.getD k 0).toNat : Int)] := by
  rw [List.drop_eq_getElem_cons (by rw [wl_length]; exact h)]
  simp [wl, List.getD, h]
theorem set_wl {xs : List UInt32} {k : Nat} (h : k < xs.length) (x : UInt32) : List.take k (wl xs) ++ [IV.int .u32 (x.toNat : Int)] ++ List.drop (k + 1) (wl xs) = wl (xs.set k x) := by
  rw [List.set_eq_take_append_cons_drop, if_pos h]; simp [wl]
theorem at_b {b : List UInt8} {k : Nat} (h : k < b.length) : List.take 1 (List.drop k (bl b)) = [.int .u8 ((b.getD k 0).toNat : Int)] := by
  rw [drop_bl h]; simp [List.getD, h]
def zw (n : Nat) : List UInt32 := List.replicate n 0
theorem zw_length (n : Nat) : (zw n).length = n := by simp [zw]
def bePart (b : List UInt8) (t : Nat) : Nat → UInt32
  | 0 => 0
  | i + 1 => wsl (bePart b t i) 8 ||| UInt32.ofNat (b.getD (4 * t + i) 0).toNat
def wordAt (b : List UInt8) (W : List UInt32) (t : Nat) : UInt32 :=
  if t < 16 then bePart b t 4 else turnedW (W.getD (t - 2) 0) 17 19 10 true + W.getD (t - 7) 0 + turnedW (W.getD (t - 15) 0) 7 18 3 true + W.getD (t - 16) 0
def schN (b : List UInt8) : Nat → List UInt32
  | 0 => []
  | t + 1 => schN b t ++ [wordAt b (schN b t) t]
theorem schN_length (b : List UInt8) : ∀ t, (schN b t).length = t
  | 0 => rfl
  | t + 1 => by simp [schN, schN_length b t]
theorem mid_get (W : List UInt32) (x : UInt32) (Z : List UInt32) {t : Nat} (h : W.length = t) : (W ++ x :: Z).getD t 0 = x := by
  subst h; simp [List.getD]
theorem mid_set (W : List UInt32) (x y : UInt32) (Z : List UInt32) {t : Nat} (h : W.length = t) : (W ++ x :: Z).set t y = W ++ y :: Z := by
  subst h; simp
theorem low_get (W Z : List UInt32) {k : Nat} (h : k < W.length) : (W ++ Z).getD k 0 = W.getD k 0 := by
  simp [List.getD, List.getElem?_append_left h]

theorem schedule_in (b : List UInt8) (hb : b.length = 64) {t v1 v3 : Nat} (ht : t < 16) (Q : Ex → St → Prop) (s1 : St)
    (q1 : ∀ s2 : St, s2.t 1 = .ptr 1 0 v1 → s2.h 1 = ⟨v1, true, true, false, bl b⟩ → s2.t 2 = s1.t 2 → s2.h 2 = s1.h 2 → s2.t 3 = .ptr 3 0 v3 → s2.h 3 = ⟨v3, true, true, false, wl (schN b t ++ bePart b t 4 :: zw (63 - t))⟩ → s2.t 6 = .int .i64 t → Q (.exit 2) s2)
    (k1 : s1.t 1 = .ptr 1 0 v1) (kh1 : s1.h 1 = ⟨v1, true, true, false, bl b⟩) (k3 : s1.t 3 = .ptr 3 0 v3) (kh3 : s1.h 3 = ⟨v3, true, true, false, wl (schN b t ++ bePart b t 0 :: zw (63 - t))⟩) (k4 : s1.t 4 = .int .i64 t) (k6 : s1.t 6 = .int .i64 t) (k11 : s1.t 11 = .int .i64 0) :
    Wp (RCs Try.prog) (.loop m49_4) Q s1 := by
  refine Wp_loop (fun m s => ∃ i, i ≤ 4 ∧ m = 4 - i ∧ s.t 1 = .ptr 1 0 v1 ∧ s.h 1 = ⟨v1, true, true, false, bl b⟩ ∧ s.t 2 = s1.t 2 ∧ s.h 2 = s1.h 2 ∧ s.t 3 = .ptr 3 0 v3 ∧ s.h 3 = ⟨v3, true, true, false, wl (schN b t ++ bePart b t i :: zw (63 - t))⟩ ∧ s.t 4 = .int .i64 t ∧ s.t 6 = .int .i64 t ∧ s.t 11 = .int .i64 i) 4 ⟨0, by omega, rfl, k1, kh1, rfl, rfl, k3, kh3, k4, k6, k11⟩ ?_
  clear k1 kh1 k3 kh3 k4 k6 k11
  rintro m s ⟨i, hi, rfl, k1, kh1, k2, kh2, k3, kh3, k4, k6, k11⟩
  have hW := schN_length b t
  have htot : ∀ x, (schN b t ++ x :: zw (63 - t)).length = 64 := by intro x; rw [List.length_append, hW, List.length_cons, zw_length]; omega
  have hbl : (bl b).length = 64 := by rw [bl_length, hb]
  by_cases hi4 : i < 4
  · have hi4' : (i : Int) < 4 := by omega
    have w4 : IntKind.i64.wrap (4 * (t : Int)) = ((4 * t : Nat) : Int) := by rw [IntKind.wrap_i64]; omega
    have w5 : IntKind.i64.wrap (((4 * t : Nat) : Int) + (i : Int)) = ((4 * t + i : Nat) : Int) := by rw [IntKind.wrap_i64]; omega
    have hab := at_b (b := b) (k := 4 * t + i) (by omega)
    have haw := at_wl (xs := schN b t ++ bePart b t i :: zw (63 - t)) (k := t) (by rw [htot]; omega)
    rw [mid_get _ _ _ hW] at haw
    obtain ⟨c, hc⟩ : ∃ c, c = b.getD (4 * t + i) 0 := ⟨_, rfl⟩
    have eb : bePart b t (i + 1) = wsl (bePart b t i) 8 ||| UInt32.ofNat c.toNat := by rw [hc]; rfl
    rw [← hc] at hab
    have hwc := w_wrap c.toNat
    have s8 : shI .shl .u32 ((bePart b t i).toNat : Int) 8 = some (.int .u32 ((wsl (bePart b t i) 8).toNat : Int)) := w_shl _ (k := 8) (by decide)
    have so := w_or (wsl (bePart b t i) 8) (UInt32.ofNat c.toNat)
    rw [← eb] at so
    have hst := set_wl (xs := schN b t ++ bePart b t i :: zw (63 - t)) (k := t) (by rw [htot]; omega) (bePart b t (i + 1))
    rw [mid_set _ _ _ _ hW] at hst
    have hwl : (wl (schN b t ++ bePart b t i :: zw (63 - t))).length = 64 := by rw [wl_length, htot]
    have ht64 : (t : Int) < 64 := by omega
    have ht63 : t ≤ 63 := by omega
    have hk64 : ((4 * t + i : Nat) : Int) < 64 := by omega
    have hk63 : 4 * t + i ≤ 63 := by omega
    simp -implicitDefEqProofs (maxSteps := 2000000) only [k1, kh1, k2, kh2, k3, kh3, k4, k6, k11, hi4', w4, w5, hab, haw, hwc, s8, so, hst, hwl, hbl, ht64, ht63, hk64, hk63, m49_1, m49_2, m49_3, m49_4, m49_5, m49_6, m49_7, m49_8, m49_9, m49_10, m49_11, m49_12, m49_13, m49_14, m49_15, m49_16, m49_r, m49_b, m49, wrap_nat (show i < 2 ^ 63 - 1 by omega), wk, act, asV, ↓reduceIte, Nat.reduceEqDiff, reduceCtorEq, Nat.reduceAdd, Nat.reduceLeDiff, Nat.reduceSub, Nat.reduceMul, List.reduceReplicate, Int.reduceEq, Int.reduceLT, Int.reduceLE, Int.reduceAdd, Int.reduceSub, Int.reduceMul, Nat.reduceLT, Int.reduceToNat]
    first | done | exact ⟨4 - (i + 1), by omega, i + 1, by omega, rfl, rfl, rfl⟩
  · have hi4' : ¬ (i : Int) < 4 := by omega
    obtain rfl : i = 4 := by omega
    simp -implicitDefEqProofs (maxSteps := 2000000) only [k11, m49_1, m49_2, m49_3, m49_4, m49_5, m49_6, m49_7, m49_8, m49_9, m49_10, m49_11, m49_12, m49_13, m49_14, m49_15, m49_16, m49_r, m49_b, m49, wk, act, asV, ↓reduceIte, Nat.reduceEqDiff, reduceCtorEq, Nat.reduceAdd, Nat.reduceLeDiff, Nat.reduceSub, Nat.reduceMul, List.reduceReplicate, Int.reduceEq, Int.reduceLT, Int.reduceLE, Int.reduceAdd, Int.reduceSub, Int.reduceMul, Nat.reduceLT, Int.reduceToNat]
    exact q1 _ (by simp -implicitDefEqProofs (maxSteps := 2000000) only [k1, wk, act, asV, ↓reduceIte, Nat.reduceEqDiff, reduceCtorEq, Nat.reduceAdd, Nat.reduceLeDiff, Nat.reduceSub, Nat.reduceMul, List.reduceReplicate, Int.reduceEq, Int.reduceLT, Int.reduceLE, Int.reduceAdd, Int.reduceSub, Int.reduceMul, Nat.reduceLT, Int.reduceToNat]) (by simp -implicitDefEqProofs (maxSteps := 2000000) only [kh1, wk, act, asV, ↓reduceIte, Nat.reduceEqDiff, reduceCtorEq, Nat.reduceAdd, Nat.reduceLeDiff, Nat.reduceSub, Nat.reduceMul, List.reduceReplicate, Int.reduceEq, Int.reduceLT, Int.reduceLE, Int.reduceAdd, Int.reduceSub, Int.reduceMul, Nat.reduceLT, Int.reduceToNat]) (by simp -implicitDefEqProofs (maxSteps := 2000000) only [k2, wk, act, asV, ↓reduceIte, Nat.reduceEqDiff, reduceCtorEq, Nat.reduceAdd, Nat.reduceLeDiff, Nat.reduceSub, Nat.reduceMul, List.reduceReplicate, Int.reduceEq, Int.reduceLT, Int.reduceLE, Int.reduceAdd, Int.reduceSub, Int.reduceMul, Nat.reduceLT, Int.reduceToNat]) (by simp -implicitDefEqProofs (maxSteps := 2000000) only [kh2, wk, act, asV, ↓reduceIte, Nat.reduceEqDiff, reduceCtorEq, Nat.reduceAdd, Nat.reduceLeDiff, Nat.reduceSub, Nat.reduceMul, List.reduceReplicate, Int.reduceEq, Int.reduceLT, Int.reduceLE, Int.reduceAdd, Int.reduceSub, Int.reduceMul, Nat.reduceLT, Int.reduceToNat]) (by simp -implicitDefEqProofs (maxSteps := 2000000) only [k3, wk, act, asV, ↓reduceIte, Nat.reduceEqDiff, reduceCtorEq, Nat.reduceAdd, Nat.reduceLeDiff, Nat.reduceSub, Nat.reduceMul, List.reduceReplicate, Int.reduceEq, Int.reduceLT, Int.reduceLE, Int.reduceAdd, Int.reduceSub, Int.reduceMul, Nat.reduceLT, Int.reduceToNat]) (by simp -implicitDefEqProofs (maxSteps := 2000000) only [kh3, wk, act, asV, ↓reduceIte, Nat.reduceEqDiff, reduceCtorEq, Nat.reduceAdd, Nat.reduceLeDiff, Nat.reduceSub, Nat.reduceMul, List.reduceReplicate, Int.reduceEq, Int.reduceLT, Int.reduceLE, Int.reduceAdd, Int.reduceSub, Int.reduceMul, Nat.reduceLT, Int.reduceToNat]) (by simp -implicitDefEqProofs (maxSteps := 2000000) only [k6, wk, act, asV, ↓reduceIte, Nat.reduceEqDiff, reduceCtorEq, Nat.reduceAdd, Nat.reduceLeDiff, Nat.reduceSub, Nat.reduceMul, List.reduceReplicate, Int.reduceEq, Int.reduceLT, Int.reduceLE, Int.reduceAdd, Int.reduceSub, Int.reduceMul, Nat.reduceLT, Int.reduceToNat])

theorem zw_succ (n : Nat) : zw (n + 1) = 0 :: zw n := rfl
theorem schedule_ok (b : List UInt8) (hb : b.length = 64) : RC Try.prog 49 [.agg (bl b)] [.agg (wl (schN b 64))] := by
  refine RC.of_wp c49 rfl ?_
  have hbl : (bl b).length = 64 := by rw [bl_length, hb]
  simp -implicitDefEqProofs (maxSteps := 2000000) only [m49_1, m49_2, m49_3, m49_4, m49_5, m49_6, m49_7, m49_8, m49_9, m49_10, m49_11, m49_12, m49_13, m49_14, m49_15, m49_16, m49_r, m49_b, m49, hbl, wk, act, asV, ↓reduceIte, Nat.reduceEqDiff, reduceCtorEq, Nat.reduceAdd, Nat.reduceLeDiff, Nat.reduceSub, Nat.reduceMul, List.reduceReplicate, Int.reduceEq, Int.reduceLT, Int.reduceLE, Int.reduceAdd, Int.reduceSub, Int.reduceMul, Nat.reduceLT, Int.reduceToNat]
  refine Wp_loop (fun m s => ∃ t, t ≤ 64 ∧ m = 64 - t ∧ s.t 1 = .ptr 1 0 _ ∧ s.h 1 = ⟨_, true, true, false, bl b⟩ ∧ s.t 2 = .ptr 2 0 _ ∧ s.h 2 = ⟨_, true, true, false, wl (zw 64)⟩ ∧ s.t 6 = .int .i64 t ∧ ∃ v3, s.t 3 = .ptr 3 0 v3 ∧ s.h 3 = ⟨v3, true, true, false, wl (schN b t ++ zw (64 - t))⟩) 64 ⟨0, by omega, rfl, rfl, rfl, rfl, rfl, rfl, _, rfl, rfl⟩ ?_
  rintro m s ⟨t, ht, rfl, k1, kh1, k2, kh2, k6, v3, k3, kh3⟩
  have hW := schN_length b t
  by_cases ht64 : t < 64
  · have ht64' : (t : Int) < 64 := by omega
    rw [show 64 - t = (63 - t) + 1 by omega, zw_succ] at kh3
    by_cases ht16 : t < 16
    · have ht16' : (t : Int) < 16 := by omega
      simp -implicitDefEqProofs (maxSteps := 2000000) only [k1, kh1, k2, kh2, k3, kh3, k6, ht64', ht16', wk, act, asV, ↓reduceIte, Nat.reduceEqDiff, reduceCtorEq, Nat.reduceAdd, Nat.reduceLeDiff, Nat.reduceSub, Nat.reduceMul, List.reduceReplicate, Int.reduceEq, Int.reduceLT, Int.reduceLE, Int.reduceAdd, Int.reduceSub, Int.reduceMul, Nat.reduceLT, Int.reduceToNat]
      refine schedule_in b hb (t := t) (v3 := v3) ht16 _ _ ?_ (by simp -implicitDefEqProofs (maxSteps := 2000000) only [k1, wk, act, asV, ↓reduceIte, Nat.reduceEqDiff, reduceCtorEq, Nat.reduceAdd, Nat.reduceLeDiff, Nat.reduceSub, Nat.reduceMul, List.reduceReplicate, Int.reduceEq, Int.reduceLT, Int.reduceLE, Int.reduceAdd, Int.reduceSub, Int.reduceMul, Nat.reduceLT, Int.reduceToNat]; first | done | rfl) (by simp -implicitDefEqProofs (maxSteps := 2000000) only [kh1, wk, act, asV, ↓reduceIte, Nat.reduceEqDiff, reduceCtorEq, Nat.reduceAdd, Nat.reduceLeDiff, Nat.reduceSub, Nat.reduceMul, List.reduceReplicate, Int.reduceEq, Int.reduceLT, Int.reduceLE, Int.reduceAdd, Int.reduceSub, Int.reduceMul, Nat.reduceLT, Int.reduceToNat]; first | done | rfl) (by simp -implicitDefEqProofs (maxSteps := 2000000) only [k3, wk, act, asV, ↓reduceIte, Nat.reduceEqDiff, reduceCtorEq, Nat.reduceAdd, Nat.reduceLeDiff, Nat.reduceSub, Nat.reduceMul, List.reduceReplicate, Int.reduceEq, Int.reduceLT, Int.reduceLE, Int.reduceAdd, Int.reduceSub, Int.reduceMul, Nat.reduceLT, Int.reduceToNat]) (by simp -implicitDefEqProofs (maxSteps := 2000000) only [kh3, wk, act, asV, ↓reduceIte, Nat.reduceEqDiff, reduceCtorEq, Nat.reduceAdd, Nat.reduceLeDiff, Nat.reduceSub, Nat.reduceMul, List.reduceReplicate, Int.reduceEq, Int.reduceLT, Int.reduceLE, Int.reduceAdd, Int.reduceSub, Int.reduceMul, Nat.reduceLT, Int.reduceToNat]; first | done | rfl) (by simp -implicitDefEqProofs (maxSteps := 2000000) only [wk, act, asV, ↓reduceIte, Nat.reduceEqDiff, reduceCtorEq, Nat.reduceAdd, Nat.reduceLeDiff, Nat.reduceSub, Nat.reduceMul, List.reduceReplicate, Int.reduceEq, Int.reduceLT, Int.reduceLE, Int.reduceAdd, Int.reduceSub, Int.reduceMul, Nat.reduceLT, Int.reduceToNat]) (by simp -implicitDefEqProofs (maxSteps := 2000000) only [k6, wk, act, asV, ↓reduceIte, Nat.reduceEqDiff, reduceCtorEq, Nat.reduceAdd, Nat.reduceLeDiff, Nat.reduceSub, Nat.reduceMul, List.reduceReplicate, Int.reduceEq, Int.reduceLT, Int.reduceLE, Int.reduceAdd, Int.reduceSub, Int.reduceMul, Nat.reduceLT, Int.reduceToNat]) (by simp -implicitDefEqProofs (maxSteps := 2000000) only [wk, act, asV, ↓reduceIte, Nat.reduceEqDiff, reduceCtorEq, Nat.reduceAdd, Nat.reduceLeDiff, Nat.reduceSub, Nat.reduceMul, List.reduceReplicate, Int.reduceEq, Int.reduceLT, Int.reduceLE, Int.reduceAdd, Int.reduceSub, Int.reduceMul, Nat.reduceLT, Int.reduceToNat])
      intro s2 p1 ph1 p2 ph2 p3 ph3 p6
      simp -implicitDefEqProofs (maxSteps := 2000000) only [k2, wk, act, asV, ↓reduceIte, Nat.reduceEqDiff, reduceCtorEq, Nat.reduceAdd, Nat.reduceLeDiff, Nat.reduceSub, Nat.reduceMul, List.reduceReplicate, Int.reduceEq, Int.reduceLT, Int.reduceLE, Int.reduceAdd, Int.reduceSub, Int.reduceMul, Nat.reduceLT, Int.reduceToNat] at p2
      simp -implicitDefEqProofs (maxSteps := 2000000) only [kh2, wk, act, asV, ↓reduceIte, Nat.reduceEqDiff, reduceCtorEq, Nat.reduceAdd, Nat.reduceLeDiff, Nat.reduceSub, Nat.reduceMul, List.reduceReplicate, Int.reduceEq, Int.reduceLT, Int.reduceLE, Int.reduceAdd, Int.reduceSub, Int.reduceMul, Nat.reduceLT, Int.reduceToNat] at ph2
      simp -implicitDefEqProofs (maxSteps := 2000000) only [p1, ph1, p2, ph2, p3, p6, wrap_nat (show t < 2 ^ 63 - 1 by omega), wk, act, asV, ↓reduceIte, Nat.reduceEqDiff, reduceCtorEq, Nat.reduceAdd, Nat.reduceLeDiff, Nat.reduceSub, Nat.reduceMul, List.reduceReplicate, Int.reduceEq, Int.reduceLT, Int.reduceLE, Int.reduceAdd, Int.reduceSub, Int.reduceMul, Nat.reduceLT, Int.reduceToNat]
      have e : schN b (t + 1) ++ zw (64 - (t + 1)) = schN b t ++ bePart b t 4 :: zw (63 - t) := by
        rw [schN, wordAt, if_pos ht16, List.append_assoc, show 64 - (t + 1) = 63 - t by omega]; rfl
      refine ⟨64 - (t + 1), by omega, t + 1, by omega, rfl, rfl, v3, rfl, ?_⟩
      rw [e]; exact ph3
    · have ht16' : ¬ (t : Int) < 16 := by omega
      have w : ∀ k : Nat, k ≤ 16 → IntKind.i64.wrap ((t : Int) - (k : Int)) = ((t - k : Nat) : Int) := by intro k hk; rw [IntKind.wrap_i64]; omega
      have w2 := w 2 (by omega)
      have w7 := w 7 (by omega)
      have w15 := w 15 (by omega)
      have w16 := w 16 (by omega)
      have w2' : IntKind.i64.wrap ((t : Int) - 2) = ((t - 2 : Nat) : Int) := w2
      have w7' : IntKind.i64.wrap ((t : Int) - 7) = ((t - 7 : Nat) : Int) := w7
      have w15' : IntKind.i64.wrap ((t : Int) - 15) = ((t - 15 : Nat) : Int) := w15
      have w16' : IntKind.i64.wrap ((t : Int) - 16) = ((t - 16 : Nat) : Int) := w16
      have htot : (schN b t ++ 0 :: zw (63 - t)).length = 64 := by rw [List.length_append, hW, List.length_cons, zw_length]; omega
      have hat : ∀ k : Nat, 0 < k → k ≤ 16 → List.take 1 (List.drop (t - k) (wl (schN b t ++ 0 :: zw (63 - t)))) = [.int .u32 (((schN b t).getD (t - k) 0).toNat : Int)] := by
        intro k h0 hk
        rw [at_wl (by rw [htot]; omega), low_get _ _ (by omega)]
      have a2 := hat 2 (by omega) (by omega)
      have a7 := hat 7 (by omega) (by omega)
      have a15 := hat 15 (by omega) (by omega)
      have a16 := hat 16 (by omega) (by omega)
      have c1 := turned_ok ((schN b t).getD (t - 2) 0) (a := 17) (b := 19) (c := 10) true (by decide) (by decide) (by decide) (by decide) (by decide) (by decide)
      have c2 := turned_ok ((schN b t).getD (t - 15) 0) (a := 7) (b := 18) (c := 3) true (by decide) (by decide) (by decide) (by decide) (by decide) (by decide)
      have ew : wordAt b (schN b t) t = turnedW ((schN b t).getD (t - 2) 0) 17 19 10 true + (schN b t).getD (t - 7) 0 + turnedW ((schN b t).getD (t - 15) 0) 7 18 3 true + (schN b t).getD (t - 16) 0 := by rw [wordAt, if_neg ht16]
      obtain ⟨x1, hx1⟩ : ∃ x, x = turnedW ((schN b t).getD (t - 2) 0) 17 19 10 true := ⟨_, rfl⟩
      obtain ⟨x2, hx2⟩ : ∃ x, x = turnedW ((schN b t).getD (t - 15) 0) 7 18 3 true := ⟨_, rfl⟩
      rw [← hx1] at c1 ew
      rw [← hx2] at c2 ew
      obtain ⟨y1, hy1⟩ : ∃ x, x = (schN b t).getD (t - 7) 0 := ⟨_, rfl⟩
      obtain ⟨y2, hy2⟩ : ∃ x, x = (schN b t).getD (t - 16) 0 := ⟨_, rfl⟩
      rw [← hy1] at a7 ew
      rw [← hy2] at a16 ew
      have d1 := w_add x1 y1
      have d2 := w_add (x1 + y1) x2
      have d3 := w_add (x1 + y1 + x2) y2
      rw [← ew] at d3
      have hst := set_wl (xs := schN b t ++ 0 :: zw (63 - t)) (k := t) (by rw [htot]; omega) (wordAt b (schN b t) t)
      rw [mid_set _ _ _ _ hW] at hst
      have hwl : (wl (schN b t ++ 0 :: zw (63 - t))).length = 64 := by rw [wl_length, htot]
      have ht63 : t ≤ 63 := by omega
      have l : ∀ k : Nat, 0 < k → k ≤ 16 → ((t - k : Nat) : Int) < 64 ∧ t - k ≤ 63 := by intro k h0 hk; omega
      obtain ⟨l2, m2⟩ := l 2 (by omega) (by omega)
      obtain ⟨l7, m7⟩ := l 7 (by omega) (by omega)
      obtain ⟨l15, m15⟩ := l 15 (by omega) (by omega)
      obtain ⟨l16, m16⟩ := l 16 (by omega) (by omega)
      repeat' (first | simp -implicitDefEqProofs (maxSteps := 2000000) only [k1, kh1, k2, kh2, k3, kh3, k6, ht64', ht16', w2', w7', w15', w16', a2, a7, a15, a16, d1, d2, d3, hst, hwl, ht63, l2, m2, l7, m7, l15, m15, l16, m16, wrap_nat (show t < 2 ^ 63 - 1 by omega), wk, act, asV, ↓reduceIte, Nat.reduceEqDiff, reduceCtorEq, Nat.reduceAdd, Nat.reduceLeDiff, Nat.reduceSub, Nat.reduceMul, List.reduceReplicate, Int.reduceEq, Int.reduceLT, Int.reduceLE, Int.reduceAdd, Int.reduceSub, Int.reduceMul, Nat.reduceLT, Int.reduceToNat] | ((first | ((with_reducible refine CallL.gate ?_); apply CallL.of) | ((with_reducible refine CallP.gate ?_); apply CallP.of)); (case h1 => (simp -implicitDefEqProofs (maxSteps := 2000000) only [k1, kh1, k2, kh2, k3, kh3, k6, ht64', ht16', w2', w7', w15', w16', a2, a7, a15, a16, d1, d2, d3, hst, hwl, ht63, l2, m2, l7, m7, l15, m15, l16, m16, wrap_nat (show t < 2 ^ 63 - 1 by omega), wk, act, asV, ↓reduceIte, Nat.reduceEqDiff, reduceCtorEq, Nat.reduceAdd, Nat.reduceLeDiff, Nat.reduceSub, Nat.reduceMul, List.reduceReplicate, Int.reduceEq, Int.reduceLT, Int.reduceLE, Int.reduceAdd, Int.reduceSub, Int.reduceMul, Nat.reduceLT, Int.reduceToNat]; first | done | (with_reducible rfl))); (case h2 => (first | exact c1 | exact c2)); (case h3 => simp -implicitDefEqProofs (maxSteps := 2000000) only [k1, kh1, k2, kh2, k3, kh3, k6, ht64', ht16', w2', w7', w15', w16', a2, a7, a15, a16, d1, d2, d3, hst, hwl, ht63, l2, m2, l7, m7, l15, m15, l16, m16, wrap_nat (show t < 2 ^ 63 - 1 by omega), wk, act, asV, ↓reduceIte, Nat.reduceEqDiff, reduceCtorEq, Nat.reduceAdd, Nat.reduceLeDiff, Nat.reduceSub, Nat.reduceMul, List.reduceReplicate, Int.reduceEq, Int.reduceLT, Int.reduceLE, Int.reduceAdd, Int.reduceSub, Int.reduceMul, Nat.reduceLT, Int.reduceToNat])))
      have e : schN b (t + 1) ++ zw (64 - (t + 1)) = schN b t ++ wordAt b (schN b t) t :: zw (63 - t) := by
        rw [schN, List.append_assoc, show 64 - (t + 1) = 63 - t by omega]; rfl
      refine ⟨64 - (t + 1), by omega, t + 1, by omega, rfl, rfl, v3, rfl, ?_⟩
      rw [e]
  · obtain rfl : t = 64 := by omega
    have hl : (schN b 64 ++ zw (64 - 64)) = schN b 64 := by simp [zw]
    rw [hl] at kh3
    have hwl : (wl (schN b 64)).length = 64 := by rw [wl_length, hW]
    have t64 : List.take 64 (wl (schN b 64)) = wl (schN b 64) := List.take_of_length_le (by omega)
    have d64 : List.drop 64 (wl (schN b 64)) = [] := List.drop_of_length_le (by omega)
    have z1 : (wl (zw 64)).length = 64 := rfl
    have z2 : List.take 64 (wl (zw 64)) = wl (zw 64) := rfl
    have z3 : List.drop 64 (wl (zw 64)) = [] := rfl
    simp -implicitDefEqProofs (maxSteps := 2000000) only [m49_1, m49_2, m49_3, m49_4, m49_5, m49_6, m49_7, m49_8, m49_9, m49_10, m49_11, m49_12, m49_13, m49_14, m49_15, m49_16, m49_r, m49_b, m49, k1, kh1, k2, kh2, k3, kh3, k6, hwl, t64, d64, z1, z2, z3, wl_scal, wk, act, asV, ↓reduceIte, Nat.reduceEqDiff, reduceCtorEq, Nat.reduceAdd, Nat.reduceLeDiff, Nat.reduceSub, Nat.reduceMul, List.reduceReplicate, Int.reduceEq, Int.reduceLT, Int.reduceLE, Int.reduceAdd, Int.reduceSub, Int.reduceMul, Nat.reduceLT, Int.reduceToNat]
end Go.Proofs.Ytkphojcmjffccaa
/- H behind 64 bytes, by the program. -/
set_option linter.unusedSectionVars false
set_option linter.unusedVariables false
set_option linter.unusedSimpArgs false
set_option maxRecDepth 100000
set_option maxHeartbeats 8000000
namespace Go.Proofs.Ytkphojcmjffccaa
open Go.RowKit

def K64 : List UInt32 := [0x428a2f98, 0x71374491, 0xb5c0fbcf, 0xe9b5dba5, 0x3956c25b, 0x59f111f1, 0x923f82a4, 0xab1c5ed5, 0xd807aa98, 0x12835b01, 0x243185be, 0x550c7dc3, 0x72be5d74, 0x80deb1fe, 0x9bdc06a7, 0xc19bf174, 0xe49b69c1, 0xefbe4786, 0x0fc19dc6, 0x240ca1cc, 0x2de92c6f, 0x4a7484aa, 0x5cb0a9dc, 0x76f988da, 0x983e5152, 0xa831c66d, 0xb00327c8, 0xbf597fc7, 0xc6e00bf3, 0xd5a79147, 0x06ca6351, 0x14292967, 0x27b70a85, 0x2e1b2138, 0x4d2c6dfc, 0x53380d13, 0x650a7354, 0x766a0abb, 0x81c2c92e, 0x92722c85, 0xa2bfe8a1, 0xa81a664b, 0xc24b8b70, 0xc76c51a3, 0xd192e819, 0xd6990624, 0xf40e3585, 0x106aa070, 0x19a4c116, 0x1e376c08, 0x2748774c, 0x34b0bcb5, 0x391c0cb3, 0x4ed8aa4a, 0x5b9cca4f, 0x682e6ff3, 0x748f82ee, 0x78a5636f, 0x84c87814, 0x8cc70208, 0x90befffa, 0xa4506ceb, 0xbef9a3f7, 0xc67178f2]
theorem K64_length : K64.length = 64 := rfl
theorem constants_ok : RC Try.prog 48 [] [.agg (wl K64)] := by
  refine RC.of_wp c48 rfl ?_
  simp -implicitDefEqProofs (maxSteps := 2000000) only [m48_1, m48_r, m48_b, m48, wk, act, asV, ↓reduceIte, Nat.reduceEqDiff, reduceCtorEq, Nat.reduceAdd, Nat.reduceLeDiff, Nat.reduceSub, Nat.reduceMul, List.reduceReplicate, Int.reduceEq, Int.reduceLT, Int.reduceLE, Int.reduceAdd, Int.reduceSub, Int.reduceMul, Nat.reduceLT, Int.reduceToNat]
  first | done | kernel_rfl
theorem table_ok : RC Try.prog 52 [] [.agg (wl K64)] := by
  refine RC.of_wp c52 rfl ?_
  simp -implicitDefEqProofs (maxSteps := 2000000) only [m52_1, m52_r, m52_b, m52, wk, act, asV, ↓reduceIte, Nat.reduceEqDiff, reduceCtorEq, Nat.reduceAdd, Nat.reduceLeDiff, Nat.reduceSub, Nat.reduceMul, List.reduceReplicate, Int.reduceEq, Int.reduceLT, Int.reduceLE, Int.reduceAdd, Int.reduceSub, Int.reduceMul, Nat.reduceLT, Int.reduceToNat]
  first | done | kernel_rfl
structure H8 where
  a : UInt32
  b : UInt32
  c : UInt32
  d : UInt32
  e : UInt32
  f : UInt32
  g : UInt32
  h : UInt32
def H8.l (v : H8) : List UInt32 := [v.a, v.b, v.c, v.d, v.e, v.f, v.g, v.h]
def first8 (v : H8) (k w : UInt32) : UInt32 := v.h + turnedW v.e 6 11 25 false + (v.e &&& v.f ^^^ ~~~v.e &&& v.g) + k + w
def second8 (v : H8) : UInt32 := turnedW v.a 2 13 22 false + (v.a &&& v.b ^^^ v.a &&& v.c ^^^ v.b &&& v.c)
def rnd (v : H8) (k w : UInt32) : H8 := ⟨first8 v k w + second8 v, v.a, v.b, v.c, v.d + first8 v k w, v.e, v.f, v.g⟩
def rnds (v : H8) (W : List UInt32) : Nat → H8
  | 0 => v
  | t + 1 => rnd (rnds v W t) (K64.getD t 0) (W.getD t 0)
def addTo (L h : List UInt32) (i : Nat) : List UInt32 := (List.range 8).map fun j => if j < i then L.getD j 0 + h.getD j 0 else L.getD j 0
def turnH (h : H8) (b : List UInt8) : List UInt32 := addTo (rnds h (schN b 64) 64).l h.l 8
theorem w_notx (x : UInt32) : bitsI .xor .u32 4294967295 (x.toNat : Int) = some (((~~~x).toNat : Nat) : Int) := by
  have h := w_xor (4294967295 : UInt32) x
  have e : (4294967295 : UInt32) ^^^ x = ~~~x := by
    rw [UInt32.xor_comm]; exact UInt32.xor_neg_one ..
  rw [e] at h
  exact h

theorem turn_in (hs : H8) (b : List UInt8) {v2 v3 v4 v5 : Nat} (B : List UInt32) (Q : Ex → St → Prop) (s1 : St)
    (q1 : ∀ s2 : St, s2.t 2 = s1.t 2 → s2.h 2 = s1.h 2 → s2.t 4 = s1.t 4 → s2.h 4 = s1.h 4 → (∃ v6, s2.t 6 = .ptr 6 0 v6 ∧ s2.h 6 = ⟨v6, true, true, false, wl (rnds hs (schN b 64) 64).l⟩) → Q (.exit 0) s2)
    (k5 : s1.t 5 = .ptr 5 0 v5) (kh5 : s1.h 5 = ⟨v5, true, true, false, wl K64⟩) (k6 : ∃ v6, s1.t 6 = .ptr 6 0 v6 ∧ s1.h 6 = ⟨v6, true, true, false, wl hs.l⟩) (k21 : s1.t 21 = .agg (wl (schN b 64))) (k22 : s1.t 22 = .int .i64 0) :
    Wp (RCs Try.prog) (.loop m37_9) Q s1 := by
  refine Wp_loop (fun m s => ∃ t, t ≤ 64 ∧ m = 64 - t ∧ s.t 2 = s1.t 2 ∧ s.h 2 = s1.h 2 ∧ s.t 4 = s1.t 4 ∧ s.h 4 = s1.h 4 ∧ s.t 5 = .ptr 5 0 v5 ∧ s.h 5 = ⟨v5, true, true, false, wl K64⟩ ∧ s.t 21 = .agg (wl (schN b 64)) ∧ s.t 22 = .int .i64 t ∧ ∃ v6, s.t 6 = .ptr 6 0 v6 ∧ s.h 6 = ⟨v6, true, true, false, wl (rnds hs (schN b 64) t).l⟩) 64 ⟨0, by omega, rfl, rfl, rfl, rfl, rfl, k5, kh5, k21, k22, k6⟩ ?_
  clear k5 kh5 k6 k21 k22
  rintro m s ⟨t, ht, rfl, k2, kh2, k4, kh4, k5, kh5, k21, k22, v6, k6, kh6⟩
  have hW := schN_length b 64
  by_cases ht64 : t < 64
  · have ht64' : (t : Int) < 64 := by omega
    have aw := at_wl (xs := schN b 64) (k := t) (by rw [hW]; omega)
    have ak := at_wl (xs := K64) (k := t) (by rw [K64_length]; omega)
    have lw : (wl (schN b 64)).length = 64 := by rw [wl_length, hW]
    have lk : (wl K64).length = 64 := rfl
    obtain ⟨v, hv⟩ : ∃ v, v = rnds hs (schN b 64) t := ⟨_, rfl⟩
    have er : rnds hs (schN b 64) (t + 1) = rnd v (K64.getD t 0) ((schN b 64).getD t 0) := by rw [hv]; rfl
    obtain ⟨w, hw⟩ : ∃ w, w = (schN b 64).getD t 0 := ⟨_, rfl⟩
    obtain ⟨k, hk⟩ : ∃ k, k = K64.getD t 0 := ⟨_, rfl⟩
    rw [← hw] at aw er
    rw [← hk] at ak er
    rw [← hv] at kh6
    obtain ⟨a, b', c, d, e, f, g, h⟩ := v
    have ecells : wl (H8.l ⟨a, b', c, d, e, f, g, h⟩) = [.int .u32 (a.toNat : Int), .int .u32 (b'.toNat : Int), .int .u32 (c.toNat : Int), .int .u32 (d.toNat : Int), .int .u32 (e.toNat : Int), .int .u32 (f.toNat : Int), .int .u32 (g.toNat : Int), .int .u32 (h.toNat : Int)] := rfl
    rw [ecells] at kh6
    have c1 := turned_ok e (a := 6) (b := 11) (c := 25) false (by decide) (by decide) (by decide) (by decide) (by decide) (by decide)
    have c2 := turned_ok a (a := 2) (b := 13) (c := 22) false (by decide) (by decide) (by decide) (by decide) (by decide) (by decide)
    obtain ⟨x1, hx1⟩ : ∃ x, x = turnedW e 6 11 25 false := ⟨_, rfl⟩
    obtain ⟨x2, hx2⟩ : ∃ x, x = turnedW a 2 13 22 false := ⟨_, rfl⟩
    rw [← hx1] at c1
    rw [← hx2] at c2
    have d1 := w_add h x1
    have d2 := w_and e f
    have d3 := w_notx e
    have d4 := w_and (~~~e) g
    have d5 := w_xor (e &&& f) (~~~e &&& g)
    have d6 := w_add (h + x1) (e &&& f ^^^ ~~~e &&& g)
    have d7 := w_add (h + x1 + (e &&& f ^^^ ~~~e &&& g)) k
    have d8 := w_add (h + x1 + (e &&& f ^^^ ~~~e &&& g) + k) w
    obtain ⟨F, hF⟩ : ∃ F, F = h + x1 + (e &&& f ^^^ ~~~e &&& g) + k + w := ⟨_, rfl⟩
    rw [← hF] at d8
    have d9 := w_and a b'
    have d10 := w_and a c
    have d11 := w_xor (a &&& b') (a &&& c)
    have d12 := w_and b' c
    have d13 := w_xor (a &&& b' ^^^ a &&& c) (b' &&& c)
    have d14 := w_add x2 (a &&& b' ^^^ a &&& c ^^^ b' &&& c)
    obtain ⟨S, hS⟩ : ∃ S, S = x2 + (a &&& b' ^^^ a &&& c ^^^ b' &&& c) := ⟨_, rfl⟩
    rw [← hS] at d14
    have d15 := w_add F S
    have d16 := w_add d F
    have ht63 : t ≤ 63 := by omega
    have hsg : IntKind.u32.signed = false := rfl
    have hmx : IntKind.u32.max = 4294967295 := rfl
    repeat' (first | simp -implicitDefEqProofs (maxSteps := 2000000) only [hsg, hmx, Bool.false_eq_true, k2, kh2, k4, kh4, k5, kh5, k21, k22, k6, kh6, ht64', aw, ak, lw, lk, d1, d2, d3, d4, d5, d6, d7, d8, d9, d10, d11, d12, d13, d14, d15, d16, ht63, m37_1, m37_2, m37_3, m37_4, m37_5, m37_6, m37_7, m37_8, m37_9, m37_10, m37_11, m37_12, m37_13, m37_14, m37_15, m37_16, m37_17, m37_18, m37_19, m37_20, m37_r, m37_b, m37, wrap_nat (show t < 2 ^ 63 - 1 by omega), wk, act, asV, ↓reduceIte, Nat.reduceEqDiff, reduceCtorEq, Nat.reduceAdd, Nat.reduceLeDiff, Nat.reduceSub, Nat.reduceMul, List.reduceReplicate, Int.reduceEq, Int.reduceLT, Int.reduceLE, Int.reduceAdd, Int.reduceSub, Int.reduceMul, Nat.reduceLT, Int.reduceToNat] | ((first | ((with_reducible refine CallL.gate ?_); apply CallL.of) | ((with_reducible refine CallP.gate ?_); apply CallP.of)); (case h1 => (simp -implicitDefEqProofs (maxSteps := 2000000) only [hsg, hmx, Bool.false_eq_true, k2, kh2, k4, kh4, k5, kh5, k21, k22, k6, kh6, ht64', aw, ak, lw, lk, d1, d2, d3, d4, d5, d6, d7, d8, d9, d10, d11, d12, d13, d14, d15, d16, ht63, m37_1, m37_2, m37_3, m37_4, m37_5, m37_6, m37_7, m37_8, m37_9, m37_10, m37_11, m37_12, m37_13, m37_14, m37_15, m37_16, m37_17, m37_18, m37_19, m37_20, m37_r, m37_b, m37, wrap_nat (show t < 2 ^ 63 - 1 by omega), wk, act, asV, ↓reduceIte, Nat.reduceEqDiff, reduceCtorEq, Nat.reduceAdd, Nat.reduceLeDiff, Nat.reduceSub, Nat.reduceMul, List.reduceReplicate, Int.reduceEq, Int.reduceLT, Int.reduceLE, Int.reduceAdd, Int.reduceSub, Int.reduceMul, Nat.reduceLT, Int.reduceToNat]; first | done | (with_reducible rfl))); (case h2 => (first | exact c1 | exact c2)); (case h3 => simp -implicitDefEqProofs (maxSteps := 2000000) only [hsg, hmx, Bool.false_eq_true, k2, kh2, k4, kh4, k5, kh5, k21, k22, k6, kh6, ht64', aw, ak, lw, lk, d1, d2, d3, d4, d5, d6, d7, d8, d9, d10, d11, d12, d13, d14, d15, d16, ht63, m37_1, m37_2, m37_3, m37_4, m37_5, m37_6, m37_7, m37_8, m37_9, m37_10, m37_11, m37_12, m37_13, m37_14, m37_15, m37_16, m37_17, m37_18, m37_19, m37_20, m37_r, m37_b, m37, wrap_nat (show t < 2 ^ 63 - 1 by omega), wk, act, asV, ↓reduceIte, Nat.reduceEqDiff, reduceCtorEq, Nat.reduceAdd, Nat.reduceLeDiff, Nat.reduceSub, Nat.reduceMul, List.reduceReplicate, Int.reduceEq, Int.reduceLT, Int.reduceLE, Int.reduceAdd, Int.reduceSub, Int.reduceMul, Nat.reduceLT, Int.reduceToNat])))
    refine ⟨64 - (t + 1), by omega, t + 1, by omega, rfl, rfl, v6, rfl, ?_⟩
    rw [er]
    have e2 : rnd ⟨a, b', c, d, e, f, g, h⟩ k w = ⟨F + S, a, b', c, d + F, e, f, g⟩ := by
      simp only [rnd, first8, second8, ← hx1, ← hx2, ← hF, ← hS]
    rw [e2]; rfl
  · obtain rfl : t = 64 := by omega
    simp -implicitDefEqProofs (maxSteps := 2000000) only [k22, m37_1, m37_2, m37_3, m37_4, m37_5, m37_6, m37_7, m37_8, m37_9, m37_10, m37_11, m37_12, m37_13, m37_14, m37_15, m37_16, m37_17, m37_18, m37_19, m37_20, m37_r, m37_b, m37, wk, act, asV, ↓reduceIte, Nat.reduceEqDiff, reduceCtorEq, Nat.reduceAdd, Nat.reduceLeDiff, Nat.reduceSub, Nat.reduceMul, List.reduceReplicate, Int.reduceEq, Int.reduceLT, Int.reduceLE, Int.reduceAdd, Int.reduceSub, Int.reduceMul, Nat.reduceLT, Int.reduceToNat]
    exact q1 _ (by simp -implicitDefEqProofs (maxSteps := 2000000) only [k2, wk, act, asV, ↓reduceIte, Nat.reduceEqDiff, reduceCtorEq, Nat.reduceAdd, Nat.reduceLeDiff, Nat.reduceSub, Nat.reduceMul, List.reduceReplicate, Int.reduceEq, Int.reduceLT, Int.reduceLE, Int.reduceAdd, Int.reduceSub, Int.reduceMul, Nat.reduceLT, Int.reduceToNat]) (by simp -implicitDefEqProofs (maxSteps := 2000000) only [kh2, wk, act, asV, ↓reduceIte, Nat.reduceEqDiff, reduceCtorEq, Nat.reduceAdd, Nat.reduceLeDiff, Nat.reduceSub, Nat.reduceMul, List.reduceReplicate, Int.reduceEq, Int.reduceLT, Int.reduceLE, Int.reduceAdd, Int.reduceSub, Int.reduceMul, Nat.reduceLT, Int.reduceToNat]) (by simp -implicitDefEqProofs (maxSteps := 2000000) only [k4, wk, act, asV, ↓reduceIte, Nat.reduceEqDiff, reduceCtorEq, Nat.reduceAdd, Nat.reduceLeDiff, Nat.reduceSub, Nat.reduceMul, List.reduceReplicate, Int.reduceEq, Int.reduceLT, Int.reduceLE, Int.reduceAdd, Int.reduceSub, Int.reduceMul, Nat.reduceLT, Int.reduceToNat]) (by simp -implicitDefEqProofs (maxSteps := 2000000) only [kh4, wk, act, asV, ↓reduceIte, Nat.reduceEqDiff, reduceCtorEq, Nat.reduceAdd, Nat.reduceLeDiff, Nat.reduceSub, Nat.reduceMul, List.reduceReplicate, Int.reduceEq, Int.reduceLT, Int.reduceLE, Int.reduceAdd, Int.reduceSub, Int.reduceMul, Nat.reduceLT, Int.reduceToNat]) ⟨v6, by simp -implicitDefEqProofs (maxSteps := 2000000) only [k6, wk, act, asV, ↓reduceIte, Nat.reduceEqDiff, reduceCtorEq, Nat.reduceAdd, Nat.reduceLeDiff, Nat.reduceSub, Nat.reduceMul, List.reduceReplicate, Int.reduceEq, Int.reduceLT, Int.reduceLE, Int.reduceAdd, Int.reduceSub, Int.reduceMul, Nat.reduceLT, Int.reduceToNat], by simp -implicitDefEqProofs (maxSteps := 2000000) only [kh6, wk, act, asV, ↓reduceIte, Nat.reduceEqDiff, reduceCtorEq, Nat.reduceAdd, Nat.reduceLeDiff, Nat.reduceSub, Nat.reduceMul, List.reduceReplicate, Int.reduceEq, Int.reduceLT, Int.reduceLE, Int.reduceAdd, Int.reduceSub, Int.reduceMul, Nat.reduceLT, Int.reduceToNat]⟩
end Go.Proofs.Ytkphojcmjffccaa
