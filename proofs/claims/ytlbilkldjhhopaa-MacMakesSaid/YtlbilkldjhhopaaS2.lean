/- The words of 64 bytes, by the program. -/
import Derived.Test.YtlbilkldjhhopaaS1
import Derived.Test.YtlbilkldjhhopaaE31
import Derived.Test.YtlbilkldjhhopaaM7
set_option linter.unusedSectionVars false
set_option linter.unusedVariables false
set_option linter.unusedSimpArgs false
set_option maxRecDepth 100000
set_option maxHeartbeats 8000000
namespace Go.Proofs.Ytlbilkldjhhopaa
open Go.RowKit

def wl (xs : List UInt32) : List IV := xs.map fun x => .int .u32 (x.toNat : Int)
theorem wl_length (xs : List UInt32) : (wl xs).length = xs.length := by simp [wl]
theorem wl_scal (xs : List UInt32) : (wl xs).all IV.scal = true := by simp [wl, IV.scal]
theorem at_wl {xs : List UInt32} {k : Nat} (h : k < xs.length) : List.take 1 (List.drop k (wl xs)) = [.int .u32 ((xs.getD k 0).toNat : Int)] := by
  rw [List.drop_eq_getElem_cons (by rw [wl_length]; exact h)]
  simp [wl, List.getD, h]
theorem set_wl {xs : List UInt32} {k : Nat} (h : k < xs.length) (x : UInt32) : List.take k (wl xs) ++ [IV.int .u32 (x.toNat : Int)] ++ List.drop (k + 1) (wl xs) = wl (xs.set k x) := by
  rw [List.set_eq_take_append_cons_drop, if_pos h]; simp [wl]
theorem at_b {b : List UInt8} {k : Nat} (h : k < b.length) : List.take 1 (List.drop k (bl b)) = [.int .u8 ((b.getD k 0).toNat : Int)] := by
  rw [drop_bl h]; simp [List.getD, h]
def zw (n : Nat) : List UInt32 := List.replicate n 0
theorem zw_length (n : Nat) : (zw n).length = n := by simp [zw]
/-- the first i bytes of word t -/
def bePart (b : List UInt8) (t : Nat) : Nat → UInt32
  | 0 => 0
  | i + 1 => wsl (bePart b t i) 8 ||| UInt32.ofNat (b.getD (4 * t + i) 0).toNat
def wordAt (b : List UInt8) (W : List UInt32) (t : Nat) : UInt32 :=
  if t < 16 then bePart b t 4 else turnedW (W.getD (t - 2) 0) 17 19 10 true + W.getD (t - 7) 0 + turnedW (W.getD (t - 15) 0) 7 18 3 true + W.getD (t - 16) 0
def schN (b : List UInt8) : Nat → List UInt32
  | 0 => []
  | t + 1 => schN b t ++ [wordAt b (schN b t) t]
theorem schN_length (b : List UInt8) : ∀ t, (schN b t).length = t
  | 0 => rfl
  | t + 1 => by simp [schN, schN_length b t]
theorem mid_get (W : List UInt32) (x : UInt32) (Z : List UInt32) {t : Nat} (h : W.length = t) : (W ++ x :: Z).getD t 0 = x := by
  subst h; simp [List.getD]
theorem mid_set (W : List UInt32) (x y : UInt32) (Z : List UInt32) {t : Nat} (h : W.length = t) : (W ++ x :: Z).set t y = W ++ y :: Z := by
  subst h; simp
theorem low_get (W Z : List UInt32) {k : Nat} (h : k < W.length) : (W ++ Z).getD k 0 = W.getD k 0 := by
  simp [List.getD, List.getElem?_append_left h]

theorem schedule_in (b : List UInt8) (hb : b.length = 64) {t v1 v3 : Nat} (ht : t < 16) (Q : Ex → St → Prop) (s1 : St)
    (q1 : ∀ s2 : St, s2.t 1 = .ptr 1 0 v1 → s2.h 1 = ⟨v1, true, true, false, bl b⟩ → s2.t 2 = s1.t 2 → s2.h 2 = s1.h 2 → s2.t 3 = .ptr 3 0 v3 → s2.h 3 = ⟨v3, true, true, false, wl (schN b t ++ bePart b t 4 :: zw (63 - t))⟩ → s2.t 6 = .int .i64 t → Q (.exit 2) s2)
    (k1 : s1.t 1 = .ptr 1 0 v1) (kh1 : s1.h 1 = ⟨v1, true, true, false, bl b⟩) (k3 : s1.t 3 = .ptr 3 0 v3) (kh3 : s1.h 3 = ⟨v3, true, true, false, wl (schN b t ++ bePart b t 0 :: zw (63 - t))⟩) (k4 : s1.t 4 = .int .i64 t) (k6 : s1.t 6 = .int .i64 t) (k11 : s1.t 11 = .int .i64 0) :
    Wp (RCs Try.prog) (.loop m41_4) Q s1 := by
  refine Wp_loop (fun m s => ∃ i, i ≤ 4 ∧ m = 4 - i ∧ s.t 1 = .ptr 1 0 v1 ∧ s.h 1 = ⟨v1, true, true, false, bl b⟩ ∧ s.t 2 = s1.t 2 ∧ s.h 2 = s1.h 2 ∧ s.t 3 = .ptr 3 0 v3 ∧ s.h 3 = ⟨v3, true, true, false, wl (schN b t ++ bePart b t i :: zw (63 - t))⟩ ∧ s.t 4 = .int .i64 t ∧ s.t 6 = .int .i64 t ∧ s.t 11 = .int .i64 i) 4 ⟨0, by omega, rfl, k1, kh1, rfl, rfl, k3, kh3, k4, k6, k11⟩ ?_
  clear k1 kh1 k3 kh3 k4 k6 k11
  rintro m s ⟨i, hi, rfl, k1, kh1, k2, kh2, k3, kh3, k4, k6, k11⟩
  have hW := schN_length b t
  have htot : ∀ x, (schN b t ++ x :: zw (63 - t)).length = 64 := by intro x; rw [List.length_append, hW, List.length_cons, zw_length]; omega
  have hbl : (bl b).length = 64 := by rw [bl_length, hb]
  by_cases hi4 : i < 4
  · have hi4' : (i : Int) < 4 := by omega
    have w4 : IntKind.i64.wrap (4 * (t : Int)) = ((4 * t : Nat) : Int) := by rw [IntKind.wrap_i64]; omega
    have w5 : IntKind.i64.wrap (((4 * t : Nat) : Int) + (i : Int)) = ((4 * t + i : Nat) : Int) := by rw [IntKind.wrap_i64]; omega
    have hab := at_b (b := b) (k := 4 * t + i) (by omega)
    have haw := at_wl (xs := schN b t ++ bePart b t i :: zw (63 - t)) (k := t) (by rw [htot]; omega)
    rw [mid_get _ _ _ hW] at haw
    obtain ⟨c, hc⟩ : ∃ c, c = b.getD (4 * t + i) 0 := ⟨_, rfl⟩
    have eb : bePart b t (i + 1) = wsl (bePart b t i) 8 ||| UInt32.ofNat c.toNat := by rw [hc]; rfl
    rw [← hc] at hab
    have hwc := w_wrap c.toNat
    have s8 : shI .shl .u32 ((bePart b t i).toNat : Int) 8 = some (.int .u32 ((wsl (bePart b t i) 8).toNat : Int)) := w_shl _ (k := 8) (by decide)
    have so := w_or (wsl (bePart b t i) 8) (UInt32.ofNat c.toNat)
    rw [← eb] at so
    have hst := set_wl (xs := schN b t ++ bePart b t i :: zw (63 - t)) (k := t) (by rw [htot]; omega) (bePart b t (i + 1))
    rw [mid_set _ _ _ _ hW] at hst
    have hwl : (wl (schN b t ++ bePart b t i :: zw (63 - t))).length = 64 := by rw [wl_length, htot]
    have ht64 : (t : Int) < 64 := by omega
    have ht63 : t ≤ 63 := by omega
    have hk64 : ((4 * t + i : Nat) : Int) < 64 := by omega
    have hk63 : 4 * t + i ≤ 63 := by omega
    simp -implicitDefEqProofs (maxSteps := 2000000) only [k1, kh1, k2, kh2, k3, kh3, k4, k6, k11, hi4', w4, w5, hab, haw, hwc, s8, so, hst, hwl, hbl, ht64, ht63, hk64, hk63, m41_1, m41_2, m41_3, m41_4, m41_5, m41_6, m41_7, m41_8, m41_9, m41_10, m41_11, m41_12, m41_13, m41_14, m41_15, m41_16, m41_r, m41_b, m41, wrap_nat (show i < 2 ^ 63 - 1 by omega), wk, act, asV, ↓reduceIte, Nat.reduceEqDiff, reduceCtorEq, Nat.reduceAdd, Nat.reduceLeDiff, Nat.reduceSub, Nat.reduceMul, List.reduceReplicate, Int.reduceEq, Int.reduceLT, Int.reduceLE, Int.reduceAdd, Int.reduceSub, Int.reduceMul, Nat.reduceLT, Int.reduceToNat]
    first | done | exact ⟨4 - (i + 1), by omega, i + 1, by omega, rfl, rfl, rfl⟩
  · have hi4' : ¬ (i : Int) < 4 := by omega
    obtain rfl : i = 4 := by omega
    simp -implicitDefEqProofs (maxSteps := 2000000) only [k11, m41_1, m41_2, m41_3, m41_4, m41_5, m41_6, m41_7, m41_8, m41_9, m41_10, m41_11, m41_12, m41_13, m41_14, m41_15, m41_16, m41_r, m41_b, m41, wk, act, asV, ↓reduceIte, Nat.reduceEqDiff, reduceCtorEq, Nat.reduceAdd, Nat.reduceLeDiff, Nat.reduceSub, Nat.reduceMul, List.reduceReplicate, Int.reduceEq, Int.reduceLT, Int.reduceLE, Int.reduceAdd, Int.reduceSub, Int.reduceMul, Nat.reduceLT, Int.reduceToNat]
    exact q1 _ (by simp -implicitDefEqProofs (maxSteps := 2000000) only [k1, wk, act, asV, ↓reduceIte, Nat.reduceEqDiff, reduceCtorEq, Nat.reduceAdd, Nat.reduceLeDiff, Nat.reduceSub, Nat.reduceMul, List.reduceReplicate, Int.reduceEq, Int.reduceLT, Int.reduceLE, Int.reduceAdd, Int.reduceSub, Int.reduceMul, Nat.reduceLT, Int.reduceToNat]) (by simp -implicitDefEqProofs (maxSteps := 2000000) only [kh1, wk, act, asV, ↓reduceIte, Nat.reduceEqDiff, reduceCtorEq, Nat.reduceAdd, Nat.reduceLeDiff, Nat.reduceSub, Nat.reduceMul, List.reduceReplicate, Int.reduceEq, Int.reduceLT, Int.reduceLE, Int.reduceAdd, Int.reduceSub, Int.reduceMul, Nat.reduceLT, Int.reduceToNat]) (by simp -implicitDefEqProofs (maxSteps := 2000000) only [k2, wk, act, asV, ↓reduceIte, Nat.reduceEqDiff, reduceCtorEq, Nat.reduceAdd, Nat.reduceLeDiff, Nat.reduceSub, Nat.reduceMul, List.reduceReplicate, Int.reduceEq, Int.reduceLT, Int.reduceLE, Int.reduceAdd, Int.reduceSub, Int.reduceMul, Nat.reduceLT, Int.reduceToNat]) (by simp -implicitDefEqProofs (maxSteps := 2000000) only [kh2, wk, act, asV, ↓reduceIte, Nat.reduceEqDiff, reduceCtorEq, Nat.reduceAdd, Nat.reduceLeDiff, Nat.reduceSub, Nat.reduceMul, List.reduceReplicate, Int.reduceEq, Int.reduceLT, Int.reduceLE, Int.reduceAdd, Int.reduceSub, Int.reduceMul, Nat.reduceLT, Int.reduceToNat]) (by simp -implicitDefEqProofs (maxSteps := 2000000) only [k3, wk, act, asV, ↓reduceIte, Nat.reduceEqDiff, reduceCtorEq, Nat.reduceAdd, Nat.reduceLeDiff, Nat.reduceSub, Nat.reduceMul, List.reduceReplicate, Int.reduceEq, Int.reduceLT, Int.reduceLE, Int.reduceAdd, Int.reduceSub, Int.reduceMul, Nat.reduceLT, Int.reduceToNat]) (by simp -implicitDefEqProofs (maxSteps := 2000000) only [kh3, wk, act, asV, ↓reduceIte, Nat.reduceEqDiff, reduceCtorEq, Nat.reduceAdd, Nat.reduceLeDiff, Nat.reduceSub, Nat.reduceMul, List.reduceReplicate, Int.reduceEq, Int.reduceLT, Int.reduceLE, Int.reduceAdd, Int.reduceSub, Int.reduceMul, Nat.reduceLT, Int.reduceToNat]) (by simp -implicitDefEqProofs (maxSteps := 2000000) only [k6, wk, act, asV, ↓reduceIte, Nat.reduceEqDiff, reduceCtorEq, Nat.reduceAdd, Nat.reduceLeDiff, Nat.reduceSub, Nat.reduceMul, List.reduceReplicate, Int.reduceEq, Int.reduceLT, Int.reduceLE, Int.reduceAdd, Int.reduceSub, Int.reduceMul, Nat.reduceLT, Int.reduceToNat])

theorem zw_cells : List.replicate 64 (IV.int .u32 0) = wl (zw 64) := rfl
theorem zw_succ (n : Nat) : zw (n + 1) = 0 :: zw n := rfl
theorem schedule_ok (b : List UInt8) (hb : b.length = 64) : RC Try.prog 41 [.agg (bl b)] [.agg (wl (schN b 64))] := by
  refine RC.of_wp c41 rfl ?_
  have hbl : (bl b).length = 64 := by rw [bl_length, hb]
  simp -implicitDefEqProofs (maxSteps := 2000000) only [m41_1, m41_2, m41_3, m41_4, m41_5, m41_6, m41_7, m41_8, m41_9, m41_10, m41_11, m41_12, m41_13, m41_14, m41_15, m41_16, m41_r, m41_b, m41, hbl, wk, act, asV, ↓reduceIte, Nat.reduceEqDiff, reduceCtorEq, Nat.reduceAdd, Nat.reduceLeDiff, Nat.reduceSub, Nat.reduceMul, List.reduceReplicate, Int.reduceEq, Int.reduceLT, Int.reduceLE, Int.reduceAdd, Int.reduceSub, Int.reduceMul, Nat.reduceLT, Int.reduceToNat]
  refine Wp_loop (fun m s => ∃ t, t ≤ 64 ∧ m = 64 - t ∧ s.t 1 = .ptr 1 0 _ ∧ s.h 1 = ⟨_, true, true, false, bl b⟩ ∧ s.t 2 = .ptr 2 0 _ ∧ s.h 2 = ⟨_, true, true, false, wl (zw 64)⟩ ∧ s.t 6 = .int .i64 t ∧ ∃ v3, s.t 3 = .ptr 3 0 v3 ∧ s.h 3 = ⟨v3, true, true, false, wl (schN b t ++ zw (64 - t))⟩) 64 ⟨0, by omega, rfl, rfl, rfl, rfl, rfl, rfl, _, rfl, rfl⟩ ?_
  rintro m s ⟨t, ht, rfl, k1, kh1, k2, kh2, k6, v3, k3, kh3⟩
  have hW := schN_length b t
  by_cases ht64 : t < 64
  · have ht64' : (t : Int) < 64 := by omega
    rw [show 64 - t = (63 - t) + 1 by omega, zw_succ] at kh3
    by_cases ht16 : t < 16
    · have ht16' : (t : Int) < 16 := by omega
      simp -implicitDefEqProofs (maxSteps := 2000000) only [k1, kh1, k2, kh2, k3, kh3, k6, ht64', ht16', wk, act, asV, ↓reduceIte, Nat.reduceEqDiff, reduceCtorEq, Nat.reduceAdd, Nat.reduceLeDiff, Nat.reduceSub, Nat.reduceMul, List.reduceReplicate, Int.reduceEq, Int.reduceLT, Int.reduceLE, Int.reduceAdd, Int.reduceSub, Int.reduceMul, Nat.reduceLT, Int.reduceToNat]
      refine schedule_in b hb (t := t) (v3 := v3) ht16 _ _ ?_ (by simp -implicitDefEqProofs (maxSteps := 2000000) only [k1, wk, act, asV, ↓reduceIte, Nat.reduceEqDiff, reduceCtorEq, Nat.reduceAdd, Nat.reduceLeDiff, Nat.reduceSub, Nat.reduceMul, List.reduceReplicate, Int.reduceEq, Int.reduceLT, Int.reduceLE, Int.reduceAdd, Int.reduceSub, Int.reduceMul, Nat.reduceLT, Int.reduceToNat]; first | done | rfl) (by simp -implicitDefEqProofs (maxSteps := 2000000) only [kh1, wk, act, asV, ↓reduceIte, Nat.reduceEqDiff, reduceCtorEq, Nat.reduceAdd, Nat.reduceLeDiff, Nat.reduceSub, Nat.reduceMul, List.reduceReplicate, Int.reduceEq, Int.reduceLT, Int.reduceLE, Int.reduceAdd, Int.reduceSub, Int.reduceMul, Nat.reduceLT, Int.reduceToNat]; first | done | rfl) (by simp -implicitDefEqProofs (maxSteps := 2000000) only [k3, wk, act, asV, ↓reduceIte, Nat.reduceEqDiff, reduceCtorEq, Nat.reduceAdd, Nat.reduceLeDiff, Nat.reduceSub, Nat.reduceMul, List.reduceReplicate, Int.reduceEq, Int.reduceLT, Int.reduceLE, Int.reduceAdd, Int.reduceSub, Int.reduceMul, Nat.reduceLT, Int.reduceToNat]) (by simp -implicitDefEqProofs (maxSteps := 2000000) only [kh3, wk, act, asV, ↓reduceIte, Nat.reduceEqDiff, reduceCtorEq, Nat.reduceAdd, Nat.reduceLeDiff, Nat.reduceSub, Nat.reduceMul, List.reduceReplicate, Int.reduceEq, Int.reduceLT, Int.reduceLE, Int.reduceAdd, Int.reduceSub, Int.reduceMul, Nat.reduceLT, Int.reduceToNat]; first | done | rfl) (by simp -implicitDefEqProofs (maxSteps := 2000000) only [wk, act, asV, ↓reduceIte, Nat.reduceEqDiff, reduceCtorEq, Nat.reduceAdd, Nat.reduceLeDiff, Nat.reduceSub, Nat.reduceMul, List.reduceReplicate, Int.reduceEq, Int.reduceLT, Int.reduceLE, Int.reduceAdd, Int.reduceSub, Int.reduceMul, Nat.reduceLT, Int.reduceToNat]) (by simp -implicitDefEqProofs (maxSteps := 2000000) only [k6, wk, act, asV, ↓reduceIte, Nat.reduceEqDiff, reduceCtorEq, Nat.reduceAdd, Nat.reduceLeDiff, Nat.reduceSub, Nat.reduceMul, List.reduceReplicate, Int.reduceEq, Int.reduceLT, Int.reduceLE, Int.reduceAdd, Int.reduceSub, Int.reduceMul, Nat.reduceLT, Int.reduceToNat]) (by simp -implicitDefEqProofs (maxSteps := 2000000) only [wk, act, asV, ↓reduceIte, Nat.reduceEqDiff, reduceCtorEq, Nat.reduceAdd, Nat.reduceLeDiff, Nat.reduceSub, Nat.reduceMul, List.reduceReplicate, Int.reduceEq, Int.reduceLT, Int.reduceLE, Int.reduceAdd, Int.reduceSub, Int.reduceMul, Nat.reduceLT, Int.reduceToNat])
      intro s2 p1 ph1 p2 ph2 p3 ph3 p6
      simp -implicitDefEqProofs (maxSteps := 2000000) only [k2, wk, act, asV, ↓reduceIte, Nat.reduceEqDiff, reduceCtorEq, Nat.reduceAdd, Nat.reduceLeDiff, Nat.reduceSub, Nat.reduceMul, List.reduceReplicate, Int.reduceEq, Int.reduceLT, Int.reduceLE, Int.reduceAdd, Int.reduceSub, Int.reduceMul, Nat.reduceLT, Int.reduceToNat] at p2
      simp -implicitDefEqProofs (maxSteps := 2000000) only [kh2, wk, act, asV, ↓reduceIte, Nat.reduceEqDiff, reduceCtorEq, Nat.reduceAdd, Nat.reduceLeDiff, Nat.reduceSub, Nat.reduceMul, List.reduceReplicate, Int.reduceEq, Int.reduceLT, Int.reduceLE, Int.reduceAdd, Int.reduceSub, Int.reduceMul, Nat.reduceLT, Int.reduceToNat] at ph2
      simp -implicitDefEqProofs (maxSteps := 2000000) only [p1, ph1, p2, ph2, p3, p6, wrap_nat (show t < 2 ^ 63 - 1 by omega), wk, act, asV, ↓reduceIte, Nat.reduceEqDiff, reduceCtorEq, Nat.reduceAdd, Nat.reduceLeDiff, Nat.reduceSub, Nat.reduceMul, List.reduceReplicate, Int.reduceEq, Int.reduceLT, Int.reduceLE, Int.reduceAdd, Int.reduceSub, Int.reduceMul, Nat.reduceLT, Int.reduceToNat]
      have e : schN b (t + 1) ++ zw (64 - (t + 1)) = schN b t ++ bePart b t 4 :: zw (63 - t) := by
        rw [schN, wordAt, if_pos ht16, List.append_assoc, show 64 - (t + 1) = 63 - t by omega]; rfl
      refine ⟨64 - (t + 1), by omega, t + 1, by omega, rfl, rfl, v3, rfl, ?_⟩
      rw [e]; exact ph3
    · have ht16' : ¬ (t : Int) < 16 := by omega
      have w : ∀ k : Nat, k ≤ 16 → IntKind.i64.wrap ((t : Int) - (k : Int)) = ((t - k : Nat) : Int) := by intro k hk; rw [IntKind.wrap_i64]; omega
      have w2 := w 2 (by omega)
      have w7 := w 7 (by omega)
      have w15 := w 15 (by omega)
      have w16 := w 16 (by omega)
      have w2' : IntKind.i64.wrap ((t : Int) - 2) = ((t - 2 : Nat) : Int) := w2
      have w7' : IntKind.i64.wrap ((t : Int) - 7) = ((t - 7 : Nat) : Int) := w7
      have w15' : IntKind.i64.wrap ((t : Int) - 15) = ((t - 15 : Nat) : Int) := w15
      have w16' : IntKind.i64.wrap ((t : Int) - 16) = ((t - 16 : Nat) : Int) := w16
      have htot : (schN b t ++ 0 :: zw (63 - t)).length = 64 := by rw [List.length_append, hW, List.length_cons, zw_length]; omega
      have hat : ∀ k : Nat, 0 < k → k ≤ 16 → List.take 1 (List.drop (t - k) (wl (schN b t ++ 0 :: zw (63 - t)))) = [.int .u32 (((schN b t).getD (t - k) 0).toNat : Int)] := by
        intro k h0 hk
        rw [at_wl (by rw [htot]; omega), low_get _ _ (by omega)]
      have a2 := hat 2 (by omega) (by omega)
      have a7 := hat 7 (by omega) (by omega)
      have a15 := hat 15 (by omega) (by omega)
      have a16 := hat 16 (by omega) (by omega)
      have c1 := turned_ok ((schN b t).getD (t - 2) 0) (a := 17) (b := 19) (c := 10) true (by decide) (by decide) (by decide) (by decide) (by decide) (by decide)
      have c2 := turned_ok ((schN b t).getD (t - 15) 0) (a := 7) (b := 18) (c := 3) true (by decide) (by decide) (by decide) (by decide) (by decide) (by decide)
      have ew : wordAt b (schN b t) t = turnedW ((schN b t).getD (t - 2) 0) 17 19 10 true + (schN b t).getD (t - 7) 0 + turnedW ((schN b t).getD (t - 15) 0) 7 18 3 true + (schN b t).getD (t - 16) 0 := by rw [wordAt, if_neg ht16]
      obtain ⟨x1, hx1⟩ : ∃ x, x = turnedW ((schN b t).getD (t - 2) 0) 17 19 10 true := ⟨_, rfl⟩
      obtain ⟨x2, hx2⟩ : ∃ x, x = turnedW ((schN b t).getD (t - 15) 0) 7 18 3 true := ⟨_, rfl⟩
      rw [← hx1] at c1 ew
      rw [← hx2] at c2 ew
      obtain ⟨y1, hy1⟩ : ∃ x, x = (schN b t).getD (t - 7) 0 := ⟨_, rfl⟩
      obtain ⟨y2, hy2⟩ : ∃ x, x = (schN b t).getD (t - 16) 0 := ⟨_, rfl⟩
      rw [← hy1] at a7 ew
      rw [← hy2] at a16 ew
      have d1 := w_add x1 y1
      have d2 := w_add (x1 + y1) x2
      have d3 := w_add (x1 + y1 + x2) y2
      rw [← ew] at d3
      have hst := set_wl (xs := schN b t ++ 0 :: zw (63 - t)) (k := t) (by rw [htot]; omega) (wordAt b (schN b t) t)
      rw [mid_set _ _ _ _ hW] at hst
      have hwl : (wl (schN b t ++ 0 :: zw (63 - t))).length = 64 := by rw [wl_length, htot]
      have ht63 : t ≤ 63 := by omega
      have l : ∀ k : Nat, 0 < k → k ≤ 16 → ((t - k : Nat) : Int) < 64 ∧ t - k ≤ 63 := by intro k h0 hk; omega
      obtain ⟨l2, m2⟩ := l 2 (by omega) (by omega)
      obtain ⟨l7, m7⟩ := l 7 (by omega) (by omega)
      obtain ⟨l15, m15⟩ := l 15 (by omega) (by omega)
      obtain ⟨l16, m16⟩ := l 16 (by omega) (by omega)
      repeat' (first | simp -implicitDefEqProofs (maxSteps := 2000000) only [k1, kh1, k2, kh2, k3, kh3, k6, ht64', ht16', w2', w7', w15', w16', a2, a7, a15, a16, d1, d2, d3, hst, hwl, ht63, l2, m2, l7, m7, l15, m15, l16, m16, wrap_nat (show t < 2 ^ 63 - 1 by omega), wk, act, asV, ↓reduceIte, Nat.reduceEqDiff, reduceCtorEq, Nat.reduceAdd, Nat.reduceLeDiff, Nat.reduceSub, Nat.reduceMul, List.reduceReplicate, Int.reduceEq, Int.reduceLT, Int.reduceLE, Int.reduceAdd, Int.reduceSub, Int.reduceMul, Nat.reduceLT, Int.reduceToNat] | ((with_reducible refine CallL.gate ?_); refine CallL.of (by simp -implicitDefEqProofs (maxSteps := 2000000) only [k1, kh1, k2, kh2, k3, kh3, k6, ht64', ht16', w2', w7', w15', w16', a2, a7, a15, a16, d1, d2, d3, hst, hwl, ht63, l2, m2, l7, m7, l15, m15, l16, m16, wrap_nat (show t < 2 ^ 63 - 1 by omega), wk, act, asV, ↓reduceIte, Nat.reduceEqDiff, reduceCtorEq, Nat.reduceAdd, Nat.reduceLeDiff, Nat.reduceSub, Nat.reduceMul, List.reduceReplicate, Int.reduceEq, Int.reduceLT, Int.reduceLE, Int.reduceAdd, Int.reduceSub, Int.reduceMul, Nat.reduceLT, Int.reduceToNat]; first | done | (with_reducible rfl)) (by first | exact c1 | exact c2) (by simp -implicitDefEqProofs (maxSteps := 2000000) only [k1, kh1, k2, kh2, k3, kh3, k6, ht64', ht16', w2', w7', w15', w16', a2, a7, a15, a16, d1, d2, d3, hst, hwl, ht63, l2, m2, l7, m7, l15, m15, l16, m16, wrap_nat (show t < 2 ^ 63 - 1 by omega), wk, act, asV, ↓reduceIte, Nat.reduceEqDiff, reduceCtorEq, Nat.reduceAdd, Nat.reduceLeDiff, Nat.reduceSub, Nat.reduceMul, List.reduceReplicate, Int.reduceEq, Int.reduceLT, Int.reduceLE, Int.reduceAdd, Int.reduceSub, Int.reduceMul, Nat.reduceLT, Int.reduceToNat]) ?_) | ((with_reducible refine CallP.gate ?_); refine CallP.of (by simp -implicitDefEqProofs (maxSteps := 2000000) only [k1, kh1, k2, kh2, k3, kh3, k6, ht64', ht16', w2', w7', w15', w16', a2, a7, a15, a16, d1, d2, d3, hst, hwl, ht63, l2, m2, l7, m7, l15, m15, l16, m16, wrap_nat (show t < 2 ^ 63 - 1 by omega), wk, act, asV, ↓reduceIte, Nat.reduceEqDiff, reduceCtorEq, Nat.reduceAdd, Nat.reduceLeDiff, Nat.reduceSub, Nat.reduceMul, List.reduceReplicate, Int.reduceEq, Int.reduceLT, Int.reduceLE, Int.reduceAdd, Int.reduceSub, Int.reduceMul, Nat.reduceLT, Int.reduceToNat]; first | done | (with_reducible rfl)) (by first | exact c1 | exact c2) (by simp -implicitDefEqProofs (maxSteps := 2000000) only [k1, kh1, k2, kh2, k3, kh3, k6, ht64', ht16', w2', w7', w15', w16', a2, a7, a15, a16, d1, d2, d3, hst, hwl, ht63, l2, m2, l7, m7, l15, m15, l16, m16, wrap_nat (show t < 2 ^ 63 - 1 by omega), wk, act, asV, ↓reduceIte, Nat.reduceEqDiff, reduceCtorEq, Nat.reduceAdd, Nat.reduceLeDiff, Nat.reduceSub, Nat.reduceMul, List.reduceReplicate, Int.reduceEq, Int.reduceLT, Int.reduceLE, Int.reduceAdd, Int.reduceSub, Int.reduceMul, Nat.reduceLT, Int.reduceToNat]) ?_))
      have e : schN b (t + 1) ++ zw (64 - (t + 1)) = schN b t ++ wordAt b (schN b t) t :: zw (63 - t) := by
        rw [schN, List.append_assoc, show 64 - (t + 1) = 63 - t by omega]; rfl
      refine ⟨64 - (t + 1), by omega, t + 1, by omega, rfl, rfl, v3, rfl, ?_⟩
      rw [e]
  · obtain rfl : t = 64 := by omega
    have hl : (schN b 64 ++ zw (64 - 64)) = schN b 64 := by simp [zw]
    rw [hl] at kh3
    have hwl : (wl (schN b 64)).length = 64 := by rw [wl_length, hW]
    have t64 : List.take 64 (wl (schN b 64)) = wl (schN b 64) := List.take_of_length_le (by omega)
    have d64 : List.drop 64 (wl (schN b 64)) = [] := List.drop_of_length_le (by omega)
    have z1 : (wl (zw 64)).length = 64 := rfl
    have z2 : List.take 64 (wl (zw 64)) = wl (zw 64) := rfl
    have z3 : List.drop 64 (wl (zw 64)) = [] := rfl
    simp -implicitDefEqProofs (maxSteps := 2000000) only [m41_1, m41_2, m41_3, m41_4, m41_5, m41_6, m41_7, m41_8, m41_9, m41_10, m41_11, m41_12, m41_13, m41_14, m41_15, m41_16, m41_r, m41_b, m41, k1, kh1, k2, kh2, k3, kh3, k6, hwl, t64, d64, z1, z2, z3, wl_scal, wk, act, asV, ↓reduceIte, Nat.reduceEqDiff, reduceCtorEq, Nat.reduceAdd, Nat.reduceLeDiff, Nat.reduceSub, Nat.reduceMul, List.reduceReplicate, Int.reduceEq, Int.reduceLT, Int.reduceLE, Int.reduceAdd, Int.reduceSub, Int.reduceMul, Nat.reduceLT, Int.reduceToNat]
end Go.Proofs.Ytlbilkldjhhopaa
