/- The hash of parts, by the reference: joined. -/
import Derived.Test.YtkphojcmjffccaaS10
import Derived.Test.YtkphojcmjffccaaE31
import Derived.Test.YtkphojcmjffccaaM7
set_option linter.unusedSectionVars false
set_option linter.unusedVariables false
set_option linter.unusedSimpArgs false
set_option maxRecDepth 100000
set_option maxHeartbeats 8000000
namespace Go.Proofs.Ytkphojcmjffccaa
open Go.RowKit

def rowJ (s : St) (k : Nat) (a : Nat) (W : List UInt8) : Prop := (k = 0 ∧ s.t 3 = .sl .full 0 []) ∨ (0 < k ∧ ∃ ver, s.t 3 = .row a 0 W.length 1 ver ∧ s.h a = ⟨ver, true, true, true, bl W⟩)
theorem joined_le (ps : List (Fl × List UInt8)) (i : Nat) : (joined (ps.take i)).length ≤ (joined ps).length := by
  have : joined ps = joined (ps.take i) ++ joined (ps.drop i) := by
    unfold joined; rw [← List.flatten_append, ← List.map_append, List.take_append_drop]
  rw [this, List.length_append]; omega
theorem sumR_join (f : Fl) (ps : List (Fl × List UInt8)) (hn : ps.length < 2 ^ 63) (hl : (joined ps).length ≤ 2 ^ 40) (Q : Ex → St → Prop) (s1 : St)
    (q1 : ∀ s2 : St, s2.t 2 = s1.t 2 → s2.h 2 = s1.h 2 → rowJ s2 ps.length 21 (joined ps) → Q (.exit 0) s2)
    (k0 : s1.t 0 = .sl f ps.length (pl ps)) (k4 : s1.t 4 = .int .i64 0) (k3 : s1.t 3 = .sl .full 0 []) :
    Wp (RCs Try.prog) (.loop m26_2) Q s1 := by
  refine Wp_loop (fun m s => ∃ i, i ≤ ps.length ∧ m = ps.length - i ∧ s.t 0 = .sl f ps.length (pl ps) ∧ s.t 2 = s1.t 2 ∧ s.h 2 = s1.h 2 ∧ s.t 4 = .int .i64 i ∧ rowJ s i 21 (joined (ps.take i))) ps.length ⟨0, by omega, rfl, k0, rfl, rfl, k4, .inl ⟨rfl, k3⟩⟩ ?_
  clear k0 k4 k3
  rintro m s ⟨i, hi, rfl, k0, k2, kh2, k4, kr⟩
  by_cases hil : i < ps.length
  · have hil' : (i : Int) < ps.length := by omega
    have ej : joined (ps.take (i + 1)) = joined (ps.take i) ++ ps[i].2 := by rw [List.take_succ_eq_append_getElem hil, joined_snoc]
    have hle := joined_le ps (i + 1)
    rw [ej, List.length_append] at hle
    have eb : bl (joined (ps.take (i + 1))) = bl (joined (ps.take i)) ++ bl ps[i].2 := by rw [ej, bl_append]
    have hlen : (joined (ps.take (i + 1))).length = (joined (ps.take i)).length + ps[i].2.length := by rw [ej, List.length_append]
    obtain ⟨W, hW⟩ : ∃ W, W = joined (ps.take i) := ⟨_, rfl⟩
    rw [← hW] at kr hle eb hlen
    have hr1 : roomy ps[i].2.length 1 = true := roomyB (by omega)
    have hr2 : roomy (W.length + ps[i].2.length) 1 = true := roomyB (by omega)
    rcases kr with ⟨hi0, k3⟩ | ⟨hi0, ver, k3, kh⟩
    · have hW0 : W = [] := by rw [hW, hi0]; rfl
      rw [hW0] at eb hlen
      simp only [List.length_nil, Nat.zero_add] at hlen
      have eb' : bl (joined (ps.take (i + 1))) = bl ps[i].2 := eb
      simp -implicitDefEqProofs (maxSteps := 2000000) only [k0, k2, kh2, k4, k3, hil', hil, drop_pl hil, pl_length, bl_length, hr1, m26_1, m26_2, m26_3, m26_4, m26_5, m26_6, m26_7, m26_8, m26_9, m26_10, m26_11, m26_12, m26_13, m26_14, m26_15, m26_16, m26_17, m26_18, m26_19, m26_20, m26_21, m26_r, m26_b, m26, wrap_nat (show i < 2 ^ 63 - 1 by omega), wk, act, asV, ↓reduceIte, Nat.reduceEqDiff, reduceCtorEq, Nat.reduceAdd, Nat.reduceLeDiff, Nat.reduceSub, Nat.reduceMul, List.reduceReplicate, Int.reduceEq, Int.reduceLT, Int.reduceLE, Int.reduceAdd, Int.reduceSub, Int.reduceMul, Nat.reduceLT, Int.reduceToNat]
      exact ⟨ps.length - (i + 1), by omega, i + 1, by omega, rfl, rfl, .inr ⟨by omega, _, by rw [hlen]; rfl, by rw [eb']; rfl⟩⟩
    · simp -implicitDefEqProofs (maxSteps := 2000000) only [k0, k2, kh2, k4, k3, kh, hil', hil, drop_pl hil, pl_length, bl_length, hr2, m26_1, m26_2, m26_3, m26_4, m26_5, m26_6, m26_7, m26_8, m26_9, m26_10, m26_11, m26_12, m26_13, m26_14, m26_15, m26_16, m26_17, m26_18, m26_19, m26_20, m26_21, m26_r, m26_b, m26, wrap_nat (show i < 2 ^ 63 - 1 by omega), wk, act, asV, ↓reduceIte, Nat.reduceEqDiff, reduceCtorEq, Nat.reduceAdd, Nat.reduceLeDiff, Nat.reduceSub, Nat.reduceMul, List.reduceReplicate, Int.reduceEq, Int.reduceLT, Int.reduceLE, Int.reduceAdd, Int.reduceSub, Int.reduceMul, Nat.reduceLT, Int.reduceToNat]
      exact ⟨ps.length - (i + 1), by omega, i + 1, by omega, rfl, rfl, .inr ⟨by omega, _, by rw [hlen]; rfl, by rw [eb]; rfl⟩⟩
  · have hie : i = ps.length := by omega
    have hil' : ¬ (i : Int) < ps.length := by omega
    rw [hie, List.take_length] at kr
    simp -implicitDefEqProofs (maxSteps := 2000000) only [k0, k4, hil', m26_1, m26_2, m26_3, m26_4, m26_5, m26_6, m26_7, m26_8, m26_9, m26_10, m26_11, m26_12, m26_13, m26_14, m26_15, m26_16, m26_17, m26_18, m26_19, m26_20, m26_21, m26_r, m26_b, m26, wk, act, asV, ↓reduceIte, Nat.reduceEqDiff, reduceCtorEq, Nat.reduceAdd, Nat.reduceLeDiff, Nat.reduceSub, Nat.reduceMul, List.reduceReplicate, Int.reduceEq, Int.reduceLT, Int.reduceLE, Int.reduceAdd, Int.reduceSub, Int.reduceMul, Nat.reduceLT, Int.reduceToNat]
    refine q1 _ (by simp -implicitDefEqProofs (maxSteps := 2000000) only [k2, wk, act, asV, ↓reduceIte, Nat.reduceEqDiff, reduceCtorEq, Nat.reduceAdd, Nat.reduceLeDiff, Nat.reduceSub, Nat.reduceMul, List.reduceReplicate, Int.reduceEq, Int.reduceLT, Int.reduceLE, Int.reduceAdd, Int.reduceSub, Int.reduceMul, Nat.reduceLT, Int.reduceToNat]) (by simp -implicitDefEqProofs (maxSteps := 2000000) only [kh2, wk, act, asV, ↓reduceIte, Nat.reduceEqDiff, reduceCtorEq, Nat.reduceAdd, Nat.reduceLeDiff, Nat.reduceSub, Nat.reduceMul, List.reduceReplicate, Int.reduceEq, Int.reduceLT, Int.reduceLE, Int.reduceAdd, Int.reduceSub, Int.reduceMul, Nat.reduceLT, Int.reduceToNat]) ?_
    rcases kr with ⟨hi0, k3⟩ | ⟨hi0, ver, k3, kh⟩
    · exact .inl ⟨hi0, by simp -implicitDefEqProofs (maxSteps := 2000000) only [k3, wk, act, asV, ↓reduceIte, Nat.reduceEqDiff, reduceCtorEq, Nat.reduceAdd, Nat.reduceLeDiff, Nat.reduceSub, Nat.reduceMul, List.reduceReplicate, Int.reduceEq, Int.reduceLT, Int.reduceLE, Int.reduceAdd, Int.reduceSub, Int.reduceMul, Nat.reduceLT, Int.reduceToNat]⟩
    · exact .inr ⟨hi0, ver, by simp -implicitDefEqProofs (maxSteps := 2000000) only [k3, wk, act, asV, ↓reduceIte, Nat.reduceEqDiff, reduceCtorEq, Nat.reduceAdd, Nat.reduceLeDiff, Nat.reduceSub, Nat.reduceMul, List.reduceReplicate, Int.reduceEq, Int.reduceLT, Int.reduceLE, Int.reduceAdd, Int.reduceSub, Int.reduceMul, Nat.reduceLT, Int.reduceToNat], by simp -implicitDefEqProofs (maxSteps := 2000000) only [kh, wk, act, asV, ↓reduceIte, Nat.reduceEqDiff, reduceCtorEq, Nat.reduceAdd, Nat.reduceLeDiff, Nat.reduceSub, Nat.reduceMul, List.reduceReplicate, Int.reduceEq, Int.reduceLT, Int.reduceLE, Int.reduceAdd, Int.reduceSub, Int.reduceMul, Nat.reduceLT, Int.reduceToNat]⟩
end Go.Proofs.Ytkphojcmjffccaa

/-! The hash of parts, by the reference: 64 bytes by 64. -/
set_option linter.unusedSectionVars false
set_option linter.unusedVariables false
set_option linter.unusedSimpArgs false
set_option maxRecDepth 100000
set_option maxHeartbeats 8000000
namespace Go.Proofs.Ytkphojcmjffccaa
open Go.RowKit

theorem sumR_turn (M : List UInt8) (K : Nat) (hK : M.length = 64 * K) (hM : M.length ≤ 2 ^ 41) {ver : Nat} (Q : Ex → St → Prop) (s1 : St)
    (q1 : ∀ s2 : St, s2.t 2 = s1.t 2 → s2.h 2 = s1.h 2 → (∃ v5, s2.t 5 = .ptr 5 0 v5 ∧ s2.h 5 = ⟨v5, true, true, false, wl (hashN M K).l⟩) → Q (.exit 2) s2)
    (k3 : s1.t 3 = .row 27 0 M.length 1 ver) (kh3 : s1.h 27 = ⟨ver, true, true, true, bl M⟩) (k5 : ∃ v5, s1.t 5 = .ptr 5 0 v5 ∧ s1.h 5 = ⟨v5, true, true, false, wl start8.l⟩) (k6 : s1.t 6 = .int .i64 0) :
    Wp (RCs Try.prog) (.loop m26_9) Q s1 := by
  refine Wp_loop (fun m s => ∃ j, j ≤ K ∧ m = K - j ∧ s.t 2 = s1.t 2 ∧ s.h 2 = s1.h 2 ∧ s.t 3 = .row 27 0 M.length 1 ver ∧ s.h 27 = ⟨ver, true, true, true, bl M⟩ ∧ s.t 6 = .int .i64 ((64 * j : Nat) : Int) ∧ ∃ v5, s.t 5 = .ptr 5 0 v5 ∧ s.h 5 = ⟨v5, true, true, false, wl (hashN M j).l⟩) K ⟨0, by omega, rfl, rfl, rfl, k3, kh3, k6, k5⟩ ?_
  clear k3 kh3 k5 k6
  rintro m s ⟨j, hj, rfl, k2, kh2, k3, kh3, k6, v5, k5, kh5⟩
  have w64 : IntKind.i64.wrap (((64 * j : Nat) : Int) + 64) = ((64 * j + 64 : Nat) : Int) := by rw [IntKind.wrap_i64]; omega
  by_cases hjK : j < K
  · have hle : ((64 * j + 64 : Nat) : Int) ≤ M.length := by omega
    have hle2 : 64 * j + 64 ≤ M.length := by omega
    have hle3 : 64 * j ≤ 64 * j + 64 := by omega
    have hsub : 64 * j + 64 - 64 * j = 64 := by omega
    obtain ⟨B, hB⟩ : ∃ B, B = (M.drop (64 * j)).take 64 := ⟨_, rfl⟩
    have hBl : B.length = 64 := by rw [hB, List.length_take, List.length_drop]; omega
    have hseg : List.take 64 (List.drop (64 * j) (bl M)) = bl B := by rw [bl_drop, bl_take, hB]
    have hbB : (bl B).length = 64 := by rw [bl_length, hBl]
    have tB : List.take 64 (bl B) = bl B := List.take_of_length_le (by omega)
    have dB : List.drop 64 (bl B) = [] := List.drop_of_length_le (by omega)
    have c1 := turnR_ok (hashN M j) B hBl
    have l8 : (wl (hashN M j).l).length = 8 := rfl
    have t8 : List.take 8 (wl (hashN M j).l) = wl (hashN M j).l := rfl
    have d8 : List.drop 8 (wl (hashN M j).l) = [] := rfl
    have en : wl (hashN M (j + 1)).l = wl (turnH (hashN M j) B) := by rw [hashN_succ, ← hB]
    have lt : (wl (turnH (hashN M j) B)).length = 8 := by rw [wl_length]; exact turnH_length _ _
    have hmin : min 64 64 = 64 := rfl
    obtain ⟨h8, hh8⟩ : ∃ h, h = hashN M j := ⟨_, rfl⟩
    rw [← hh8] at c1 l8 t8 d8 en lt kh5
    obtain ⟨N, hN⟩ : ∃ N, N = turnH h8 B := ⟨_, rfl⟩
    rw [← hN] at c1 en lt
    have tN : List.take 8 (wl N) = wl N := List.take_of_length_le (by omega)
    have dN : List.drop 8 (wl N) = [] := List.drop_of_length_le (by omega)
    repeat' (first | simp -implicitDefEqProofs (maxSteps := 2000000) only [k2, kh2, k3, kh3, k6, k5, kh5, w64, hle, hle2, hle3, hsub, hseg, hbB, tB, dB, l8, t8, d8, lt, tN, dN, hmin, bl_length, bl_scal, bl_pur, wl_scal, m26_1, m26_2, m26_3, m26_4, m26_5, m26_6, m26_7, m26_8, m26_9, m26_10, m26_11, m26_12, m26_13, m26_14, m26_15, m26_16, m26_17, m26_18, m26_19, m26_20, m26_21, m26_r, m26_b, m26, wk, act, asV, ↓reduceIte, Nat.reduceEqDiff, reduceCtorEq, Nat.reduceAdd, Nat.reduceLeDiff, Nat.reduceSub, Nat.reduceMul, List.reduceReplicate, Int.reduceEq, Int.reduceLT, Int.reduceLE, Int.reduceAdd, Int.reduceSub, Int.reduceMul, Nat.reduceLT, Int.reduceToNat] | ((first | ((with_reducible refine CallL.gate ?_); apply CallL.of) | ((with_reducible refine CallP.gate ?_); apply CallP.of)); (case h1 => (simp -implicitDefEqProofs (maxSteps := 2000000) only [k2, kh2, k3, kh3, k6, k5, kh5, w64, hle, hle2, hle3, hsub, hseg, hbB, tB, dB, l8, t8, d8, lt, tN, dN, hmin, bl_length, bl_scal, bl_pur, wl_scal, m26_1, m26_2, m26_3, m26_4, m26_5, m26_6, m26_7, m26_8, m26_9, m26_10, m26_11, m26_12, m26_13, m26_14, m26_15, m26_16, m26_17, m26_18, m26_19, m26_20, m26_21, m26_r, m26_b, m26, wk, act, asV, ↓reduceIte, Nat.reduceEqDiff, reduceCtorEq, Nat.reduceAdd, Nat.reduceLeDiff, Nat.reduceSub, Nat.reduceMul, List.reduceReplicate, Int.reduceEq, Int.reduceLT, Int.reduceLE, Int.reduceAdd, Int.reduceSub, Int.reduceMul, Nat.reduceLT, Int.reduceToNat]; first | done | (with_reducible rfl))); (case h2 => (first | exact c1)); (case h3 => simp -implicitDefEqProofs (maxSteps := 2000000) only [k2, kh2, k3, kh3, k6, k5, kh5, w64, hle, hle2, hle3, hsub, hseg, hbB, tB, dB, l8, t8, d8, lt, tN, dN, hmin, bl_length, bl_scal, bl_pur, wl_scal, m26_1, m26_2, m26_3, m26_4, m26_5, m26_6, m26_7, m26_8, m26_9, m26_10, m26_11, m26_12, m26_13, m26_14, m26_15, m26_16, m26_17, m26_18, m26_19, m26_20, m26_21, m26_r, m26_b, m26, wk, act, asV, ↓reduceIte, Nat.reduceEqDiff, reduceCtorEq, Nat.reduceAdd, Nat.reduceLeDiff, Nat.reduceSub, Nat.reduceMul, List.reduceReplicate, Int.reduceEq, Int.reduceLT, Int.reduceLE, Int.reduceAdd, Int.reduceSub, Int.reduceMul, Nat.reduceLT, Int.reduceToNat])))
    refine ⟨K - (j + 1), by omega, j + 1, by omega, rfl, ?_⟩
    rw [en, show 64 * (j + 1) = 64 * j + 64 by omega]
    exact ⟨rfl, v5, rfl, rfl⟩
  · obtain rfl : j = K := by omega
    have hle : ¬ ((64 * j + 64 : Nat) : Int) ≤ M.length := by omega
    simp -implicitDefEqProofs (maxSteps := 2000000) only [k3, kh3, k6, w64, hle, m26_1, m26_2, m26_3, m26_4, m26_5, m26_6, m26_7, m26_8, m26_9, m26_10, m26_11, m26_12, m26_13, m26_14, m26_15, m26_16, m26_17, m26_18, m26_19, m26_20, m26_21, m26_r, m26_b, m26, wk, act, asV, ↓reduceIte, Nat.reduceEqDiff, reduceCtorEq, Nat.reduceAdd, Nat.reduceLeDiff, Nat.reduceSub, Nat.reduceMul, List.reduceReplicate, Int.reduceEq, Int.reduceLT, Int.reduceLE, Int.reduceAdd, Int.reduceSub, Int.reduceMul, Nat.reduceLT, Int.reduceToNat]
    exact q1 _ (by simp -implicitDefEqProofs (maxSteps := 2000000) only [k2, wk, act, asV, ↓reduceIte, Nat.reduceEqDiff, reduceCtorEq, Nat.reduceAdd, Nat.reduceLeDiff, Nat.reduceSub, Nat.reduceMul, List.reduceReplicate, Int.reduceEq, Int.reduceLT, Int.reduceLE, Int.reduceAdd, Int.reduceSub, Int.reduceMul, Nat.reduceLT, Int.reduceToNat]) (by simp -implicitDefEqProofs (maxSteps := 2000000) only [kh2, wk, act, asV, ↓reduceIte, Nat.reduceEqDiff, reduceCtorEq, Nat.reduceAdd, Nat.reduceLeDiff, Nat.reduceSub, Nat.reduceMul, List.reduceReplicate, Int.reduceEq, Int.reduceLT, Int.reduceLE, Int.reduceAdd, Int.reduceSub, Int.reduceMul, Nat.reduceLT, Int.reduceToNat]) ⟨v5, by simp -implicitDefEqProofs (maxSteps := 2000000) only [k5, wk, act, asV, ↓reduceIte, Nat.reduceEqDiff, reduceCtorEq, Nat.reduceAdd, Nat.reduceLeDiff, Nat.reduceSub, Nat.reduceMul, List.reduceReplicate, Int.reduceEq, Int.reduceLT, Int.reduceLE, Int.reduceAdd, Int.reduceSub, Int.reduceMul, Nat.reduceLT, Int.reduceToNat], by simp -implicitDefEqProofs (maxSteps := 2000000) only [kh5, wk, act, asV, ↓reduceIte, Nat.reduceEqDiff, reduceCtorEq, Nat.reduceAdd, Nat.reduceLeDiff, Nat.reduceSub, Nat.reduceMul, List.reduceReplicate, Int.reduceEq, Int.reduceLT, Int.reduceLE, Int.reduceAdd, Int.reduceSub, Int.reduceMul, Nat.reduceLT, Int.reduceToNat]⟩
end Go.Proofs.Ytkphojcmjffccaa

/-! The hash of parts, by the reference. -/
set_option linter.unusedSectionVars false
set_option linter.unusedVariables false
set_option linter.unusedSimpArgs false
set_option maxRecDepth 100000
set_option maxHeartbeats 8000000
namespace Go.Proofs.Ytkphojcmjffccaa
open Go.RowKit

theorem sumR_ok (f : Fl) (ps : List (Fl × List UInt8)) (hn : ps.length < 2 ^ 63) (hl : (joined ps).length ≤ 2 ^ 40) : RC Try.prog 26 [.sl f ps.length (pl ps)] [.agg (bl (shaB (joined ps)))] := by
  refine RC.of_wp c26 rfl ?_
  simp -implicitDefEqProofs (maxSteps := 2000000) only [m26_1, m26_2, m26_3, m26_4, m26_5, m26_6, m26_7, m26_8, m26_9, m26_10, m26_11, m26_12, m26_13, m26_14, m26_15, m26_16, m26_17, m26_18, m26_19, m26_20, m26_21, m26_r, m26_b, m26, wk, act, asV, ↓reduceIte, Nat.reduceEqDiff, reduceCtorEq, Nat.reduceAdd, Nat.reduceLeDiff, Nat.reduceSub, Nat.reduceMul, List.reduceReplicate, Int.reduceEq, Int.reduceLT, Int.reduceLE, Int.reduceAdd, Int.reduceSub, Int.reduceMul, Nat.reduceLT, Int.reduceToNat]
  refine sumR_join f ps hn hl _ _ ?_ (by simp -implicitDefEqProofs (maxSteps := 2000000) only [wk, act, asV, ↓reduceIte, Nat.reduceEqDiff, reduceCtorEq, Nat.reduceAdd, Nat.reduceLeDiff, Nat.reduceSub, Nat.reduceMul, List.reduceReplicate, Int.reduceEq, Int.reduceLT, Int.reduceLE, Int.reduceAdd, Int.reduceSub, Int.reduceMul, Nat.reduceLT, Int.reduceToNat]) (by simp -implicitDefEqProofs (maxSteps := 2000000) only [wk, act, asV, ↓reduceIte, Nat.reduceEqDiff, reduceCtorEq, Nat.reduceAdd, Nat.reduceLeDiff, Nat.reduceSub, Nat.reduceMul, List.reduceReplicate, Int.reduceEq, Int.reduceLT, Int.reduceLE, Int.reduceAdd, Int.reduceSub, Int.reduceMul, Nat.reduceLT, Int.reduceToNat]) (by simp -implicitDefEqProofs (maxSteps := 2000000) only [wk, act, asV, ↓reduceIte, Nat.reduceEqDiff, reduceCtorEq, Nat.reduceAdd, Nat.reduceLeDiff, Nat.reduceSub, Nat.reduceMul, List.reduceReplicate, Int.reduceEq, Int.reduceLT, Int.reduceLE, Int.reduceAdd, Int.reduceSub, Int.reduceMul, Nat.reduceLT, Int.reduceToNat])
  intro s2 p2 ph2 pr
  simp -implicitDefEqProofs (maxSteps := 2000000) only [wk, act, asV, ↓reduceIte, Nat.reduceEqDiff, reduceCtorEq, Nat.reduceAdd, Nat.reduceLeDiff, Nat.reduceSub, Nat.reduceMul, List.reduceReplicate, Int.reduceEq, Int.reduceLT, Int.reduceLE, Int.reduceAdd, Int.reduceSub, Int.reduceMul, Nat.reduceLT, Int.reduceToNat] at p2
  simp -implicitDefEqProofs (maxSteps := 2000000) only [wk, act, asV, ↓reduceIte, Nat.reduceEqDiff, reduceCtorEq, Nat.reduceAdd, Nat.reduceLeDiff, Nat.reduceSub, Nat.reduceMul, List.reduceReplicate, Int.reduceEq, Int.reduceLT, Int.reduceLE, Int.reduceAdd, Int.reduceSub, Int.reduceMul, Nat.reduceLT, Int.reduceToNat] at ph2
  obtain ⟨W, hW⟩ : ∃ W, W = joined ps := ⟨_, rfl⟩
  rw [← hW] at pr hl ⊢
  have wl' : IntKind.u64.wrap (W.length : Int) = W.length := wrapN .u64 (by simp [vbits, IntKind.signed, IntKind.bits]; omega)
  have cp := padR_ok W.length (by omega)
  have hpl := padB_length W.length
  have tp := take_bl (padB W.length)
  have hz : padZ W.length < 64 := Nat.mod_lt _ (by decide)
  obtain ⟨M, hM⟩ : ∃ M, M = W ++ padB W.length := ⟨_, rfl⟩
  have hMl : M.length = W.length + (padB W.length).length := by rw [hM, List.length_append]
  have hMb : bl M = bl W ++ bl (padB W.length) := by rw [hM, bl_append]
  obtain ⟨K, hK⟩ : ∃ K, K = (W.length + 9 + padZ W.length) / 64 := ⟨_, rfl⟩
  have hMK : M.length = 64 * K := by rw [hMl, hpl, hK]; unfold padZ; omega
  have hd : shaB W = digest (hashN M K).l := by rw [hM, hK]; rfl
  have r1 : roomy (padB W.length).length 1 = true := roomyB (by omega)
  have r2 : roomy (W.length + (padB W.length).length) 1 = true := roomyB (by omega)
  have l8 : (wl start8.l).length = 8 := rfl
  have t8 : List.take 8 (wl start8.l) = wl start8.l := rfl
  have d8 : List.drop 8 (wl start8.l) = [] := rfl
  have dl := digest_length (hashN M K).l
  have db : (bl (digest (hashN M K).l)).length = 32 := by rw [bl_length, dl]
  have dt : List.take 32 (bl (digest (hashN M K).l)) = bl (digest (hashN M K).l) := List.take_of_length_le (by omega)
  have dd : List.drop 32 (bl (digest (hashN M K).l)) = [] := List.drop_of_length_le (by omega)
  rw [hd]
  rcases pr with ⟨hi0, q3⟩ | ⟨hi0, ver, q3, qh⟩
  · have hW0 : W = [] := by rw [hW, List.eq_nil_of_length_eq_zero hi0]; rfl
    have hMb' : bl M = bl (padB W.length) := by rw [hMb, hW0]; rfl
    have hMl' : M.length = (padB W.length).length := by rw [hMl, hW0]; simp
    have wl0 : IntKind.u64.wrap (0 : Int) = 0 := rfl
    have cp0 : RC Try.prog 38 [.int .u64 0] [.own (padB W.length).length 1 (bl (padB W.length))] := by
      have := cp
      rw [hW0] at this ⊢
      exact this
    obtain ⟨G, hG⟩ : ∃ G, G = padB W.length := ⟨_, rfl⟩
    rw [← hG] at cp0 tp r1 hMb' hMl'
    repeat' (first | simp -implicitDefEqProofs (maxSteps := 2000000) only [p2, ph2, q3, wl0, tp, r1, l8, t8, d8, wl_scal, bl_length, bl_pur, wk, act, asV, ↓reduceIte, Nat.reduceEqDiff, reduceCtorEq, Nat.reduceAdd, Nat.reduceLeDiff, Nat.reduceSub, Nat.reduceMul, List.reduceReplicate, Int.reduceEq, Int.reduceLT, Int.reduceLE, Int.reduceAdd, Int.reduceSub, Int.reduceMul, Nat.reduceLT, Int.reduceToNat] | ((first | ((with_reducible refine CallL.gate ?_); apply CallL.of) | ((with_reducible refine CallP.gate ?_); apply CallP.of)); (case h1 => (simp -implicitDefEqProofs (maxSteps := 2000000) only [p2, ph2, q3, wl0, tp, r1, l8, t8, d8, wl_scal, bl_length, bl_pur, wk, act, asV, ↓reduceIte, Nat.reduceEqDiff, reduceCtorEq, Nat.reduceAdd, Nat.reduceLeDiff, Nat.reduceSub, Nat.reduceMul, List.reduceReplicate, Int.reduceEq, Int.reduceLT, Int.reduceLE, Int.reduceAdd, Int.reduceSub, Int.reduceMul, Nat.reduceLT, Int.reduceToNat]; first | done | (with_reducible rfl))); (case h2 => (first | exact cp0 | exact startR_ok)); (case h3 => simp -implicitDefEqProofs (maxSteps := 2000000) only [p2, ph2, q3, wl0, tp, r1, l8, t8, d8, wl_scal, bl_length, bl_pur, wk, act, asV, ↓reduceIte, Nat.reduceEqDiff, reduceCtorEq, Nat.reduceAdd, Nat.reduceLeDiff, Nat.reduceSub, Nat.reduceMul, List.reduceReplicate, Int.reduceEq, Int.reduceLT, Int.reduceLE, Int.reduceAdd, Int.reduceSub, Int.reduceMul, Nat.reduceLT, Int.reduceToNat])))
    refine sumR_turn M K hMK (by omega) _ _ ?_ (by rw [hMl']; simp -implicitDefEqProofs (maxSteps := 2000000) only [wk, act, asV, ↓reduceIte, Nat.reduceEqDiff, reduceCtorEq, Nat.reduceAdd, Nat.reduceLeDiff, Nat.reduceSub, Nat.reduceMul, List.reduceReplicate, Int.reduceEq, Int.reduceLT, Int.reduceLE, Int.reduceAdd, Int.reduceSub, Int.reduceMul, Nat.reduceLT, Int.reduceToNat]; first | done | rfl) (by rw [hMb']; simp -implicitDefEqProofs (maxSteps := 2000000) only [wk, act, asV, ↓reduceIte, Nat.reduceEqDiff, reduceCtorEq, Nat.reduceAdd, Nat.reduceLeDiff, Nat.reduceSub, Nat.reduceMul, List.reduceReplicate, Int.reduceEq, Int.reduceLT, Int.reduceLE, Int.reduceAdd, Int.reduceSub, Int.reduceMul, Nat.reduceLT, Int.reduceToNat]; first | done | rfl) ⟨_, by simp -implicitDefEqProofs (maxSteps := 2000000) only [wk, act, asV, ↓reduceIte, Nat.reduceEqDiff, reduceCtorEq, Nat.reduceAdd, Nat.reduceLeDiff, Nat.reduceSub, Nat.reduceMul, List.reduceReplicate, Int.reduceEq, Int.reduceLT, Int.reduceLE, Int.reduceAdd, Int.reduceSub, Int.reduceMul, Nat.reduceLT, Int.reduceToNat]; first | done | rfl, by simp -implicitDefEqProofs (maxSteps := 2000000) only [wk, act, asV, ↓reduceIte, Nat.reduceEqDiff, reduceCtorEq, Nat.reduceAdd, Nat.reduceLeDiff, Nat.reduceSub, Nat.reduceMul, List.reduceReplicate, Int.reduceEq, Int.reduceLT, Int.reduceLE, Int.reduceAdd, Int.reduceSub, Int.reduceMul, Nat.reduceLT, Int.reduceToNat]; first | done | rfl⟩ (by simp -implicitDefEqProofs (maxSteps := 2000000) only [wk, act, asV, ↓reduceIte, Nat.reduceEqDiff, reduceCtorEq, Nat.reduceAdd, Nat.reduceLeDiff, Nat.reduceSub, Nat.reduceMul, List.reduceReplicate, Int.reduceEq, Int.reduceLT, Int.reduceLE, Int.reduceAdd, Int.reduceSub, Int.reduceMul, Nat.reduceLT, Int.reduceToNat])
    intro s3 r2' rh2' r5
    obtain ⟨v5, r5, rh5⟩ := r5
    simp -implicitDefEqProofs (maxSteps := 2000000) only [p2, wk, act, asV, ↓reduceIte, Nat.reduceEqDiff, reduceCtorEq, Nat.reduceAdd, Nat.reduceLeDiff, Nat.reduceSub, Nat.reduceMul, List.reduceReplicate, Int.reduceEq, Int.reduceLT, Int.reduceLE, Int.reduceAdd, Int.reduceSub, Int.reduceMul, Nat.reduceLT, Int.reduceToNat] at r2'
    simp -implicitDefEqProofs (maxSteps := 2000000) only [ph2, wk, act, asV, ↓reduceIte, Nat.reduceEqDiff, reduceCtorEq, Nat.reduceAdd, Nat.reduceLeDiff, Nat.reduceSub, Nat.reduceMul, List.reduceReplicate, Int.reduceEq, Int.reduceLT, Int.reduceLE, Int.reduceAdd, Int.reduceSub, Int.reduceMul, Nat.reduceLT, Int.reduceToNat] at rh2'
    simp -implicitDefEqProofs (maxSteps := 2000000) only [r5, rh5, wk, act, asV, ↓reduceIte, Nat.reduceEqDiff, reduceCtorEq, Nat.reduceAdd, Nat.reduceLeDiff, Nat.reduceSub, Nat.reduceMul, List.reduceReplicate, Int.reduceEq, Int.reduceLT, Int.reduceLE, Int.reduceAdd, Int.reduceSub, Int.reduceMul, Nat.reduceLT, Int.reduceToNat]
    refine sumR_out (hashN M K).l rfl _ _ ?_ (by simp -implicitDefEqProofs (maxSteps := 2000000) only [r5, wk, act, asV, ↓reduceIte, Nat.reduceEqDiff, reduceCtorEq, Nat.reduceAdd, Nat.reduceLeDiff, Nat.reduceSub, Nat.reduceMul, List.reduceReplicate, Int.reduceEq, Int.reduceLT, Int.reduceLE, Int.reduceAdd, Int.reduceSub, Int.reduceMul, Nat.reduceLT, Int.reduceToNat]; first | done | rfl) (by simp -implicitDefEqProofs (maxSteps := 2000000) only [rh5, wk, act, asV, ↓reduceIte, Nat.reduceEqDiff, reduceCtorEq, Nat.reduceAdd, Nat.reduceLeDiff, Nat.reduceSub, Nat.reduceMul, List.reduceReplicate, Int.reduceEq, Int.reduceLT, Int.reduceLE, Int.reduceAdd, Int.reduceSub, Int.reduceMul, Nat.reduceLT, Int.reduceToNat]; first | done | rfl) ⟨_, by simp -implicitDefEqProofs (maxSteps := 2000000) only [wk, act, asV, ↓reduceIte, Nat.reduceEqDiff, reduceCtorEq, Nat.reduceAdd, Nat.reduceLeDiff, Nat.reduceSub, Nat.reduceMul, List.reduceReplicate, Int.reduceEq, Int.reduceLT, Int.reduceLE, Int.reduceAdd, Int.reduceSub, Int.reduceMul, Nat.reduceLT, Int.reduceToNat]; first | done | rfl, by simp -implicitDefEqProofs (maxSteps := 2000000) only [wk, act, asV, ↓reduceIte, Nat.reduceEqDiff, reduceCtorEq, Nat.reduceAdd, Nat.reduceLeDiff, Nat.reduceSub, Nat.reduceMul, List.reduceReplicate, Int.reduceEq, Int.reduceLT, Int.reduceLE, Int.reduceAdd, Int.reduceSub, Int.reduceMul, Nat.reduceLT, Int.reduceToNat]; first | done | rfl⟩ (by simp -implicitDefEqProofs (maxSteps := 2000000) only [wk, act, asV, ↓reduceIte, Nat.reduceEqDiff, reduceCtorEq, Nat.reduceAdd, Nat.reduceLeDiff, Nat.reduceSub, Nat.reduceMul, List.reduceReplicate, Int.reduceEq, Int.reduceLT, Int.reduceLE, Int.reduceAdd, Int.reduceSub, Int.reduceMul, Nat.reduceLT, Int.reduceToNat])
    intro s4 t2 th2 t8'
    obtain ⟨v8, t8', th8⟩ := t8'
    simp -implicitDefEqProofs (maxSteps := 2000000) only [r2', wk, act, asV, ↓reduceIte, Nat.reduceEqDiff, reduceCtorEq, Nat.reduceAdd, Nat.reduceLeDiff, Nat.reduceSub, Nat.reduceMul, List.reduceReplicate, Int.reduceEq, Int.reduceLT, Int.reduceLE, Int.reduceAdd, Int.reduceSub, Int.reduceMul, Nat.reduceLT, Int.reduceToNat] at t2
    simp -implicitDefEqProofs (maxSteps := 2000000) only [rh2', wk, act, asV, ↓reduceIte, Nat.reduceEqDiff, reduceCtorEq, Nat.reduceAdd, Nat.reduceLeDiff, Nat.reduceSub, Nat.reduceMul, List.reduceReplicate, Int.reduceEq, Int.reduceLT, Int.reduceLE, Int.reduceAdd, Int.reduceSub, Int.reduceMul, Nat.reduceLT, Int.reduceToNat] at th2
    simp -implicitDefEqProofs (maxSteps := 2000000) only [t2, th2, t8', th8, db, dt, dd, bl_scal, wk, act, asV, ↓reduceIte, Nat.reduceEqDiff, reduceCtorEq, Nat.reduceAdd, Nat.reduceLeDiff, Nat.reduceSub, Nat.reduceMul, List.reduceReplicate, Int.reduceEq, Int.reduceLT, Int.reduceLE, Int.reduceAdd, Int.reduceSub, Int.reduceMul, Nat.reduceLT, Int.reduceToNat]
  · obtain ⟨G, hG⟩ : ∃ G, G = padB W.length := ⟨_, rfl⟩
    rw [← hG] at cp tp r2 hMb hMl
    repeat' (first | simp -implicitDefEqProofs (maxSteps := 2000000) only [p2, ph2, q3, qh, wl', tp, r2, l8, t8, d8, wl_scal, bl_length, bl_pur, wk, act, asV, ↓reduceIte, Nat.reduceEqDiff, reduceCtorEq, Nat.reduceAdd, Nat.reduceLeDiff, Nat.reduceSub, Nat.reduceMul, List.reduceReplicate, Int.reduceEq, Int.reduceLT, Int.reduceLE, Int.reduceAdd, Int.reduceSub, Int.reduceMul, Nat.reduceLT, Int.reduceToNat] | ((first | ((with_reducible refine CallL.gate ?_); apply CallL.of) | ((with_reducible refine CallP.gate ?_); apply CallP.of)); (case h1 => (simp -implicitDefEqProofs (maxSteps := 2000000) only [p2, ph2, q3, qh, wl', tp, r2, l8, t8, d8, wl_scal, bl_length, bl_pur, wk, act, asV, ↓reduceIte, Nat.reduceEqDiff, reduceCtorEq, Nat.reduceAdd, Nat.reduceLeDiff, Nat.reduceSub, Nat.reduceMul, List.reduceReplicate, Int.reduceEq, Int.reduceLT, Int.reduceLE, Int.reduceAdd, Int.reduceSub, Int.reduceMul, Nat.reduceLT, Int.reduceToNat]; first | done | (with_reducible rfl))); (case h2 => (first | exact cp | exact startR_ok)); (case h3 => simp -implicitDefEqProofs (maxSteps := 2000000) only [p2, ph2, q3, qh, wl', tp, r2, l8, t8, d8, wl_scal, bl_length, bl_pur, wk, act, asV, ↓reduceIte, Nat.reduceEqDiff, reduceCtorEq, Nat.reduceAdd, Nat.reduceLeDiff, Nat.reduceSub, Nat.reduceMul, List.reduceReplicate, Int.reduceEq, Int.reduceLT, Int.reduceLE, Int.reduceAdd, Int.reduceSub, Int.reduceMul, Nat.reduceLT, Int.reduceToNat])))
    refine sumR_turn M K hMK (by omega) _ _ ?_ (by rw [hMl]; simp -implicitDefEqProofs (maxSteps := 2000000) only [wk, act, asV, ↓reduceIte, Nat.reduceEqDiff, reduceCtorEq, Nat.reduceAdd, Nat.reduceLeDiff, Nat.reduceSub, Nat.reduceMul, List.reduceReplicate, Int.reduceEq, Int.reduceLT, Int.reduceLE, Int.reduceAdd, Int.reduceSub, Int.reduceMul, Nat.reduceLT, Int.reduceToNat]; first | done | rfl) (by rw [hMb]; simp -implicitDefEqProofs (maxSteps := 2000000) only [wk, act, asV, ↓reduceIte, Nat.reduceEqDiff, reduceCtorEq, Nat.reduceAdd, Nat.reduceLeDiff, Nat.reduceSub, Nat.reduceMul, List.reduceReplicate, Int.reduceEq, Int.reduceLT, Int.reduceLE, Int.reduceAdd, Int.reduceSub, Int.reduceMul, Nat.reduceLT, Int.reduceToNat]; first | done | rfl) ⟨_, by simp -implicitDefEqProofs (maxSteps := 2000000) only [wk, act, asV, ↓reduceIte, Nat.reduceEqDiff, reduceCtorEq, Nat.reduceAdd, Nat.reduceLeDiff, Nat.reduceSub, Nat.reduceMul, List.reduceReplicate, Int.reduceEq, Int.reduceLT, Int.reduceLE, Int.reduceAdd, Int.reduceSub, Int.reduceMul, Nat.reduceLT, Int.reduceToNat]; first | done | rfl, by simp -implicitDefEqProofs (maxSteps := 2000000) only [wk, act, asV, ↓reduceIte, Nat.reduceEqDiff, reduceCtorEq, Nat.reduceAdd, Nat.reduceLeDiff, Nat.reduceSub, Nat.reduceMul, List.reduceReplicate, Int.reduceEq, Int.reduceLT, Int.reduceLE, Int.reduceAdd, Int.reduceSub, Int.reduceMul, Nat.reduceLT, Int.reduceToNat]; first | done | rfl⟩ (by simp -implicitDefEqProofs (maxSteps := 2000000) only [wk, act, asV, ↓reduceIte, Nat.reduceEqDiff, reduceCtorEq, Nat.reduceAdd, Nat.reduceLeDiff, Nat.reduceSub, Nat.reduceMul, List.reduceReplicate, Int.reduceEq, Int.reduceLT, Int.reduceLE, Int.reduceAdd, Int.reduceSub, Int.reduceMul, Nat.reduceLT, Int.reduceToNat])
    intro s3 r2' rh2' r5
    obtain ⟨v5, r5, rh5⟩ := r5
    simp -implicitDefEqProofs (maxSteps := 2000000) only [p2, wk, act, asV, ↓reduceIte, Nat.reduceEqDiff, reduceCtorEq, Nat.reduceAdd, Nat.reduceLeDiff, Nat.reduceSub, Nat.reduceMul, List.reduceReplicate, Int.reduceEq, Int.reduceLT, Int.reduceLE, Int.reduceAdd, Int.reduceSub, Int.reduceMul, Nat.reduceLT, Int.reduceToNat] at r2'
    simp -implicitDefEqProofs (maxSteps := 2000000) only [ph2, wk, act, asV, ↓reduceIte, Nat.reduceEqDiff, reduceCtorEq, Nat.reduceAdd, Nat.reduceLeDiff, Nat.reduceSub, Nat.reduceMul, List.reduceReplicate, Int.reduceEq, Int.reduceLT, Int.reduceLE, Int.reduceAdd, Int.reduceSub, Int.reduceMul, Nat.reduceLT, Int.reduceToNat] at rh2'
    simp -implicitDefEqProofs (maxSteps := 2000000) only [r5, rh5, wk, act, asV, ↓reduceIte, Nat.reduceEqDiff, reduceCtorEq, Nat.reduceAdd, Nat.reduceLeDiff, Nat.reduceSub, Nat.reduceMul, List.reduceReplicate, Int.reduceEq, Int.reduceLT, Int.reduceLE, Int.reduceAdd, Int.reduceSub, Int.reduceMul, Nat.reduceLT, Int.reduceToNat]
    refine sumR_out (hashN M K).l rfl _ _ ?_ (by simp -implicitDefEqProofs (maxSteps := 2000000) only [r5, wk, act, asV, ↓reduceIte, Nat.reduceEqDiff, reduceCtorEq, Nat.reduceAdd, Nat.reduceLeDiff, Nat.reduceSub, Nat.reduceMul, List.reduceReplicate, Int.reduceEq, Int.reduceLT, Int.reduceLE, Int.reduceAdd, Int.reduceSub, Int.reduceMul, Nat.reduceLT, Int.reduceToNat]; first | done | rfl) (by simp -implicitDefEqProofs (maxSteps := 2000000) only [rh5, wk, act, asV, ↓reduceIte, Nat.reduceEqDiff, reduceCtorEq, Nat.reduceAdd, Nat.reduceLeDiff, Nat.reduceSub, Nat.reduceMul, List.reduceReplicate, Int.reduceEq, Int.reduceLT, Int.reduceLE, Int.reduceAdd, Int.reduceSub, Int.reduceMul, Nat.reduceLT, Int.reduceToNat]; first | done | rfl) ⟨_, by simp -implicitDefEqProofs (maxSteps := 2000000) only [wk, act, asV, ↓reduceIte, Nat.reduceEqDiff, reduceCtorEq, Nat.reduceAdd, Nat.reduceLeDiff, Nat.reduceSub, Nat.reduceMul, List.reduceReplicate, Int.reduceEq, Int.reduceLT, Int.reduceLE, Int.reduceAdd, Int.reduceSub, Int.reduceMul, Nat.reduceLT, Int.reduceToNat]; first | done | rfl, by simp -implicitDefEqProofs (maxSteps := 2000000) only [wk, act, asV, ↓reduceIte, Nat.reduceEqDiff, reduceCtorEq, Nat.reduceAdd, Nat.reduceLeDiff, Nat.reduceSub, Nat.reduceMul, List.reduceReplicate, Int.reduceEq, Int.reduceLT, Int.reduceLE, Int.reduceAdd, Int.reduceSub, Int.reduceMul, Nat.reduceLT, Int.reduceToNat]; first | done | rfl⟩ (by simp -implicitDefEqProofs (maxSteps := 2000000) only [wk, act, asV, ↓reduceIte, Nat.reduceEqDiff, reduceCtorEq, Nat.reduceAdd, Nat.reduceLeDiff, Nat.reduceSub, Nat.reduceMul, List.reduceReplicate, Int.reduceEq, Int.reduceLT, Int.reduceLE, Int.reduceAdd, Int.reduceSub, Int.reduceMul, Nat.reduceLT, Int.reduceToNat])
    intro s4 t2 th2 t8'
    obtain ⟨v8, t8', th8⟩ := t8'
    simp -implicitDefEqProofs (maxSteps := 2000000) only [r2', wk, act, asV, ↓reduceIte, Nat.reduceEqDiff, reduceCtorEq, Nat.reduceAdd, Nat.reduceLeDiff, Nat.reduceSub, Nat.reduceMul, List.reduceReplicate, Int.reduceEq, Int.reduceLT, Int.reduceLE, Int.reduceAdd, Int.reduceSub, Int.reduceMul, Nat.reduceLT, Int.reduceToNat] at t2
    simp -implicitDefEqProofs (maxSteps := 2000000) only [rh2', wk, act, asV, ↓reduceIte, Nat.reduceEqDiff, reduceCtorEq, Nat.reduceAdd, Nat.reduceLeDiff, Nat.reduceSub, Nat.reduceMul, List.reduceReplicate, Int.reduceEq, Int.reduceLT, Int.reduceLE, Int.reduceAdd, Int.reduceSub, Int.reduceMul, Nat.reduceLT, Int.reduceToNat] at th2
    simp -implicitDefEqProofs (maxSteps := 2000000) only [t2, th2, t8', th8, db, dt, dd, bl_scal, wk, act, asV, ↓reduceIte, Nat.reduceEqDiff, reduceCtorEq, Nat.reduceAdd, Nat.reduceLeDiff, Nat.reduceSub, Nat.reduceMul, List.reduceReplicate, Int.reduceEq, Int.reduceLT, Int.reduceLE, Int.reduceAdd, Int.reduceSub, Int.reduceMul, Nat.reduceLT, Int.reduceToNat]
end Go.Proofs.Ytkphojcmjffccaa
