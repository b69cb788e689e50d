/- Names: plain laws; the example; the fair ones. -/
import Derived.Test.YtmblapgoimegkaaDoorN3
set_option linter.unusedVariables false
set_option linter.unusedSimpArgs false
set_option maxRecDepth 100000
set_option maxHeartbeats 4000000
namespace Go.Proofs.YtmblapgoimegkaaDoor
open Go.RowKit

theorem pad4_trim {b : List UInt8} (hb : b.length = 4) : pad4 (trimR isZ b) = b := by
  match b, hb with
  | [b0, b1, b2, b3], _ =>
    by_cases h3 : b3 = 0
    · by_cases h2 : b2 = 0
      · by_cases h1 : b1 = 0
        · by_cases h0 : b0 = 0
          · simp [trimR, isZ, pad4, h0, h1, h2, h3]
          · simp [trimR, isZ, pad4, h0, h1, h2, h3]
        · simp [trimR, isZ, pad4, h1, h2, h3]
      · simp [trimR, isZ, pad4, h2, h3]
    · simp [trimR, isZ, pad4, h3]
theorem cutN_some {b s : List UInt8} (hb : b.length = 4) (h : cutN b = some s) : pad4 s = b ∧ (s = [] ∨ goodN s = true) ∧ s.length ≤ 4 := by
  unfold cutN at h
  split at h
  · rename_i hc
    injection h with h
    subst h
    exact ⟨pad4_trim hb, hc, by have := trimR_le isZ b; omega⟩
  · cases h
theorem trim_pad {s : List UInt8} (h : goodN s = true) : trimR isZ (pad4 s) = s := by
  simp only [goodN, Bool.and_eq_true, decide_eq_true_eq] at h
  obtain ⟨⟨h1, h2⟩, h3⟩ := h
  have hz : ∀ x ∈ s, x ≠ 0 := fun x hx => low_ne (List.all_eq_true.1 h3 x hx)
  match s with
  | [] => simp at h1
  | [a] => have := hz a (by simp); simp [trimR, isZ, pad4, this]
  | [a, b] => have := hz b (by simp); simp [trimR, isZ, pad4, this]
  | [a, b, c] => have := hz c (by simp); simp [trimR, isZ, pad4, this]
  | [a, b, c, d] => have := hz d (by simp); simp [trimR, isZ, pad4, this]
  | a :: b :: c :: d :: e :: s => simp at h2
theorem cutN_pad {s : List UInt8} (h : goodN s = true) : cutN (pad4 s) = some s := by
  unfold cutN
  rw [trim_pad h, if_pos (.inr h)]
theorem cutS_le {b : List UInt8} (hb : b.length = 4) : (cutS b).length ≤ 4 := by
  unfold cutS
  cases h : cutN b with
  | none => simp
  | some s => exact (cutN_some hb h).2.2

def fairN (l : List (List UInt8)) : Bool := l.all (fun s => decide (s.length ≤ 200)) && decide (l.length ≤ 100)
theorem fairN_of {l : List (List UInt8)} (h : fairN l = true) : l.length ≤ 100 ∧ ∀ s ∈ l, s.length ≤ 200 := by
  unfold fairN at h
  rw [Bool.and_eq_true, decide_eq_true_eq] at h
  refine ⟨h.2, fun r hr => ?_⟩
  have := List.all_eq_true.1 h.1 r hr
  simpa using this
theorem fairN_ok (f : Fl) (l : List (List UInt8)) (hl : l.length < 2 ^ 63) : RC Tryd.prog 15 [.sl f l.length (sl l)] [.bool (fairN l)] := by
  refine RC.of_wp c15 rfl ?_
  simp -implicitDefEqProofs (maxSteps := 2000000) only [m15_1, m15_2, m15_3, m15_4, m15_5, m15_6, m15_r, m15_b, m15, wk, act, asV, ↓reduceIte, Nat.reduceEqDiff, reduceCtorEq, Nat.reduceAdd, Nat.reduceLeDiff, Nat.reduceSub, Nat.reduceMul, List.reduceReplicate, Int.reduceEq, Int.reduceLT, Int.reduceLE, Int.reduceAdd, Int.reduceSub, Int.reduceMul, Nat.reduceLT, Int.reduceToNat]
  refine Wp_loop (fun j s => ∃ i, i ≤ l.length ∧ j = l.length - i ∧ s.t 0 = .sl f l.length (sl l) ∧ s.t 3 = .int .i64 (i : Nat) ∧ (l.take i).all (fun s => decide (s.length ≤ 200)) = true) l.length ⟨0, by omega, rfl, by simp -implicitDefEqProofs (maxSteps := 2000000) only [wk, act, asV, ↓reduceIte, Nat.reduceEqDiff, reduceCtorEq, Nat.reduceAdd, Nat.reduceLeDiff, Nat.reduceSub, Nat.reduceMul, List.reduceReplicate, Int.reduceEq, Int.reduceLT, Int.reduceLE, Int.reduceAdd, Int.reduceSub, Int.reduceMul, Nat.reduceLT, Int.reduceToNat], by simp -implicitDefEqProofs (maxSteps := 2000000) only [wk, act, asV, ↓reduceIte, Nat.reduceEqDiff, reduceCtorEq, Nat.reduceAdd, Nat.reduceLeDiff, Nat.reduceSub, Nat.reduceMul, List.reduceReplicate, Int.reduceEq, Int.reduceLT, Int.reduceLE, Int.reduceAdd, Int.reduceSub, Int.reduceMul, Nat.reduceLT, Int.reduceToNat], rfl⟩ ?_
  rintro j s ⟨i, hi, rfl, g0, g3, hall⟩
  by_cases hil : i < l.length
  · have hil' : (i : Int) < l.length := by omega
    have hw := wrap_nat (show i < 2 ^ 63 - 1 by omega)
    by_cases h6 : (200 : Int) < l[i].length
    · have : fairN l = false := by
        unfold fairN
        rw [all_no hil (by simp; omega)]; rfl
      rw [this]
      simp -implicitDefEqProofs (maxSteps := 2000000) only [g0, g3, hil', hil, drop_sl hil, sl_length, hw, h6, wk, act, asV, ↓reduceIte, Nat.reduceEqDiff, reduceCtorEq, Nat.reduceAdd, Nat.reduceLeDiff, Nat.reduceSub, Nat.reduceMul, List.reduceReplicate, Int.reduceEq, Int.reduceLT, Int.reduceLE, Int.reduceAdd, Int.reduceSub, Int.reduceMul, Nat.reduceLT, Int.reduceToNat]
    · have hall' := all_succ hil hall (by simp; omega)
      simp -implicitDefEqProofs (maxSteps := 2000000) only [g0, g3, hil', hil, drop_sl hil, sl_length, hw, h6, wk, act, asV, ↓reduceIte, Nat.reduceEqDiff, reduceCtorEq, Nat.reduceAdd, Nat.reduceLeDiff, Nat.reduceSub, Nat.reduceMul, List.reduceReplicate, Int.reduceEq, Int.reduceLT, Int.reduceLE, Int.reduceAdd, Int.reduceSub, Int.reduceMul, Nat.reduceLT, Int.reduceToNat]
      exact ⟨l.length - (i + 1), by omega, i + 1, by omega, rfl, rfl, hall'⟩
  · have hie : i = l.length := by omega
    subst hie
    rw [List.take_length] at hall
    have hb : fairN l = decide ((l.length : Int) ≤ 100) := by
      unfold fairN
      rw [hall, Bool.true_and]
      by_cases h : l.length ≤ 100
      · rw [decide_eq_true h, decide_eq_true (by omega)]
      · rw [decide_eq_false h, decide_eq_false (by omega)]
    rw [hb]
    simp -implicitDefEqProofs (maxSteps := 2000000) only [g0, g3, Int.lt_irrefl, wk, act, asV, ↓reduceIte, Nat.reduceEqDiff, reduceCtorEq, Nat.reduceAdd, Nat.reduceLeDiff, Nat.reduceSub, Nat.reduceMul, List.reduceReplicate, Int.reduceEq, Int.reduceLT, Int.reduceLE, Int.reduceAdd, Int.reduceSub, Int.reduceMul, Nat.reduceLT, Int.reduceToNat]

theorem wakesN_ok : RC Tryd.prog 16 [] [.bool true] := by
  refine RC.of_wp c16 rfl ?_
  have c1 := pad_ok [97, 98] (by decide)
  have c2 := cut_ok [97, 98, 0, 0] rfl
  have c3 := cut_ok [0, 97, 0, 0] rfl
  have c4 := cut_ok [0, 0, 0, 0] rfl
  have c5 := good_ok .full [[100, 97, 116, 97], [97]] (by decide) (by decide)
  have c6 := good_ok .full [[100, 97, 116, 97], [68, 97, 116, 97]] (by decide) (by decide)
  have c7 := good_ok .full [[]] (by decide) (by decide)
  have c8 := good_ok .full [[97, 98, 99, 100, 101]] (by decide) (by decide)
  rw [show pad4 [97, 98] = [97, 98, 0, 0] by decide] at c1
  rw [show cutS [97, 98, 0, 0] = [97, 98] by decide, show cutO [97, 98, 0, 0] = true by decide] at c2
  rw [show cutS [0, 97, 0, 0] = [] by decide, show cutO [0, 97, 0, 0] = false by decide] at c3
  rw [show cutS [0, 0, 0, 0] = [] by decide, show cutO [0, 0, 0, 0] = true by decide] at c4
  rw [show [[100, 97, 116, 97], [97]].all goodN = true by decide] at c5
  rw [show [[100, 97, 116, 97], [68, 97, 116, 97]].all goodN = false by decide] at c6
  rw [show [[]].all goodN = false by decide] at c7
  rw [show [[97, 98, 99, 100, 101]].all goodN = false by decide] at c8
  have b1 : bl [97, 98, 0, 0] = [.int .u8 97, .int .u8 98, .int .u8 0, .int .u8 0] := rfl
  have b2 : bl [0, 97, 0, 0] = [.int .u8 0, .int .u8 97, .int .u8 0, .int .u8 0] := rfl
  have b3 : bl [0, 0, 0, 0] = [.int .u8 0, .int .u8 0, .int .u8 0, .int .u8 0] := rfl
  rw [b1] at c1 c2
  rw [b2] at c3
  rw [b3] at c4
  repeat' (first | simp -implicitDefEqProofs (maxSteps := 2000000) only [m16_1, m16_2, m16_3, m16_4, m16_5, m16_6, m16_7, m16_8, m16_9, m16_10, m16_11, m16_12, m16_r, m16_b, m16, wk, act, asV, ↓reduceIte, Nat.reduceEqDiff, reduceCtorEq, Nat.reduceAdd, Nat.reduceLeDiff, Nat.reduceSub, Nat.reduceMul, List.reduceReplicate, Int.reduceEq, Int.reduceLT, Int.reduceLE, Int.reduceAdd, Int.reduceSub, Int.reduceMul, Nat.reduceLT, Int.reduceToNat] | ((with_reducible refine CallL.gate ?_); refine CallL.of (by simp -implicitDefEqProofs (maxSteps := 2000000) only [m16_1, m16_2, m16_3, m16_4, m16_5, m16_6, m16_7, m16_8, m16_9, m16_10, m16_11, m16_12, m16_r, m16_b, m16, wk, act, asV, ↓reduceIte, Nat.reduceEqDiff, reduceCtorEq, Nat.reduceAdd, Nat.reduceLeDiff, Nat.reduceSub, Nat.reduceMul, List.reduceReplicate, Int.reduceEq, Int.reduceLT, Int.reduceLE, Int.reduceAdd, Int.reduceSub, Int.reduceMul, Nat.reduceLT, Int.reduceToNat]; first | done | (with_reducible rfl)) (by first | exact c1 | exact c2 | exact c3 | exact c4 | exact c5 | exact c6 | exact c7 | exact c8) (by simp -implicitDefEqProofs (maxSteps := 2000000) only [m16_1, m16_2, m16_3, m16_4, m16_5, m16_6, m16_7, m16_8, m16_9, m16_10, m16_11, m16_12, m16_r, m16_b, m16, wk, act, asV, ↓reduceIte, Nat.reduceEqDiff, reduceCtorEq, Nat.reduceAdd, Nat.reduceLeDiff, Nat.reduceSub, Nat.reduceMul, List.reduceReplicate, Int.reduceEq, Int.reduceLT, Int.reduceLE, Int.reduceAdd, Int.reduceSub, Int.reduceMul, Nat.reduceLT, Int.reduceToNat]) ?_) | ((with_reducible refine CallP.gate ?_); refine CallP.of (by simp -implicitDefEqProofs (maxSteps := 2000000) only [m16_1, m16_2, m16_3, m16_4, m16_5, m16_6, m16_7, m16_8, m16_9, m16_10, m16_11, m16_12, m16_r, m16_b, m16, wk, act, asV, ↓reduceIte, Nat.reduceEqDiff, reduceCtorEq, Nat.reduceAdd, Nat.reduceLeDiff, Nat.reduceSub, Nat.reduceMul, List.reduceReplicate, Int.reduceEq, Int.reduceLT, Int.reduceLE, Int.reduceAdd, Int.reduceSub, Int.reduceMul, Nat.reduceLT, Int.reduceToNat]; first | done | (with_reducible rfl)) (by first | exact c1 | exact c2 | exact c3 | exact c4 | exact c5 | exact c6 | exact c7 | exact c8) (by simp -implicitDefEqProofs (maxSteps := 2000000) only [m16_1, m16_2, m16_3, m16_4, m16_5, m16_6, m16_7, m16_8, m16_9, m16_10, m16_11, m16_12, m16_r, m16_b, m16, wk, act, asV, ↓reduceIte, Nat.reduceEqDiff, reduceCtorEq, Nat.reduceAdd, Nat.reduceLeDiff, Nat.reduceSub, Nat.reduceMul, List.reduceReplicate, Int.reduceEq, Int.reduceLT, Int.reduceLE, Int.reduceAdd, Int.reduceSub, Int.reduceMul, Nat.reduceLT, Int.reduceToNat]) ?_))
end Go.Proofs.YtmblapgoimegkaaDoor
