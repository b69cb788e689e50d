/- Names: which are right, their bytes. -/
import Derived.Test.YtilbipknodpmmaaDoorE31
import Derived.Test.YtilbipknodpmmaaDoorM4
import Derived.Test.YtilbipknodpmmaaDoorN1
import Derived.Test.YtilbipknodpmmaaDoorM6
import Derived.Test.YtilbipknodpmmaaDoorB1
set_option linter.unusedVariables false
set_option linter.unusedSimpArgs false
set_option maxRecDepth 100000
set_option maxHeartbeats 4000000
namespace Go.Proofs.YtilbipknodpmmaaDoor
open Go.RowKit

def sl (l : List (List UInt8)) : List IV := l.map .str
theorem sl_length (l : List (List UInt8)) : (sl l).length = l.length := by simp [sl]
theorem drop_sl {l : List (List UInt8)} {i : Nat} (h : i < l.length) : (sl l).drop i = .str l[i] :: (sl l).drop (i + 1) := by
  rw [List.drop_eq_getElem_cons (by simpa [sl] using h)]; simp [sl]
theorem bl_cons (x : UInt8) (xs : List UInt8) : bl (x :: xs) = .int .u8 (x.toNat : Int) :: bl xs := rfl
def goodN (s : List UInt8) : Bool := decide (1 ≤ s.length) && decide (s.length ≤ 4) && s.all low
theorem all_no {α : Type} {p : α → Bool} {l : List α} {i : Nat} (h : i < l.length) (hp : ¬ p l[i] = true) : l.all p = false := by
  rw [Bool.eq_false_iff]
  intro ha
  exact hp (List.all_eq_true.1 ha _ (List.getElem_mem h))
theorem all_succ {α : Type} {p : α → Bool} {l : List α} {i : Nat} (h : i < l.length) (ha : (l.take i).all p = true) (hp : p l[i] = true) : (l.take (i + 1)).all p = true := by
  rw [List.take_succ_eq_append_getElem h, List.all_append, ha]; simp [hp]

theorem good_ok (f : Fl) (l : List (List UInt8)) (hl : l.length < 2 ^ 63) (hs : ∀ s ∈ l, s.length < 2 ^ 63) : RC Tryd.prog 47 [.sl f l.length (sl l)] [.bool (l.all goodN)] := by
  refine RC.of_wp c47 rfl ?_
  simp -implicitDefEqProofs (maxSteps := 2000000) only [m47_1, m47_2, m47_3, m47_4, m47_5, m47_6, m47_7, m47_8, m47_r, m47_b, m47, wk, act, asV, ↓reduceIte, Nat.reduceEqDiff, reduceCtorEq, Nat.reduceAdd, Nat.reduceLeDiff, Nat.reduceSub, Nat.reduceMul, List.reduceReplicate, Int.reduceEq, Int.reduceLT, Int.reduceLE, Int.reduceAdd, Int.reduceSub, Int.reduceMul, Nat.reduceLT, Int.reduceToNat]
  refine Wp_loop (fun j st => ∃ i, i ≤ l.length ∧ j = l.length - i ∧ st.t 5 = .sl f l.length (sl l) ∧ st.t 6 = .int .i64 (l.length : Nat) ∧ st.t 7 = .int .i64 (i : Nat) ∧ (l.take i).all goodN = true) l.length ⟨0, by omega, rfl, by simp -implicitDefEqProofs (maxSteps := 2000000) only [wk, act, asV, ↓reduceIte, Nat.reduceEqDiff, reduceCtorEq, Nat.reduceAdd, Nat.reduceLeDiff, Nat.reduceSub, Nat.reduceMul, List.reduceReplicate, Int.reduceEq, Int.reduceLT, Int.reduceLE, Int.reduceAdd, Int.reduceSub, Int.reduceMul, Nat.reduceLT, Int.reduceToNat], by simp -implicitDefEqProofs (maxSteps := 2000000) only [wk, act, asV, ↓reduceIte, Nat.reduceEqDiff, reduceCtorEq, Nat.reduceAdd, Nat.reduceLeDiff, Nat.reduceSub, Nat.reduceMul, List.reduceReplicate, Int.reduceEq, Int.reduceLT, Int.reduceLE, Int.reduceAdd, Int.reduceSub, Int.reduceMul, Nat.reduceLT, Int.reduceToNat], by simp -implicitDefEqProofs (maxSteps := 2000000) only [wk, act, asV, ↓reduceIte, Nat.reduceEqDiff, reduceCtorEq, Nat.reduceAdd, Nat.reduceLeDiff, Nat.reduceSub, Nat.reduceMul, List.reduceReplicate, Int.reduceEq, Int.reduceLT, Int.reduceLE, Int.reduceAdd, Int.reduceSub, Int.reduceMul, Nat.reduceLT, Int.reduceToNat], rfl⟩ ?_
  rintro j st ⟨i, hi, rfl, g5, g6, g7, hall⟩
  by_cases hil : i < l.length
  · have hil' : (i : Int) < l.length := by omega
    have hw := wrap_nat (show i < 2 ^ 63 - 1 by omega)
    by_cases h0 : l[i] = []
    · have hg : ¬ goodN l[i] = true := by rw [h0]; decide
      rw [all_no hil hg]
      simp -implicitDefEqProofs (maxSteps := 2000000) only [g5, g6, g7, hil', hil, drop_sl hil, sl_length, h0, wk, act, asV, ↓reduceIte, Nat.reduceEqDiff, reduceCtorEq, Nat.reduceAdd, Nat.reduceLeDiff, Nat.reduceSub, Nat.reduceMul, List.reduceReplicate, Int.reduceEq, Int.reduceLT, Int.reduceLE, Int.reduceAdd, Int.reduceSub, Int.reduceMul, Nat.reduceLT, Int.reduceToNat]
    · have hpos : 0 < l[i].length := List.length_pos_iff.2 h0
      by_cases h4 : (4 : Int) < l[i].length
      · have hg : ¬ goodN l[i] = true := by simp [goodN]; omega
        rw [all_no hil hg]
        simp -implicitDefEqProofs (maxSteps := 2000000) only [g5, g6, g7, hil', hil, drop_sl hil, sl_length, h0, h4, wk, act, asV, ↓reduceIte, Nat.reduceEqDiff, reduceCtorEq, Nat.reduceAdd, Nat.reduceLeDiff, Nat.reduceSub, Nat.reduceMul, List.reduceReplicate, Int.reduceEq, Int.reduceLT, Int.reduceLE, Int.reduceAdd, Int.reduceSub, Int.reduceMul, Nat.reduceLT, Int.reduceToNat]
      · have ct := trim_ok l[i] (hs _ (List.getElem_mem hil))
        simp only [letters] at ct
        by_cases ht : trimS l[i] = []
        · have hg : goodN l[i] = true := by
            have := (trimS_nil _).1 ht
            simp only [goodN, this, Bool.and_true, Bool.and_eq_true, decide_eq_true_eq]
            omega
          have hall' := all_succ hil hall hg
          repeat' (first | simp -implicitDefEqProofs (maxSteps := 2000000) only [g5, g6, g7, hil', hil, drop_sl hil, sl_length, h0, h4, ht, hw, wk, act, asV, ↓reduceIte, Nat.reduceEqDiff, reduceCtorEq, Nat.reduceAdd, Nat.reduceLeDiff, Nat.reduceSub, Nat.reduceMul, List.reduceReplicate, Int.reduceEq, Int.reduceLT, Int.reduceLE, Int.reduceAdd, Int.reduceSub, Int.reduceMul, Nat.reduceLT, Int.reduceToNat] | ((first | ((with_reducible refine CallL.gate ?_); apply CallL.of) | ((with_reducible refine CallP.gate ?_); apply CallP.of)); (case h1 => (simp -implicitDefEqProofs (maxSteps := 2000000) only [g5, g6, g7, hil', hil, drop_sl hil, sl_length, h0, h4, ht, hw, wk, act, asV, ↓reduceIte, Nat.reduceEqDiff, reduceCtorEq, Nat.reduceAdd, Nat.reduceLeDiff, Nat.reduceSub, Nat.reduceMul, List.reduceReplicate, Int.reduceEq, Int.reduceLT, Int.reduceLE, Int.reduceAdd, Int.reduceSub, Int.reduceMul, Nat.reduceLT, Int.reduceToNat]; first | done | (with_reducible rfl))); (case h2 => (first | exact ct)); (case h3 => simp -implicitDefEqProofs (maxSteps := 2000000) only [g5, g6, g7, hil', hil, drop_sl hil, sl_length, h0, h4, ht, hw, wk, act, asV, ↓reduceIte, Nat.reduceEqDiff, reduceCtorEq, Nat.reduceAdd, Nat.reduceLeDiff, Nat.reduceSub, Nat.reduceMul, List.reduceReplicate, Int.reduceEq, Int.reduceLT, Int.reduceLE, Int.reduceAdd, Int.reduceSub, Int.reduceMul, Nat.reduceLT, Int.reduceToNat])))
          exact ⟨l.length - (i + 1), by omega, i + 1, by omega, rfl, rfl, hall'⟩
        · have hg : ¬ goodN l[i] = true := by
            intro h
            simp only [goodN, Bool.and_eq_true] at h
            exact ht ((trimS_nil _).2 h.2)
          rw [all_no hil hg]
          repeat' (first | simp -implicitDefEqProofs (maxSteps := 2000000) only [g5, g6, g7, hil', hil, drop_sl hil, sl_length, h0, h4, ht, hw, wk, act, asV, ↓reduceIte, Nat.reduceEqDiff, reduceCtorEq, Nat.reduceAdd, Nat.reduceLeDiff, Nat.reduceSub, Nat.reduceMul, List.reduceReplicate, Int.reduceEq, Int.reduceLT, Int.reduceLE, Int.reduceAdd, Int.reduceSub, Int.reduceMul, Nat.reduceLT, Int.reduceToNat] | ((first | ((with_reducible refine CallL.gate ?_); apply CallL.of) | ((with_reducible refine CallP.gate ?_); apply CallP.of)); (case h1 => (simp -implicitDefEqProofs (maxSteps := 2000000) only [g5, g6, g7, hil', hil, drop_sl hil, sl_length, h0, h4, ht, hw, wk, act, asV, ↓reduceIte, Nat.reduceEqDiff, reduceCtorEq, Nat.reduceAdd, Nat.reduceLeDiff, Nat.reduceSub, Nat.reduceMul, List.reduceReplicate, Int.reduceEq, Int.reduceLT, Int.reduceLE, Int.reduceAdd, Int.reduceSub, Int.reduceMul, Nat.reduceLT, Int.reduceToNat]; first | done | (with_reducible rfl))); (case h2 => (first | exact ct)); (case h3 => simp -implicitDefEqProofs (maxSteps := 2000000) only [g5, g6, g7, hil', hil, drop_sl hil, sl_length, h0, h4, ht, hw, wk, act, asV, ↓reduceIte, Nat.reduceEqDiff, reduceCtorEq, Nat.reduceAdd, Nat.reduceLeDiff, Nat.reduceSub, Nat.reduceMul, List.reduceReplicate, Int.reduceEq, Int.reduceLT, Int.reduceLE, Int.reduceAdd, Int.reduceSub, Int.reduceMul, Nat.reduceLT, Int.reduceToNat])))
  · have hie : i = l.length := by omega
    subst hie
    rw [List.take_length] at hall
    rw [hall]
    simp -implicitDefEqProofs (maxSteps := 2000000) only [g5, g6, g7, Int.lt_irrefl, wk, act, asV, ↓reduceIte, Nat.reduceEqDiff, reduceCtorEq, Nat.reduceAdd, Nat.reduceLeDiff, Nat.reduceSub, Nat.reduceMul, List.reduceReplicate, Int.reduceEq, Int.reduceLT, Int.reduceLE, Int.reduceAdd, Int.reduceSub, Int.reduceMul, Nat.reduceLT, Int.reduceToNat]

theorem rgood_ok (f : Fl) (l : List (List UInt8)) (hl : l.length < 2 ^ 63) : RC Tryd.prog 50 [.sl f l.length (sl l)] [.bool (l.all goodN)] := by
  refine RC.of_wp c50 rfl ?_
  simp -implicitDefEqProofs (maxSteps := 2000000) only [m50_1, m50_2, m50_3, m50_4, m50_5, m50_6, m50_7, m50_8, m50_9, m50_10, m50_r, m50_b, m50, wk, act, asV, ↓reduceIte, Nat.reduceEqDiff, reduceCtorEq, Nat.reduceAdd, Nat.reduceLeDiff, Nat.reduceSub, Nat.reduceMul, List.reduceReplicate, Int.reduceEq, Int.reduceLT, Int.reduceLE, Int.reduceAdd, Int.reduceSub, Int.reduceMul, Nat.reduceLT, Int.reduceToNat]
  refine Wp_loop (fun j st => ∃ i, i ≤ l.length ∧ j = l.length - i ∧ st.t 0 = .sl f l.length (sl l) ∧ st.t 3 = .int .i64 (i : Nat) ∧ (l.take i).all goodN = true) l.length ⟨0, by omega, rfl, by simp -implicitDefEqProofs (maxSteps := 2000000) only [wk, act, asV, ↓reduceIte, Nat.reduceEqDiff, reduceCtorEq, Nat.reduceAdd, Nat.reduceLeDiff, Nat.reduceSub, Nat.reduceMul, List.reduceReplicate, Int.reduceEq, Int.reduceLT, Int.reduceLE, Int.reduceAdd, Int.reduceSub, Int.reduceMul, Nat.reduceLT, Int.reduceToNat], by simp -implicitDefEqProofs (maxSteps := 2000000) only [wk, act, asV, ↓reduceIte, Nat.reduceEqDiff, reduceCtorEq, Nat.reduceAdd, Nat.reduceLeDiff, Nat.reduceSub, Nat.reduceMul, List.reduceReplicate, Int.reduceEq, Int.reduceLT, Int.reduceLE, Int.reduceAdd, Int.reduceSub, Int.reduceMul, Nat.reduceLT, Int.reduceToNat], rfl⟩ ?_
  rintro j st ⟨i, hi, rfl, g0, g3, hall⟩
  by_cases hil : i < l.length
  · have hil' : (i : Int) < l.length := by omega
    have hw := wrap_nat (show i < 2 ^ 63 - 1 by omega)
    by_cases h1 : (l[i].length : Int) < 1
    · have hg : ¬ goodN l[i] = true := by simp only [goodN, Bool.and_eq_true, decide_eq_true_eq]; omega
      rw [all_no hil hg]
      simp -implicitDefEqProofs (maxSteps := 2000000) only [g0, g3, hil', hil, drop_sl hil, sl_length, h1, wk, act, asV, ↓reduceIte, Nat.reduceEqDiff, reduceCtorEq, Nat.reduceAdd, Nat.reduceLeDiff, Nat.reduceSub, Nat.reduceMul, List.reduceReplicate, Int.reduceEq, Int.reduceLT, Int.reduceLE, Int.reduceAdd, Int.reduceSub, Int.reduceMul, Nat.reduceLT, Int.reduceToNat]
    · by_cases h4 : (4 : Int) < l[i].length
      · have hg : ¬ goodN l[i] = true := by simp only [goodN, Bool.and_eq_true, decide_eq_true_eq]; omega
        rw [all_no hil hg]
        simp -implicitDefEqProofs (maxSteps := 2000000) only [g0, g3, hil', hil, drop_sl hil, sl_length, h1, h4, wk, act, asV, ↓reduceIte, Nat.reduceEqDiff, reduceCtorEq, Nat.reduceAdd, Nat.reduceLeDiff, Nat.reduceSub, Nat.reduceMul, List.reduceReplicate, Int.reduceEq, Int.reduceLT, Int.reduceLE, Int.reduceAdd, Int.reduceSub, Int.reduceMul, Nat.reduceLT, Int.reduceToNat]
      · obtain ⟨s, hs⟩ : ∃ s, s = l[i] := ⟨_, rfl⟩
        have hd := drop_sl hil
        rw [← hs] at h1 h4 hd
        simp -implicitDefEqProofs (maxSteps := 2000000) only [g0, g3, hil', hil, hd, sl_length, h1, h4, wk, act, asV, ↓reduceIte, Nat.reduceEqDiff, reduceCtorEq, Nat.reduceAdd, Nat.reduceLeDiff, Nat.reduceSub, Nat.reduceMul, List.reduceReplicate, Int.reduceEq, Int.reduceLT, Int.reduceLE, Int.reduceAdd, Int.reduceSub, Int.reduceMul, Nat.reduceLT, Int.reduceToNat]
        refine Wp_loop (fun j st => ∃ k, k ≤ s.length ∧ j = s.length - k ∧ st.t 0 = .sl f l.length (sl l) ∧ st.t 3 = .int .i64 (i : Nat) ∧ st.t 4 = .int .i64 (k : Nat) ∧ (s.take k).all low = true) s.length ⟨0, by omega, rfl, by simp -implicitDefEqProofs (maxSteps := 2000000) only [g0, wk, act, asV, ↓reduceIte, Nat.reduceEqDiff, reduceCtorEq, Nat.reduceAdd, Nat.reduceLeDiff, Nat.reduceSub, Nat.reduceMul, List.reduceReplicate, Int.reduceEq, Int.reduceLT, Int.reduceLE, Int.reduceAdd, Int.reduceSub, Int.reduceMul, Nat.reduceLT, Int.reduceToNat], by simp -implicitDefEqProofs (maxSteps := 2000000) only [g3, wk, act, asV, ↓reduceIte, Nat.reduceEqDiff, reduceCtorEq, Nat.reduceAdd, Nat.reduceLeDiff, Nat.reduceSub, Nat.reduceMul, List.reduceReplicate, Int.reduceEq, Int.reduceLT, Int.reduceLE, Int.reduceAdd, Int.reduceSub, Int.reduceMul, Nat.reduceLT, Int.reduceToNat], by simp -implicitDefEqProofs (maxSteps := 2000000) only [wk, act, asV, ↓reduceIte, Nat.reduceEqDiff, reduceCtorEq, Nat.reduceAdd, Nat.reduceLeDiff, Nat.reduceSub, Nat.reduceMul, List.reduceReplicate, Int.reduceEq, Int.reduceLT, Int.reduceLE, Int.reduceAdd, Int.reduceSub, Int.reduceMul, Nat.reduceLT, Int.reduceToNat], rfl⟩ ?_
        rintro j st ⟨k, hk, rfl, g0, g3, g4, hlow⟩
        by_cases hks : k < s.length
        · have hks' : (k : Int) < s.length := by omega
          have hwk := wrap_nat (show k < 2 ^ 63 - 1 by omega)
          have hgd : s.getD k 0 = s[k] := by simp [List.getD, hks]
          by_cases ha : (s[k].toNat : Int) < 97
          · have hg : ¬ goodN l[i] = true := by
              rw [← hs]
              intro h
              simp only [goodN, Bool.and_eq_true] at h
              have := List.all_eq_true.1 h.2 _ (List.getElem_mem hks)
              simp only [low, Bool.and_eq_true, decide_eq_true_eq] at this
              omega
            rw [all_no hil hg]
            simp -implicitDefEqProofs (maxSteps := 2000000) only [g0, g3, g4, hil', hil, hd, sl_length, hks', hgd, ha, wk, act, asV, ↓reduceIte, Nat.reduceEqDiff, reduceCtorEq, Nat.reduceAdd, Nat.reduceLeDiff, Nat.reduceSub, Nat.reduceMul, List.reduceReplicate, Int.reduceEq, Int.reduceLT, Int.reduceLE, Int.reduceAdd, Int.reduceSub, Int.reduceMul, Nat.reduceLT, Int.reduceToNat]
          · by_cases hz : (122 : Int) < (s[k].toNat : Int)
            · have hg : ¬ goodN l[i] = true := by
                rw [← hs]
                intro h
                simp only [goodN, Bool.and_eq_true] at h
                have := List.all_eq_true.1 h.2 _ (List.getElem_mem hks)
                simp only [low, Bool.and_eq_true, decide_eq_true_eq] at this
                omega
              rw [all_no hil hg]
              simp -implicitDefEqProofs (maxSteps := 2000000) only [g0, g3, g4, hil', hil, hd, sl_length, hks', hgd, ha, hz, wk, act, asV, ↓reduceIte, Nat.reduceEqDiff, reduceCtorEq, Nat.reduceAdd, Nat.reduceLeDiff, Nat.reduceSub, Nat.reduceMul, List.reduceReplicate, Int.reduceEq, Int.reduceLT, Int.reduceLE, Int.reduceAdd, Int.reduceSub, Int.reduceMul, Nat.reduceLT, Int.reduceToNat]
            · have hl' := all_succ hks hlow (show low s[k] = true by simp only [low, Bool.and_eq_true, decide_eq_true_eq]; omega)
              simp -implicitDefEqProofs (maxSteps := 2000000) only [g0, g3, g4, hil', hil, hd, sl_length, hks', hgd, ha, hz, hwk, wk, act, asV, ↓reduceIte, Nat.reduceEqDiff, reduceCtorEq, Nat.reduceAdd, Nat.reduceLeDiff, Nat.reduceSub, Nat.reduceMul, List.reduceReplicate, Int.reduceEq, Int.reduceLT, Int.reduceLE, Int.reduceAdd, Int.reduceSub, Int.reduceMul, Nat.reduceLT, Int.reduceToNat]
              exact ⟨s.length - (k + 1), by omega, k + 1, by omega, rfl, rfl, hl'⟩
        · have hke : k = s.length := by omega
          subst hke
          rw [List.take_length] at hlow
          have hg : goodN l[i] = true := by
            rw [← hs]
            simp only [goodN, hlow, Bool.and_true, Bool.and_eq_true, decide_eq_true_eq]
            omega
          have hall' := all_succ hil hall hg
          simp -implicitDefEqProofs (maxSteps := 2000000) only [g0, g3, g4, hil', hil, hd, sl_length, Int.lt_irrefl, hw, wk, act, asV, ↓reduceIte, Nat.reduceEqDiff, reduceCtorEq, Nat.reduceAdd, Nat.reduceLeDiff, Nat.reduceSub, Nat.reduceMul, List.reduceReplicate, Int.reduceEq, Int.reduceLT, Int.reduceLE, Int.reduceAdd, Int.reduceSub, Int.reduceMul, Nat.reduceLT, Int.reduceToNat]
          exact ⟨l.length - (i + 1), by omega, i + 1, by omega, rfl, rfl, hall'⟩
  · have hie : i = l.length := by omega
    subst hie
    rw [List.take_length] at hall
    rw [hall]
    simp -implicitDefEqProofs (maxSteps := 2000000) only [g0, g3, Int.lt_irrefl, wk, act, asV, ↓reduceIte, Nat.reduceEqDiff, reduceCtorEq, Nat.reduceAdd, Nat.reduceLeDiff, Nat.reduceSub, Nat.reduceMul, List.reduceReplicate, Int.reduceEq, Int.reduceLT, Int.reduceLE, Int.reduceAdd, Int.reduceSub, Int.reduceMul, Nat.reduceLT, Int.reduceToNat]

/-! ### the four bytes -/
def pad4 (s : List UInt8) : List UInt8 := (s ++ [0, 0, 0, 0]).take 4
theorem pad4_length (s : List UInt8) : (pad4 s).length = 4 := by simp [pad4]
theorem pad4_eq (s : List UInt8) : pad4 s = s.take (min s.length 4) ++ [0, 0, 0, 0].drop (min s.length 4) := by
  match s with
  | [] => rfl
  | [a] => rfl
  | [a, b] => rfl
  | [a, b, c] => rfl
  | a :: b :: c :: d :: s =>
    have : min (a :: b :: c :: d :: s).length 4 = 4 := by simp
    rw [this]
    simp [pad4]
theorem pad_cells (s : List UInt8) : List.take (min s.length 4) (bytesV s) ++ List.drop (min s.length 4) [IV.int .u8 0, .int .u8 0, .int .u8 0, .int .u8 0] = bl (pad4 s) := by
  rw [pad4_eq, bl_append]
  congr 1
  · rw [← bl_take]; rfl
  · rw [← bl_drop]; rfl
theorem bl_take4 {b : List UInt8} (h : b.length = 4) : List.take 4 (bl b) = bl b := List.take_of_length_le (by rw [bl_length]; omega)
theorem bl_drop4 {b : List UInt8} (h : b.length = 4) : List.drop 4 (bl b) = [] := List.drop_of_length_le (by rw [bl_length]; omega)

theorem pad_ok (s : List UInt8) (hs : s.length < 2 ^ 63) : RC Tryd.prog 55 [.str s] [.agg (bl (pad4 s))] := by
  refine RC.of_wp c55 rfl ?_
  have h4 := pad4_length s
  simp -implicitDefEqProofs (maxSteps := 2000000) only [m55_1, m55_2, m55_3, m55_r, m55_b, m55, Nat.min_le_right, pad_cells s, bl_take4 h4, bl_drop4 h4, bl_length, h4, bl_scal, wk, act, asV, ↓reduceIte, Nat.reduceEqDiff, reduceCtorEq, Nat.reduceAdd, Nat.reduceLeDiff, Nat.reduceSub, Nat.reduceMul, List.reduceReplicate, Int.reduceEq, Int.reduceLT, Int.reduceLE, Int.reduceAdd, Int.reduceSub, Int.reduceMul, Nat.reduceLT, Int.reduceToNat]

end Go.Proofs.YtilbipknodpmmaaDoor
/- Of the table: whether volumes may be. -/
set_option linter.unusedVariables false
set_option linter.unusedSimpArgs false
set_option maxRecDepth 100000
set_option maxHeartbeats 8000000
namespace Go.Proofs.YtilbipknodpmmaaDoor
open Go.RowKit

def inB (b : Int) : Bool := decide (1 ≤ b) && decide (b < 12)
def volP (v : Vol) : Bool := goodN v.name && decide (1 ≤ v.blocks.length) && decide (v.blocks.length ≤ 4) && v.blocks.all inB
def allB (vs : List Vol) : List Int := vs.flatMap Vol.blocks
def nmsV (vs : List Vol) : List (List UInt8) := vs.map Vol.name
def goodV (vs : List Vol) : Bool := decide (vs.length ≤ 3) && vs.all volP && decide (nmsV vs).Nodup && decide (allB vs).Nodup
structure GoodP (vs : List Vol) : Prop where
  each : vs.all volP = true
  nms : (nmsV vs).Nodup
  bls : (allB vs).Nodup
theorem goodV_yes {vs : List Vol} (h3 : vs.length ≤ 3) (h : GoodP vs) : goodV vs = true := by
  simp [goodV, h3, h.each, h.nms, h.bls]
theorem goodV_len {vs : List Vol} (h : goodV vs = true) : vs.length ≤ 3 := by
  simp only [goodV, Bool.and_eq_true, decide_eq_true_eq] at h; exact h.1.1.1
theorem goodV_P {vs : List Vol} (h : goodV vs = true) : GoodP vs := by
  simp only [goodV, Bool.and_eq_true, decide_eq_true_eq] at h; exact ⟨h.1.1.2, h.1.2, h.2⟩
theorem goodV_no {vs : List Vol} (h : ¬ GoodP vs) : goodV vs = false := by
  cases hg : goodV vs with
  | true => exact absurd (goodV_P hg) h
  | false => rfl
theorem goodV_long {vs : List Vol} (h : 3 < vs.length) : goodV vs = false := by
  cases hg : goodV vs with
  | true => exact absurd (goodV_len hg) (by omega)
  | false => rfl
theorem GoodP.nil : GoodP [] := ⟨rfl, List.nodup_nil, List.nodup_nil⟩
theorem volP_of {v : Vol} (h1 : goodN v.name = true) (h2 : 1 ≤ v.blocks.length) (h3 : v.blocks.length ≤ 4) (h4 : v.blocks.all inB = true) : volP v = true := by
  simp [volP, h1, h2, h3, h4]
theorem volP_bl {v : Vol} (h : volP v = true) : goodN v.name = true ∧ 1 ≤ v.blocks.length ∧ v.blocks.length ≤ 4 ∧ v.blocks.all inB = true := by
  simp only [volP, Bool.and_eq_true, decide_eq_true_eq] at h
  exact ⟨h.1.1.1, h.1.1.2, h.1.2, h.2⟩
theorem GoodP.at {vs : List Vol} (h : GoodP vs) {i : Nat} (hi : i < vs.length) : volP vs[i] = true := List.all_eq_true.1 h.each _ (List.getElem_mem hi)
theorem allB_take {vs : List Vol} {i : Nat} (h : i < vs.length) : allB (vs.take (i + 1)) = allB (vs.take i) ++ vs[i].blocks := by
  rw [List.take_succ_eq_append_getElem h]; simp only [allB, List.flatMap_append, List.flatMap_cons, List.flatMap_nil, List.append_nil]
theorem nmsV_take {vs : List Vol} {i : Nat} (h : i < vs.length) : nmsV (vs.take (i + 1)) = nmsV (vs.take i) ++ [vs[i].name] := by
  rw [List.take_succ_eq_append_getElem h]; simp only [nmsV, List.map_append, List.map_cons, List.map_nil]
theorem allB_le {vs : List Vol} (h : vs.all volP = true) : (allB vs).length ≤ 4 * vs.length := by
  induction vs with
  | nil => simp [allB]
  | cons v vs ih =>
    simp only [List.all_cons, Bool.and_eq_true] at h
    have := (volP_bl h.1).2.2.1
    have := ih h.2
    simp only [allB, List.flatMap_cons, List.length_append, List.length_cons] at this ⊢
    omega
theorem allB_sub (vs : List Vol) (i : Nat) : ∃ l, allB vs = allB (vs.take i) ++ l := ⟨allB (vs.drop i), by unfold allB; rw [← List.flatMap_append, List.take_append_drop]⟩
theorem isV_self (v : Vol) : isV v.name v = true := by simp [isV]
theorem find_self {vs : List Vol} {i : Nat} (hi : i < vs.length) (hn : noneTo vs[i].name vs i) : findV vs[i].name vs = (i : Nat) := findV_at hi (isV_self _) hn
theorem find_self_nodup {vs : List Vol} {i : Nat} (hi : i < vs.length) (h : (nmsV vs).Nodup) : findV vs[i].name vs = (i : Nat) := by
  refine find_self hi fun j hj hjl => ?_
  have hne := List.pairwise_iff_getElem.1 h j i (by simpa [nmsV] using hjl) (by simpa [nmsV] using hi) hj
  simp only [nmsV, List.getElem_map] at hne
  simp [isV, hne]
theorem find_fresh {vs : List Vol} {i : Nat} (hi : i < vs.length) (hf : findV vs[i].name vs = (i : Nat)) : vs[i].name ∉ nmsV (vs.take i) := by
  intro hm
  obtain ⟨v, hv, he⟩ := List.mem_map.1 hm
  obtain ⟨j, hj, rfl⟩ := List.mem_iff_getElem.1 hv
  have hjt : j < i ∧ j < vs.length := by rw [List.length_take] at hj; omega
  have hlt : vs.findIdx (isV vs[i].name) < vs.length := List.findIdx_lt_length.2 ⟨vs[i], List.getElem_mem hi, isV_self _⟩
  unfold findV at hf
  rw [if_pos hlt] at hf
  have hnot : isV vs[i].name vs[j] = false := by simpa using List.not_of_lt_findIdx (p := isV vs[i].name) (xs := vs) (i := j) (by omega)
  rw [List.getElem_take] at he
  simp [isV, he] at hnot
theorem nodup_snoc {α : Type} {l : List α} {x : α} (h : l.Nodup) (hx : x ∉ l) : (l ++ [x]).Nodup := by
  rw [List.nodup_append]
  exact ⟨h, by simp, fun a ha b hb => by rintro rfl; simp only [List.mem_singleton] at hb; subst hb; exact hx ha⟩

theorem index64_ok (f : Fl) (hf : f ≠ .lit) (xs : List Int) (x : Int) (hl : xs.length < 2 ^ 63) : ∃ r : Int, (0 ≤ r ↔ x ∈ xs) ∧ RC Tryd.prog 76 [.sl f xs.length (il xs), .int .i64 x] [.int .i64 r] := by
  by_cases ha : x ∈ xs
  · refine ⟨(xs.findIdx (fun y => decide (x = y)) : Nat), ⟨fun _ => ha, fun _ => by omega⟩, ?_⟩
    have hlt : xs.findIdx (fun y => decide (x = y)) < xs.length := by
      rw [List.findIdx_lt_length]
      exact ⟨x, ha, by simp⟩
    refine RC.of_wp c76 rfl ?_
    simp -implicitDefEqProofs (maxSteps := 2000000) only [m76_1, m76_2, m76_3, m76_4, m76_5, m76_6, m76_7, m76_8, m76_r, m76_b, m76, wk, act, asV, ↓reduceIte, Nat.reduceEqDiff, reduceCtorEq, Nat.reduceAdd, Nat.reduceLeDiff, Nat.reduceSub, Nat.reduceMul, List.reduceReplicate, Int.reduceEq, Int.reduceLT, Int.reduceLE, Int.reduceAdd, Int.reduceSub, Int.reduceMul, Nat.reduceLT, Int.reduceToNat]
    refine Wp_loop (fun k s => ∃ i, i ≤ xs.findIdx (fun y => decide (x = y)) ∧ k = xs.length - i ∧ s.t 0 = .sl f xs.length (il xs) ∧ s.t 1 = .int .i64 x ∧ s.t 7 = .int .i64 xs.length ∧ s.t 8 = .int .i64 (i : Nat)) xs.length ⟨0, by omega, rfl, rfl, rfl, rfl, rfl⟩ ?_
    rintro k s ⟨i, hi, rfl, h0, h1, h7, h8⟩
    have hil : i < xs.length := by omega
    have hil' : (i : Int) < xs.length := by omega
    by_cases hb : x = xs[i]
    · have hie : xs.findIdx (fun y => decide (x = y)) = i := by
        rw [List.findIdx_eq hil]
        exact ⟨by simpa using hb, fun j hj => by have := List.not_of_lt_findIdx (p := fun y => decide (x = y)) (xs := xs) (i := j) (by omega); simpa using this⟩
      rw [hie]
      have hb' := eq_true hb
      simp -implicitDefEqProofs (maxSteps := 2000000) only [h0, h1, h7, h8, hil', hil, drop_il hil, hb', wk, act, asV, ↓reduceIte, Nat.reduceEqDiff, reduceCtorEq, Nat.reduceAdd, Nat.reduceLeDiff, Nat.reduceSub, Nat.reduceMul, List.reduceReplicate, Int.reduceEq, Int.reduceLT, Int.reduceLE, Int.reduceAdd, Int.reduceSub, Int.reduceMul, Nat.reduceLT, Int.reduceToNat]
    · have hie : i + 1 ≤ xs.findIdx (fun y => decide (x = y)) := by
        rcases Nat.lt_or_ge i (xs.findIdx (fun y => decide (x = y))) with h | h
        · exact h
        · have he : xs.findIdx (fun y => decide (x = y)) = i := by omega
          have h2 : decide (x = xs[xs.findIdx (fun y => decide (x = y))]) = true := List.findIdx_getElem (p := fun y => decide (x = y)) (w := hlt)
          simp only [he] at h2
          exact absurd (by simpa using h2) hb
      have hb' := eq_false hb
      simp -implicitDefEqProofs (maxSteps := 2000000) only [h0, h1, h7, h8, hil', hil, drop_il hil, hb', wrap_nat (show i < 2 ^ 63 - 1 by omega), wk, act, asV, ↓reduceIte, Nat.reduceEqDiff, reduceCtorEq, Nat.reduceAdd, Nat.reduceLeDiff, Nat.reduceSub, Nat.reduceMul, List.reduceReplicate, Int.reduceEq, Int.reduceLT, Int.reduceLE, Int.reduceAdd, Int.reduceSub, Int.reduceMul, Nat.reduceLT, Int.reduceToNat]
      exact ⟨xs.length - (i + 1), by omega, i + 1, by omega, rfl, rfl⟩
  · refine ⟨-1, ⟨fun h => absurd h (by omega), fun h => absurd h ha⟩, ?_⟩
    refine RC.of_wp c76 rfl ?_
    simp -implicitDefEqProofs (maxSteps := 2000000) only [m76_1, m76_2, m76_3, m76_4, m76_5, m76_6, m76_7, m76_8, m76_r, m76_b, m76, wk, act, asV, ↓reduceIte, Nat.reduceEqDiff, reduceCtorEq, Nat.reduceAdd, Nat.reduceLeDiff, Nat.reduceSub, Nat.reduceMul, List.reduceReplicate, Int.reduceEq, Int.reduceLT, Int.reduceLE, Int.reduceAdd, Int.reduceSub, Int.reduceMul, Nat.reduceLT, Int.reduceToNat]
    refine Wp_loop (fun k s => ∃ i, i ≤ xs.length ∧ k = xs.length - i ∧ s.t 0 = .sl f xs.length (il xs) ∧ s.t 1 = .int .i64 x ∧ s.t 7 = .int .i64 xs.length ∧ s.t 8 = .int .i64 (i : Nat)) xs.length ⟨0, by omega, rfl, rfl, rfl, rfl, rfl⟩ ?_
    rintro k s ⟨i, hi, rfl, h0, h1, h7, h8⟩
    by_cases hil : i < xs.length
    · have hil' : (i : Int) < xs.length := by omega
      have hb : ¬ x = xs[i] := fun hb => ha (by rw [hb]; exact List.getElem_mem hil)
      have hb' := eq_false hb
      simp -implicitDefEqProofs (maxSteps := 2000000) only [h0, h1, h7, h8, hil', hil, drop_il hil, hb', wrap_nat (show i < 2 ^ 63 - 1 by omega), wk, act, asV, ↓reduceIte, Nat.reduceEqDiff, reduceCtorEq, Nat.reduceAdd, Nat.reduceLeDiff, Nat.reduceSub, Nat.reduceMul, List.reduceReplicate, Int.reduceEq, Int.reduceLT, Int.reduceLE, Int.reduceAdd, Int.reduceSub, Int.reduceMul, Nat.reduceLT, Int.reduceToNat]
      exact ⟨xs.length - (i + 1), by omega, i + 1, by omega, rfl, rfl⟩
    · have hil' : ¬ (i : Int) < xs.length := by omega
      simp -implicitDefEqProofs (maxSteps := 2000000) only [h0, h1, h7, h8, hil', wk, act, asV, ↓reduceIte, Nat.reduceEqDiff, reduceCtorEq, Nat.reduceAdd, Nat.reduceLeDiff, Nat.reduceSub, Nat.reduceMul, List.reduceReplicate, Int.reduceEq, Int.reduceLT, Int.reduceLE, Int.reduceAdd, Int.reduceSub, Int.reduceMul, Nat.reduceLT, Int.reduceToNat]

theorem contains52_ok (f : Fl) (hf : f ≠ .lit) (xs : List Int) (x : Int) (hl : xs.length < 2 ^ 63) : RC Tryd.prog 65 [.sl f xs.length (il xs), .int .i64 x] [.bool (decide (x ∈ xs))] := by
  obtain ⟨r, hr, c⟩ := index64_ok f hf xs x hl
  refine RC.of_wp c65 rfl ?_
  have hd : decide ((0 : Int) ≤ r) = decide (x ∈ xs) := by simp only [hr]
  cases f with
  | lit => exact absurd rfl hf
  | _ => repeat' (first | simp -implicitDefEqProofs (maxSteps := 2000000) only [m65_1, m65_2, m65_r, m65_b, m65, hd, wk, act, asV, ↓reduceIte, Nat.reduceEqDiff, reduceCtorEq, Nat.reduceAdd, Nat.reduceLeDiff, Nat.reduceSub, Nat.reduceMul, List.reduceReplicate, Int.reduceEq, Int.reduceLT, Int.reduceLE, Int.reduceAdd, Int.reduceSub, Int.reduceMul, Nat.reduceLT, Int.reduceToNat] | ((first | ((with_reducible refine CallL.gate ?_); apply CallL.of) | ((with_reducible refine CallP.gate ?_); apply CallP.of)); (case h1 => (simp -implicitDefEqProofs (maxSteps := 2000000) only [m65_1, m65_2, m65_r, m65_b, m65, hd, wk, act, asV, ↓reduceIte, Nat.reduceEqDiff, reduceCtorEq, Nat.reduceAdd, Nat.reduceLeDiff, Nat.reduceSub, Nat.reduceMul, List.reduceReplicate, Int.reduceEq, Int.reduceLT, Int.reduceLE, Int.reduceAdd, Int.reduceSub, Int.reduceMul, Nat.reduceLT, Int.reduceToNat]; first | done | (with_reducible rfl))); (case h2 => (first | exact c)); (case h3 => simp -implicitDefEqProofs (maxSteps := 2000000) only [m65_1, m65_2, m65_r, m65_b, m65, hd, wk, act, asV, ↓reduceIte, Nat.reduceEqDiff, reduceCtorEq, Nat.reduceAdd, Nat.reduceLeDiff, Nat.reduceSub, Nat.reduceMul, List.reduceReplicate, Int.reduceEq, Int.reduceLT, Int.reduceLE, Int.reduceAdd, Int.reduceSub, Int.reduceMul, Nat.reduceLT, Int.reduceToNat])))
end Go.Proofs.YtilbipknodpmmaaDoor
