/- Names: which are right, their bytes. -/
import Derived.Test.YtkphojcmjffccaaDoorE31
import Derived.Test.YtkphojcmjffccaaDoorM4
import Derived.Test.YtkphojcmjffccaaDoorN1
set_option linter.unusedVariables false
set_option linter.unusedSimpArgs false
set_option maxRecDepth 100000
set_option maxHeartbeats 4000000
namespace Go.Proofs.YtkphojcmjffccaaDoor
open Go.RowKit

/-- a row of strings -/
def sl (l : List (List UInt8)) : List IV := l.map .str
theorem sl_length (l : List (List UInt8)) : (sl l).length = l.length := by simp [sl]
theorem drop_sl {l : List (List UInt8)} {i : Nat} (h : i < l.length) : (sl l).drop i = .str l[i] :: (sl l).drop (i + 1) := by
  rw [List.drop_eq_getElem_cons (by simpa [sl] using h)]; simp [sl]
theorem bl_cons (x : UInt8) (xs : List UInt8) : bl (x :: xs) = .int .u8 (x.toNat : Int) :: bl xs := rfl
def goodN (s : List UInt8) : Bool := decide (1 ≤ s.length) && decide (s.length ≤ 4) && s.all low
theorem all_no {α : Type} {p : α → Bool} {l : List α} {i : Nat} (h : i < l.length) (hp : ¬ p l[i] = true) : l.all p = false := by
  rw [Bool.eq_false_iff]
  intro ha
  exact hp (List.all_eq_true.1 ha _ (List.getElem_mem h))
theorem all_succ {α : Type} {p : α → Bool} {l : List α} {i : Nat} (h : i < l.length) (ha : (l.take i).all p = true) (hp : p l[i] = true) : (l.take (i + 1)).all p = true := by
  rw [List.take_succ_eq_append_getElem h, List.all_append, ha]; simp [hp]

theorem good_ok (f : Fl) (l : List (List UInt8)) (hl : l.length < 2 ^ 63) (hs : ∀ s ∈ l, s.length < 2 ^ 63) : RC Tryd.prog 19 [.sl f l.length (sl l)] [.bool (l.all goodN)] := by
  refine RC.of_wp c19 rfl ?_
  simp -implicitDefEqProofs (maxSteps := 2000000) only [m19_1, m19_2, m19_3, m19_4, m19_5, m19_6, m19_7, m19_8, m19_r, m19_b, m19, wk, act, asV, ↓reduceIte, Nat.reduceEqDiff, reduceCtorEq, Nat.reduceAdd, Nat.reduceLeDiff, Nat.reduceSub, Nat.reduceMul, List.reduceReplicate, Int.reduceEq, Int.reduceLT, Int.reduceLE, Int.reduceAdd, Int.reduceSub, Int.reduceMul, Nat.reduceLT, Int.reduceToNat]
  refine Wp_loop (fun j st => ∃ i, i ≤ l.length ∧ j = l.length - i ∧ st.t 5 = .sl f l.length (sl l) ∧ st.t 6 = .int .i64 (l.length : Nat) ∧ st.t 7 = .int .i64 (i : Nat) ∧ (l.take i).all goodN = true) l.length ⟨0, by omega, rfl, by simp -implicitDefEqProofs (maxSteps := 2000000) only [wk, act, asV, ↓reduceIte, Nat.reduceEqDiff, reduceCtorEq, Nat.reduceAdd, Nat.reduceLeDiff, Nat.reduceSub, Nat.reduceMul, List.reduceReplicate, Int.reduceEq, Int.reduceLT, Int.reduceLE, Int.reduceAdd, Int.reduceSub, Int.reduceMul, Nat.reduceLT, Int.reduceToNat], by simp -implicitDefEqProofs (maxSteps := 2000000) only [wk, act, asV, ↓reduceIte, Nat.reduceEqDiff, reduceCtorEq, Nat.reduceAdd, Nat.reduceLeDiff, Nat.reduceSub, Nat.reduceMul, List.reduceReplicate, Int.reduceEq, Int.reduceLT, Int.reduceLE, Int.reduceAdd, Int.reduceSub, Int.reduceMul, Nat.reduceLT, Int.reduceToNat], by simp -implicitDefEqProofs (maxSteps := 2000000) only [wk, act, asV, ↓reduceIte, Nat.reduceEqDiff, reduceCtorEq, Nat.reduceAdd, Nat.reduceLeDiff, Nat.reduceSub, Nat.reduceMul, List.reduceReplicate, Int.reduceEq, Int.reduceLT, Int.reduceLE, Int.reduceAdd, Int.reduceSub, Int.reduceMul, Nat.reduceLT, Int.reduceToNat], rfl⟩ ?_
  rintro j st ⟨i, hi, rfl, g5, g6, g7, hall⟩
  by_cases hil : i < l.length
  · have hil' : (i : Int) < l.length := by omega
    have hw := wrap_nat (show i < 2 ^ 63 - 1 by omega)
    by_cases h0 : l[i] = []
    · have hg : ¬ goodN l[i] = true := by rw [h0]; decide
      rw [all_no hil hg]
      simp -implicitDefEqProofs (maxSteps := 2000000) only [g5, g6, g7, hil', hil, drop_sl hil, sl_length, h0, wk, act, asV, ↓reduceIte, Nat.reduceEqDiff, reduceCtorEq, Nat.reduceAdd, Nat.reduceLeDiff, Nat.reduceSub, Nat.reduceMul, List.reduceReplicate, Int.reduceEq, Int.reduceLT, Int.reduceLE, Int.reduceAdd, Int.reduceSub, Int.reduceMul, Nat.reduceLT, Int.reduceToNat]
    · have hpos : 0 < l[i].length := List.length_pos_iff.2 h0
      by_cases h4 : (4 : Int) < l[i].length
      · have hg : ¬ goodN l[i] = true := by simp [goodN]; omega
        rw [all_no hil hg]
        simp -implicitDefEqProofs (maxSteps := 2000000) only [g5, g6, g7, hil', hil, drop_sl hil, sl_length, h0, h4, wk, act, asV, ↓reduceIte, Nat.reduceEqDiff, reduceCtorEq, Nat.reduceAdd, Nat.reduceLeDiff, Nat.reduceSub, Nat.reduceMul, List.reduceReplicate, Int.reduceEq, Int.reduceLT, Int.reduceLE, Int.reduceAdd, Int.reduceSub, Int.reduceMul, Nat.reduceLT, Int.reduceToNat]
      · have ct := trim_ok l[i] (hs _ (List.getElem_mem hil))
        simp only [letters] at ct
        by_cases ht : trimS l[i] = []
        · have hg : goodN l[i] = true := by
            have := (trimS_nil _).1 ht
            simp only [goodN, this, Bool.and_true, Bool.and_eq_true, decide_eq_true_eq]
            omega
          have hall' := all_succ hil hall hg
          repeat' (first | simp -implicitDefEqProofs (maxSteps := 2000000) only [g5, g6, g7, hil', hil, drop_sl hil, sl_length, h0, h4, ht, hw, wk, act, asV, ↓reduceIte, Nat.reduceEqDiff, reduceCtorEq, Nat.reduceAdd, Nat.reduceLeDiff, Nat.reduceSub, Nat.reduceMul, List.reduceReplicate, Int.reduceEq, Int.reduceLT, Int.reduceLE, Int.reduceAdd, Int.reduceSub, Int.reduceMul, Nat.reduceLT, Int.reduceToNat] | ((first | ((with_reducible refine CallL.gate ?_); apply CallL.of) | ((with_reducible refine CallP.gate ?_); apply CallP.of)); (case h1 => (simp -implicitDefEqProofs (maxSteps := 2000000) only [g5, g6, g7, hil', hil, drop_sl hil, sl_length, h0, h4, ht, hw, wk, act, asV, ↓reduceIte, Nat.reduceEqDiff, reduceCtorEq, Nat.reduceAdd, Nat.reduceLeDiff, Nat.reduceSub, Nat.reduceMul, List.reduceReplicate, Int.reduceEq, Int.reduceLT, Int.reduceLE, Int.reduceAdd, Int.reduceSub, Int.reduceMul, Nat.reduceLT, Int.reduceToNat]; first | done | (with_reducible rfl))); (case h2 => (first | exact ct)); (case h3 => simp -implicitDefEqProofs (maxSteps := 2000000) only [g5, g6, g7, hil', hil, drop_sl hil, sl_length, h0, h4, ht, hw, wk, act, asV, ↓reduceIte, Nat.reduceEqDiff, reduceCtorEq, Nat.reduceAdd, Nat.reduceLeDiff, Nat.reduceSub, Nat.reduceMul, List.reduceReplicate, Int.reduceEq, Int.reduceLT, Int.reduceLE, Int.reduceAdd, Int.reduceSub, Int.reduceMul, Nat.reduceLT, Int.reduceToNat])))
          exact ⟨l.length - (i + 1), by omega, i + 1, by omega, rfl, rfl, hall'⟩
        · have hg : ¬ goodN l[i] = true := by
            intro h
            simp only [goodN, Bool.and_eq_true] at h
            exact ht ((trimS_nil _).2 h.2)
          rw [all_no hil hg]
          repeat' (first | simp -implicitDefEqProofs (maxSteps := 2000000) only [g5, g6, g7, hil', hil, drop_sl hil, sl_length, h0, h4, ht, hw, wk, act, asV, ↓reduceIte, Nat.reduceEqDiff, reduceCtorEq, Nat.reduceAdd, Nat.reduceLeDiff, Nat.reduceSub, Nat.reduceMul, List.reduceReplicate, Int.reduceEq, Int.reduceLT, Int.reduceLE, Int.reduceAdd, Int.reduceSub, Int.reduceMul, Nat.reduceLT, Int.reduceToNat] | ((first | ((with_reducible refine CallL.gate ?_); apply CallL.of) | ((with_reducible refine CallP.gate ?_); apply CallP.of)); (case h1 => (simp -implicitDefEqProofs (maxSteps := 2000000) only [g5, g6, g7, hil', hil, drop_sl hil, sl_length, h0, h4, ht, hw, wk, act, asV, ↓reduceIte, Nat.reduceEqDiff, reduceCtorEq, Nat.reduceAdd, Nat.reduceLeDiff, Nat.reduceSub, Nat.reduceMul, List.reduceReplicate, Int.reduceEq, Int.reduceLT, Int.reduceLE, Int.reduceAdd, Int.reduceSub, Int.reduceMul, Nat.reduceLT, Int.reduceToNat]; first | done | (with_reducible rfl))); (case h2 => (first | exact ct)); (case h3 => simp -implicitDefEqProofs (maxSteps := 2000000) only [g5, g6, g7, hil', hil, drop_sl hil, sl_length, h0, h4, ht, hw, wk, act, asV, ↓reduceIte, Nat.reduceEqDiff, reduceCtorEq, Nat.reduceAdd, Nat.reduceLeDiff, Nat.reduceSub, Nat.reduceMul, List.reduceReplicate, Int.reduceEq, Int.reduceLT, Int.reduceLE, Int.reduceAdd, Int.reduceSub, Int.reduceMul, Nat.reduceLT, Int.reduceToNat])))
  · have hie : i = l.length := by omega
    subst hie
    rw [List.take_length] at hall
    rw [hall]
    simp -implicitDefEqProofs (maxSteps := 2000000) only [g5, g6, g7, Int.lt_irrefl, wk, act, asV, ↓reduceIte, Nat.reduceEqDiff, reduceCtorEq, Nat.reduceAdd, Nat.reduceLeDiff, Nat.reduceSub, Nat.reduceMul, List.reduceReplicate, Int.reduceEq, Int.reduceLT, Int.reduceLE, Int.reduceAdd, Int.reduceSub, Int.reduceMul, Nat.reduceLT, Int.reduceToNat]

theorem rgood_ok (f : Fl) (l : List (List UInt8)) (hl : l.length < 2 ^ 63) : RC Tryd.prog 28 [.sl f l.length (sl l)] [.bool (l.all goodN)] := by
  refine RC.of_wp c28 rfl ?_
  simp -implicitDefEqProofs (maxSteps := 2000000) only [m28_1, m28_2, m28_3, m28_4, m28_5, m28_6, m28_7, m28_8, m28_9, m28_10, m28_r, m28_b, m28, wk, act, asV, ↓reduceIte, Nat.reduceEqDiff, reduceCtorEq, Nat.reduceAdd, Nat.reduceLeDiff, Nat.reduceSub, Nat.reduceMul, List.reduceReplicate, Int.reduceEq, Int.reduceLT, Int.reduceLE, Int.reduceAdd, Int.reduceSub, Int.reduceMul, Nat.reduceLT, Int.reduceToNat]
  refine Wp_loop (fun j st => ∃ i, i ≤ l.length ∧ j = l.length - i ∧ st.t 0 = .sl f l.length (sl l) ∧ st.t 3 = .int .i64 (i : Nat) ∧ (l.take i).all goodN = true) l.length ⟨0, by omega, rfl, by simp -implicitDefEqProofs (maxSteps := 2000000) only [wk, act, asV, ↓reduceIte, Nat.reduceEqDiff, reduceCtorEq, Nat.reduceAdd, Nat.reduceLeDiff, Nat.reduceSub, Nat.reduceMul, List.reduceReplicate, Int.reduceEq, Int.reduceLT, Int.reduceLE, Int.reduceAdd, Int.reduceSub, Int.reduceMul, Nat.reduceLT, Int.reduceToNat], by simp -implicitDefEqProofs (maxSteps := 2000000) only [wk, act, asV, ↓reduceIte, Nat.reduceEqDiff, reduceCtorEq, Nat.reduceAdd, Nat.reduceLeDiff, Nat.reduceSub, Nat.reduceMul, List.reduceReplicate, Int.reduceEq, Int.reduceLT, Int.reduceLE, Int.reduceAdd, Int.reduceSub, Int.reduceMul, Nat.reduceLT, Int.reduceToNat], rfl⟩ ?_
  rintro j st ⟨i, hi, rfl, g0, g3, hall⟩
  by_cases hil : i < l.length
  · have hil' : (i : Int) < l.length := by omega
    have hw := wrap_nat (show i < 2 ^ 63 - 1 by omega)
    by_cases h1 : (l[i].length : Int) < 1
    · have hg : ¬ goodN l[i] = true := by simp only [goodN, Bool.and_eq_true, decide_eq_true_eq]; omega
      rw [all_no hil hg]
      simp -implicitDefEqProofs (maxSteps := 2000000) only [g0, g3, hil', hil, drop_sl hil, sl_length, h1, wk, act, asV, ↓reduceIte, Nat.reduceEqDiff, reduceCtorEq, Nat.reduceAdd, Nat.reduceLeDiff, Nat.reduceSub, Nat.reduceMul, List.reduceReplicate, Int.reduceEq, Int.reduceLT, Int.reduceLE, Int.reduceAdd, Int.reduceSub, Int.reduceMul, Nat.reduceLT, Int.reduceToNat]
    · by_cases h4 : (4 : Int) < l[i].length
      · have hg : ¬ goodN l[i] = true := by simp only [goodN, Bool.and_eq_true, decide_eq_true_eq]; omega
        rw [all_no hil hg]
        simp -implicitDefEqProofs (maxSteps := 2000000) only [g0, g3, hil', hil, drop_sl hil, sl_length, h1, h4, wk, act, asV, ↓reduceIte, Nat.reduceEqDiff, reduceCtorEq, Nat.reduceAdd, Nat.reduceLeDiff, Nat.reduceSub, Nat.reduceMul, List.reduceReplicate, Int.reduceEq, Int.reduceLT, Int.reduceLE, Int.reduceAdd, Int.reduceSub, Int.reduceMul, Nat.reduceLT, Int.reduceToNat]
      · obtain ⟨s, hs⟩ : ∃ s, s = l[i] := ⟨_, rfl⟩
        have hd := drop_sl hil
        rw [← hs] at h1 h4 hd
        simp -implicitDefEqProofs (maxSteps := 2000000) only [g0, g3, hil', hil, hd, sl_length, h1, h4, wk, act, asV, ↓reduceIte, Nat.reduceEqDiff, reduceCtorEq, Nat.reduceAdd, Nat.reduceLeDiff, Nat.reduceSub, Nat.reduceMul, List.reduceReplicate, Int.reduceEq, Int.reduceLT, Int.reduceLE, Int.reduceAdd, Int.reduceSub, Int.reduceMul, Nat.reduceLT, Int.reduceToNat]
        refine Wp_loop (fun j st => ∃ k, k ≤ s.length ∧ j = s.length - k ∧ st.t 0 = .sl f l.length (sl l) ∧ st.t 3 = .int .i64 (i : Nat) ∧ st.t 4 = .int .i64 (k : Nat) ∧ (s.take k).all low = true) s.length ⟨0, by omega, rfl, by simp -implicitDefEqProofs (maxSteps := 2000000) only [g0, wk, act, asV, ↓reduceIte, Nat.reduceEqDiff, reduceCtorEq, Nat.reduceAdd, Nat.reduceLeDiff, Nat.reduceSub, Nat.reduceMul, List.reduceReplicate, Int.reduceEq, Int.reduceLT, Int.reduceLE, Int.reduceAdd, Int.reduceSub, Int.reduceMul, Nat.reduceLT, Int.reduceToNat], by simp -implicitDefEqProofs (maxSteps := 2000000) only [g3, wk, act, asV, ↓reduceIte, Nat.reduceEqDiff, reduceCtorEq, Nat.reduceAdd, Nat.reduceLeDiff, Nat.reduceSub, Nat.reduceMul, List.reduceReplicate, Int.reduceEq, Int.reduceLT, Int.reduceLE, Int.reduceAdd, Int.reduceSub, Int.reduceMul, Nat.reduceLT, Int.reduceToNat], by simp -implicitDefEqProofs (maxSteps := 2000000) only [wk, act, asV, ↓reduceIte, Nat.reduceEqDiff, reduceCtorEq, Nat.reduceAdd, Nat.reduceLeDiff, Nat.reduceSub, Nat.reduceMul, List.reduceReplicate, Int.reduceEq, Int.reduceLT, Int.reduceLE, Int.reduceAdd, Int.reduceSub, Int.reduceMul, Nat.reduceLT, Int.reduceToNat], rfl⟩ ?_
        rintro j st ⟨k, hk, rfl, g0, g3, g4, hlow⟩
        by_cases hks : k < s.length
        · have hks' : (k : Int) < s.length := by omega
          have hwk := wrap_nat (show k < 2 ^ 63 - 1 by omega)
          have hgd : s.getD k 0 = s[k] := by simp [List.getD, hks]
          by_cases ha : (s[k].toNat : Int) < 97
          · have hg : ¬ goodN l[i] = true := by
              rw [← hs]
              intro h
              simp only [goodN, Bool.and_eq_true] at h
              have := List.all_eq_true.1 h.2 _ (List.getElem_mem hks)
              simp only [low, Bool.and_eq_true, decide_eq_true_eq] at this
              omega
            rw [all_no hil hg]
            simp -implicitDefEqProofs (maxSteps := 2000000) only [g0, g3, g4, hil', hil, hd, sl_length, hks', hgd, ha, wk, act, asV, ↓reduceIte, Nat.reduceEqDiff, reduceCtorEq, Nat.reduceAdd, Nat.reduceLeDiff, Nat.reduceSub, Nat.reduceMul, List.reduceReplicate, Int.reduceEq, Int.reduceLT, Int.reduceLE, Int.reduceAdd, Int.reduceSub, Int.reduceMul, Nat.reduceLT, Int.reduceToNat]
          · by_cases hz : (122 : Int) < (s[k].toNat : Int)
            · have hg : ¬ goodN l[i] = true := by
                rw [← hs]
                intro h
                simp only [goodN, Bool.and_eq_true] at h
                have := List.all_eq_true.1 h.2 _ (List.getElem_mem hks)
                simp only [low, Bool.and_eq_true, decide_eq_true_eq] at this
                omega
              rw [all_no hil hg]
              simp -implicitDefEqProofs (maxSteps := 2000000) only [g0, g3, g4, hil', hil, hd, sl_length, hks', hgd, ha, hz, wk, act, asV, ↓reduceIte, Nat.reduceEqDiff, reduceCtorEq, Nat.reduceAdd, Nat.reduceLeDiff, Nat.reduceSub, Nat.reduceMul, List.reduceReplicate, Int.reduceEq, Int.reduceLT, Int.reduceLE, Int.reduceAdd, Int.reduceSub, Int.reduceMul, Nat.reduceLT, Int.reduceToNat]
            · have hl' := all_succ hks hlow (show low s[k] = true by simp only [low, Bool.and_eq_true, decide_eq_true_eq]; omega)
              simp -implicitDefEqProofs (maxSteps := 2000000) only [g0, g3, g4, hil', hil, hd, sl_length, hks', hgd, ha, hz, hwk, wk, act, asV, ↓reduceIte, Nat.reduceEqDiff, reduceCtorEq, Nat.reduceAdd, Nat.reduceLeDiff, Nat.reduceSub, Nat.reduceMul, List.reduceReplicate, Int.reduceEq, Int.reduceLT, Int.reduceLE, Int.reduceAdd, Int.reduceSub, Int.reduceMul, Nat.reduceLT, Int.reduceToNat]
              exact ⟨s.length - (k + 1), by omega, k + 1, by omega, rfl, rfl, hl'⟩
        · have hke : k = s.length := by omega
          subst hke
          rw [List.take_length] at hlow
          have hg : goodN l[i] = true := by
            rw [← hs]
            simp only [goodN, hlow, Bool.and_true, Bool.and_eq_true, decide_eq_true_eq]
            omega
          have hall' := all_succ hil hall hg
          simp -implicitDefEqProofs (maxSteps := 2000000) only [g0, g3, g4, hil', hil, hd, sl_length, Int.lt_irrefl, hw, wk, act, asV, ↓reduceIte, Nat.reduceEqDiff, reduceCtorEq, Nat.reduceAdd, Nat.reduceLeDiff, Nat.reduceSub, Nat.reduceMul, List.reduceReplicate, Int.reduceEq, Int.reduceLT, Int.reduceLE, Int.reduceAdd, Int.reduceSub, Int.reduceMul, Nat.reduceLT, Int.reduceToNat]
          exact ⟨l.length - (i + 1), by omega, i + 1, by omega, rfl, rfl, hall'⟩
  · have hie : i = l.length := by omega
    subst hie
    rw [List.take_length] at hall
    rw [hall]
    simp -implicitDefEqProofs (maxSteps := 2000000) only [g0, g3, Int.lt_irrefl, wk, act, asV, ↓reduceIte, Nat.reduceEqDiff, reduceCtorEq, Nat.reduceAdd, Nat.reduceLeDiff, Nat.reduceSub, Nat.reduceMul, List.reduceReplicate, Int.reduceEq, Int.reduceLT, Int.reduceLE, Int.reduceAdd, Int.reduceSub, Int.reduceMul, Nat.reduceLT, Int.reduceToNat]

/-! ### the four bytes -/
def pad4 (s : List UInt8) : List UInt8 := (s ++ [0, 0, 0, 0]).take 4
theorem pad4_length (s : List UInt8) : (pad4 s).length = 4 := by simp [pad4]
theorem zero4 : [IV.int .u8 0, .int .u8 0, .int .u8 0, .int .u8 0] = bl (pad4 []) := rfl
theorem pad4_eq (s : List UInt8) : pad4 s = s.take (min s.length 4) ++ [0, 0, 0, 0].drop (min s.length 4) := by
  match s with
  | [] => rfl
  | [a] => rfl
  | [a, b] => rfl
  | [a, b, c] => rfl
  | a :: b :: c :: d :: s =>
    have : min (a :: b :: c :: d :: s).length 4 = 4 := by simp
    rw [this]
    simp [pad4]
theorem pad_cells (s : List UInt8) : List.take (min s.length 4) (bytesV s) ++ List.drop (min s.length 4) [IV.int .u8 0, .int .u8 0, .int .u8 0, .int .u8 0] = bl (pad4 s) := by
  rw [pad4_eq, bl_append]
  congr 1
  · rw [← bl_take]; rfl
  · rw [← bl_drop]; rfl
theorem bl_take4 {b : List UInt8} (h : b.length = 4) : List.take 4 (bl b) = bl b := List.take_of_length_le (by rw [bl_length]; omega)
theorem bl_drop4 {b : List UInt8} (h : b.length = 4) : List.drop 4 (bl b) = [] := List.drop_of_length_le (by rw [bl_length]; omega)

theorem pad_ok (s : List UInt8) (hs : s.length < 2 ^ 63) : RC Tryd.prog 20 [.str s] [.agg (bl (pad4 s))] := by
  refine RC.of_wp c20 rfl ?_
  have h4 := pad4_length s
  simp -implicitDefEqProofs (maxSteps := 2000000) only [m20_1, m20_2, m20_3, m20_r, m20_b, m20, Nat.min_le_right, pad_cells s, bl_take4 h4, bl_drop4 h4, bl_length, h4, bl_scal, wk, act, asV, ↓reduceIte, Nat.reduceEqDiff, reduceCtorEq, Nat.reduceAdd, Nat.reduceLeDiff, Nat.reduceSub, Nat.reduceMul, List.reduceReplicate, Int.reduceEq, Int.reduceLT, Int.reduceLE, Int.reduceAdd, Int.reduceSub, Int.reduceMul, Nat.reduceLT, Int.reduceToNat]

theorem pad4_set {s : List UInt8} {i : Nat} (h : i < s.length) (h4 : i < 4) : List.take i (bl (pad4 (s.take i))) ++ [IV.int .u8 (s[i].toNat : Int)] ++ List.drop (i + 1) (bl (pad4 (s.take i))) = bl (pad4 (s.take (i + 1))) := by
  have e : pad4 (s.take (i + 1)) = (pad4 (s.take i)).set i s[i] := by
    rcases (show i = 0 ∨ i = 1 ∨ i = 2 ∨ i = 3 by omega) with rfl | rfl | rfl | rfl
    · match s, h with
      | a :: s, _ => rfl
    · match s, h with
      | a :: b :: s, _ => rfl
    · match s, h with
      | a :: b :: c :: s, _ => rfl
    · match s, h with
      | a :: b :: c :: d :: s, _ => rfl
  rw [e, List.set_eq_take_append_cons_drop, if_pos (by rw [pad4_length]; exact h4), bl_append, bl_cons, bl_take, bl_drop]
  simp

theorem rpad_ok (s : List UInt8) (hs : s.length < 2 ^ 63) : RC Tryd.prog 29 [.str s] [.agg (bl (pad4 s))] := by
  refine RC.of_wp c29 rfl ?_
  have h4 := pad4_length
  simp -implicitDefEqProofs (maxSteps := 2000000) only [m29_1, m29_2, m29_3, m29_4, m29_5, m29_6, m29_r, m29_b, m29, zero4, wk, act, asV, ↓reduceIte, Nat.reduceEqDiff, reduceCtorEq, Nat.reduceAdd, Nat.reduceLeDiff, Nat.reduceSub, Nat.reduceMul, List.reduceReplicate, Int.reduceEq, Int.reduceLT, Int.reduceLE, Int.reduceAdd, Int.reduceSub, Int.reduceMul, Nat.reduceLT, Int.reduceToNat]
  refine Wp_loop (fun j st => ∃ i, i ≤ 4 ∧ i ≤ s.length ∧ j = 4 - i ∧ st.t 0 = .str s ∧ st.t 4 = .int .i64 (i : Nat) ∧ (∃ ver, st.t 3 = .ptr 3 0 ver ∧ st.h 3 = ⟨ver, true, true, false, bl (pad4 (s.take i))⟩) ∧ ∃ ver, st.t 2 = .ptr 2 0 ver ∧ st.h 2 = ⟨ver, true, true, false, bl (pad4 [])⟩) 4 ⟨0, by omega, by omega, rfl, by simp -implicitDefEqProofs (maxSteps := 2000000) only [wk, act, asV, ↓reduceIte, Nat.reduceEqDiff, reduceCtorEq, Nat.reduceAdd, Nat.reduceLeDiff, Nat.reduceSub, Nat.reduceMul, List.reduceReplicate, Int.reduceEq, Int.reduceLT, Int.reduceLE, Int.reduceAdd, Int.reduceSub, Int.reduceMul, Nat.reduceLT, Int.reduceToNat], by simp -implicitDefEqProofs (maxSteps := 2000000) only [wk, act, asV, ↓reduceIte, Nat.reduceEqDiff, reduceCtorEq, Nat.reduceAdd, Nat.reduceLeDiff, Nat.reduceSub, Nat.reduceMul, List.reduceReplicate, Int.reduceEq, Int.reduceLT, Int.reduceLE, Int.reduceAdd, Int.reduceSub, Int.reduceMul, Nat.reduceLT, Int.reduceToNat], ⟨_, by simp -implicitDefEqProofs (maxSteps := 2000000) only [wk, act, asV, ↓reduceIte, Nat.reduceEqDiff, reduceCtorEq, Nat.reduceAdd, Nat.reduceLeDiff, Nat.reduceSub, Nat.reduceMul, List.reduceReplicate, Int.reduceEq, Int.reduceLT, Int.reduceLE, Int.reduceAdd, Int.reduceSub, Int.reduceMul, Nat.reduceLT, Int.reduceToNat]; first | done | rfl, by simp -implicitDefEqProofs (maxSteps := 2000000) only [wk, act, asV, ↓reduceIte, Nat.reduceEqDiff, reduceCtorEq, Nat.reduceAdd, Nat.reduceLeDiff, Nat.reduceSub, Nat.reduceMul, List.reduceReplicate, Int.reduceEq, Int.reduceLT, Int.reduceLE, Int.reduceAdd, Int.reduceSub, Int.reduceMul, Nat.reduceLT, Int.reduceToNat]; first | done | rfl⟩, _, by simp -implicitDefEqProofs (maxSteps := 2000000) only [wk, act, asV, ↓reduceIte, Nat.reduceEqDiff, reduceCtorEq, Nat.reduceAdd, Nat.reduceLeDiff, Nat.reduceSub, Nat.reduceMul, List.reduceReplicate, Int.reduceEq, Int.reduceLT, Int.reduceLE, Int.reduceAdd, Int.reduceSub, Int.reduceMul, Nat.reduceLT, Int.reduceToNat]; first | done | rfl, by simp -implicitDefEqProofs (maxSteps := 2000000) only [wk, act, asV, ↓reduceIte, Nat.reduceEqDiff, reduceCtorEq, Nat.reduceAdd, Nat.reduceLeDiff, Nat.reduceSub, Nat.reduceMul, List.reduceReplicate, Int.reduceEq, Int.reduceLT, Int.reduceLE, Int.reduceAdd, Int.reduceSub, Int.reduceMul, Nat.reduceLT, Int.reduceToNat]; first | done | rfl⟩ ?_
  rintro j st ⟨i, hi, his, rfl, g0, g4, ⟨ver, g3, gh⟩, ver2, g2, gh2⟩
  by_cases hi4 : i < 4
  · have hi4' : (i : Int) < 4 := by omega
    by_cases hil : i < s.length
    · have hil' : (i : Int) < s.length := by omega
      have hw := wrap_nat (show i < 2 ^ 63 - 1 by omega)
      have hgd : s.getD i 0 = s[i] := by simp [List.getD, hil]
      have hi5 : i + 1 ≤ 4 := hi4
      simp -implicitDefEqProofs (maxSteps := 2000000) only [g0, g2, g3, g4, gh, gh2, hi4', hil', hw, hgd, hi5, h4, bl_length, pad4_set hil hi4, wk, act, asV, ↓reduceIte, Nat.reduceEqDiff, reduceCtorEq, Nat.reduceAdd, Nat.reduceLeDiff, Nat.reduceSub, Nat.reduceMul, List.reduceReplicate, Int.reduceEq, Int.reduceLT, Int.reduceLE, Int.reduceAdd, Int.reduceSub, Int.reduceMul, Nat.reduceLT, Int.reduceToNat]
      exact ⟨4 - (i + 1), by omega, i + 1, by omega, by omega, rfl, rfl, ⟨_, rfl, rfl⟩, _, rfl, rfl⟩
    · have hie : i = s.length := by omega
      subst hie
      rw [List.take_length] at gh
      simp -implicitDefEqProofs (maxSteps := 2000000) only [g0, g2, g3, g4, gh, gh2, hi4', Int.lt_irrefl, h4, bl_length, bl_take4 (h4 s), bl_drop4 (h4 []), bl_scal, wk, act, asV, ↓reduceIte, Nat.reduceEqDiff, reduceCtorEq, Nat.reduceAdd, Nat.reduceLeDiff, Nat.reduceSub, Nat.reduceMul, List.reduceReplicate, Int.reduceEq, Int.reduceLT, Int.reduceLE, Int.reduceAdd, Int.reduceSub, Int.reduceMul, Nat.reduceLT, Int.reduceToNat]
  · have hie : i = 4 := by omega
    subst hie
    have e : pad4 (s.take 4) = pad4 s := by
      match s, his with
      | a :: b :: c :: d :: s, _ => rfl
    rw [e] at gh
    simp -implicitDefEqProofs (maxSteps := 2000000) only [g0, g2, g3, g4, gh, gh2, Int.lt_irrefl, h4, bl_length, bl_take4 (h4 s), bl_drop4 (h4 []), bl_scal, wk, act, asV, ↓reduceIte, Nat.reduceEqDiff, reduceCtorEq, Nat.reduceAdd, Nat.reduceLeDiff, Nat.reduceSub, Nat.reduceMul, List.reduceReplicate, Int.reduceEq, Int.reduceLT, Int.reduceLE, Int.reduceAdd, Int.reduceSub, Int.reduceMul, Nat.reduceLT, Int.reduceToNat]
end Go.Proofs.YtkphojcmjffccaaDoor
/- Names: the name of four bytes. -/

set_option linter.unusedVariables false
set_option linter.unusedSimpArgs false
set_option maxRecDepth 100000
set_option maxHeartbeats 4000000
namespace Go.Proofs.YtkphojcmjffccaaDoor
open Go.RowKit

theorem bytes_back {f : IV → Option UInt8} (hf : ∀ b : UInt8, f (.int .u8 (b.toNat : Int)) = some b) (xs : List UInt8) : (bl xs).mapM f = some xs := by
  induction xs with
  | nil => rfl
  | cons x xs ih =>
    rw [show bl (x :: xs) = .int .u8 (x.toNat : Int) :: bl xs from rfl, List.mapM_cons, ih, hf]
    rfl
theorem eqL_bl : ∀ (x y : List UInt8), x.length = y.length → eqL (bl x) (bl y) = some (decide (x = y))
  | [], [], _ => by simp [bl, eqL]
  | a :: x, b :: y, h => by
    have ih := eqL_bl x y (by simpa using h)
    rw [bl_cons, bl_cons]
    simp only [eqL, eqC, if_true, ih]
    congr 1
    by_cases h1 : a = b
    · subst h1; simp
    · have : ¬ ((a.toNat : Nat) : Int) = (b.toNat : Nat) := by intro e; exact h1 (UInt8.toNat_inj.1 (by omega))
      simp [h1, this]
  | [], b :: y, h => by simp at h
  | a :: x, [], h => by simp at h
theorem fitR_bl {x : List UInt8} {n : Nat} (h : x.length = n) : fitR [(n, .i)] (bl x) = true := by
  simp only [fitR, bl_length, h, Nat.le_refl, decide_true, Bool.true_and]
  have e1 : List.take n (bl x) = bl x := List.take_of_length_le (by rw [bl_length]; omega)
  have e2 : List.drop n (bl x) = [] := List.drop_of_length_le (by rw [bl_length]; omega)
  rw [e1, e2]
  simp [bl, CK.fit]

def isZ (b : UInt8) : Bool := decide (b = 0)
/-- the name of four bytes, if there is one -/
def cutN (b : List UInt8) : Option (List UInt8) := if trimR isZ b = [] ∨ goodN (trimR isZ b) = true then some (trimR isZ b) else none
def cutS (b : List UInt8) : List UInt8 := (cutN b).getD []
def cutO (b : List UInt8) : Bool := (cutN b).isSome
theorem low_ne {x : UInt8} (h : low x = true) : x ≠ 0 := by rintro rfl; exact absurd h (by decide)

/-- by the first zero -/
theorem cut_first {b : List UInt8} (hb : b.length = 4) {i : Nat} (hi : i ≤ 4) (hn : ∀ x ∈ b.take i, x ≠ 0) (hz : i < 4 → b[i]? = some 0) :
    cutN b = if pad4 (b.take i) = b ∧ (i = 0 ∨ goodN (b.take i) = true) then some (b.take i) else none := by
  match b, hb with
  | [b0, b1, b2, b3], _ =>
    have hl0 : low 0 = false := by decide
    rcases (show i = 0 ∨ i = 1 ∨ i = 2 ∨ i = 3 ∨ i = 4 by omega) with rfl | rfl | rfl | rfl | rfl
    · have e0 : b0 = 0 := by have := hz (by omega); simpa using this
      subst e0
      by_cases h3 : b3 = 0
      · by_cases h2 : b2 = 0
        · by_cases h1 : b1 = 0
          · simp [cutN, trimR, isZ, pad4, h1, h2, h3]
          · simp [cutN, trimR, isZ, pad4, goodN, h1, h2, h3, hl0, Ne.symm h1]
        · simp [cutN, trimR, isZ, pad4, goodN, h2, h3, hl0, Ne.symm h2]
      · simp [cutN, trimR, isZ, pad4, goodN, h3, hl0, Ne.symm h3]
    · have e0 : b1 = 0 := by have := hz (by omega); simpa using this
      subst e0
      have n0 : b0 ≠ 0 := hn b0 (by simp)
      by_cases h3 : b3 = 0
      · by_cases h2 : b2 = 0
        · simp [cutN, trimR, isZ, pad4, goodN, h2, h3, n0]
        · simp [cutN, trimR, isZ, pad4, goodN, h2, h3, hl0, Ne.symm h2]
      · simp [cutN, trimR, isZ, pad4, goodN, h3, hl0, Ne.symm h3]
    · have e0 : b2 = 0 := by have := hz (by omega); simpa using this
      subst e0
      have n1 : b1 ≠ 0 := hn b1 (by simp)
      by_cases h3 : b3 = 0
      · simp [cutN, trimR, isZ, pad4, goodN, h3, n1]
      · simp [cutN, trimR, isZ, pad4, goodN, h3, hl0, Ne.symm h3]
    · have e0 : b3 = 0 := by have := hz (by omega); simpa using this
      subst e0
      have n2 : b2 ≠ 0 := hn b2 (by simp)
      simp [cutN, trimR, isZ, pad4, goodN, n2]
    · have n3 : b3 ≠ 0 := hn b3 (by simp)
      simp [cutN, trimR, isZ, pad4, goodN, n3]

end Go.Proofs.YtkphojcmjffccaaDoor
/- Names: plain laws; plain. -/
set_option linter.unusedVariables false
set_option linter.unusedSimpArgs false
set_option maxRecDepth 100000
set_option maxHeartbeats 4000000
namespace Go.Proofs.YtkphojcmjffccaaDoor
open Go.RowKit

theorem pad4_trim {b : List UInt8} (hb : b.length = 4) : pad4 (trimR isZ b) = b := by
  match b, hb with
  | [b0, b1, b2, b3], _ =>
    by_cases h3 : b3 = 0
    · by_cases h2 : b2 = 0
      · by_cases h1 : b1 = 0
        · by_cases h0 : b0 = 0
          · simp [trimR, isZ, pad4, h0, h1, h2, h3]
          · simp [trimR, isZ, pad4, h0, h1, h2, h3]
        · simp [trimR, isZ, pad4, h1, h2, h3]
      · simp [trimR, isZ, pad4, h2, h3]
    · simp [trimR, isZ, pad4, h3]
theorem cutN_some {b s : List UInt8} (hb : b.length = 4) (h : cutN b = some s) : pad4 s = b ∧ (s = [] ∨ goodN s = true) ∧ s.length ≤ 4 := by
  unfold cutN at h
  split at h
  · rename_i hc
    injection h with h
    subst h
    exact ⟨pad4_trim hb, hc, by have := trimR_le isZ b; omega⟩
  · cases h
theorem trim_pad {s : List UInt8} (h : goodN s = true) : trimR isZ (pad4 s) = s := by
  simp only [goodN, Bool.and_eq_true, decide_eq_true_eq] at h
  obtain ⟨⟨h1, h2⟩, h3⟩ := h
  have hz : ∀ x ∈ s, x ≠ 0 := fun x hx => low_ne (List.all_eq_true.1 h3 x hx)
  match s with
  | [] => simp at h1
  | [a] => have := hz a (by simp); simp [trimR, isZ, pad4, this]
  | [a, b] => have := hz b (by simp); simp [trimR, isZ, pad4, this]
  | [a, b, c] => have := hz c (by simp); simp [trimR, isZ, pad4, this]
  | [a, b, c, d] => have := hz d (by simp); simp [trimR, isZ, pad4, this]
  | a :: b :: c :: d :: e :: s => simp at h2
theorem cutN_pad {s : List UInt8} (h : goodN s = true) : cutN (pad4 s) = some s := by
  unfold cutN
  rw [trim_pad h, if_pos (.inr h)]
theorem cutS_le {b : List UInt8} (hb : b.length = 4) : (cutS b).length ≤ 4 := by
  unfold cutS
  cases h : cutN b with
  | none => simp
  | some s => exact (cutN_some hb h).2.2
end Go.Proofs.YtkphojcmjffccaaDoor
