/- H behind 64 bytes, by the program. -/
import Derived.Test.YtlbilkldjhhopaaS3
import Derived.Test.YtlbilkldjhhopaaE31
import Derived.Test.YtlbilkldjhhopaaM7
set_option linter.unusedSectionVars false
set_option linter.unusedVariables false
set_option linter.unusedSimpArgs false
set_option maxRecDepth 100000
set_option maxHeartbeats 8000000
namespace Go.Proofs.Ytlbilkldjhhopaa
open Go.RowKit

theorem addTo_length (L h : List UInt32) (i : Nat) : (addTo L h i).length = 8 := by simp [addTo]
theorem addTo_get (L h : List UInt32) (i : Nat) {j : Nat} (hj : j < 8) : (addTo L h i).getD j 0 = if j < i then L.getD j 0 + h.getD j 0 else L.getD j 0 := by
  simp [addTo, List.getD, hj]
theorem addTo_zero {L : List UInt32} (h : List UInt32) (hl : L.length = 8) : addTo L h 0 = L := by
  apply List.ext_getElem
  · rw [addTo_length, hl]
  · intro j h1 h2
    simp [addTo, List.getD, h2]
theorem addTo_set (L h : List UInt32) {i : Nat} (hi : i < 8) : (addTo L h i).set i (L.getD i 0 + h.getD i 0) = addTo L h (i + 1) := by
  apply List.ext_getElem
  · rw [List.length_set, addTo_length, addTo_length]
  · intro j h1 h2
    rw [addTo_length] at h2
    rw [List.getElem_set]
    split
    · rename_i e; subst e; simp [addTo]
    · rename_i hne
      simp only [addTo, List.getElem_map, List.getElem_range]
      by_cases hj : j < i
      · rw [if_pos hj, if_pos (by omega)]
      · rw [if_neg hj, if_neg (by omega)]
theorem H8.l_length (v : H8) : v.l.length = 8 := rfl

theorem turn_add (hs : H8) (L : List UInt32) (hL : L.length = 8) {v2 : Nat} (Q : Ex → St → Prop) (s1 : St)
    (q1 : ∀ s2 : St, s2.t 4 = s1.t 4 → s2.h 4 = s1.h 4 → (∃ v6, s2.t 6 = .ptr 6 0 v6 ∧ s2.h 6 = ⟨v6, true, true, false, wl (addTo L hs.l 8)⟩) → Q (.exit 2) s2)
    (k2 : s1.t 2 = .ptr 2 0 v2) (kh2 : s1.h 2 = ⟨v2, true, true, false, wl hs.l⟩) (k6 : ∃ v6, s1.t 6 = .ptr 6 0 v6 ∧ s1.h 6 = ⟨v6, true, true, false, wl L⟩) (k87 : s1.t 87 = .int .i64 0) :
    Wp (RCs Try.prog) (.loop m20_14) Q s1 := by
  refine Wp_loop (fun m s => ∃ i, i ≤ 8 ∧ m = 8 - i ∧ s.t 2 = .ptr 2 0 v2 ∧ s.h 2 = ⟨v2, true, true, false, wl hs.l⟩ ∧ s.t 4 = s1.t 4 ∧ s.h 4 = s1.h 4 ∧ s.t 87 = .int .i64 i ∧ ∃ v6, s.t 6 = .ptr 6 0 v6 ∧ s.h 6 = ⟨v6, true, true, false, wl (addTo L hs.l i)⟩) 8 ⟨0, by omega, rfl, k2, kh2, rfl, rfl, k87, by rw [addTo_zero _ hL]; exact k6⟩ ?_
  clear k2 kh2 k6 k87
  rintro m s ⟨i, hi, rfl, k2, kh2, k4, kh4, k87, v6, k6, kh6⟩
  by_cases hi8 : i < 8
  · have hi8' : (i : Int) < 8 := by omega
    have hi7 : i ≤ 7 := by omega
    have a1 := at_wl (xs := addTo L hs.l i) (k := i) (by rw [addTo_length]; exact hi8)
    rw [addTo_get _ _ _ hi8, if_neg (Nat.lt_irrefl i)] at a1
    have a2 := at_wl (xs := hs.l) (k := i) (by rw [H8.l_length]; exact hi8)
    have d := w_add (L.getD i 0) (hs.l.getD i 0)
    have st := set_wl (xs := addTo L hs.l i) (k := i) (by rw [addTo_length]; exact hi8) (L.getD i 0 + hs.l.getD i 0)
    rw [addTo_set _ _ hi8] at st
    have l1 : (wl (addTo L hs.l i)).length = 8 := by rw [wl_length, addTo_length]
    have l2 : (wl hs.l).length = 8 := rfl
    obtain ⟨x, hx⟩ : ∃ x, x = L.getD i 0 := ⟨_, rfl⟩
    obtain ⟨y, hy⟩ : ∃ y, y = hs.l.getD i 0 := ⟨_, rfl⟩
    rw [← hx] at a1 d st
    rw [← hy] at a2 d st
    simp -implicitDefEqProofs (maxSteps := 2000000) only [k2, kh2, k4, kh4, k87, k6, kh6, hi8', hi7, a1, a2, d, st, l1, l2, m20_1, m20_2, m20_3, m20_4, m20_5, m20_6, m20_7, m20_8, m20_9, m20_10, m20_11, m20_12, m20_13, m20_14, m20_15, m20_16, m20_17, m20_18, m20_19, m20_20, m20_r, m20_b, m20, wrap_nat (show i < 2 ^ 63 - 1 by omega), wk, act, asV, ↓reduceIte, Nat.reduceEqDiff, reduceCtorEq, Nat.reduceAdd, Nat.reduceLeDiff, Nat.reduceSub, Nat.reduceMul, List.reduceReplicate, Int.reduceEq, Int.reduceLT, Int.reduceLE, Int.reduceAdd, Int.reduceSub, Int.reduceMul, Nat.reduceLT, Int.reduceToNat]
    exact ⟨8 - (i + 1), by omega, i + 1, by omega, rfl, rfl, v6, rfl, rfl⟩
  · obtain rfl : i = 8 := by omega
    simp -implicitDefEqProofs (maxSteps := 2000000) only [k87, m20_1, m20_2, m20_3, m20_4, m20_5, m20_6, m20_7, m20_8, m20_9, m20_10, m20_11, m20_12, m20_13, m20_14, m20_15, m20_16, m20_17, m20_18, m20_19, m20_20, m20_r, m20_b, m20, wk, act, asV, ↓reduceIte, Nat.reduceEqDiff, reduceCtorEq, Nat.reduceAdd, Nat.reduceLeDiff, Nat.reduceSub, Nat.reduceMul, List.reduceReplicate, Int.reduceEq, Int.reduceLT, Int.reduceLE, Int.reduceAdd, Int.reduceSub, Int.reduceMul, Nat.reduceLT, Int.reduceToNat]
    exact q1 _ (by simp -implicitDefEqProofs (maxSteps := 2000000) only [k4, wk, act, asV, ↓reduceIte, Nat.reduceEqDiff, reduceCtorEq, Nat.reduceAdd, Nat.reduceLeDiff, Nat.reduceSub, Nat.reduceMul, List.reduceReplicate, Int.reduceEq, Int.reduceLT, Int.reduceLE, Int.reduceAdd, Int.reduceSub, Int.reduceMul, Nat.reduceLT, Int.reduceToNat]) (by simp -implicitDefEqProofs (maxSteps := 2000000) only [kh4, wk, act, asV, ↓reduceIte, Nat.reduceEqDiff, reduceCtorEq, Nat.reduceAdd, Nat.reduceLeDiff, Nat.reduceSub, Nat.reduceMul, List.reduceReplicate, Int.reduceEq, Int.reduceLT, Int.reduceLE, Int.reduceAdd, Int.reduceSub, Int.reduceMul, Nat.reduceLT, Int.reduceToNat]) ⟨v6, by simp -implicitDefEqProofs (maxSteps := 2000000) only [k6, wk, act, asV, ↓reduceIte, Nat.reduceEqDiff, reduceCtorEq, Nat.reduceAdd, Nat.reduceLeDiff, Nat.reduceSub, Nat.reduceMul, List.reduceReplicate, Int.reduceEq, Int.reduceLT, Int.reduceLE, Int.reduceAdd, Int.reduceSub, Int.reduceMul, Nat.reduceLT, Int.reduceToNat], by simp -implicitDefEqProofs (maxSteps := 2000000) only [kh6, wk, act, asV, ↓reduceIte, Nat.reduceEqDiff, reduceCtorEq, Nat.reduceAdd, Nat.reduceLeDiff, Nat.reduceSub, Nat.reduceMul, List.reduceReplicate, Int.reduceEq, Int.reduceLT, Int.reduceLE, Int.reduceAdd, Int.reduceSub, Int.reduceMul, Nat.reduceLT, Int.reduceToNat]⟩

theorem rnds_l (hs : H8) (W : List UInt32) (t : Nat) : (rnds hs W t).l.length = 8 := rfl
theorem turn_ok (hs : H8) (b : List UInt8) (hb : b.length = 64) : RC Try.prog 20 [.agg (wl hs.l), .agg (bl b)] [.agg (wl (turnH hs b))] := by
  refine RC.of_wp c20 rfl ?_
  have hbl : (bl b).length = 64 := by rw [bl_length, hb]
  have tb : List.take 64 (bl b) = bl b := List.take_of_length_le (by omega)
  have db : List.drop 64 (bl b) = [] := List.drop_of_length_le (by omega)
  have l8 : (wl hs.l).length = 8 := rfl
  have t8 : List.take 8 (wl hs.l) = wl hs.l := rfl
  have d8 : List.drop 8 (wl hs.l) = [] := rfl
  have lk : (wl K64).length = 64 := rfl
  have tk : List.take 64 (wl K64) = wl K64 := rfl
  have dk : List.drop 64 (wl K64) = [] := rfl
  have c2 := schedule_ok b hb
  repeat' (first | simp -implicitDefEqProofs (maxSteps := 2000000) only [m20_1, m20_2, m20_3, m20_4, m20_5, m20_6, m20_7, m20_8, m20_9, m20_10, m20_11, m20_12, m20_13, m20_14, m20_15, m20_16, m20_17, m20_18, m20_19, m20_20, m20_r, m20_b, m20, hbl, tb, db, l8, t8, d8, lk, tk, dk, wl_scal, bl_scal, wk, act, asV, ↓reduceIte, Nat.reduceEqDiff, reduceCtorEq, Nat.reduceAdd, Nat.reduceLeDiff, Nat.reduceSub, Nat.reduceMul, List.reduceReplicate, Int.reduceEq, Int.reduceLT, Int.reduceLE, Int.reduceAdd, Int.reduceSub, Int.reduceMul, Nat.reduceLT, Int.reduceToNat] | ((with_reducible refine CallL.gate ?_); refine CallL.of (by simp -implicitDefEqProofs (maxSteps := 2000000) only [m20_1, m20_2, m20_3, m20_4, m20_5, m20_6, m20_7, m20_8, m20_9, m20_10, m20_11, m20_12, m20_13, m20_14, m20_15, m20_16, m20_17, m20_18, m20_19, m20_20, m20_r, m20_b, m20, hbl, tb, db, l8, t8, d8, lk, tk, dk, wl_scal, bl_scal, wk, act, asV, ↓reduceIte, Nat.reduceEqDiff, reduceCtorEq, Nat.reduceAdd, Nat.reduceLeDiff, Nat.reduceSub, Nat.reduceMul, List.reduceReplicate, Int.reduceEq, Int.reduceLT, Int.reduceLE, Int.reduceAdd, Int.reduceSub, Int.reduceMul, Nat.reduceLT, Int.reduceToNat]; first | done | (with_reducible rfl)) (by first | exact constants_ok | exact c2) (by simp -implicitDefEqProofs (maxSteps := 2000000) only [m20_1, m20_2, m20_3, m20_4, m20_5, m20_6, m20_7, m20_8, m20_9, m20_10, m20_11, m20_12, m20_13, m20_14, m20_15, m20_16, m20_17, m20_18, m20_19, m20_20, m20_r, m20_b, m20, hbl, tb, db, l8, t8, d8, lk, tk, dk, wl_scal, bl_scal, wk, act, asV, ↓reduceIte, Nat.reduceEqDiff, reduceCtorEq, Nat.reduceAdd, Nat.reduceLeDiff, Nat.reduceSub, Nat.reduceMul, List.reduceReplicate, Int.reduceEq, Int.reduceLT, Int.reduceLE, Int.reduceAdd, Int.reduceSub, Int.reduceMul, Nat.reduceLT, Int.reduceToNat]) ?_) | ((with_reducible refine CallP.gate ?_); refine CallP.of (by simp -implicitDefEqProofs (maxSteps := 2000000) only [m20_1, m20_2, m20_3, m20_4, m20_5, m20_6, m20_7, m20_8, m20_9, m20_10, m20_11, m20_12, m20_13, m20_14, m20_15, m20_16, m20_17, m20_18, m20_19, m20_20, m20_r, m20_b, m20, hbl, tb, db, l8, t8, d8, lk, tk, dk, wl_scal, bl_scal, wk, act, asV, ↓reduceIte, Nat.reduceEqDiff, reduceCtorEq, Nat.reduceAdd, Nat.reduceLeDiff, Nat.reduceSub, Nat.reduceMul, List.reduceReplicate, Int.reduceEq, Int.reduceLT, Int.reduceLE, Int.reduceAdd, Int.reduceSub, Int.reduceMul, Nat.reduceLT, Int.reduceToNat]; first | done | (with_reducible rfl)) (by first | exact constants_ok | exact c2) (by simp -implicitDefEqProofs (maxSteps := 2000000) only [m20_1, m20_2, m20_3, m20_4, m20_5, m20_6, m20_7, m20_8, m20_9, m20_10, m20_11, m20_12, m20_13, m20_14, m20_15, m20_16, m20_17, m20_18, m20_19, m20_20, m20_r, m20_b, m20, hbl, tb, db, l8, t8, d8, lk, tk, dk, wl_scal, bl_scal, wk, act, asV, ↓reduceIte, Nat.reduceEqDiff, reduceCtorEq, Nat.reduceAdd, Nat.reduceLeDiff, Nat.reduceSub, Nat.reduceMul, List.reduceReplicate, Int.reduceEq, Int.reduceLT, Int.reduceLE, Int.reduceAdd, Int.reduceSub, Int.reduceMul, Nat.reduceLT, Int.reduceToNat]) ?_))
  refine turn_in hs b (v2 := 0) (v3 := 0) (v4 := 0) [] _ _ ?_ (by simp -implicitDefEqProofs (maxSteps := 2000000) only [wk, act, asV, ↓reduceIte, Nat.reduceEqDiff, reduceCtorEq, Nat.reduceAdd, Nat.reduceLeDiff, Nat.reduceSub, Nat.reduceMul, List.reduceReplicate, Int.reduceEq, Int.reduceLT, Int.reduceLE, Int.reduceAdd, Int.reduceSub, Int.reduceMul, Nat.reduceLT, Int.reduceToNat]; first | done | rfl) (by simp -implicitDefEqProofs (maxSteps := 2000000) only [wk, act, asV, ↓reduceIte, Nat.reduceEqDiff, reduceCtorEq, Nat.reduceAdd, Nat.reduceLeDiff, Nat.reduceSub, Nat.reduceMul, List.reduceReplicate, Int.reduceEq, Int.reduceLT, Int.reduceLE, Int.reduceAdd, Int.reduceSub, Int.reduceMul, Nat.reduceLT, Int.reduceToNat]; first | done | rfl) ⟨_, by simp -implicitDefEqProofs (maxSteps := 2000000) only [wk, act, asV, ↓reduceIte, Nat.reduceEqDiff, reduceCtorEq, Nat.reduceAdd, Nat.reduceLeDiff, Nat.reduceSub, Nat.reduceMul, List.reduceReplicate, Int.reduceEq, Int.reduceLT, Int.reduceLE, Int.reduceAdd, Int.reduceSub, Int.reduceMul, Nat.reduceLT, Int.reduceToNat]; first | done | rfl, by simp -implicitDefEqProofs (maxSteps := 2000000) only [wk, act, asV, ↓reduceIte, Nat.reduceEqDiff, reduceCtorEq, Nat.reduceAdd, Nat.reduceLeDiff, Nat.reduceSub, Nat.reduceMul, List.reduceReplicate, Int.reduceEq, Int.reduceLT, Int.reduceLE, Int.reduceAdd, Int.reduceSub, Int.reduceMul, Nat.reduceLT, Int.reduceToNat]; first | done | rfl⟩ (by simp -implicitDefEqProofs (maxSteps := 2000000) only [wk, act, asV, ↓reduceIte, Nat.reduceEqDiff, reduceCtorEq, Nat.reduceAdd, Nat.reduceLeDiff, Nat.reduceSub, Nat.reduceMul, List.reduceReplicate, Int.reduceEq, Int.reduceLT, Int.reduceLE, Int.reduceAdd, Int.reduceSub, Int.reduceMul, Nat.reduceLT, Int.reduceToNat]) (by simp -implicitDefEqProofs (maxSteps := 2000000) only [wk, act, asV, ↓reduceIte, Nat.reduceEqDiff, reduceCtorEq, Nat.reduceAdd, Nat.reduceLeDiff, Nat.reduceSub, Nat.reduceMul, List.reduceReplicate, Int.reduceEq, Int.reduceLT, Int.reduceLE, Int.reduceAdd, Int.reduceSub, Int.reduceMul, Nat.reduceLT, Int.reduceToNat])
  intro s2 p2 ph2 p4 ph4 p6
  simp -implicitDefEqProofs (maxSteps := 2000000) only [wk, act, asV, ↓reduceIte, Nat.reduceEqDiff, reduceCtorEq, Nat.reduceAdd, Nat.reduceLeDiff, Nat.reduceSub, Nat.reduceMul, List.reduceReplicate, Int.reduceEq, Int.reduceLT, Int.reduceLE, Int.reduceAdd, Int.reduceSub, Int.reduceMul, Nat.reduceLT, Int.reduceToNat] at p2
  simp -implicitDefEqProofs (maxSteps := 2000000) only [wk, act, asV, ↓reduceIte, Nat.reduceEqDiff, reduceCtorEq, Nat.reduceAdd, Nat.reduceLeDiff, Nat.reduceSub, Nat.reduceMul, List.reduceReplicate, Int.reduceEq, Int.reduceLT, Int.reduceLE, Int.reduceAdd, Int.reduceSub, Int.reduceMul, Nat.reduceLT, Int.reduceToNat] at ph2
  simp -implicitDefEqProofs (maxSteps := 2000000) only [wk, act, asV, ↓reduceIte, Nat.reduceEqDiff, reduceCtorEq, Nat.reduceAdd, Nat.reduceLeDiff, Nat.reduceSub, Nat.reduceMul, List.reduceReplicate, Int.reduceEq, Int.reduceLT, Int.reduceLE, Int.reduceAdd, Int.reduceSub, Int.reduceMul, Nat.reduceLT, Int.reduceToNat] at p4
  simp -implicitDefEqProofs (maxSteps := 2000000) only [wk, act, asV, ↓reduceIte, Nat.reduceEqDiff, reduceCtorEq, Nat.reduceAdd, Nat.reduceLeDiff, Nat.reduceSub, Nat.reduceMul, List.reduceReplicate, Int.reduceEq, Int.reduceLT, Int.reduceLE, Int.reduceAdd, Int.reduceSub, Int.reduceMul, Nat.reduceLT, Int.reduceToNat] at ph4
  simp -implicitDefEqProofs (maxSteps := 2000000) only [wk, act, asV, ↓reduceIte, Nat.reduceEqDiff, reduceCtorEq, Nat.reduceAdd, Nat.reduceLeDiff, Nat.reduceSub, Nat.reduceMul, List.reduceReplicate, Int.reduceEq, Int.reduceLT, Int.reduceLE, Int.reduceAdd, Int.reduceSub, Int.reduceMul, Nat.reduceLT, Int.reduceToNat]
  refine turn_add hs (rnds hs (schN b 64) 64).l (rnds_l _ _ _) _ _ ?_ (by simp -implicitDefEqProofs (maxSteps := 2000000) only [p2, wk, act, asV, ↓reduceIte, Nat.reduceEqDiff, reduceCtorEq, Nat.reduceAdd, Nat.reduceLeDiff, Nat.reduceSub, Nat.reduceMul, List.reduceReplicate, Int.reduceEq, Int.reduceLT, Int.reduceLE, Int.reduceAdd, Int.reduceSub, Int.reduceMul, Nat.reduceLT, Int.reduceToNat]; first | done | rfl) (by simp -implicitDefEqProofs (maxSteps := 2000000) only [ph2, wk, act, asV, ↓reduceIte, Nat.reduceEqDiff, reduceCtorEq, Nat.reduceAdd, Nat.reduceLeDiff, Nat.reduceSub, Nat.reduceMul, List.reduceReplicate, Int.reduceEq, Int.reduceLT, Int.reduceLE, Int.reduceAdd, Int.reduceSub, Int.reduceMul, Nat.reduceLT, Int.reduceToNat]; first | done | rfl) (by obtain ⟨v6, q6, qh6⟩ := p6; exact ⟨v6, by simp -implicitDefEqProofs (maxSteps := 2000000) only [q6, wk, act, asV, ↓reduceIte, Nat.reduceEqDiff, reduceCtorEq, Nat.reduceAdd, Nat.reduceLeDiff, Nat.reduceSub, Nat.reduceMul, List.reduceReplicate, Int.reduceEq, Int.reduceLT, Int.reduceLE, Int.reduceAdd, Int.reduceSub, Int.reduceMul, Nat.reduceLT, Int.reduceToNat], by simp -implicitDefEqProofs (maxSteps := 2000000) only [qh6, wk, act, asV, ↓reduceIte, Nat.reduceEqDiff, reduceCtorEq, Nat.reduceAdd, Nat.reduceLeDiff, Nat.reduceSub, Nat.reduceMul, List.reduceReplicate, Int.reduceEq, Int.reduceLT, Int.reduceLE, Int.reduceAdd, Int.reduceSub, Int.reduceMul, Nat.reduceLT, Int.reduceToNat]⟩) (by simp -implicitDefEqProofs (maxSteps := 2000000) only [wk, act, asV, ↓reduceIte, Nat.reduceEqDiff, reduceCtorEq, Nat.reduceAdd, Nat.reduceLeDiff, Nat.reduceSub, Nat.reduceMul, List.reduceReplicate, Int.reduceEq, Int.reduceLT, Int.reduceLE, Int.reduceAdd, Int.reduceSub, Int.reduceMul, Nat.reduceLT, Int.reduceToNat])
  intro s3 r4 rh4 r6
  obtain ⟨v6, r6, rh6⟩ := r6
  simp -implicitDefEqProofs (maxSteps := 2000000) only [p4, wk, act, asV, ↓reduceIte, Nat.reduceEqDiff, reduceCtorEq, Nat.reduceAdd, Nat.reduceLeDiff, Nat.reduceSub, Nat.reduceMul, List.reduceReplicate, Int.reduceEq, Int.reduceLT, Int.reduceLE, Int.reduceAdd, Int.reduceSub, Int.reduceMul, Nat.reduceLT, Int.reduceToNat] at r4
  simp -implicitDefEqProofs (maxSteps := 2000000) only [ph4, wk, act, asV, ↓reduceIte, Nat.reduceEqDiff, reduceCtorEq, Nat.reduceAdd, Nat.reduceLeDiff, Nat.reduceSub, Nat.reduceMul, List.reduceReplicate, Int.reduceEq, Int.reduceLT, Int.reduceLE, Int.reduceAdd, Int.reduceSub, Int.reduceMul, Nat.reduceLT, Int.reduceToNat] at rh4
  have lt : (wl (turnH hs b)).length = 8 := by rw [wl_length]; exact addTo_length _ _ _
  have tt : List.take 8 (wl (turnH hs b)) = wl (turnH hs b) := List.take_of_length_le (by omega)
  have dt : List.drop 8 (wl (turnH hs b)) = [] := List.drop_of_length_le (by omega)
  rw [show addTo (rnds hs (schN b 64) 64).l hs.l 8 = turnH hs b from rfl] at rh6
  simp -implicitDefEqProofs (maxSteps := 2000000) only [r4, rh4, r6, rh6, lt, tt, dt, wl_scal, wk, act, asV, ↓reduceIte, Nat.reduceEqDiff, reduceCtorEq, Nat.reduceAdd, Nat.reduceLeDiff, Nat.reduceSub, Nat.reduceMul, List.reduceReplicate, Int.reduceEq, Int.reduceLT, Int.reduceLE, Int.reduceAdd, Int.reduceSub, Int.reduceMul, Nat.reduceLT, Int.reduceToNat]
end Go.Proofs.Ytlbilkldjhhopaa
