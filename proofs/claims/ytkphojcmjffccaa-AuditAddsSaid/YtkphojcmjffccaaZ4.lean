/- H behind 64 bytes, by the program. -/
import Derived.Test.YtkphojcmjffccaaS3
import Derived.Test.YtkphojcmjffccaaE31
import Derived.Test.YtkphojcmjffccaaM7
import Derived.Test.YtkphojcmjffccaaS1
set_option linter.unusedSectionVars false
set_option linter.unusedVariables false
set_option linter.unusedSimpArgs false
set_option maxRecDepth 100000
set_option maxHeartbeats 8000000
namespace Go.Proofs.Ytkphojcmjffccaa
open Go.RowKit

theorem addTo_length (L h : List UInt32) (i : Nat) : (addTo L h i).length = 8 := by simp [addTo]
theorem addTo_get (L h : List UInt32) (i : Nat) {j : Nat} (hj : j < 8) : (addTo L h i).getD j 0 = if j < i then L.getD j 0 + h.getD j 0 else L.getD j 0 := by
  simp [addTo, List.getD, hj]
theorem addTo_zero {L : List UInt32} (h : List UInt32) (hl : L.length = 8) : addTo L h 0 = L := by
  apply List.ext_getElem
  · rw [addTo_length, hl]
  · intro j h1 h2
    simp [addTo, List.getD, h2]
theorem addTo_set (L h : List UInt32) {i : Nat} (hi : i < 8) : (addTo L h i).set i (L.getD i 0 + h.getD i 0) = addTo L h (i + 1) := by
  apply List.ext_getElem
  · rw [List.length_set, addTo_length, addTo_length]
  · intro j h1 h2
    rw [addTo_length] at h2
    rw [List.getElem_set]
    split
    · rename_i e; subst e; simp [addTo]
    · rename_i hne
      simp only [addTo, List.getElem_map, List.getElem_range]
      by_cases hj : j < i
      · rw [if_pos hj, if_pos (by omega)]
      · rw [if_neg hj, if_neg (by omega)]
theorem H8.l_length (v : H8) : v.l.length = 8 := rfl

theorem turn_add (hs : H8) (L : List UInt32) (hL : L.length = 8) {v2 : Nat} (Q : Ex → St → Prop) (s1 : St)
    (q1 : ∀ s2 : St, s2.t 4 = s1.t 4 → s2.h 4 = s1.h 4 → (∃ v6, s2.t 6 = .ptr 6 0 v6 ∧ s2.h 6 = ⟨v6, true, true, false, wl (addTo L hs.l 8)⟩) → Q (.exit 2) s2)
    (k2 : s1.t 2 = .ptr 2 0 v2) (kh2 : s1.h 2 = ⟨v2, true, true, false, wl hs.l⟩) (k6 : ∃ v6, s1.t 6 = .ptr 6 0 v6 ∧ s1.h 6 = ⟨v6, true, true, false, wl L⟩) (k87 : s1.t 87 = .int .i64 0) :
    Wp (RCs Try.prog) (.loop m37_14) Q s1 := by
  refine Wp_loop (fun m s => ∃ i, i ≤ 8 ∧ m = 8 - i ∧ s.t 2 = .ptr 2 0 v2 ∧ s.h 2 = ⟨v2, true, true, false, wl hs.l⟩ ∧ s.t 4 = s1.t 4 ∧ s.h 4 = s1.h 4 ∧ s.t 87 = .int .i64 i ∧ ∃ v6, s.t 6 = .ptr 6 0 v6 ∧ s.h 6 = ⟨v6, true, true, false, wl (addTo L hs.l i)⟩) 8 ⟨0, by omega, rfl, k2, kh2, rfl, rfl, k87, by rw [addTo_zero _ hL]; exact k6⟩ ?_
  clear k2 kh2 k6 k87
  rintro m s ⟨i, hi, rfl, k2, kh2, k4, kh4, k87, v6, k6, kh6⟩
  by_cases hi8 : i < 8
  · have hi8' : (i : Int) < 8 := by omega
    have hi7 : i ≤ 7 := by omega
    have a1 := at_wl (xs := addTo L hs.l i) (k := i) (by rw [addTo_length]; exact hi8)
    rw [addTo_get _ _ _ hi8, if_neg (Nat.lt_irrefl i)] at a1
    have a2 := at_wl (xs := hs.l) (k := i) (by rw [H8.l_length]; exact hi8)
    have d := w_add (L.getD i 0) (hs.l.getD i 0)
    have st := set_wl (xs := addTo L hs.l i) (k := i) (by rw [addTo_length]; exact hi8) (L.getD i 0 + hs.l.getD i 0)
    rw [addTo_set _ _ hi8] at st
    have l1 : (wl (addTo L hs.l i)).length = 8 := by rw [wl_length, addTo_length]
    have l2 : (wl hs.l).length = 8 := rfl
    obtain ⟨x, hx⟩ : ∃ x, x = L.getD i 0 := ⟨_, rfl⟩
    obtain ⟨y, hy⟩ : ∃ y, y = hs.l.getD i 0 := ⟨_, rfl⟩
    rw [← hx] at a1 d st
    rw [← hy] at a2 d st
    simp -implicitDefEqProofs (maxSteps := 2000000) only [k2, kh2, k4, kh4, k87, k6, kh6, hi8', hi7, a1, a2, d, st, l1, l2, m37_1, m37_2, m37_3, m37_4, m37_5, m37_6, m37_7, m37_8, m37_9, m37_10, m37_11, m37_12, m37_13, m37_14, m37_15, m37_16, m37_17, m37_18, m37_19, m37_20, m37_r, m37_b, m37, wrap_nat (show i < 2 ^ 63 - 1 by omega), wk, act, asV, ↓reduceIte, Nat.reduceEqDiff, reduceCtorEq, Nat.reduceAdd, Nat.reduceLeDiff, Nat.reduceSub, Nat.reduceMul, List.reduceReplicate, Int.reduceEq, Int.reduceLT, Int.reduceLE, Int.reduceAdd, Int.reduceSub, Int.reduceMul, Nat.reduceLT, Int.reduceToNat]
    exact ⟨8 - (i + 1), by omega, i + 1, by omega, rfl, rfl, v6, rfl, rfl⟩
  · obtain rfl : i = 8 := by omega
    simp -implicitDefEqProofs (maxSteps := 2000000) only [k87, m37_1, m37_2, m37_3, m37_4, m37_5, m37_6, m37_7, m37_8, m37_9, m37_10, m37_11, m37_12, m37_13, m37_14, m37_15, m37_16, m37_17, m37_18, m37_19, m37_20, m37_r, m37_b, m37, wk, act, asV, ↓reduceIte, Nat.reduceEqDiff, reduceCtorEq, Nat.reduceAdd, Nat.reduceLeDiff, Nat.reduceSub, Nat.reduceMul, List.reduceReplicate, Int.reduceEq, Int.reduceLT, Int.reduceLE, Int.reduceAdd, Int.reduceSub, Int.reduceMul, Nat.reduceLT, Int.reduceToNat]
    exact q1 _ (by simp -implicitDefEqProofs (maxSteps := 2000000) only [k4, wk, act, asV, ↓reduceIte, Nat.reduceEqDiff, reduceCtorEq, Nat.reduceAdd, Nat.reduceLeDiff, Nat.reduceSub, Nat.reduceMul, List.reduceReplicate, Int.reduceEq, Int.reduceLT, Int.reduceLE, Int.reduceAdd, Int.reduceSub, Int.reduceMul, Nat.reduceLT, Int.reduceToNat]) (by simp -implicitDefEqProofs (maxSteps := 2000000) only [kh4, wk, act, asV, ↓reduceIte, Nat.reduceEqDiff, reduceCtorEq, Nat.reduceAdd, Nat.reduceLeDiff, Nat.reduceSub, Nat.reduceMul, List.reduceReplicate, Int.reduceEq, Int.reduceLT, Int.reduceLE, Int.reduceAdd, Int.reduceSub, Int.reduceMul, Nat.reduceLT, Int.reduceToNat]) ⟨v6, by simp -implicitDefEqProofs (maxSteps := 2000000) only [k6, wk, act, asV, ↓reduceIte, Nat.reduceEqDiff, reduceCtorEq, Nat.reduceAdd, Nat.reduceLeDiff, Nat.reduceSub, Nat.reduceMul, List.reduceReplicate, Int.reduceEq, Int.reduceLT, Int.reduceLE, Int.reduceAdd, Int.reduceSub, Int.reduceMul, Nat.reduceLT, Int.reduceToNat], by simp -implicitDefEqProofs (maxSteps := 2000000) only [kh6, wk, act, asV, ↓reduceIte, Nat.reduceEqDiff, reduceCtorEq, Nat.reduceAdd, Nat.reduceLeDiff, Nat.reduceSub, Nat.reduceMul, List.reduceReplicate, Int.reduceEq, Int.reduceLT, Int.reduceLE, Int.reduceAdd, Int.reduceSub, Int.reduceMul, Nat.reduceLT, Int.reduceToNat]⟩

theorem rnds_l (hs : H8) (W : List UInt32) (t : Nat) : (rnds hs W t).l.length = 8 := rfl
theorem turn_ok (hs : H8) (b : List UInt8) (hb : b.length = 64) : RC Try.prog 37 [.agg (wl hs.l), .agg (bl b)] [.agg (wl (turnH hs b))] := by
  refine RC.of_wp c37 rfl ?_
  have hbl : (bl b).length = 64 := by rw [bl_length, hb]
  have tb : List.take 64 (bl b) = bl b := List.take_of_length_le (by omega)
  have db : List.drop 64 (bl b) = [] := List.drop_of_length_le (by omega)
  have l8 : (wl hs.l).length = 8 := rfl
  have t8 : List.take 8 (wl hs.l) = wl hs.l := rfl
  have d8 : List.drop 8 (wl hs.l) = [] := rfl
  have lk : (wl K64).length = 64 := rfl
  have tk : List.take 64 (wl K64) = wl K64 := rfl
  have dk : List.drop 64 (wl K64) = [] := rfl
  have c2 := schedule_ok b hb
  repeat' (first | simp -implicitDefEqProofs (maxSteps := 2000000) only [m37_1, m37_2, m37_3, m37_4, m37_5, m37_6, m37_7, m37_8, m37_9, m37_10, m37_11, m37_12, m37_13, m37_14, m37_15, m37_16, m37_17, m37_18, m37_19, m37_20, m37_r, m37_b, m37, hbl, tb, db, l8, t8, d8, lk, tk, dk, wl_scal, bl_scal, wk, act, asV, ↓reduceIte, Nat.reduceEqDiff, reduceCtorEq, Nat.reduceAdd, Nat.reduceLeDiff, Nat.reduceSub, Nat.reduceMul, List.reduceReplicate, Int.reduceEq, Int.reduceLT, Int.reduceLE, Int.reduceAdd, Int.reduceSub, Int.reduceMul, Nat.reduceLT, Int.reduceToNat] | ((first | ((with_reducible refine CallL.gate ?_); apply CallL.of) | ((with_reducible refine CallP.gate ?_); apply CallP.of)); (case h1 => (simp -implicitDefEqProofs (maxSteps := 2000000) only [m37_1, m37_2, m37_3, m37_4, m37_5, m37_6, m37_7, m37_8, m37_9, m37_10, m37_11, m37_12, m37_13, m37_14, m37_15, m37_16, m37_17, m37_18, m37_19, m37_20, m37_r, m37_b, m37, hbl, tb, db, l8, t8, d8, lk, tk, dk, wl_scal, bl_scal, wk, act, asV, ↓reduceIte, Nat.reduceEqDiff, reduceCtorEq, Nat.reduceAdd, Nat.reduceLeDiff, Nat.reduceSub, Nat.reduceMul, List.reduceReplicate, Int.reduceEq, Int.reduceLT, Int.reduceLE, Int.reduceAdd, Int.reduceSub, Int.reduceMul, Nat.reduceLT, Int.reduceToNat]; first | done | (with_reducible rfl))); (case h2 => (first | exact constants_ok | exact c2)); (case h3 => simp -implicitDefEqProofs (maxSteps := 2000000) only [m37_1, m37_2, m37_3, m37_4, m37_5, m37_6, m37_7, m37_8, m37_9, m37_10, m37_11, m37_12, m37_13, m37_14, m37_15, m37_16, m37_17, m37_18, m37_19, m37_20, m37_r, m37_b, m37, hbl, tb, db, l8, t8, d8, lk, tk, dk, wl_scal, bl_scal, wk, act, asV, ↓reduceIte, Nat.reduceEqDiff, reduceCtorEq, Nat.reduceAdd, Nat.reduceLeDiff, Nat.reduceSub, Nat.reduceMul, List.reduceReplicate, Int.reduceEq, Int.reduceLT, Int.reduceLE, Int.reduceAdd, Int.reduceSub, Int.reduceMul, Nat.reduceLT, Int.reduceToNat])))
  refine turn_in hs b (v2 := 0) (v3 := 0) (v4 := 0) [] _ _ ?_ (by simp -implicitDefEqProofs (maxSteps := 2000000) only [wk, act, asV, ↓reduceIte, Nat.reduceEqDiff, reduceCtorEq, Nat.reduceAdd, Nat.reduceLeDiff, Nat.reduceSub, Nat.reduceMul, List.reduceReplicate, Int.reduceEq, Int.reduceLT, Int.reduceLE, Int.reduceAdd, Int.reduceSub, Int.reduceMul, Nat.reduceLT, Int.reduceToNat]; first | done | rfl) (by simp -implicitDefEqProofs (maxSteps := 2000000) only [wk, act, asV, ↓reduceIte, Nat.reduceEqDiff, reduceCtorEq, Nat.reduceAdd, Nat.reduceLeDiff, Nat.reduceSub, Nat.reduceMul, List.reduceReplicate, Int.reduceEq, Int.reduceLT, Int.reduceLE, Int.reduceAdd, Int.reduceSub, Int.reduceMul, Nat.reduceLT, Int.reduceToNat]; first | done | rfl) ⟨_, by simp -implicitDefEqProofs (maxSteps := 2000000) only [wk, act, asV, ↓reduceIte, Nat.reduceEqDiff, reduceCtorEq, Nat.reduceAdd, Nat.reduceLeDiff, Nat.reduceSub, Nat.reduceMul, List.reduceReplicate, Int.reduceEq, Int.reduceLT, Int.reduceLE, Int.reduceAdd, Int.reduceSub, Int.reduceMul, Nat.reduceLT, Int.reduceToNat]; first | done | rfl, by simp -implicitDefEqProofs (maxSteps := 2000000) only [wk, act, asV, ↓reduceIte, Nat.reduceEqDiff, reduceCtorEq, Nat.reduceAdd, Nat.reduceLeDiff, Nat.reduceSub, Nat.reduceMul, List.reduceReplicate, Int.reduceEq, Int.reduceLT, Int.reduceLE, Int.reduceAdd, Int.reduceSub, Int.reduceMul, Nat.reduceLT, Int.reduceToNat]; first | done | rfl⟩ (by simp -implicitDefEqProofs (maxSteps := 2000000) only [wk, act, asV, ↓reduceIte, Nat.reduceEqDiff, reduceCtorEq, Nat.reduceAdd, Nat.reduceLeDiff, Nat.reduceSub, Nat.reduceMul, List.reduceReplicate, Int.reduceEq, Int.reduceLT, Int.reduceLE, Int.reduceAdd, Int.reduceSub, Int.reduceMul, Nat.reduceLT, Int.reduceToNat]) (by simp -implicitDefEqProofs (maxSteps := 2000000) only [wk, act, asV, ↓reduceIte, Nat.reduceEqDiff, reduceCtorEq, Nat.reduceAdd, Nat.reduceLeDiff, Nat.reduceSub, Nat.reduceMul, List.reduceReplicate, Int.reduceEq, Int.reduceLT, Int.reduceLE, Int.reduceAdd, Int.reduceSub, Int.reduceMul, Nat.reduceLT, Int.reduceToNat])
  intro s2 p2 ph2 p4 ph4 p6
  simp -implicitDefEqProofs (maxSteps := 2000000) only [wk, act, asV, ↓reduceIte, Nat.reduceEqDiff, reduceCtorEq, Nat.reduceAdd, Nat.reduceLeDiff, Nat.reduceSub, Nat.reduceMul, List.reduceReplicate, Int.reduceEq, Int.reduceLT, Int.reduceLE, Int.reduceAdd, Int.reduceSub, Int.reduceMul, Nat.reduceLT, Int.reduceToNat] at p2
  simp -implicitDefEqProofs (maxSteps := 2000000) only [wk, act, asV, ↓reduceIte, Nat.reduceEqDiff, reduceCtorEq, Nat.reduceAdd, Nat.reduceLeDiff, Nat.reduceSub, Nat.reduceMul, List.reduceReplicate, Int.reduceEq, Int.reduceLT, Int.reduceLE, Int.reduceAdd, Int.reduceSub, Int.reduceMul, Nat.reduceLT, Int.reduceToNat] at ph2
  simp -implicitDefEqProofs (maxSteps := 2000000) only [wk, act, asV, ↓reduceIte, Nat.reduceEqDiff, reduceCtorEq, Nat.reduceAdd, Nat.reduceLeDiff, Nat.reduceSub, Nat.reduceMul, List.reduceReplicate, Int.reduceEq, Int.reduceLT, Int.reduceLE, Int.reduceAdd, Int.reduceSub, Int.reduceMul, Nat.reduceLT, Int.reduceToNat] at p4
  simp -implicitDefEqProofs (maxSteps := 2000000) only [wk, act, asV, ↓reduceIte, Nat.reduceEqDiff, reduceCtorEq, Nat.reduceAdd, Nat.reduceLeDiff, Nat.reduceSub, Nat.reduceMul, List.reduceReplicate, Int.reduceEq, Int.reduceLT, Int.reduceLE, Int.reduceAdd, Int.reduceSub, Int.reduceMul, Nat.reduceLT, Int.reduceToNat] at ph4
  simp -implicitDefEqProofs (maxSteps := 2000000) only [wk, act, asV, ↓reduceIte, Nat.reduceEqDiff, reduceCtorEq, Nat.reduceAdd, Nat.reduceLeDiff, Nat.reduceSub, Nat.reduceMul, List.reduceReplicate, Int.reduceEq, Int.reduceLT, Int.reduceLE, Int.reduceAdd, Int.reduceSub, Int.reduceMul, Nat.reduceLT, Int.reduceToNat]
  refine turn_add hs (rnds hs (schN b 64) 64).l (rnds_l _ _ _) _ _ ?_ (by simp -implicitDefEqProofs (maxSteps := 2000000) only [p2, wk, act, asV, ↓reduceIte, Nat.reduceEqDiff, reduceCtorEq, Nat.reduceAdd, Nat.reduceLeDiff, Nat.reduceSub, Nat.reduceMul, List.reduceReplicate, Int.reduceEq, Int.reduceLT, Int.reduceLE, Int.reduceAdd, Int.reduceSub, Int.reduceMul, Nat.reduceLT, Int.reduceToNat]; first | done | rfl) (by simp -implicitDefEqProofs (maxSteps := 2000000) only [ph2, wk, act, asV, ↓reduceIte, Nat.reduceEqDiff, reduceCtorEq, Nat.reduceAdd, Nat.reduceLeDiff, Nat.reduceSub, Nat.reduceMul, List.reduceReplicate, Int.reduceEq, Int.reduceLT, Int.reduceLE, Int.reduceAdd, Int.reduceSub, Int.reduceMul, Nat.reduceLT, Int.reduceToNat]; first | done | rfl) (by obtain ⟨v6, q6, qh6⟩ := p6; exact ⟨v6, by simp -implicitDefEqProofs (maxSteps := 2000000) only [q6, wk, act, asV, ↓reduceIte, Nat.reduceEqDiff, reduceCtorEq, Nat.reduceAdd, Nat.reduceLeDiff, Nat.reduceSub, Nat.reduceMul, List.reduceReplicate, Int.reduceEq, Int.reduceLT, Int.reduceLE, Int.reduceAdd, Int.reduceSub, Int.reduceMul, Nat.reduceLT, Int.reduceToNat], by simp -implicitDefEqProofs (maxSteps := 2000000) only [qh6, wk, act, asV, ↓reduceIte, Nat.reduceEqDiff, reduceCtorEq, Nat.reduceAdd, Nat.reduceLeDiff, Nat.reduceSub, Nat.reduceMul, List.reduceReplicate, Int.reduceEq, Int.reduceLT, Int.reduceLE, Int.reduceAdd, Int.reduceSub, Int.reduceMul, Nat.reduceLT, Int.reduceToNat]⟩) (by simp -implicitDefEqProofs (maxSteps := 2000000) only [wk, act, asV, ↓reduceIte, Nat.reduceEqDiff, reduceCtorEq, Nat.reduceAdd, Nat.reduceLeDiff, Nat.reduceSub, Nat.reduceMul, List.reduceReplicate, Int.reduceEq, Int.reduceLT, Int.reduceLE, Int.reduceAdd, Int.reduceSub, Int.reduceMul, Nat.reduceLT, Int.reduceToNat])
  intro s3 r4 rh4 r6
  obtain ⟨v6, r6, rh6⟩ := r6
  simp -implicitDefEqProofs (maxSteps := 2000000) only [p4, wk, act, asV, ↓reduceIte, Nat.reduceEqDiff, reduceCtorEq, Nat.reduceAdd, Nat.reduceLeDiff, Nat.reduceSub, Nat.reduceMul, List.reduceReplicate, Int.reduceEq, Int.reduceLT, Int.reduceLE, Int.reduceAdd, Int.reduceSub, Int.reduceMul, Nat.reduceLT, Int.reduceToNat] at r4
  simp -implicitDefEqProofs (maxSteps := 2000000) only [ph4, wk, act, asV, ↓reduceIte, Nat.reduceEqDiff, reduceCtorEq, Nat.reduceAdd, Nat.reduceLeDiff, Nat.reduceSub, Nat.reduceMul, List.reduceReplicate, Int.reduceEq, Int.reduceLT, Int.reduceLE, Int.reduceAdd, Int.reduceSub, Int.reduceMul, Nat.reduceLT, Int.reduceToNat] at rh4
  have lt : (wl (turnH hs b)).length = 8 := by rw [wl_length]; exact addTo_length _ _ _
  have tt : List.take 8 (wl (turnH hs b)) = wl (turnH hs b) := List.take_of_length_le (by omega)
  have dt : List.drop 8 (wl (turnH hs b)) = [] := List.drop_of_length_le (by omega)
  rw [show addTo (rnds hs (schN b 64) 64).l hs.l 8 = turnH hs b from rfl] at rh6
  simp -implicitDefEqProofs (maxSteps := 2000000) only [r4, rh4, r6, rh6, lt, tt, dt, wl_scal, wk, act, asV, ↓reduceIte, Nat.reduceEqDiff, reduceCtorEq, Nat.reduceAdd, Nat.reduceLeDiff, Nat.reduceSub, Nat.reduceMul, List.reduceReplicate, Int.reduceEq, Int.reduceLT, Int.reduceLE, Int.reduceAdd, Int.reduceSub, Int.reduceMul, Nat.reduceLT, Int.reduceToNat]
end Go.Proofs.Ytkphojcmjffccaa
/- A round of sha.Sum: H behind 64 bytes more. -/
set_option linter.unusedSimpArgs false
set_option linter.unusedSectionVars false
set_option linter.unusedVariables false
namespace Go.Proofs.Ytkphojcmjffccaa
open Go.RowKit Go.Shelf
attribute [local go_sem] Oper.semAt_some

def cl : Code → Code
  | .seq a _ => a
  | .block _ a => a
  | .rangeFunc _ _ _ b => b
  | c => c
def cr : Code → Code
  | .seq _ b => b
  | .rangeFunc _ _ a _ => a
  | c => c
def opsOf : Code → Array Oper
  | .region _ ops _ => ops
  | _ => #[]
noncomputable def b17 : Code := Try.f25.body.getD .skip
noncomputable def k0 : Code := cl b17
noncomputable def k1 : Code := cl (cr b17)
noncomputable def k2 : Code := cl (cr (cr b17))
noncomputable def k3 : Code := cl (cl (cr (cr (cr b17))))
noncomputable def rf17 : Code := cl (cr (cl (cr (cr (cr b17)))))
noncomputable def asg17 : Code := cr rf17
noncomputable def bd17 : Code := cl rf17
noncomputable def ops5 : Array Oper := opsOf (cl bd17)
noncomputable def kD : Code := cr (cr (cr (cr b17)))
theorem b17_eq : Try.f25.body = some (.seq k0 (.seq k1 (.seq k2 (.seq (.seq k3 (.block 0 (.rangeFunc (.tmp 19) #[20] asg17 (.block 1 (.region 5 ops5 true))))) kD)))) := by kernel_rfl

def w32v (L : List UInt32) : List Value := L.map fun x => .int .u32 (x.toNat : Int)
def w8v (L : List UInt8) : List Value := L.map fun x => .int .u8 (x.toNat : Int)
theorem VRL_wl {c : Sx} : ∀ L : List UInt32, VRL c (wl L) (w32v L)
  | [] => by simp [wl, w32v, VRL]
  | x :: L => by simp only [wl, w32v, List.map_cons, VRL]; exact ⟨_, _, rfl, by simp [VR], VRL_wl L⟩
theorem VRL_bl {c : Sx} : ∀ L : List UInt8, VRL c (bl L) (w8v L)
  | [] => by simp [bl, w8v, VRL]
  | x :: L => by simp only [bl, w8v, List.map_cons, VRL]; exact ⟨_, _, rfl, by simp [VR], VRL_bl L⟩
theorem VRL_wl_eq {c : Sx} : ∀ {L : List UInt32} {us : List Value}, VRL c (wl L) us → us = w32v L
  | [], us, h => by simpa [wl, w32v, VRL] using h
  | x :: L, us, h => by
    simp only [wl, List.map_cons, VRL] at h
    obtain ⟨u, us', rfl, h1, h2⟩ := h
    simp only [VR] at h1
    rw [VRL_wl_eq h2, h1]; rfl
theorem VRL_bl_eq {c : Sx} : ∀ {L : List UInt8} {us : List Value}, VRL c (bl L) us → us = w8v L
  | [], us, h => by simpa [bl, w8v, VRL] using h
  | x :: L, us, h => by
    simp only [bl, List.map_cons, VRL] at h
    obtain ⟨u, us', rfl, h1, h2⟩ := h
    simp only [VR] at h1
    rw [VRL_bl_eq h2, h1]; rfl

theorem scal_purL : ∀ (l : List IV), l.all IV.scal = true → IV.purL l = true
  | [], _ => rfl
  | x :: l, h => by
    simp only [List.all_cons, Bool.and_eq_true] at h
    simp only [IV.purL, Bool.and_eq_true]
    exact ⟨by cases x <;> first | rfl | (simp [IV.scal] at h), scal_purL l h.2⟩
theorem scal_ones : ∀ (l : List IV), l.all IV.scal = true → l.all IV.one = true
  | [], _ => rfl
  | x :: l, h => by
    simp only [List.all_cons, Bool.and_eq_true] at h ⊢
    exact ⟨by cases x <;> first | rfl | (simp [IV.scal] at h), scal_ones l h.2⟩
theorem turn_raw (h : H8) (b : List UInt8) (hb : b.length = 64) (w : World) : Calls Try.prog 37 #[.agg (w32v h.l).toArray, .agg (w8v b).toArray] w fun e w' => e = .returned (.agg (w32v (turnH h b)).toArray) ∧ Below w.heap.size w w' := by
  have hc := (turn_ok h b hb).2 w (fun _ => False) [.agg (w32v h.l).toArray, .agg (w8v b).toArray] (fun _ h => h.elim) rfl (by simp [IV.purL, IV.pur, scal_purL _ (wl_scal h.l), scal_purL _ (bl_scal b)]) (by
    simp only [VRL, VR]
    exact ⟨_, _, rfl, ⟨_, rfl, scal_ones _ (wl_scal h.l), VRL_wl _⟩, _, _, rfl, ⟨_, rfl, scal_ones _ (bl_scal b), VRL_bl _⟩, rfl⟩)
  refine Calls.mono hc ?_
  rintro e w' ⟨rv, rfl, ⟨B, us, rfl, h1, h2, h3⟩, hB⟩
  refine ⟨?_, hB⟩
  cases h2 with
  | cons h4 h5 =>
    cases h5
    obtain ⟨_, _, h6⟩ := h4
    simp only [VR] at h6
    obtain ⟨us, rfl, _, h7⟩ := h6
    rw [VRL_wl_eq h7]; rfl

noncomputable section
local instance ghZ : Gh := ⟨fun _ _ => False, [], []⟩
local instance oldZ : Old := ⟨fun _ => False⟩
theorem wpOp_val {P : Program} {ops : Array Oper} {Q : Exit → Act → World → Prop} {K : Act → World → Prop} {a : Act} {w w' : World} {i : Nat} {o : Oper} {v : Value} (ho : ops[i]? = some o) (hg : o.guard = none) (hr : (execOp a.eval o).run P w = .ok (.value v) w') (h : K (a.put o.dst v) w') : wpOp P ops Q i K a w := by
  unfold wpOp
  simp only [ho, wanted_none hg, if_true]
  left
  unfold Oper.wp
  rw [hr]
  exact h
theorem wpOp_skip {P : Program} {ops : Array Oper} {Q : Exit → Act → World → Prop} {K : Act → World → Prop} {a : Act} {w w' : World} {i : Nat} {o : Oper} (ho : ops[i]? = some o) (hg : o.guard = none) (hr : (execOp a.eval o).run P w = .ok .skip w') (h : K (a.put o.dst undef) w') : wpOp P ops Q i K a w := by
  unfold wpOp
  simp only [ho, wanted_none hg, if_true]
  left
  unfold Oper.wp
  rw [hr]
  exact h
theorem wpOp_enter {P : Program} {ops : Array Oper} {Q : Exit → Act → World → Prop} {K : Act → World → Prop} {a : Act} {w w' : World} {i : Nat} {o : Oper} {f : FuncId} {args : Array Value} (ho : ops[i]? = some o) (hg : o.guard = none) (hr : (execOp a.eval o).run P w = .ok (.enter f args) w') (h : Calls P f args w' fun e w'' => ∃ v, e = .returned v ∧ K (a.put o.dst v) w'') : wpOp P ops Q i K a w := by
  unfold wpOp
  simp only [ho, wanted_none hg, if_true]
  left
  unfold Oper.wp
  rw [hr]
  refine Calls.mono h ?_
  rintro e w'' ⟨v, rfl, hk⟩
  exact hk

noncomputable def oD : Oper := { dst := none, op := .move (.tmp 0), type := 0, pos := "", after := #[], guard := none }
noncomputable def o5 (i : Nat) : Oper := (ops5[i]?).getD oD
theorem o5_at : ∀ i, i < 6 → ops5[i]? = some (o5 i) := by
  intro i hi
  have : ops5.size = 6 := by kernel_rfl
  unfold o5
  rw [Array.getElem?_eq_getElem (by omega)]; rfl
theorem o5_guard : (o5 0).guard = none ∧ (o5 1).guard = none ∧ (o5 2).guard = none ∧ (o5 3).guard = none ∧ (o5 4).guard = none ∧ (o5 5).guard = none := ⟨by kernel_rfl, by kernel_rfl, by kernel_rfl, by kernel_rfl, by kernel_rfl, by kernel_rfl⟩
theorem o5_dst : (o5 0).dst = some 21 ∧ (o5 1).dst = some 22 ∧ (o5 2).dst = some 23 ∧ (o5 3).dst = some 24 ∧ (o5 4).dst = some 25 ∧ (o5 5).dst = none := ⟨by kernel_rfl, by kernel_rfl, by kernel_rfl, by kernel_rfl, by kernel_rfl, by kernel_rfl⟩
theorem o5_op0 : (o5 0).op = .load 76 (.tmp 4) := by kernel_rfl
theorem o5_op1 : (o5 1).op = .move (.tmp 5) := by kernel_rfl
theorem o5_op2 : (o5 2).op = .sliceToArrayPointer 84 (.tmp 22) := by kernel_rfl
theorem o5_op3 : (o5 3).op = .load 84 (.tmp 23) := by kernel_rfl
theorem o5_op4 : (o5 4).op = .call { callee := .value (.func 37), args := #[.tmp 21, .tmp 24], argTypes := #[76, 84] } := by kernel_rfl
theorem o5_op5 : (o5 5).op = .store 76 (.tmp 4) (.tmp 25) := by kernel_rfl

section
variable {b4 o4 bA oA : Nat} {h : H8} {b : List UInt8}
structure Nd (b4 o4 bA oA : Nat) (h : H8) (b : List UInt8) (z : Bool) (k : Nat) (a : Act) : Prop where
  size : a.tmps.size = 48
  t4 : a.tmps.getD 4 undef = .pointer (some ⟨b4, o4, none⟩)
  t5 : a.tmps.getD 5 undef = .slice (some ⟨bA, oA, none⟩) 64 64
  t21 : z = true → a.tmps.getD 21 undef = .agg (w32v h.l).toArray
  t22 : 1 ≤ k → a.tmps.getD 22 undef = .slice (some ⟨bA, oA, none⟩) 64 64
  t23 : 2 ≤ k → a.tmps.getD 23 undef = .pointer (some ⟨bA, oA, none⟩)
  t24 : 3 ≤ k → a.tmps.getD 24 undef = .agg (w8v b).toArray
theorem Nd.put {z z' : Bool} {k k' : Nat} {a : Act} {d : Nat} {v : Value} (hn : Nd b4 o4 bA oA h b z k a) (hd : d < 48) (hd4 : d ≠ 4) (hd5 : d ≠ 5)
    (h21 : z' = true → (if 21 = d then v else a.tmps.getD 21 undef) = .agg (w32v h.l).toArray) (h22 : 1 ≤ k' → (if 22 = d then v else a.tmps.getD 22 undef) = .slice (some ⟨bA, oA, none⟩) 64 64)
    (h23 : 2 ≤ k' → (if 23 = d then v else a.tmps.getD 23 undef) = .pointer (some ⟨bA, oA, none⟩)) (h24 : 3 ≤ k' → (if 24 = d then v else a.tmps.getD 24 undef) = .agg (w8v b).toArray) : Nd b4 o4 bA oA h b z' k' (a.put (some d) v) := by
  have hlt : d < a.tmps.size := by rw [hn.size]; exact hd
  refine ⟨by simp [Act.put, hn.size], ?_, ?_, ?_, ?_, ?_, ?_⟩
  · rw [getD_put _ _ _ _ hlt, if_neg (fun e => hd4 e.symm)]; exact hn.t4
  · rw [getD_put _ _ _ _ hlt, if_neg (fun e => hd5 e.symm)]; exact hn.t5
  · intro hz; rw [getD_put _ _ _ _ hlt]; exact h21 hz
  · intro hz; rw [getD_put _ _ _ _ hlt]; exact h22 hz
  · intro hz; rw [getD_put _ _ _ _ hlt]; exact h23 hz
  · intro hz; rw [getD_put _ _ _ _ hlt]; exact h24 hz

variable {W : World} {Q : World → Prop} {K : Act → World → Prop} {QQ : Exit → Act → World → Prop}
theorem st0 (hl33 : (Instr.loadAt 76 (.pointer (some ⟨b4, o4, none⟩))).run Try.prog W = .ok (.agg (w32v h.l).toArray) W) {k : Nat} {a : Act} (hn : Nd b4 o4 bA oA h b false k a) (hk : ∀ a, Nd b4 o4 bA oA h b true k a → K a W) : wpOp Try.prog ops5 QQ 0 K a W := by
  refine wpOp_val (w' := W) (v := .agg (w32v h.l).toArray) (o5_at 0 (by decide)) o5_guard.1 ?_ ?_
  · unfold execOp
    rw [o5_op0]
    have e : a.eval (.tmp 4) = .pointer (some ⟨b4, o4, none⟩) := hn.t4
    simp only [e, Sem.run_bind, hl33, Result.andThen_ok, Sem.run_pure]
  · rw [o5_dst.1]
    refine hk _ (hn.put (by decide) (by decide) (by decide) (fun _ => by rw [if_pos rfl]) (fun hz => by rw [if_neg (by decide)]; exact hn.t22 hz) (fun hz => by rw [if_neg (by decide)]; exact hn.t23 hz) (fun hz => by rw [if_neg (by decide)]; exact hn.t24 hz))
theorem st1 {z : Bool} {a : Act} (hn : Nd b4 o4 bA oA h b z 0 a) (hk : ∀ a, Nd b4 o4 bA oA h b z 1 a → K a W) : wpOp Try.prog ops5 QQ 1 K a W := by
  refine wpOp_val (w' := W) (v := .slice (some ⟨bA, oA, none⟩) 64 64) (o5_at 1 (by decide)) o5_guard.2.1 ?_ ?_
  · unfold execOp
    rw [o5_op1]
    have e : a.eval (.tmp 5) = .slice (some ⟨bA, oA, none⟩) 64 64 := hn.t5
    simp only [e, Sem.run_bind, Result.andThen_ok, Sem.run_pure]
  · rw [o5_dst.2.1]
    refine hk _ (hn.put (by decide) (by decide) (by decide) (fun hz => by rw [if_neg (by decide)]; exact hn.t21 hz) (fun hz => by rw [if_pos rfl]) (fun hz => by omega) (fun hz => by omega))
theorem st2 {z : Bool} {a : Act} (hn : Nd b4 o4 bA oA h b z 1 a) (hk : ∀ a, Nd b4 o4 bA oA h b z 2 a → K a W) : wpOp Try.prog ops5 QQ 2 K a W := by
  refine wpOp_val (w' := W) (v := .pointer (some ⟨bA, oA, none⟩)) (o5_at 2 (by decide)) o5_guard.2.2.1 ?_ ?_
  · unfold execOp
    rw [o5_op2]
    have e : a.eval (.tmp 22) = .slice (some ⟨bA, oA, none⟩) 64 64 := hn.t22 (by decide)
    simp only [e, Instr.arrayAt, Sem.run_bind, run_underlying Try.underlying84, Result.andThen_ok, if_neg (Nat.lt_irrefl 64), Sem.run_pure]
  · rw [o5_dst.2.2.1]
    refine hk _ (hn.put (by decide) (by decide) (by decide) (fun hz => by rw [if_neg (by decide)]; exact hn.t21 hz) (fun hz => by rw [if_neg (by decide)]; exact hn.t22 (by decide)) (fun hz => by rw [if_pos rfl]) (fun hz => by omega))
theorem st3 (hl34 : (Instr.loadAt 84 (.pointer (some ⟨bA, oA, none⟩))).run Try.prog W = .ok (.agg (w8v b).toArray) W) {z : Bool} {a : Act} (hn : Nd b4 o4 bA oA h b z 2 a) (hk : ∀ a, Nd b4 o4 bA oA h b z 3 a → K a W) : wpOp Try.prog ops5 QQ 3 K a W := by
  refine wpOp_val (w' := W) (v := .agg (w8v b).toArray) (o5_at 3 (by decide)) o5_guard.2.2.2.1 ?_ ?_
  · unfold execOp
    rw [o5_op3]
    have e : a.eval (.tmp 23) = .pointer (some ⟨bA, oA, none⟩) := hn.t23 (by decide)
    simp only [e, Sem.run_bind, hl34, Result.andThen_ok, Sem.run_pure]
  · rw [o5_dst.2.2.2.1]
    refine hk _ (hn.put (by decide) (by decide) (by decide) (fun hz => by rw [if_neg (by decide)]; exact hn.t21 hz) (fun hz => by rw [if_neg (by decide)]; exact hn.t22 (by decide)) (fun hz => by rw [if_neg (by decide)]; exact hn.t23 (by decide)) (fun hz => by rw [if_pos rfl]))
theorem st4 (hb : b.length = 64) {a : Act} (hn : Nd b4 o4 bA oA h b true 3 a) (hk : ∀ a W', Below W.heap.size W W' → a.tmps.getD 4 undef = .pointer (some ⟨b4, o4, none⟩) → a.tmps.getD 25 undef = .agg (w32v (turnH h b)).toArray → K a W') : wpOp Try.prog ops5 QQ 4 K a W := by
  have e1 : a.eval (.tmp 21) = .agg (w32v h.l).toArray := hn.t21 rfl
  have e2 : a.eval (.tmp 24) = .agg (w8v b).toArray := hn.t24 (by decide)
  refine wpOp_enter (w' := W) (f := 37) (args := #[.agg (w32v h.l).toArray, .agg (w8v b).toArray]) (o5_at 4 (by decide)) o5_guard.2.2.2.2.1 ?_ ?_
  · have := run_callV (P := Try.prog) (w := W) (a := a) o5_op4 (x := .func 37) rfl (f := 37) (caps := #[]) rfl (by kernel_rfl)
    rw [this]
    simp [e1, e2]
  · refine Calls.mono (turn_raw h b hb W) ?_
    rintro e w' ⟨rfl, hB⟩
    refine ⟨_, rfl, ?_⟩
    rw [o5_dst.2.2.2.2.1]
    have hlt : 25 < a.tmps.size := by rw [hn.size]; decide
    exact hk _ _ hB (by rw [getD_put _ _ _ _ hlt, if_neg (by decide)]; exact hn.t4) (by rw [getD_put _ _ _ _ hlt, if_pos rfl])
theorem st5 {a : Act} {W2 : World} {v : Value} (h4 : a.tmps.getD 4 undef = .pointer (some ⟨b4, o4, none⟩)) (h25 : a.tmps.getD 25 undef = v) (hs : (Instr.storeAt 76 (.pointer (some ⟨b4, o4, none⟩)) v).run Try.prog W = .ok () W2) (hk : ∀ a, K a W2) : wpOp Try.prog ops5 QQ 5 K a W := by
  refine wpOp_skip (w' := W2) (o5_at 5 (by decide)) o5_guard.2.2.2.2.2 ?_ (hk _)
  unfold execOp
  rw [o5_op5]
  have e : a.eval (.tmp 4) = .pointer (some ⟨b4, o4, none⟩) := h4
  have e' : a.eval (.tmp 25) = v := h25
  simp only [e, e', Sem.run_bind, hs, Result.andThen_ok, Sem.run_pure]
end

theorem rdy0 : Region.ready .any ops5 #[false, false, false, false, false, false] = [0, 1] := by kernel_rfl
theorem rdyA : Region.ready .any ops5 #[true, false, false, false, false, false] = [1] := by kernel_rfl
theorem rdyB : Region.ready .any ops5 #[true, true, false, false, false, false] = [2] := by kernel_rfl
theorem rdyC : Region.ready .any ops5 #[true, true, true, false, false, false] = [3] := by kernel_rfl
theorem rdyD : Region.ready .any ops5 #[true, true, true, true, false, false] = [4] := by kernel_rfl
theorem rdyE : Region.ready .any ops5 #[true, true, true, true, true, false] = [5] := by kernel_rfl
theorem rdyF : Region.ready .any ops5 #[true, true, true, true, true, true] = [] := by kernel_rfl
theorem rdyb : Region.ready .any ops5 #[false, true, false, false, false, false] = [0, 2] := by kernel_rfl
theorem rdyc : Region.ready .any ops5 #[false, true, true, false, false, false] = [0, 3] := by kernel_rfl
theorem rdyd : Region.ready .any ops5 #[false, true, true, true, false, false] = [0] := by kernel_rfl

theorem any_step {n : Nat} {L : Array Bool} {is : List Nat} {a : Act} {w : World} {P : Program} {ops : Array Oper} {Q : Exit → Act → World → Prop} (hr : Region.ready .any ops L = is) (hne : is ≠ []) (h : ∀ i ∈ is, wpOp P ops Q i (wpAny P .any ops Q n (L.setIfInBounds i true)) a w) : wpAny P .any ops Q (n + 1) L a w := by
  unfold wpAny
  rw [hr]
  exact ⟨fun e => absurd e hne, h⟩

section
variable {b4 o4 bA oA : Nat} {h : H8} {b : List UInt8} {W : World} {Q : World → Prop}
abbrev QR (Q : World → Prop) : Exit → Act → World → Prop := fun e _ W' => e = .normal ∧ Q W'
variable (hl33 : (Instr.loadAt 76 (.pointer (some ⟨b4, o4, none⟩))).run Try.prog W = .ok (.agg (w32v h.l).toArray) W) (hl34 : (Instr.loadAt 84 (.pointer (some ⟨bA, oA, none⟩))).run Try.prog W = .ok (.agg (w8v b).toArray) W) (hb : b.length = 64)
    (hst : ∀ W', Below W.heap.size W W' → ∃ W2, (Instr.storeAt 76 (.pointer (some ⟨b4, o4, none⟩)) (.agg (w32v (turnH h b)).toArray)).run Try.prog W' = .ok () W2 ∧ Q W2)
include hl33 hl34 hb hst
theorem any4 {a : Act} (hn : Nd b4 o4 bA oA h b true 3 a) : wpAny Try.prog .any ops5 (QR Q) 2 #[true, true, true, true, false, false] a W := by
  refine any_step rdyD (by decide) fun i hi => ?_
  obtain rfl := List.mem_singleton.1 hi
  refine st4 hb hn fun a' W' hB h4 h25 => ?_
  refine any_step (L := #[true, true, true, true, true, false]) rdyE (by decide) fun i hi => ?_
  obtain rfl := List.mem_singleton.1 hi
  obtain ⟨W2, hs, hq⟩ := hst W' hB
  refine st5 (W := W') h4 h25 hs fun a'' => ?_
  exact ⟨rdyF, rfl, hq⟩
theorem anyC {a : Act} (hn : Nd b4 o4 bA oA h b true 2 a) : wpAny Try.prog .any ops5 (QR Q) 3 #[true, true, true, false, false, false] a W := by
  refine any_step rdyC (by decide) fun i hi => ?_
  obtain rfl := List.mem_singleton.1 hi
  exact st3 hl34 hn fun a' h' => any4 hl33 hl34 hb hst h'
theorem anyB {a : Act} (hn : Nd b4 o4 bA oA h b true 1 a) : wpAny Try.prog .any ops5 (QR Q) 4 #[true, true, false, false, false, false] a W := by
  refine any_step rdyB (by decide) fun i hi => ?_
  obtain rfl := List.mem_singleton.1 hi
  exact st2 hn fun a' h' => anyC hl33 hl34 hb hst h'
theorem anyA {a : Act} (hn : Nd b4 o4 bA oA h b true 0 a) : wpAny Try.prog .any ops5 (QR Q) 5 #[true, false, false, false, false, false] a W := by
  refine any_step rdyA (by decide) fun i hi => ?_
  obtain rfl := List.mem_singleton.1 hi
  exact st1 hn fun a' h' => anyB hl33 hl34 hb hst h'
theorem anyd {a : Act} (hn : Nd b4 o4 bA oA h b false 3 a) : wpAny Try.prog .any ops5 (QR Q) 3 #[false, true, true, true, false, false] a W := by
  refine any_step rdyd (by decide) fun i hi => ?_
  obtain rfl := List.mem_singleton.1 hi
  exact st0 hl33 hn fun a' h' => any4 hl33 hl34 hb hst h'
theorem anyc {a : Act} (hn : Nd b4 o4 bA oA h b false 2 a) : wpAny Try.prog .any ops5 (QR Q) 4 #[false, true, true, false, false, false] a W := by
  refine any_step rdyc (by decide) fun i hi => ?_
  rcases List.mem_cons.1 hi with rfl | hi
  · exact st0 hl33 hn fun a' h' => anyC hl33 hl34 hb hst h'
  · obtain rfl := List.mem_singleton.1 hi
    exact st3 hl34 hn fun a' h' => anyd hl33 hl34 hb hst h'
theorem anyb {a : Act} (hn : Nd b4 o4 bA oA h b false 1 a) : wpAny Try.prog .any ops5 (QR Q) 5 #[false, true, false, false, false, false] a W := by
  refine any_step rdyb (by decide) fun i hi => ?_
  rcases List.mem_cons.1 hi with rfl | hi
  · exact st0 hl33 hn fun a' h' => anyB hl33 hl34 hb hst h'
  · obtain rfl := List.mem_singleton.1 hi
    exact st2 hn fun a' h' => anyc hl33 hl34 hb hst h'
theorem any0 {a : Act} (hn : Nd b4 o4 bA oA h b false 0 a) : wpAny Try.prog .any ops5 (QR Q) 6 #[false, false, false, false, false, false] a W := by
  refine any_step rdy0 (by decide) fun i hi => ?_
  rcases List.mem_cons.1 hi with rfl | hi
  · exact st0 hl33 hn fun a' h' => anyA hl33 hl34 hb hst h'
  · obtain rfl := List.mem_singleton.1 hi
    exact st1 hn fun a' h' => anyb hl33 hl34 hb hst h'
end
theorem round_in {b4 o4 bA oA : Nat} {h : H8} {b : List UInt8} {W : World} {Q : World → Prop} (l n : Nat) (hb : b.length = 64) (tm : Array Value) (htm : tm.size = 48) (h4 : tm.getD 4 undef = .pointer (some ⟨b4, o4, none⟩)) (h5 : tm.getD 5 undef = .slice (some ⟨bA, oA, none⟩) 64 64)
    (hl33 : ∀ W', W'.heap = W.heap → (Instr.loadAt 76 (.pointer (some ⟨b4, o4, none⟩))).run Try.prog W' = .ok (.agg (w32v h.l).toArray) W')
    (hl34 : ∀ W', W'.heap = W.heap → (Instr.loadAt 84 (.pointer (some ⟨bA, oA, none⟩))).run Try.prog W' = .ok (.agg (w8v b).toArray) W')
    (hst : ∀ W', Below W.heap.size W W' → ∃ W2, (Instr.storeAt 76 (.pointer (some ⟨b4, o4, none⟩)) (.agg (w32v (turnH h b)).toArray)).run Try.prog W' = .ok () W2 ∧ Q W2) :
    (Code.region 5 ops5 true).wpIn (Fence.wide.inRound l) n Try.prog (QR Q) { tmps := tm, defers := [] } W := by
  have hmx : Try.prog.follows .mixedOrders = true := by kernel_rfl
  have hdr : Below W.heap.size W { W with drawn := W.drawn + 1 } := ⟨rfl, rfl, rfl, Nat.le_refl _, fun _ _ => rfl⟩
  have hno : ¬ LetsOut (QR Q) := by rintro ⟨a, w, h, _⟩; cases h
  have h0 := any0 (W := { W with drawn := W.drawn + 1 }) (Q := Q) (hl33 _ rfl) (hl34 _ rfl) hb (fun W' hB => hst W' (hdr.trans hB)) (a := { tmps := tm, defers := [] }) ⟨htm, h4, h5, (fun e => by cases e), (fun e => by omega), (fun e => by omega), (fun e => by omega)⟩
  refine region_round (z := 60) (Q := QR Q) (Q' := QR Q) hmx ?_ hno hno ?_ (fun _ _ _ h _ => h) ?_
  · intro i o ho c
    have hs : ops5.size = 6 := by kernel_rfl
    have hi : i < 6 := by have := (Array.getElem?_eq_some_iff.1 ho).1; omega
    rw [o5_at i hi] at ho
    injection ho with ho
    subst ho
    rcases (show i = 0 ∨ i = 1 ∨ i = 2 ∨ i = 3 ∨ i = 4 ∨ i = 5 by omega) with rfl | rfl | rfl | rfl | rfl | rfl
    · rw [o5_op0]; intro e; cases e
    · rw [o5_op1]; intro e; cases e
    · rw [o5_op2]; intro e; cases e
    · rw [o5_op3]; intro e; cases e
    · rw [o5_op4]; intro e; cases e
    · rw [o5_op5]; intro e; cases e
  · intro i o ho
    have hs : ops5.size = 6 := by kernel_rfl
    have hi : i < 6 := by have := (Array.getElem?_eq_some_iff.1 ho).1; omega
    rw [o5_at i hi] at ho
    injection ho with ho
    subst ho
    obtain ⟨d0, d1, d2, d3, d4, d5⟩ := o5_dst
    rcases (show i = 0 ∨ i = 1 ∨ i = 2 ∨ i = 3 ∨ i = 4 ∨ i = 5 by omega) with rfl | rfl | rfl | rfl | rfl | rfl
    · rw [d0]; decide
    · rw [d1]; decide
    · rw [d2]; decide
    · rw [d3]; decide
    · rw [d4]; decide
    · rw [d5]; decide
  · have hs : ops5.size = 6 := by kernel_rfl
    rw [hs]
    exact h0
end
end Go.Proofs.Ytkphojcmjffccaa
