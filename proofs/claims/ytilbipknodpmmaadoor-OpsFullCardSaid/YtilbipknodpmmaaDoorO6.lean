/- Of the ops: a volume that goes. -/
import Derived.Test.YtilbipknodpmmaaDoorO3
import Derived.Test.YtilbipknodpmmaaDoorO5
import Derived.Test.YtilbipknodpmmaaDoorE31
import Derived.Test.YtilbipknodpmmaaDoorM13
set_option linter.unusedVariables false
set_option linter.unusedSimpArgs false
set_option linter.unusedSectionVars false
set_option maxRecDepth 100000
set_option maxHeartbeats 8000000
namespace Go.Proofs.YtilbipknodpmmaaDoor
open Go.RowKit

theorem sub_flat {l m : List Vol} (h : l.Sublist m) : (l.flatMap Vol.blocks).Sublist (m.flatMap Vol.blocks) := by
  induction h with
  | slnil => exact .slnil
  | cons a h ih => rw [List.flatMap_cons]; exact ih.trans (List.sublist_append_right _ _)
  | cons_cons a h ih => rw [List.flatMap_cons, List.flatMap_cons]; exact List.Sublist.append (List.Sublist.refl _) ih
theorem good_erase {vs : List Vol} (h : goodV vs = true) (i : Nat) : goodV (vs.eraseIdx i) = true := by
  have gp := goodV_P h
  have hs : (vs.eraseIdx i).Sublist vs := List.eraseIdx_sublist vs i
  refine goodV_yes (Nat.le_trans hs.length_le (goodV_len h)) ⟨?_, ?_, ?_⟩
  · exact List.all_eq_true.2 fun v hv => List.all_eq_true.1 gp.each v (hs.subset hv)
  · exact (hs.map _).nodup gp.nms
  · exact (sub_flat hs).nodup gp.bls
theorem vl_erase {vs : List Vol} {i : Nat} (h : i < vs.length) : List.take (i * 2) (vl vs) ++ List.drop ((i + 1) * 2) (vl vs) = vl (vs.eraseIdx i) := by
  have e : vs = vs.take i ++ vs[i] :: vs.drop (i + 1) := by rw [List.getElem_cons_drop h, List.take_append_drop]
  have l1 : (vl (vs.take i)).length = i * 2 := by rw [vl_length, List.length_take]; omega
  have l2 : (vl (vs.take i) ++ vl [vs[i]]).length = (i + 1) * 2 := by rw [List.length_append, l1, vl_length]; simp; omega
  have e2 : vl vs = vl (vs.take i) ++ vl [vs[i]] ++ vl (vs.drop (i + 1)) := by
    rw [← vl_append, ← vl_append]
    congr 1
    rw [List.append_assoc]; exact e
  rw [List.eraseIdx_eq_take_drop_succ, vl_append]
  congr 1
  · rw [e2, List.append_assoc, ← l1, List.take_left]
  · rw [e2, ← l2, List.drop_left]
def gnE (vs : List Vol) (nm : List UInt8) : Int := if findV nm vs < 0 then 16 else 0
def gnP (vs : List Vol) (nm : List UInt8) : List (Int × List UInt8) := [(0, tabB (vs.eraseIdx (findV nm vs).toNat))]
theorem goneP_ok (b nm : List UInt8) (hb : b.length = 32) (hn : nm.length < 2 ^ 63) : RC Tryd.prog 23 [.agg (bl b), .str nm] [outP (gnE (decV b) nm) (gnP (decV b) nm), .int .i64 (gnE (decV b) nm)] := by
  refine RC.of_wp c23 rfl ?_
  have c1 := volsP_ok b hb
  have lb : (bl b).length = 32 := by rw [bl_length, hb]
  have tb : List.take 32 (bl b) = bl b := List.take_of_length_le (by omega)
  have hl := decV_le b
  have hgv := decV_good b
  unfold outP
  obtain ⟨vs, hvs⟩ : ∃ vs, vs = decV b := ⟨_, rfl⟩
  rw [← hvs] at c1 hl hgv ⊢
  have tv := take_vl vs
  have lv := vl_length vs
  have pv := vl_pur vs
  rcases ownV_or vs with ⟨h0, e⟩ | ⟨h0, e⟩
  · have c2 := find_ok .full (by simp) nm [] (by simp)
    have ef : findV nm [] = -1 := rfl
    rw [vl_nil, List.length_nil, ef] at c2
    rw [e] at c1
    have e1 : gnE vs nm = 16 := by rw [h0]; rfl
    rw [e1, if_neg (by decide)]
    repeat' (first | simp -implicitDefEqProofs (maxSteps := 2000000) only [m23_1, m23_2, m23_3, m23_4, m23_5, m23_6, m23_7, m23_8, m23_r, m23_b, m23, lb, tb, bl_scal, bl_allO, wk, act, asV, ↓reduceIte, Nat.reduceEqDiff, reduceCtorEq, Nat.reduceAdd, Nat.reduceLeDiff, Nat.reduceSub, Nat.reduceMul, List.reduceReplicate, Int.reduceEq, Int.reduceLT, Int.reduceLE, Int.reduceAdd, Int.reduceSub, Int.reduceMul, Nat.reduceLT, Int.reduceToNat] | ((first | ((with_reducible refine CallL.gate ?_); apply CallL.of) | ((with_reducible refine CallP.gate ?_); apply CallP.of)); (case h1 => (simp -implicitDefEqProofs (maxSteps := 2000000) only [m23_1, m23_2, m23_3, m23_4, m23_5, m23_6, m23_7, m23_8, m23_r, m23_b, m23, lb, tb, bl_scal, bl_allO, wk, act, asV, ↓reduceIte, Nat.reduceEqDiff, reduceCtorEq, Nat.reduceAdd, Nat.reduceLeDiff, Nat.reduceSub, Nat.reduceMul, List.reduceReplicate, Int.reduceEq, Int.reduceLT, Int.reduceLE, Int.reduceAdd, Int.reduceSub, Int.reduceMul, Nat.reduceLT, Int.reduceToNat]; first | done | (with_reducible rfl))); (case h2 => (first | exact c1 | exact c2)); (case h3 => simp -implicitDefEqProofs (maxSteps := 2000000) only [m23_1, m23_2, m23_3, m23_4, m23_5, m23_6, m23_7, m23_8, m23_r, m23_b, m23, lb, tb, bl_scal, bl_allO, wk, act, asV, ↓reduceIte, Nat.reduceEqDiff, reduceCtorEq, Nat.reduceAdd, Nat.reduceLeDiff, Nat.reduceSub, Nat.reduceMul, List.reduceReplicate, Int.reduceEq, Int.reduceLT, Int.reduceLE, Int.reduceAdd, Int.reduceSub, Int.reduceMul, Nat.reduceLT, Int.reduceToNat])))
  · have c2 := find_ok .plain (by simp) nm vs (by omega)
    rw [e] at c1
    rcases findV_cases nm vs with hf | ⟨i, hi, hf⟩
    · rw [hf] at c2
      have e1 : gnE vs nm = 16 := by unfold gnE; rw [if_pos (by omega)]
      rw [e1, if_neg (by decide)]
      repeat' (first | simp -implicitDefEqProofs (maxSteps := 2000000) only [m23_1, m23_2, m23_3, m23_4, m23_5, m23_6, m23_7, m23_8, m23_r, m23_b, m23, lb, tb, tv, lv, pv, bl_scal, bl_allO, wk, act, asV, ↓reduceIte, Nat.reduceEqDiff, reduceCtorEq, Nat.reduceAdd, Nat.reduceLeDiff, Nat.reduceSub, Nat.reduceMul, List.reduceReplicate, Int.reduceEq, Int.reduceLT, Int.reduceLE, Int.reduceAdd, Int.reduceSub, Int.reduceMul, Nat.reduceLT, Int.reduceToNat] | ((first | ((with_reducible refine CallL.gate ?_); apply CallL.of) | ((with_reducible refine CallP.gate ?_); apply CallP.of)); (case h1 => (simp -implicitDefEqProofs (maxSteps := 2000000) only [m23_1, m23_2, m23_3, m23_4, m23_5, m23_6, m23_7, m23_8, m23_r, m23_b, m23, lb, tb, tv, lv, pv, bl_scal, bl_allO, wk, act, asV, ↓reduceIte, Nat.reduceEqDiff, reduceCtorEq, Nat.reduceAdd, Nat.reduceLeDiff, Nat.reduceSub, Nat.reduceMul, List.reduceReplicate, Int.reduceEq, Int.reduceLT, Int.reduceLE, Int.reduceAdd, Int.reduceSub, Int.reduceMul, Nat.reduceLT, Int.reduceToNat]; first | done | (with_reducible rfl))); (case h2 => (first | exact c1 | exact c2)); (case h3 => simp -implicitDefEqProofs (maxSteps := 2000000) only [m23_1, m23_2, m23_3, m23_4, m23_5, m23_6, m23_7, m23_8, m23_r, m23_b, m23, lb, tb, tv, lv, pv, bl_scal, bl_allO, wk, act, asV, ↓reduceIte, Nat.reduceEqDiff, reduceCtorEq, Nat.reduceAdd, Nat.reduceLeDiff, Nat.reduceSub, Nat.reduceMul, List.reduceReplicate, Int.reduceEq, Int.reduceLT, Int.reduceLE, Int.reduceAdd, Int.reduceSub, Int.reduceMul, Nat.reduceLT, Int.reduceToNat])))
    · have e1 : gnE vs nm = 0 := by unfold gnE; rw [if_neg (by omega)]
      rw [e1, if_pos rfl]
      unfold gnP
      rw [hf] at c2
      rw [hf, Int.toNat_natCast]
      have hi0 : ¬ ((i : Nat) : Int) < 0 := by omega
      have wi : IntKind.i64.wrap (((i : Nat) : Int) + 1) = ((i : Nat) : Int) + 1 := by rw [IntKind.wrap_i64]; omega
      have hge := good_erase hgv i
      have hle : (vs.eraseIdx i).length = vs.length - 1 := List.length_eraseIdx_of_lt hi
      have dB := tabB_length (goodV_len hge)
      have hd : delC (vl vs) i = vl (vs.eraseIdx i) ++ [.str [], .sl .full 0 []] := by unfold delC; rw [vl_erase hi]
      have tV : List.take ((vs.eraseIdx i).length * 2) (List.drop 0 (delC (vl vs) i)) = vl (vs.eraseIdx i) := by
        rw [List.drop_zero, hd, List.take_append_of_le_length (by rw [vl_length]; exact Nat.le_refl _), take_vl]
      have lP : (ptL [(0, tabB (vs.eraseIdx i))]).length = 33 := by rw [ptL_length (by simpa using dB)]; rfl
      have tP : List.take 33 (ptL [(0, tabB (vs.eraseIdx i))]) = ptL [(0, tabB (vs.eraseIdx i))] := List.take_of_length_le (by omega)
      have ct := fun {H : Nat → Blk} {va : Nat} {rw' : Bool} (hH : H 9 = ⟨va, true, rw', true, delC (vl vs) i⟩) => tabled_ok (a := 9) (oa := 0) (p := 0) (vp := 0) (ps := []) (pv := .sl .full 0 []) (by decide) (by decide) hge hH tV (by simp) (by simp) (.inl ⟨rfl, rfl⟩)
      rw [hle] at ct
      simp only [List.nil_append, List.length_nil, Nat.zero_add] at ct
      repeat' (first | simp -implicitDefEqProofs (maxSteps := 2000000) only [m23_1, m23_2, m23_3, m23_4, m23_5, m23_6, m23_7, m23_8, m23_r, m23_b, m23, lb, tb, tv, lv, pv, hi0, wi, bl_scal, bl_allO, wk, act, asV, ↓reduceIte, Nat.reduceEqDiff, reduceCtorEq, Nat.reduceAdd, Nat.reduceLeDiff, Nat.reduceSub, Nat.reduceMul, List.reduceReplicate, Int.reduceEq, Int.reduceLT, Int.reduceLE, Int.reduceAdd, Int.reduceSub, Int.reduceMul, Nat.reduceLT, Int.reduceToNat] | ((first | ((with_reducible refine CallL.gate ?_); apply CallL.of) | ((with_reducible refine CallP.gate ?_); apply CallP.of)); (case h1 => (simp -implicitDefEqProofs (maxSteps := 2000000) only [m23_1, m23_2, m23_3, m23_4, m23_5, m23_6, m23_7, m23_8, m23_r, m23_b, m23, lb, tb, tv, lv, pv, hi0, wi, bl_scal, bl_allO, wk, act, asV, ↓reduceIte, Nat.reduceEqDiff, reduceCtorEq, Nat.reduceAdd, Nat.reduceLeDiff, Nat.reduceSub, Nat.reduceMul, List.reduceReplicate, Int.reduceEq, Int.reduceLT, Int.reduceLE, Int.reduceAdd, Int.reduceSub, Int.reduceMul, Nat.reduceLT, Int.reduceToNat]; first | done | (with_reducible rfl))); (case h2 => (first | exact c1 | exact c2)); (case h3 => simp -implicitDefEqProofs (maxSteps := 2000000) only [m23_1, m23_2, m23_3, m23_4, m23_5, m23_6, m23_7, m23_8, m23_r, m23_b, m23, lb, tb, tv, lv, pv, hi0, wi, bl_scal, bl_allO, wk, act, asV, ↓reduceIte, Nat.reduceEqDiff, reduceCtorEq, Nat.reduceAdd, Nat.reduceLeDiff, Nat.reduceSub, Nat.reduceMul, List.reduceReplicate, Int.reduceEq, Int.reduceLT, Int.reduceLE, Int.reduceAdd, Int.reduceSub, Int.reduceMul, Nat.reduceLT, Int.reduceToNat])))
      refine CallnL.of (by simp -implicitDefEqProofs (maxSteps := 2000000) only [wk, act, asV, ↓reduceIte, Nat.reduceEqDiff, reduceCtorEq, Nat.reduceAdd, Nat.reduceLeDiff, Nat.reduceSub, Nat.reduceMul, List.reduceReplicate, Int.reduceEq, Int.reduceLT, Int.reduceLE, Int.reduceAdd, Int.reduceSub, Int.reduceMul, Nat.reduceLT, Int.reduceToNat]; first | done | rfl) (del_ok (by simp -implicitDefEqProofs (maxSteps := 2000000) only [wk, act, asV, ↓reduceIte, Nat.reduceEqDiff, reduceCtorEq, Nat.reduceAdd, Nat.reduceLeDiff, Nat.reduceSub, Nat.reduceMul, List.reduceReplicate, Int.reduceEq, Int.reduceLT, Int.reduceLE, Int.reduceAdd, Int.reduceSub, Int.reduceMul, Nat.reduceLT, Int.reduceToNat]) (by simp -implicitDefEqProofs (maxSteps := 2000000) only [wk, act, asV, ↓reduceIte, Nat.reduceEqDiff, reduceCtorEq, Nat.reduceAdd, Nat.reduceLeDiff, Nat.reduceSub, Nat.reduceMul, List.reduceReplicate, Int.reduceEq, Int.reduceLT, Int.reduceLE, Int.reduceAdd, Int.reduceSub, Int.reduceMul, Nat.reduceLT, Int.reduceToNat]) (by simp -implicitDefEqProofs (maxSteps := 2000000) only [wk, act, asV, ↓reduceIte, Nat.reduceEqDiff, reduceCtorEq, Nat.reduceAdd, Nat.reduceLeDiff, Nat.reduceSub, Nat.reduceMul, List.reduceReplicate, Int.reduceEq, Int.reduceLT, Int.reduceLE, Int.reduceAdd, Int.reduceSub, Int.reduceMul, Nat.reduceLT, Int.reduceToNat]) (by simp -implicitDefEqProofs (maxSteps := 2000000) only [lv, Nat.zero_add, wk, act, asV, ↓reduceIte, Nat.reduceEqDiff, reduceCtorEq, Nat.reduceAdd, Nat.reduceLeDiff, Nat.reduceSub, Nat.reduceMul, List.reduceReplicate, Int.reduceEq, Int.reduceLT, Int.reduceLE, Int.reduceAdd, Int.reduceSub, Int.reduceMul, Nat.reduceLT, Int.reduceToNat]) hi (by omega)) ?_
      rintro _ h2 ⟨rfl, rfl⟩
      simp -implicitDefEqProofs (maxSteps := 2000000) only [wk, act, asV, ↓reduceIte, Nat.reduceEqDiff, reduceCtorEq, Nat.reduceAdd, Nat.reduceLeDiff, Nat.reduceSub, Nat.reduceMul, List.reduceReplicate, Int.reduceEq, Int.reduceLT, Int.reduceLE, Int.reduceAdd, Int.reduceSub, Int.reduceMul, Nat.reduceLT, Int.reduceToNat]
      refine CallnL.of (by simp -implicitDefEqProofs (maxSteps := 2000000) only [wk, act, asV, ↓reduceIte, Nat.reduceEqDiff, reduceCtorEq, Nat.reduceAdd, Nat.reduceLeDiff, Nat.reduceSub, Nat.reduceMul, List.reduceReplicate, Int.reduceEq, Int.reduceLT, Int.reduceLE, Int.reduceAdd, Int.reduceSub, Int.reduceMul, Nat.reduceLT, Int.reduceToNat]; first | done | rfl) (ct (by simp -implicitDefEqProofs (maxSteps := 2000000) only [delBlk, List.drop_zero, wk, act, asV, ↓reduceIte, Nat.reduceEqDiff, reduceCtorEq, Nat.reduceAdd, Nat.reduceLeDiff, Nat.reduceSub, Nat.reduceMul, List.reduceReplicate, Int.reduceEq, Int.reduceLT, Int.reduceLE, Int.reduceAdd, Int.reduceSub, Int.reduceMul, Nat.reduceLT, Int.reduceToNat]; first | done | rfl)) ?_
      rintro _ h3 ⟨w3, rfl, hw3⟩
      simp -implicitDefEqProofs (maxSteps := 2000000) only [hw3, tP, List.length_singleton, wk, act, asV, ↓reduceIte, Nat.reduceEqDiff, reduceCtorEq, Nat.reduceAdd, Nat.reduceLeDiff, Nat.reduceSub, Nat.reduceMul, List.reduceReplicate, Int.reduceEq, Int.reduceLT, Int.reduceLE, Int.reduceAdd, Int.reduceSub, Int.reduceMul, Nat.reduceLT, Int.reduceToNat]
end Go.Proofs.YtilbipknodpmmaaDoor
