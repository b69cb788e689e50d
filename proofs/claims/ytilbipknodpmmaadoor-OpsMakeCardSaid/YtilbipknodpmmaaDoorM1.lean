/- Of the ops: a table's volumes, where a block stands, a write. -/
import Derived.Test.YtilbipknodpmmaaDoorK0
import Derived.Test.YtilbipknodpmmaaDoorD5
import Derived.Test.YtilbipknodpmmaaDoorB1
import Derived.Test.YtilbipknodpmmaaDoorE31
import Derived.Test.YtilbipknodpmmaaDoorM13
import Derived.Test.YtilbipknodpmmaaDoorProg
set_option linter.unusedVariables false
set_option linter.unusedSimpArgs false
set_option linter.unusedSectionVars false
set_option maxRecDepth 100000
set_option maxHeartbeats 8000000
namespace Go.Proofs.YtilbipknodpmmaaDoor
open Go.RowKit

theorem bl_allO {p : IV → Bool} (h : ∀ n : Int, p (.int .u8 n) = true) (xs : List UInt8) : (bl xs).all p = true := by simp [bl, h]
theorem decV_le (b : List UInt8) : (decV b).length ≤ 3 := by
  by_cases h : isB b = true
  · rw [(decV_yes h).1]
    exact goodV_len (by unfold isB at h; simp only [Bool.and_eq_true] at h; exact h.1.2)
  · rw [(decV_no (by simpa using h)).1]; simp
theorem decV_good (b : List UInt8) : goodV (decV b) = true := by
  by_cases h : isB b = true
  · rw [(decV_yes h).1]
    unfold isB at h
    simp only [Bool.and_eq_true] at h
    exact h.1.2
  · rw [(decV_no (by simpa using h)).1]; rfl
theorem ownV_or (vs : List Vol) : (vs = [] ∧ ownV vs = .sl .full 0 []) ∨ (vs ≠ [] ∧ ownV vs = .own vs.length 2 (vl vs)) := by
  by_cases h : vs = []
  · exact .inl ⟨h, if_pos h⟩
  · exact .inr ⟨h, if_neg h⟩
theorem volsP_ok (b : List UInt8) (hb : b.length = 32) : RC Tryd.prog 16 [.agg (bl b)] [ownV (decV b)] := by
  refine RC.of_wp c16 rfl ?_
  have c1 := decTab_ok b hb
  have lb : (bl b).length = 32 := by rw [bl_length, hb]
  have tb : List.take 32 (bl b) = bl b := List.take_of_length_le (by omega)
  have tv := take_vl (decV b)
  rcases ownV_or (decV b) with ⟨_, e⟩ | ⟨_, e⟩
  · rw [e] at c1 ⊢
    repeat' (first | simp -implicitDefEqProofs (maxSteps := 2000000) only [m16_1, m16_2, m16_3, m16_r, m16_b, m16, lb, tb, bl_scal, bl_allO, wk, act, asV, ↓reduceIte, Nat.reduceEqDiff, reduceCtorEq, Nat.reduceAdd, Nat.reduceLeDiff, Nat.reduceSub, Nat.reduceMul, List.reduceReplicate, Int.reduceEq, Int.reduceLT, Int.reduceLE, Int.reduceAdd, Int.reduceSub, Int.reduceMul, Nat.reduceLT, Int.reduceToNat] | ((first | ((with_reducible refine CallL.gate ?_); apply CallL.of) | ((with_reducible refine CallP.gate ?_); apply CallP.of)); (case h1 => (simp -implicitDefEqProofs (maxSteps := 2000000) only [m16_1, m16_2, m16_3, m16_r, m16_b, m16, lb, tb, bl_scal, bl_allO, wk, act, asV, ↓reduceIte, Nat.reduceEqDiff, reduceCtorEq, Nat.reduceAdd, Nat.reduceLeDiff, Nat.reduceSub, Nat.reduceMul, List.reduceReplicate, Int.reduceEq, Int.reduceLT, Int.reduceLE, Int.reduceAdd, Int.reduceSub, Int.reduceMul, Nat.reduceLT, Int.reduceToNat]; first | done | (with_reducible rfl))); (case h2 => (first | exact c1)); (case h3 => simp -implicitDefEqProofs (maxSteps := 2000000) only [m16_1, m16_2, m16_3, m16_r, m16_b, m16, lb, tb, bl_scal, bl_allO, wk, act, asV, ↓reduceIte, Nat.reduceEqDiff, reduceCtorEq, Nat.reduceAdd, Nat.reduceLeDiff, Nat.reduceSub, Nat.reduceMul, List.reduceReplicate, Int.reduceEq, Int.reduceLT, Int.reduceLE, Int.reduceAdd, Int.reduceSub, Int.reduceMul, Nat.reduceLT, Int.reduceToNat])))
  · rw [e] at c1 ⊢
    repeat' (first | simp -implicitDefEqProofs (maxSteps := 2000000) only [m16_1, m16_2, m16_3, m16_r, m16_b, m16, lb, tb, tv, bl_scal, bl_allO, wk, act, asV, ↓reduceIte, Nat.reduceEqDiff, reduceCtorEq, Nat.reduceAdd, Nat.reduceLeDiff, Nat.reduceSub, Nat.reduceMul, List.reduceReplicate, Int.reduceEq, Int.reduceLT, Int.reduceLE, Int.reduceAdd, Int.reduceSub, Int.reduceMul, Nat.reduceLT, Int.reduceToNat] | ((first | ((with_reducible refine CallL.gate ?_); apply CallL.of) | ((with_reducible refine CallP.gate ?_); apply CallP.of)); (case h1 => (simp -implicitDefEqProofs (maxSteps := 2000000) only [m16_1, m16_2, m16_3, m16_r, m16_b, m16, lb, tb, tv, bl_scal, bl_allO, wk, act, asV, ↓reduceIte, Nat.reduceEqDiff, reduceCtorEq, Nat.reduceAdd, Nat.reduceLeDiff, Nat.reduceSub, Nat.reduceMul, List.reduceReplicate, Int.reduceEq, Int.reduceLT, Int.reduceLE, Int.reduceAdd, Int.reduceSub, Int.reduceMul, Nat.reduceLT, Int.reduceToNat]; first | done | (with_reducible rfl))); (case h2 => (first | exact c1)); (case h3 => simp -implicitDefEqProofs (maxSteps := 2000000) only [m16_1, m16_2, m16_3, m16_r, m16_b, m16, lb, tb, tv, bl_scal, bl_allO, wk, act, asV, ↓reduceIte, Nat.reduceEqDiff, reduceCtorEq, Nat.reduceAdd, Nat.reduceLeDiff, Nat.reduceSub, Nat.reduceMul, List.reduceReplicate, Int.reduceEq, Int.reduceLT, Int.reduceLE, Int.reduceAdd, Int.reduceSub, Int.reduceMul, Nat.reduceLT, Int.reduceToNat])))
def plE (vs : List Vol) (nm : List UInt8) (n : Int) : Int := if findV nm vs < 0 then 16 else if n < 0 ∨ ((vs.getD (findV nm vs).toNat ⟨[], []⟩).blocks.length : Int) ≤ n then 17 else 0
def plP (vs : List Vol) (nm : List UInt8) (n : Int) : Int := if plE vs nm n = 0 then (vs.getD (findV nm vs).toNat ⟨[], []⟩).blocks.getD n.toNat 0 else 0
theorem findV_cases (nm : List UInt8) (vs : List Vol) : findV nm vs = -1 ∨ ∃ i, i < vs.length ∧ findV nm vs = (i : Nat) := by
  unfold findV
  split
  · rename_i h
    exact .inr ⟨_, h, rfl⟩
  · exact .inl rfl
theorem drop_vl1 {vs : List Vol} {i : Nat} (h : i < vs.length) : List.drop (i * 2 + 1) (vl vs) = .sl .plain vs[i].blocks.length (il vs[i].blocks) :: (vl vs).drop ((i + 1) * 2) := by
  rw [← List.drop_drop, drop_vl h]; rfl
theorem placeP_ok (b nm : List UInt8) (n : Int) (hb : b.length = 32) (hn : nm.length < 2 ^ 63) : RC Tryd.prog 13 [.agg (bl b), .str nm, .int .i64 n] [.int .i64 (plP (decV b) nm n), .int .i64 (plE (decV b) nm n)] := by
  refine RC.of_wp c13 rfl ?_
  have c1 := volsP_ok b hb
  have lb : (bl b).length = 32 := by rw [bl_length, hb]
  have tb : List.take 32 (bl b) = bl b := List.take_of_length_le (by omega)
  have hl := decV_le b
  obtain ⟨vs, hvs⟩ : ∃ vs, vs = decV b := ⟨_, rfl⟩
  rw [← hvs] at c1 hl ⊢
  have tv := take_vl vs
  have lv := vl_length vs
  have pv := vl_pur vs
  rcases ownV_or vs with ⟨h0, e⟩ | ⟨h0, e⟩
  · have c2 := find_ok .full (by simp) nm [] (by simp)
    have ef : findV nm [] = -1 := rfl
    rw [vl_nil, List.length_nil, ef] at c2
    rw [e] at c1
    have e1 : plE vs nm n = 16 := by rw [h0]; rfl
    have e2 : plP vs nm n = 0 := by unfold plP; rw [e1]; rfl
    rw [e1, e2]
    repeat' (first | simp -implicitDefEqProofs (maxSteps := 2000000) only [m13_1, m13_2, m13_3, m13_4, m13_5, m13_6, m13_7, m13_8, m13_9, m13_r, m13_b, m13, lb, tb, bl_scal, bl_allO, wk, act, asV, ↓reduceIte, Nat.reduceEqDiff, reduceCtorEq, Nat.reduceAdd, Nat.reduceLeDiff, Nat.reduceSub, Nat.reduceMul, List.reduceReplicate, Int.reduceEq, Int.reduceLT, Int.reduceLE, Int.reduceAdd, Int.reduceSub, Int.reduceMul, Nat.reduceLT, Int.reduceToNat] | ((first | ((with_reducible refine CallL.gate ?_); apply CallL.of) | ((with_reducible refine CallP.gate ?_); apply CallP.of)); (case h1 => (simp -implicitDefEqProofs (maxSteps := 2000000) only [m13_1, m13_2, m13_3, m13_4, m13_5, m13_6, m13_7, m13_8, m13_9, m13_r, m13_b, m13, lb, tb, bl_scal, bl_allO, wk, act, asV, ↓reduceIte, Nat.reduceEqDiff, reduceCtorEq, Nat.reduceAdd, Nat.reduceLeDiff, Nat.reduceSub, Nat.reduceMul, List.reduceReplicate, Int.reduceEq, Int.reduceLT, Int.reduceLE, Int.reduceAdd, Int.reduceSub, Int.reduceMul, Nat.reduceLT, Int.reduceToNat]; first | done | (with_reducible rfl))); (case h2 => (first | exact c1 | exact c2)); (case h3 => simp -implicitDefEqProofs (maxSteps := 2000000) only [m13_1, m13_2, m13_3, m13_4, m13_5, m13_6, m13_7, m13_8, m13_9, m13_r, m13_b, m13, lb, tb, bl_scal, bl_allO, wk, act, asV, ↓reduceIte, Nat.reduceEqDiff, reduceCtorEq, Nat.reduceAdd, Nat.reduceLeDiff, Nat.reduceSub, Nat.reduceMul, List.reduceReplicate, Int.reduceEq, Int.reduceLT, Int.reduceLE, Int.reduceAdd, Int.reduceSub, Int.reduceMul, Nat.reduceLT, Int.reduceToNat])))
  · have c2 := find_ok .plain (by simp) nm vs (by omega)
    rw [e] at c1
    rcases findV_cases nm vs with hf | ⟨i, hi, hf⟩
    · rw [hf] at c2
      have e1 : plE vs nm n = 16 := by unfold plE; rw [if_pos (by omega)]
      have e2 : plP vs nm n = 0 := by unfold plP; rw [e1]; rfl
      rw [e1, e2]
      repeat' (first | simp -implicitDefEqProofs (maxSteps := 2000000) only [m13_1, m13_2, m13_3, m13_4, m13_5, m13_6, m13_7, m13_8, m13_9, m13_r, m13_b, m13, lb, tb, tv, lv, pv, bl_scal, bl_allO, wk, act, asV, ↓reduceIte, Nat.reduceEqDiff, reduceCtorEq, Nat.reduceAdd, Nat.reduceLeDiff, Nat.reduceSub, Nat.reduceMul, List.reduceReplicate, Int.reduceEq, Int.reduceLT, Int.reduceLE, Int.reduceAdd, Int.reduceSub, Int.reduceMul, Nat.reduceLT, Int.reduceToNat] | ((first | ((with_reducible refine CallL.gate ?_); apply CallL.of) | ((with_reducible refine CallP.gate ?_); apply CallP.of)); (case h1 => (simp -implicitDefEqProofs (maxSteps := 2000000) only [m13_1, m13_2, m13_3, m13_4, m13_5, m13_6, m13_7, m13_8, m13_9, m13_r, m13_b, m13, lb, tb, tv, lv, pv, bl_scal, bl_allO, wk, act, asV, ↓reduceIte, Nat.reduceEqDiff, reduceCtorEq, Nat.reduceAdd, Nat.reduceLeDiff, Nat.reduceSub, Nat.reduceMul, List.reduceReplicate, Int.reduceEq, Int.reduceLT, Int.reduceLE, Int.reduceAdd, Int.reduceSub, Int.reduceMul, Nat.reduceLT, Int.reduceToNat]; first | done | (with_reducible rfl))); (case h2 => (first | exact c1 | exact c2)); (case h3 => simp -implicitDefEqProofs (maxSteps := 2000000) only [m13_1, m13_2, m13_3, m13_4, m13_5, m13_6, m13_7, m13_8, m13_9, m13_r, m13_b, m13, lb, tb, tv, lv, pv, bl_scal, bl_allO, wk, act, asV, ↓reduceIte, Nat.reduceEqDiff, reduceCtorEq, Nat.reduceAdd, Nat.reduceLeDiff, Nat.reduceSub, Nat.reduceMul, List.reduceReplicate, Int.reduceEq, Int.reduceLT, Int.reduceLE, Int.reduceAdd, Int.reduceSub, Int.reduceMul, Nat.reduceLT, Int.reduceToNat])))
    · rw [hf] at c2
      have hi' : ((i : Nat) : Int) < vs.length := by omega
      have hi0 : ¬ ((i : Nat) : Int) < 0 := by omega
      have d1 := drop_vl1 hi
      have d0 := drop_vl hi
      have b1 : i * 2 + 1 + 1 ≤ vs.length * 2 := by omega
      have hg : vs.getD (findV nm vs).toNat ⟨[], []⟩ = vs[i] := by rw [hf, Int.toNat_natCast, List.getD_eq_getElem?_getD, List.getElem?_eq_getElem hi]; rfl
      obtain ⟨bs, hbs⟩ : ∃ bs, bs = vs[i].blocks := ⟨_, rfl⟩
      by_cases n0 : n < 0
      · have e1 : plE vs nm n = 17 := by unfold plE; rw [if_neg (by omega), if_pos (.inl n0)]
        have e2 : plP vs nm n = 0 := by unfold plP; rw [e1]; rfl
        rw [e1, e2]
        repeat' (first | simp -implicitDefEqProofs (maxSteps := 2000000) only [m13_1, m13_2, m13_3, m13_4, m13_5, m13_6, m13_7, m13_8, m13_9, m13_r, m13_b, m13, lb, tb, tv, lv, pv, hi0, n0, bl_scal, bl_allO, wk, act, asV, ↓reduceIte, Nat.reduceEqDiff, reduceCtorEq, Nat.reduceAdd, Nat.reduceLeDiff, Nat.reduceSub, Nat.reduceMul, List.reduceReplicate, Int.reduceEq, Int.reduceLT, Int.reduceLE, Int.reduceAdd, Int.reduceSub, Int.reduceMul, Nat.reduceLT, Int.reduceToNat] | ((first | ((with_reducible refine CallL.gate ?_); apply CallL.of) | ((with_reducible refine CallP.gate ?_); apply CallP.of)); (case h1 => (simp -implicitDefEqProofs (maxSteps := 2000000) only [m13_1, m13_2, m13_3, m13_4, m13_5, m13_6, m13_7, m13_8, m13_9, m13_r, m13_b, m13, lb, tb, tv, lv, pv, hi0, n0, bl_scal, bl_allO, wk, act, asV, ↓reduceIte, Nat.reduceEqDiff, reduceCtorEq, Nat.reduceAdd, Nat.reduceLeDiff, Nat.reduceSub, Nat.reduceMul, List.reduceReplicate, Int.reduceEq, Int.reduceLT, Int.reduceLE, Int.reduceAdd, Int.reduceSub, Int.reduceMul, Nat.reduceLT, Int.reduceToNat]; first | done | (with_reducible rfl))); (case h2 => (first | exact c1 | exact c2)); (case h3 => simp -implicitDefEqProofs (maxSteps := 2000000) only [m13_1, m13_2, m13_3, m13_4, m13_5, m13_6, m13_7, m13_8, m13_9, m13_r, m13_b, m13, lb, tb, tv, lv, pv, hi0, n0, bl_scal, bl_allO, wk, act, asV, ↓reduceIte, Nat.reduceEqDiff, reduceCtorEq, Nat.reduceAdd, Nat.reduceLeDiff, Nat.reduceSub, Nat.reduceMul, List.reduceReplicate, Int.reduceEq, Int.reduceLT, Int.reduceLE, Int.reduceAdd, Int.reduceSub, Int.reduceMul, Nat.reduceLT, Int.reduceToNat])))
      · by_cases n1 : (bs.length : Int) ≤ n
        · have e1 : plE vs nm n = 17 := by unfold plE; rw [if_neg (by omega), hg, ← hbs, if_pos (.inr n1)]
          have e2 : plP vs nm n = 0 := by unfold plP; rw [e1]; rfl
          rw [e1, e2]
          rw [← hbs] at d1
          repeat' (first | simp -implicitDefEqProofs (maxSteps := 2000000) only [m13_1, m13_2, m13_3, m13_4, m13_5, m13_6, m13_7, m13_8, m13_9, m13_r, m13_b, m13, lb, tb, tv, lv, pv, hi0, hi', n0, n1, d0, d1, b1, bl_scal, bl_allO, wk, act, asV, ↓reduceIte, Nat.reduceEqDiff, reduceCtorEq, Nat.reduceAdd, Nat.reduceLeDiff, Nat.reduceSub, Nat.reduceMul, List.reduceReplicate, Int.reduceEq, Int.reduceLT, Int.reduceLE, Int.reduceAdd, Int.reduceSub, Int.reduceMul, Nat.reduceLT, Int.reduceToNat] | ((first | ((with_reducible refine CallL.gate ?_); apply CallL.of) | ((with_reducible refine CallP.gate ?_); apply CallP.of)); (case h1 => (simp -implicitDefEqProofs (maxSteps := 2000000) only [m13_1, m13_2, m13_3, m13_4, m13_5, m13_6, m13_7, m13_8, m13_9, m13_r, m13_b, m13, lb, tb, tv, lv, pv, hi0, hi', n0, n1, d0, d1, b1, bl_scal, bl_allO, wk, act, asV, ↓reduceIte, Nat.reduceEqDiff, reduceCtorEq, Nat.reduceAdd, Nat.reduceLeDiff, Nat.reduceSub, Nat.reduceMul, List.reduceReplicate, Int.reduceEq, Int.reduceLT, Int.reduceLE, Int.reduceAdd, Int.reduceSub, Int.reduceMul, Nat.reduceLT, Int.reduceToNat]; first | done | (with_reducible rfl))); (case h2 => (first | exact c1 | exact c2)); (case h3 => simp -implicitDefEqProofs (maxSteps := 2000000) only [m13_1, m13_2, m13_3, m13_4, m13_5, m13_6, m13_7, m13_8, m13_9, m13_r, m13_b, m13, lb, tb, tv, lv, pv, hi0, hi', n0, n1, d0, d1, b1, bl_scal, bl_allO, wk, act, asV, ↓reduceIte, Nat.reduceEqDiff, reduceCtorEq, Nat.reduceAdd, Nat.reduceLeDiff, Nat.reduceSub, Nat.reduceMul, List.reduceReplicate, Int.reduceEq, Int.reduceLT, Int.reduceLE, Int.reduceAdd, Int.reduceSub, Int.reduceMul, Nat.reduceLT, Int.reduceToNat])))
        · have e1 : plE vs nm n = 0 := by unfold plE; rw [if_neg (by omega), hg, ← hbs, if_neg (by omega)]
          have hk : n.toNat < bs.length := by omega
          have e2 : plP vs nm n = bs[n.toNat] := by unfold plP; rw [if_pos e1, hg, ← hbs, List.getD_eq_getElem?_getD, List.getElem?_eq_getElem hk]; rfl
          rw [e1, e2]
          rw [← hbs] at d1
          obtain ⟨k, rfl⟩ : ∃ k : Nat, n = (k : Int) := ⟨n.toNat, by omega⟩
          simp only [Int.toNat_natCast] at hk ⊢
          have hk' : ((k : Nat) : Int) < bs.length := by omega
          have dk := drop_il hk
          have lk := il_length bs
          repeat' (first | simp -implicitDefEqProofs (maxSteps := 2000000) only [m13_1, m13_2, m13_3, m13_4, m13_5, m13_6, m13_7, m13_8, m13_9, m13_r, m13_b, m13, lb, tb, tv, lv, pv, hi0, hi', n0, n1, hk', d0, d1, b1, dk, lk, bl_scal, bl_allO, wk, act, asV, ↓reduceIte, Nat.reduceEqDiff, reduceCtorEq, Nat.reduceAdd, Nat.reduceLeDiff, Nat.reduceSub, Nat.reduceMul, List.reduceReplicate, Int.reduceEq, Int.reduceLT, Int.reduceLE, Int.reduceAdd, Int.reduceSub, Int.reduceMul, Nat.reduceLT, Int.reduceToNat] | ((first | ((with_reducible refine CallL.gate ?_); apply CallL.of) | ((with_reducible refine CallP.gate ?_); apply CallP.of)); (case h1 => (simp -implicitDefEqProofs (maxSteps := 2000000) only [m13_1, m13_2, m13_3, m13_4, m13_5, m13_6, m13_7, m13_8, m13_9, m13_r, m13_b, m13, lb, tb, tv, lv, pv, hi0, hi', n0, n1, hk', d0, d1, b1, dk, lk, bl_scal, bl_allO, wk, act, asV, ↓reduceIte, Nat.reduceEqDiff, reduceCtorEq, Nat.reduceAdd, Nat.reduceLeDiff, Nat.reduceSub, Nat.reduceMul, List.reduceReplicate, Int.reduceEq, Int.reduceLT, Int.reduceLE, Int.reduceAdd, Int.reduceSub, Int.reduceMul, Nat.reduceLT, Int.reduceToNat]; first | done | (with_reducible rfl))); (case h2 => (first | exact c1 | exact c2)); (case h3 => simp -implicitDefEqProofs (maxSteps := 2000000) only [m13_1, m13_2, m13_3, m13_4, m13_5, m13_6, m13_7, m13_8, m13_9, m13_r, m13_b, m13, lb, tb, tv, lv, pv, hi0, hi', n0, n1, hk', d0, d1, b1, dk, lk, bl_scal, bl_allO, wk, act, asV, ↓reduceIte, Nat.reduceEqDiff, reduceCtorEq, Nat.reduceAdd, Nat.reduceLeDiff, Nat.reduceSub, Nat.reduceMul, List.reduceReplicate, Int.reduceEq, Int.reduceLT, Int.reduceLE, Int.reduceAdd, Int.reduceSub, Int.reduceMul, Nat.reduceLT, Int.reduceToNat])))
/-! ### blocks that are written -/
def ptC (p : Int × List UInt8) : List IV := .int .i64 p.1 :: bl p.2
def ptL (ps : List (Int × List UInt8)) : List IV := ps.flatMap ptC
theorem ptC_length {p : Int × List UInt8} (h : p.2.length = 32) : (ptC p).length = 33 := by simp [ptC, bl_length, h]
theorem ptL_length {ps : List (Int × List UInt8)} (h : ∀ p ∈ ps, p.2.length = 32) : (ptL ps).length = ps.length * 33 := by
  induction ps with
  | nil => rfl
  | cons p ps ih =>
    have h1 := ptC_length (h p (by simp))
    have h2 := ih fun q hq => h q (by simp [hq])
    simp only [ptL, List.flatMap_cons, List.length_append, List.length_cons] at h2 ⊢
    omega
theorem ptC_scal (p : Int × List UInt8) : (ptC p).all IV.scal = true := by simp [ptC, IV.scal, bl_scal]
theorem ptL_scal (ps : List (Int × List UInt8)) : (ptL ps).all IV.scal = true := by
  induction ps with
  | nil => rfl
  | cons p ps ih =>
    simp only [ptL, List.flatMap_cons] at ih ⊢
    rw [List.all_append, ptC_scal, ih]; rfl
theorem purL_app : ∀ (a b : List IV), IV.purL a = true → IV.purL b = true → IV.purL (a ++ b) = true
  | [], _, _, h => h
  | x :: a, b, h1, h2 => by
    simp only [List.cons_append, IV.purL, Bool.and_eq_true] at h1 ⊢
    exact ⟨h1.1, purL_app a b h1.2 h2⟩
theorem ptC_pur (p : Int × List UInt8) : IV.purL (ptC p) = true := by simp only [ptC, IV.purL, IV.pur, Bool.true_and]; exact bl_pur _
theorem ptL_pur (ps : List (Int × List UInt8)) : IV.purL (ptL ps) = true := by
  induction ps with
  | nil => rfl
  | cons p ps ih => exact purL_app _ _ (ptC_pur p) ih
theorem placed_pt {D : List IV} (lD : D.length = 32) (i : IV) (Z : List IV) (hZ : Z.length = 33) : placed Z [(0, [i]), (1, D)] = some (i :: D) := by
  have e : List.take 1 ([i] ++ List.drop 1 Z) = [i] := rfl
  simp only [placed, List.length_cons, List.length_nil, lD, hZ, List.length_append, List.length_take, List.length_drop]
  simp [hZ, lD, List.drop_eq_nil_of_le]
theorem placed_pt2 {D Z : List UInt8} (i : IV) (hD : D.length = 32) (hZ : Z.length = 32) : placed (i :: bl Z) [(1, bl D)] = some (i :: bl D) := by
  simp [placed, bl_length, hZ, hD, List.drop_eq_nil_of_le]
def wrE (b nm : List UInt8) (n : Int) : Int := plE (decV b) nm n
def wrR (b nm : List UInt8) (n : Int) (d : List UInt8) : IV := if wrE b nm n = 0 then .sl .full 1 (ptC (plP (decV b) nm n, d)) else .sl .full 0 []
theorem plE_cases (vs : List Vol) (nm : List UInt8) (n : Int) : plE vs nm n = 0 ∨ plE vs nm n = 16 ∨ plE vs nm n = 17 := by
  unfold plE
  split
  · exact .inr (.inl rfl)
  · split
    · exact .inr (.inr rfl)
    · exact .inl rfl
theorem writeP_ok (b nm d : List UInt8) (n : Int) (hb : b.length = 32) (hn : nm.length < 2 ^ 63) (hd : d.length = 32) : RC Tryd.prog 18 [.agg (bl b), .str nm, .int .i64 n, .agg (bl d)] [wrR b nm n d, .int .i64 (wrE b nm n)] := by
  refine RC.of_wp c18 rfl ?_
  have c1 := placeP_ok b nm n hb hn
  have lb : (bl b).length = 32 := by rw [bl_length, hb]
  have tb : List.take 32 (bl b) = bl b := List.take_of_length_le (by omega)
  have ld : (bl d).length = 32 := by rw [bl_length, hd]
  have td : List.take 32 (bl d) = bl d := List.take_of_length_le (by omega)
  have hpl := fun i Z hZ => placed_pt ld i Z hZ
  have he := plE_cases (decV b) nm n
  unfold wrR wrE
  obtain ⟨E, hE⟩ : ∃ E, E = plE (decV b) nm n := ⟨_, rfl⟩
  obtain ⟨P, hP⟩ : ∃ P, P = plP (decV b) nm n := ⟨_, rfl⟩
  rw [← hE] at he
  rw [← hE, ← hP] at c1 ⊢
  have lp : (IV.int .i64 P :: bl d).length = 33 := by simp [ld]
  have sp : (IV.int .i64 P :: bl d).all IV.scal = true := ptC_scal (P, d)
  have tp : List.take 33 (IV.int .i64 P :: bl d) = .int .i64 P :: bl d := List.take_of_length_le (by omega)
  rcases he with he | he | he
  · rw [he] at c1 ⊢
    rw [if_pos rfl]
    unfold ptC
    repeat' (first | simp -implicitDefEqProofs (maxSteps := 2000000) only [m18_1, m18_2, m18_3, m18_4, m18_5, m18_6, m18_r, m18_b, m18, lb, tb, ld, td, hpl, lp, sp, tp, bl_scal, bl_allO, wk, act, asV, ↓reduceIte, Nat.reduceEqDiff, reduceCtorEq, Nat.reduceAdd, Nat.reduceLeDiff, Nat.reduceSub, Nat.reduceMul, List.reduceReplicate, Int.reduceEq, Int.reduceLT, Int.reduceLE, Int.reduceAdd, Int.reduceSub, Int.reduceMul, Nat.reduceLT, Int.reduceToNat] | ((first | ((with_reducible refine CallL.gate ?_); apply CallL.of) | ((with_reducible refine CallP.gate ?_); apply CallP.of)); (case h1 => (simp -implicitDefEqProofs (maxSteps := 2000000) only [m18_1, m18_2, m18_3, m18_4, m18_5, m18_6, m18_r, m18_b, m18, lb, tb, ld, td, hpl, lp, sp, tp, bl_scal, bl_allO, wk, act, asV, ↓reduceIte, Nat.reduceEqDiff, reduceCtorEq, Nat.reduceAdd, Nat.reduceLeDiff, Nat.reduceSub, Nat.reduceMul, List.reduceReplicate, Int.reduceEq, Int.reduceLT, Int.reduceLE, Int.reduceAdd, Int.reduceSub, Int.reduceMul, Nat.reduceLT, Int.reduceToNat]; first | done | (with_reducible rfl))); (case h2 => (first | exact c1)); (case h3 => simp -implicitDefEqProofs (maxSteps := 2000000) only [m18_1, m18_2, m18_3, m18_4, m18_5, m18_6, m18_r, m18_b, m18, lb, tb, ld, td, hpl, lp, sp, tp, bl_scal, bl_allO, wk, act, asV, ↓reduceIte, Nat.reduceEqDiff, reduceCtorEq, Nat.reduceAdd, Nat.reduceLeDiff, Nat.reduceSub, Nat.reduceMul, List.reduceReplicate, Int.reduceEq, Int.reduceLT, Int.reduceLE, Int.reduceAdd, Int.reduceSub, Int.reduceMul, Nat.reduceLT, Int.reduceToNat])))
  all_goals
    rw [he] at c1 ⊢
    rw [if_neg (by decide)]
    repeat' (first | simp -implicitDefEqProofs (maxSteps := 2000000) only [m18_1, m18_2, m18_3, m18_4, m18_5, m18_6, m18_r, m18_b, m18, lb, tb, ld, td, bl_scal, bl_allO, wk, act, asV, ↓reduceIte, Nat.reduceEqDiff, reduceCtorEq, Nat.reduceAdd, Nat.reduceLeDiff, Nat.reduceSub, Nat.reduceMul, List.reduceReplicate, Int.reduceEq, Int.reduceLT, Int.reduceLE, Int.reduceAdd, Int.reduceSub, Int.reduceMul, Nat.reduceLT, Int.reduceToNat] | ((first | ((with_reducible refine CallL.gate ?_); apply CallL.of) | ((with_reducible refine CallP.gate ?_); apply CallP.of)); (case h1 => (simp -implicitDefEqProofs (maxSteps := 2000000) only [m18_1, m18_2, m18_3, m18_4, m18_5, m18_6, m18_r, m18_b, m18, lb, tb, ld, td, bl_scal, bl_allO, wk, act, asV, ↓reduceIte, Nat.reduceEqDiff, reduceCtorEq, Nat.reduceAdd, Nat.reduceLeDiff, Nat.reduceSub, Nat.reduceMul, List.reduceReplicate, Int.reduceEq, Int.reduceLT, Int.reduceLE, Int.reduceAdd, Int.reduceSub, Int.reduceMul, Nat.reduceLT, Int.reduceToNat]; first | done | (with_reducible rfl))); (case h2 => (first | exact c1)); (case h3 => simp -implicitDefEqProofs (maxSteps := 2000000) only [m18_1, m18_2, m18_3, m18_4, m18_5, m18_6, m18_r, m18_b, m18, lb, tb, ld, td, bl_scal, bl_allO, wk, act, asV, ↓reduceIte, Nat.reduceEqDiff, reduceCtorEq, Nat.reduceAdd, Nat.reduceLeDiff, Nat.reduceSub, Nat.reduceMul, List.reduceReplicate, Int.reduceEq, Int.reduceLT, Int.reduceLE, Int.reduceAdd, Int.reduceSub, Int.reduceMul, Nat.reduceLT, Int.reduceToNat])))
end Go.Proofs.YtilbipknodpmmaaDoor
/- The loaded functions as texts of the ideal machine (written by a program of ours), and that they are the loaded ones. -/
set_option linter.unusedVariables false
namespace Go.Proofs.YtilbipknodpmmaaDoor
open Go.RowKit

/- tollhouse/pool.Take -/
def m48_1 : MCode :=
 (.seq
  (.reg
   [MI.op (some 4) (.mov (.c (.sl .full 0 []))) none,
    MI.op (some 5) (.mov (.c (.int .i64 1))) none])
  .ret)
def m48_2 : List MI :=
 [MI.op (some 20) (.bin .gtr (.tmp 17) (.tmp 19)) none,
  MI.op (some 16) (.mov (.tmp 20)) none]
def m48_3 : MCode :=
 (.seq
  (.reg
   [MI.op (some 4) (.mov (.c (.sl .full 0 []))) none,
    MI.op (some 5) (.mov (.c (.int .i64 18))) none])
  .ret)
def m48_4 : MCode :=
 (.cond (.tmp 16)
  m48_3
  .skip)
def m48_5 : MCode :=
 (.seq
  (.reg
   (MI.op (some 17) (.mov (.tmp 0)) none ::
    MI.op (some 18) (.mov (.tmp 1)) none ::
    MI.op (some 19) (.call 61 [(.tmp 18)]) none ::
    m48_2))
  m48_4)
def m48_6 : MCode :=
 (.cond (.tmp 9)
  m48_1
  m48_5)
def m48_7 : MCode :=
 (.reg
  [MI.op (some 34) (.mov (.tmp 6)) none,
   MI.op (some 35) (.mov (.tmp 8)) none,
   MI.op (some 36) (.bsl 1 1 [(.int .i64 0)] [(0, 1, (.tmp 35))]) none,
   MI.op (some 37) (.app 1 8 (.tmp 34) (.tmp 36)) none,
   MI.op (some 6) (.mov (.tmp 37)) none])
def m48_8 : MCode :=
 (.cond (.tmp 33)
  m48_7
  .skip)
def m48_9 : MCode :=
 (.seq
  (.blk 2
   (.seq
    (.reg
     [MI.op (some 29) (.mov (.tmp 7)) none,
      MI.op (some 30) (.mov (.tmp 8)) none,
      MI.op (some 31) (.bin .shr (.tmp 29) (.tmp 30)) none,
      MI.op (some 32) (.bin .and (.tmp 31) (.c (.int .u16 1))) none,
      MI.op (some 33) (.bin .eql (.tmp 32) (.c (.int .u16 0))) none])
  m48_8))
  (.reg
   [MI.op (some 27) (.mov (.tmp 8)) none,
    MI.op (some 28) (.bin .add (.tmp 27) (.c (.int .i64 1))) none,
    MI.op (some 8) (.mov (.tmp 28)) none]))
def m48_10 : MCode :=
 (.seq
  (.seq
   (.reg
    [MI.op (some 23) (.mov (.tmp 6)) none,
     MI.op (some 24) (.len (.tmp 23)) none,
     MI.op (some 25) (.mov (.tmp 0)) none,
     MI.op (some 26) (.bin .lss (.tmp 24) (.tmp 25)) none])
   (.cond (.tmp 26)
    .skip
    (.exit 1)))
  m48_9)
def m48_11 : MCode :=
 (.blk 1
  (.loop
  m48_10))
def m48_12 : MCode :=
 (.seq
  (.reg
   [MI.op (some 38) (.mov (.tmp 6)) none,
    MI.op (some 4) (.mov (.tmp 38)) none,
    MI.op (some 5) (.mov (.c (.int .i64 0))) none])
  .ret)
def m48_13 : MCode :=
 (.seq
  (.seq
   (.reg
    [MI.op (some 8) (.mov (.c (.int .i64 0))) none])
  m48_11)
  m48_12)
def m48_14 : MCode :=
 (.seq
  (.reg
   [MI.op (some 21) (.mov (.tmp 1)) none,
    MI.op (some 22) (.call 62 [(.tmp 21)]) none,
    MI.op (some 7) (.mov (.tmp 22)) none])
  m48_13)
def m48_15 : MCode :=
 (.seq
  (.reg
   [MI.op (some 6) (.mov (.c (.sl .full 0 []))) none])
  m48_14)
def m48_16 : MCode :=
 (.seq
  (.blk 0
   (.seq
    (.reg
     [MI.op (some 10) (.mov (.tmp 0)) none,
      MI.op (some 11) (.bin .lss (.tmp 10) (.c (.int .i64 1))) none,
      MI.op (some 12) (.mov (.tmp 11)) none,
      MI.op (some 13) (.mov (.tmp 0)) (some (12, false)),
      MI.op (some 14) (.bin .gtr (.tmp 13) (.c (.int .i64 4))) (some (12, false)),
      MI.op (some 15) (.pick (.tmp 12) (.c (.bool true)) (.tmp 14)) none,
      MI.op (some 9) (.mov (.tmp 15)) none])
  m48_6))
  m48_15)
def m48_r : List MRes := [.tmp 4, .tmp 5]
def m48_b : MCode :=
 (.seq
  (.reg
   [MI.op (some 4) (.mov (.c (.sl .full 0 []))) none,
    MI.op (some 5) (.mov (.c (.int .i64 0))) none])
  m48_16)
def m48 : MFunc := ⟨2, 39, m48_r, m48_b⟩
theorem c48 : compF Tryd.prog 48 m48 = some m48 := by kernel_rfl

/- tollhouse/tollhouseref11.Take -/
/- tollhouse/pool.Used -/
def m62_1 : MCode :=
 (.reg
  [MI.op (some 27) (.mov (.tmp 3)) none,
   MI.op (some 28) (.mov (.tmp 7)) none,
   MI.op (some 29) (.bin .shl (.c (.int .u16 1)) (.tmp 28)) none,
   MI.op (some 30) (.bin .or (.tmp 27) (.tmp 29)) none,
   MI.op (some 3) (.mov (.tmp 30)) none])
def m62_2 : MCode :=
 (.cond (.tmp 26)
  m62_1
  .skip)
def m62_3 : MCode :=
 (.seq
  (.reg
   [MI.op (some 21) (.mov (.tmp 7)) none,
    MI.op (some 22) (.bin .geq (.tmp 21) (.c (.int .i64 0))) none,
    MI.op (some 23) (.mov (.tmp 22)) none,
    MI.op (some 24) (.mov (.tmp 7)) (some (23, true)),
    MI.op (some 25) (.bin .lss (.tmp 24) (.c (.int .i64 12))) (some (23, true)),
    MI.op (some 26) (.pick (.tmp 23) (.tmp 25) (.c (.bool false))) none])
  m62_2)
def m62_4 : MCode :=
 (.seq
  (.blk 3
   (.seq
    (.reg
     [MI.op (some 19) (.ixSl 1 (.tmp 15) (.tmp 17)) none,
      MI.op (some 20) (.load false 1 (.tmp 19)) none,
      MI.op (some 7) (.mov (.tmp 20)) none])
  m62_3))
  (.reg
   [MI.op (some 31) (.bin .add (.tmp 17) (.c (.int .i64 1))) none,
    MI.op (some 17) (.mov (.tmp 31)) none]))
def m62_5 : MCode :=
 (.seq
  (.cond (.tmp 18)
   .skip
   (.exit 2))
  m62_4)
def m62_6 : MCode :=
 (.seq
  (.reg
   [MI.op (some 18) (.bin .lss (.tmp 17) (.tmp 16)) none])
  m62_5)
def m62_7 : MCode :=
 (.blk 2
  (.loop
  m62_6))
def m62_8 : MCode :=
 (.seq
  (.reg
   [MI.op (some 14) (.fa 1 (.tmp 5)) none,
    MI.op (some 15) (.load false 1 (.tmp 14)) none,
    MI.op (some 16) (.len (.tmp 15)) none,
    MI.op (some 17) (.mov (.c (.int .i64 0))) none])
  m62_7)
def m62_9 : MCode :=
 (.seq
  (.blk 1
   (.seq
    (.reg
     [MI.op (some 12) (.ixSl 2 (.tmp 8) (.tmp 10)) none,
      MI.op (some 13) (.load true 2 (.tmp 12)) none,
      MI.op (some 5) (.alloc [(.str []), (.sl .full 0 [])]) none,
      MI.op none (.store 2 (.tmp 5) (.tmp 13)) none])
  m62_8))
  (.reg
   [MI.op (some 32) (.bin .add (.tmp 10) (.c (.int .i64 1))) none,
    MI.op (some 10) (.mov (.tmp 32)) none]))
def m62_10 : MCode :=
 (.seq
  (.cond (.tmp 11)
   .skip
   (.exit 0))
  m62_9)
def m62_11 : MCode :=
 (.seq
  (.reg
   [MI.op (some 11) (.bin .lss (.tmp 10) (.tmp 9)) none])
  m62_10)
def m62_12 : MCode :=
 (.blk 0
  (.loop
  m62_11))
def m62_13 : MCode :=
 (.seq
  (.reg
   [MI.op (some 33) (.mov (.tmp 3)) none,
    MI.op (some 2) (.mov (.tmp 33)) none])
  .ret)
def m62_14 : MCode :=
 (.seq
  (.seq
   (.reg
    [MI.op (some 8) (.mov (.tmp 0)) none,
     MI.op (some 9) (.len (.tmp 8)) none,
     MI.op (some 10) (.mov (.c (.int .i64 0))) none])
  m62_12)
  m62_13)
def m62_15 : MCode :=
 (.seq
  (.reg
   [MI.op (some 3) (.mov (.c (.int .u16 1))) none])
  m62_14)
def m62_r : List MRes := [.tmp 2]
def m62_b : MCode :=
 (.seq
  (.reg
   [MI.op (some 2) (.mov (.c (.int .u16 0))) none])
  m62_15)
def m62 : MFunc := ⟨1, 34, m62_r, m62_b⟩
theorem c62 : compF Tryd.prog 62 m62 = some m62 := by kernel_rfl

/- tollhouse/tollhouseref11.Used -/
/- tollhouse/pool.Free -/
def m61_1 : List MI :=
 [MI.op (some 6) (.bin .sub (.c (.int .i64 12)) (.tmp 5)) none,
  MI.op (some 2) (.mov (.tmp 6)) none]
def m61_2 : List MI :=
 (MI.op (some 5) (.call 74 [(.tmp 4)]) none ::
  m61_1)
def m61_3 : MCode :=
 (.seq
  (.reg
   (MI.op (some 3) (.mov (.tmp 0)) none ::
    MI.op (some 4) (.call 62 [(.tmp 3)]) none ::
    m61_2))
  .ret)
def m61_r : List MRes := [.tmp 2]
def m61_b : MCode :=
 (.seq
  (.reg
   [MI.op (some 2) (.mov (.c (.int .i64 0))) none])
  m61_3)
def m61 : MFunc := ⟨1, 7, m61_r, m61_b⟩
theorem c61 : compF Tryd.prog 61 m61 = some m61 := by kernel_rfl

/- tollhouse/tollhouseref11.frees -/
/- math/bits.OnesCount16 -/
def m74_1 : MCode :=
 (.seq
  (.drw
   [MI.op (some 3) (.mov (.tmp 0)) none,
    MI.op (some 4) (.bin .shr (.tmp 3) (.c (.int .u64 8))) none,
    MI.op (some 5) (.idxStr (.c (.str [0, 1, 1, 2, 1, 2, 2, 3, 1, 2, 2, 3, 2, 3, 3, 4, 1, 2, 2, 3, 2, 3, 3, 4, 2, 3, 3, 4, 3, 4, 4, 5, 1, 2, 2, 3, 2, 3, 3, 4, 2, 3, 3, 4, 3, 4, 4, 5, 2, 3, 3, 4, 3, 4, 4, 5, 3, 4, 4, 5, 4, 5, 5, 6, 1, 2, 2, 3, 2, 3, 3, 4, 2, 3, 3, 4, 3, 4, 4, 5, 2, 3, 3, 4, 3, 4, 4, 5, 3, 4, 4, 5, 4, 5, 5, 6, 2, 3, 3, 4, 3, 4, 4, 5, 3, 4, 4, 5, 4, 5, 5, 6, 3, 4, 4, 5, 4, 5, 5, 6, 4, 5, 5, 6, 5, 6, 6, 7, 1, 2, 2, 3, 2, 3, 3, 4, 2, 3, 3, 4, 3, 4, 4, 5, 2, 3, 3, 4, 3, 4, 4, 5, 3, 4, 4, 5, 4, 5, 5, 6, 2, 3, 3, 4, 3, 4, 4, 5, 3, 4, 4, 5, 4, 5, 5, 6, 3, 4, 4, 5, 4, 5, 5, 6, 4, 5, 5, 6, 5, 6, 6, 7, 2, 3, 3, 4, 3, 4, 4, 5, 3, 4, 4, 5, 4, 5, 5, 6, 3, 4, 4, 5, 4, 5, 5, 6, 4, 5, 5, 6, 5, 6, 6, 7, 3, 4, 4, 5, 4, 5, 5, 6, 4, 5, 5, 6, 5, 6, 6, 7, 4, 5, 5, 6, 5, 6, 6, 7, 5, 6, 6, 7, 6, 7, 7, 8])) (.tmp 4)) none,
    MI.op (some 6) (.mov (.tmp 0)) none,
    MI.op (some 7) (.bin .and (.tmp 6) (.c (.int .u16 255))) none,
    MI.op (some 8) (.idxStr (.c (.str [0, 1, 1, 2, 1, 2, 2, 3, 1, 2, 2, 3, 2, 3, 3, 4, 1, 2, 2, 3, 2, 3, 3, 4, 2, 3, 3, 4, 3, 4, 4, 5, 1, 2, 2, 3, 2, 3, 3, 4, 2, 3, 3, 4, 3, 4, 4, 5, 2, 3, 3, 4, 3, 4, 4, 5, 3, 4, 4, 5, 4, 5, 5, 6, 1, 2, 2, 3, 2, 3, 3, 4, 2, 3, 3, 4, 3, 4, 4, 5, 2, 3, 3, 4, 3, 4, 4, 5, 3, 4, 4, 5, 4, 5, 5, 6, 2, 3, 3, 4, 3, 4, 4, 5, 3, 4, 4, 5, 4, 5, 5, 6, 3, 4, 4, 5, 4, 5, 5, 6, 4, 5, 5, 6, 5, 6, 6, 7, 1, 2, 2, 3, 2, 3, 3, 4, 2, 3, 3, 4, 3, 4, 4, 5, 2, 3, 3, 4, 3, 4, 4, 5, 3, 4, 4, 5, 4, 5, 5, 6, 2, 3, 3, 4, 3, 4, 4, 5, 3, 4, 4, 5, 4, 5, 5, 6, 3, 4, 4, 5, 4, 5, 5, 6, 4, 5, 5, 6, 5, 6, 6, 7, 2, 3, 3, 4, 3, 4, 4, 5, 3, 4, 4, 5, 4, 5, 5, 6, 3, 4, 4, 5, 4, 5, 5, 6, 4, 5, 5, 6, 5, 6, 6, 7, 3, 4, 4, 5, 4, 5, 5, 6, 4, 5, 5, 6, 5, 6, 6, 7, 4, 5, 5, 6, 5, 6, 6, 7, 5, 6, 6, 7, 6, 7, 7, 8])) (.tmp 7)) none]
   [MI.op (some 9) (.bin .add (.tmp 5) (.tmp 8)) none,
    MI.op (some 10) (.toInt .i64 (.tmp 9)) none,
    MI.op (some 2) (.mov (.tmp 10)) none])
  .ret)
def m74_r : List MRes := [.tmp 2]
def m74_b : MCode :=
 (.seq
  (.reg
   [MI.op (some 2) (.mov (.c (.int .i64 0))) none])
  m74_1)
def m74 : MFunc := ⟨1, 11, m74_r, m74_b⟩
theorem c74 : compF Tryd.prog 74 m74 = some m74 := by kernel_rfl

end Go.Proofs.YtilbipknodpmmaaDoor
