/- The law OpsTell. -/
import Derived.Test.YtilbipknodpmmaaDoorO7
import Derived.Test.YtilbipknodpmmaaDoorM33
import Derived.Test.YtilbipknodpmmaaDoorE31
set_option linter.unusedVariables false
set_option linter.unusedSimpArgs false
set_option linter.unusedSectionVars false
set_option maxRecDepth 100000
set_option maxHeartbeats 8000000
namespace Go.Proofs.YtilbipknodpmmaaDoor
open Go.RowKit

theorem outP_or' (E : Int) (ps : List (Int × List UInt8)) : (E = 0 ∧ outP E ps = .own ps.length 33 (ptL ps)) ∨ (E ≠ 0 ∧ outP E ps = .sl .full 0 []) := by
  by_cases h : E = 0
  · exact .inl ⟨h, if_pos h⟩
  · exact .inr ⟨h, if_neg h⟩
theorem mk_ptL' {b nm : List UInt8} {n : Int} (hE : mkE (decV b) nm n = 0) : List.take ((mkP (decV b) nm n).length * 33) (ptL (mkP (decV b) nm n)) = ptL (mkP (decV b) nm n) ∧ (ptL (mkP (decV b) nm n)).length = (mkP (decV b) nm n).length * 33 ∧ (∀ q ∈ mkP (decV b) nm n, q.2.length = 32) ∧ (mkP (decV b) nm n).length ≤ 5 := by
  have hs : (decV b).length < 3 ∧ ¬ (n < 1 ∨ 4 < n) := by
    unfold mkE at hE
    repeat (first | (split at hE; (first | (exact absurd hE (by decide)) | skip)))
    omega
  have h : ∀ q ∈ mkP (decV b) nm n, q.2.length = 32 := by
    intro q hq
    unfold mkP at hq
    rcases List.mem_append.1 hq with hq | hq
    · exact zpt_ok _ q hq
    · obtain rfl := List.mem_singleton.1 hq
      refine tabB_length ?_
      unfold mkV
      simp
      omega
  have l := ptL_length h
  refine ⟨List.take_of_length_le (by omega), l, h, ?_⟩
  unfold mkP zpt
  rw [List.length_append, List.length_map, List.length_take, List.length_singleton]
  omega
structure TS (s : St) (b nm : List UInt8) (n : Int) (d : List UInt8) (v2 v3 : Nat) : Prop where
  k2 : s.t 2 = .ptr 2 0 v2
  h2 : s.h 2 = ⟨v2, true, true, false, bl b⟩
  k3 : s.t 3 = .ptr 3 0 v3
  h3 : s.h 3 = ⟨v3, true, true, false, .str nm :: .int .i64 n :: bl d⟩
variable {s : St} {b nm d : List UInt8} {n : Int} {v2 v3 : Nat}
theorem ot_gone (h : TS s b nm n d v2 v3) (hb : b.length = 32) (hn : nm.length < 2 ^ 63) (hd : d.length = 32) : Wp (RCs Tryd.prog) m3_20 (Post [.tmp 4] [.bool true]) s := by
  have lb : (bl b).length = 32 := by rw [bl_length, hb]
  have tb : List.take 32 (bl b) = bl b := List.take_of_length_le (by omega)
  have ld : (bl d).length = 32 := by rw [bl_length, hd]
  have c1 := goneP_ok b nm hb hn
  have c2 := goneR_ok b nm hb hn
  have hg : ∀ p ∈ gnP (decV b) nm, p.2.length = 32 := by
    intro p hp
    unfold gnP at hp
    obtain rfl := List.mem_singleton.1 hp
    exact tabB_length (goodV_len (good_erase (decV_good b) _))
  have lP := ptL_length hg
  have tP : List.take ((gnP (decV b) nm).length * 33) (ptL (gnP (decV b) nm)) = ptL (gnP (decV b) nm) := List.take_of_length_le (by omega)
  have sP := ptL_scal (gnP (decV b) nm)
  have pP := ptL_pur (gnP (decV b) nm)
  have c3 := putsC_ok .plain .full (gnP (decV b) nm) hg (by unfold gnP; simp)
  have c4 := putsC_ok .full .full [] (by simp) (by simp)
  have e0 : ptL [] = [] := rfl
  rw [e0, List.length_nil] at c4
  have gl : (gnP (decV b) nm).length = 1 := rfl
  by_cases hE : gnE (decV b) nm = 0
  · rw [hE, if_pos rfl] at c2
    rw [hE, show outP 0 (gnP (decV b) nm) = .own (gnP (decV b) nm).length 33 (ptL (gnP (decV b) nm)) from if_pos rfl] at c1
    obtain ⟨ps, hps⟩ : ∃ ps, ps = gnP (decV b) nm := ⟨_, rfl⟩
    rw [← hps] at c1 c2 c3 lP tP sP pP gl
    rw [gl] at c1 c3 lP tP
    repeat' (first | simp -implicitDefEqProofs (maxSteps := 2000000) only [m3_20, m3_14, m3_19, m3_15, m3_18, m3_17, m3_16, h.k2, h.h2, h.k3, h.h3, lb, tb, ld, lP, tP, sP, pP, bl_scal, bl_allO, wk, act, asV, ↓reduceIte, Nat.reduceEqDiff, reduceCtorEq, Nat.reduceAdd, Nat.reduceLeDiff, Nat.reduceSub, Nat.reduceMul, List.reduceReplicate, Int.reduceEq, Int.reduceLT, Int.reduceLE, Int.reduceAdd, Int.reduceSub, Int.reduceMul, Nat.reduceLT, Int.reduceToNat] | ((first | ((with_reducible refine CallL.gate ?_); apply CallL.of) | ((with_reducible refine CallP.gate ?_); apply CallP.of)); (case h1 => (simp -implicitDefEqProofs (maxSteps := 2000000) only [m3_20, m3_14, m3_19, m3_15, m3_18, m3_17, m3_16, h.k2, h.h2, h.k3, h.h3, lb, tb, ld, lP, tP, sP, pP, bl_scal, bl_allO, wk, act, asV, ↓reduceIte, Nat.reduceEqDiff, reduceCtorEq, Nat.reduceAdd, Nat.reduceLeDiff, Nat.reduceSub, Nat.reduceMul, List.reduceReplicate, Int.reduceEq, Int.reduceLT, Int.reduceLE, Int.reduceAdd, Int.reduceSub, Int.reduceMul, Nat.reduceLT, Int.reduceToNat]; first | done | (with_reducible rfl))); (case h2 => (first | exact c1 | exact c2 | exact c3 | exact wakesO_ok)); (case h3 => simp -implicitDefEqProofs (maxSteps := 2000000) only [m3_20, m3_14, m3_19, m3_15, m3_18, m3_17, m3_16, h.k2, h.h2, h.k3, h.h3, lb, tb, ld, lP, tP, sP, pP, bl_scal, bl_allO, wk, act, asV, ↓reduceIte, Nat.reduceEqDiff, reduceCtorEq, Nat.reduceAdd, Nat.reduceLeDiff, Nat.reduceSub, Nat.reduceMul, List.reduceReplicate, Int.reduceEq, Int.reduceLT, Int.reduceLE, Int.reduceAdd, Int.reduceSub, Int.reduceMul, Nat.reduceLT, Int.reduceToNat])))
  · rw [if_neg hE] at c2
    rw [show outP (gnE (decV b) nm) (gnP (decV b) nm) = .sl .full 0 [] from if_neg hE] at c1
    obtain ⟨E, hE'⟩ : ∃ E, E = gnE (decV b) nm := ⟨_, rfl⟩
    rw [← hE'] at c1 c2
    repeat' (first | simp -implicitDefEqProofs (maxSteps := 2000000) only [m3_20, m3_14, m3_19, m3_15, m3_18, m3_17, m3_16, h.k2, h.h2, h.k3, h.h3, lb, tb, ld, bl_scal, bl_allO, wk, act, asV, ↓reduceIte, Nat.reduceEqDiff, reduceCtorEq, Nat.reduceAdd, Nat.reduceLeDiff, Nat.reduceSub, Nat.reduceMul, List.reduceReplicate, Int.reduceEq, Int.reduceLT, Int.reduceLE, Int.reduceAdd, Int.reduceSub, Int.reduceMul, Nat.reduceLT, Int.reduceToNat] | ((first | ((with_reducible refine CallL.gate ?_); apply CallL.of) | ((with_reducible refine CallP.gate ?_); apply CallP.of)); (case h1 => (simp -implicitDefEqProofs (maxSteps := 2000000) only [m3_20, m3_14, m3_19, m3_15, m3_18, m3_17, m3_16, h.k2, h.h2, h.k3, h.h3, lb, tb, ld, bl_scal, bl_allO, wk, act, asV, ↓reduceIte, Nat.reduceEqDiff, reduceCtorEq, Nat.reduceAdd, Nat.reduceLeDiff, Nat.reduceSub, Nat.reduceMul, List.reduceReplicate, Int.reduceEq, Int.reduceLT, Int.reduceLE, Int.reduceAdd, Int.reduceSub, Int.reduceMul, Nat.reduceLT, Int.reduceToNat]; first | done | (with_reducible rfl))); (case h2 => (first | exact c1 | exact c2 | exact c4 | exact wakesO_ok)); (case h3 => simp -implicitDefEqProofs (maxSteps := 2000000) only [m3_20, m3_14, m3_19, m3_15, m3_18, m3_17, m3_16, h.k2, h.h2, h.k3, h.h3, lb, tb, ld, bl_scal, bl_allO, wk, act, asV, ↓reduceIte, Nat.reduceEqDiff, reduceCtorEq, Nat.reduceAdd, Nat.reduceLeDiff, Nat.reduceSub, Nat.reduceMul, List.reduceReplicate, Int.reduceEq, Int.reduceLT, Int.reduceLE, Int.reduceAdd, Int.reduceSub, Int.reduceMul, Nat.reduceLT, Int.reduceToNat])))
theorem ot_make (h : TS s b nm n d v2 v3) (hb : b.length = 32) (hn : nm.length < 2 ^ 63) (hd : d.length = 32) : Wp (RCs Tryd.prog) m3_23 (Post [.tmp 4] [.bool true]) s := by
  have lb : (bl b).length = 32 := by rw [bl_length, hb]
  have tb : List.take 32 (bl b) = bl b := List.take_of_length_le (by omega)
  have ld : (bl d).length = 32 := by rw [bl_length, hd]
  have c1 := makeP_ok b nm n hb hn
  have c2 := makeR_ok b nm n hb hn
  rcases outP_or' (mkE (decV b) nm n) (mkP (decV b) nm n) with ⟨hE, e⟩ | ⟨hE, e⟩
  · obtain ⟨t1, t2, t3, t4⟩ := mk_ptL' hE
    rw [e, hE] at c1 c2
    have s1 := ptL_scal (mkP (decV b) nm n)
    have p1 := ptL_pur (mkP (decV b) nm n)
    have c3 := putsC_ok .plain .plain (mkP (decV b) nm n) t3 (by omega)
    obtain ⟨ps, hps⟩ : ∃ ps, ps = mkP (decV b) nm n := ⟨_, rfl⟩
    rw [← hps] at c1 c2 c3 t1 t2 s1 p1
    repeat' (first | simp -implicitDefEqProofs (maxSteps := 2000000) only [m3_23, m3_10, m3_22, m3_11, m3_21, m3_12, m3_13, h.k2, h.h2, h.k3, h.h3, lb, tb, ld, t1, t2, s1, p1, bl_scal, bl_allO, wk, act, asV, ↓reduceIte, Nat.reduceEqDiff, reduceCtorEq, Nat.reduceAdd, Nat.reduceLeDiff, Nat.reduceSub, Nat.reduceMul, List.reduceReplicate, Int.reduceEq, Int.reduceLT, Int.reduceLE, Int.reduceAdd, Int.reduceSub, Int.reduceMul, Nat.reduceLT, Int.reduceToNat] | ((first | ((with_reducible refine CallL.gate ?_); apply CallL.of) | ((with_reducible refine CallP.gate ?_); apply CallP.of)); (case h1 => (simp -implicitDefEqProofs (maxSteps := 2000000) only [m3_23, m3_10, m3_22, m3_11, m3_21, m3_12, m3_13, h.k2, h.h2, h.k3, h.h3, lb, tb, ld, t1, t2, s1, p1, bl_scal, bl_allO, wk, act, asV, ↓reduceIte, Nat.reduceEqDiff, reduceCtorEq, Nat.reduceAdd, Nat.reduceLeDiff, Nat.reduceSub, Nat.reduceMul, List.reduceReplicate, Int.reduceEq, Int.reduceLT, Int.reduceLE, Int.reduceAdd, Int.reduceSub, Int.reduceMul, Nat.reduceLT, Int.reduceToNat]; first | done | (with_reducible rfl))); (case h2 => (first | exact c1 | exact c2 | exact c3)); (case h3 => simp -implicitDefEqProofs (maxSteps := 2000000) only [m3_23, m3_10, m3_22, m3_11, m3_21, m3_12, m3_13, h.k2, h.h2, h.k3, h.h3, lb, tb, ld, t1, t2, s1, p1, bl_scal, bl_allO, wk, act, asV, ↓reduceIte, Nat.reduceEqDiff, reduceCtorEq, Nat.reduceAdd, Nat.reduceLeDiff, Nat.reduceSub, Nat.reduceMul, List.reduceReplicate, Int.reduceEq, Int.reduceLT, Int.reduceLE, Int.reduceAdd, Int.reduceSub, Int.reduceMul, Nat.reduceLT, Int.reduceToNat])))
    exact ot_gone (n := n) (v2 := v2) (v3 := v3) ⟨by simp -implicitDefEqProofs (maxSteps := 2000000) only [h.k2, wk, act, asV, ↓reduceIte, Nat.reduceEqDiff, reduceCtorEq, Nat.reduceAdd, Nat.reduceLeDiff, Nat.reduceSub, Nat.reduceMul, List.reduceReplicate, Int.reduceEq, Int.reduceLT, Int.reduceLE, Int.reduceAdd, Int.reduceSub, Int.reduceMul, Nat.reduceLT, Int.reduceToNat], by simp -implicitDefEqProofs (maxSteps := 2000000) only [h.h2, wk, act, asV, ↓reduceIte, Nat.reduceEqDiff, reduceCtorEq, Nat.reduceAdd, Nat.reduceLeDiff, Nat.reduceSub, Nat.reduceMul, List.reduceReplicate, Int.reduceEq, Int.reduceLT, Int.reduceLE, Int.reduceAdd, Int.reduceSub, Int.reduceMul, Nat.reduceLT, Int.reduceToNat], by simp -implicitDefEqProofs (maxSteps := 2000000) only [h.k3, wk, act, asV, ↓reduceIte, Nat.reduceEqDiff, reduceCtorEq, Nat.reduceAdd, Nat.reduceLeDiff, Nat.reduceSub, Nat.reduceMul, List.reduceReplicate, Int.reduceEq, Int.reduceLT, Int.reduceLE, Int.reduceAdd, Int.reduceSub, Int.reduceMul, Nat.reduceLT, Int.reduceToNat], by simp -implicitDefEqProofs (maxSteps := 2000000) only [h.h3, wk, act, asV, ↓reduceIte, Nat.reduceEqDiff, reduceCtorEq, Nat.reduceAdd, Nat.reduceLeDiff, Nat.reduceSub, Nat.reduceMul, List.reduceReplicate, Int.reduceEq, Int.reduceLT, Int.reduceLE, Int.reduceAdd, Int.reduceSub, Int.reduceMul, Nat.reduceLT, Int.reduceToNat]⟩ hb hn hd
  · rw [e] at c1 c2
    have c4 := putsC_ok .full .full [] (by simp) (by simp)
    have e0 : ptL [] = [] := rfl
    rw [e0, List.length_nil] at c4
    obtain ⟨E, hE'⟩ : ∃ E, E = mkE (decV b) nm n := ⟨_, rfl⟩
    rw [← hE'] at c1 c2
    repeat' (first | simp -implicitDefEqProofs (maxSteps := 2000000) only [m3_23, m3_10, m3_22, m3_11, m3_21, m3_12, m3_13, h.k2, h.h2, h.k3, h.h3, lb, tb, ld, bl_scal, bl_allO, wk, act, asV, ↓reduceIte, Nat.reduceEqDiff, reduceCtorEq, Nat.reduceAdd, Nat.reduceLeDiff, Nat.reduceSub, Nat.reduceMul, List.reduceReplicate, Int.reduceEq, Int.reduceLT, Int.reduceLE, Int.reduceAdd, Int.reduceSub, Int.reduceMul, Nat.reduceLT, Int.reduceToNat] | ((first | ((with_reducible refine CallL.gate ?_); apply CallL.of) | ((with_reducible refine CallP.gate ?_); apply CallP.of)); (case h1 => (simp -implicitDefEqProofs (maxSteps := 2000000) only [m3_23, m3_10, m3_22, m3_11, m3_21, m3_12, m3_13, h.k2, h.h2, h.k3, h.h3, lb, tb, ld, bl_scal, bl_allO, wk, act, asV, ↓reduceIte, Nat.reduceEqDiff, reduceCtorEq, Nat.reduceAdd, Nat.reduceLeDiff, Nat.reduceSub, Nat.reduceMul, List.reduceReplicate, Int.reduceEq, Int.reduceLT, Int.reduceLE, Int.reduceAdd, Int.reduceSub, Int.reduceMul, Nat.reduceLT, Int.reduceToNat]; first | done | (with_reducible rfl))); (case h2 => (first | exact c1 | exact c2 | exact c4)); (case h3 => simp -implicitDefEqProofs (maxSteps := 2000000) only [m3_23, m3_10, m3_22, m3_11, m3_21, m3_12, m3_13, h.k2, h.h2, h.k3, h.h3, lb, tb, ld, bl_scal, bl_allO, wk, act, asV, ↓reduceIte, Nat.reduceEqDiff, reduceCtorEq, Nat.reduceAdd, Nat.reduceLeDiff, Nat.reduceSub, Nat.reduceMul, List.reduceReplicate, Int.reduceEq, Int.reduceLT, Int.reduceLE, Int.reduceAdd, Int.reduceSub, Int.reduceMul, Nat.reduceLT, Int.reduceToNat])))
    exact ot_gone (n := n) (v2 := v2) (v3 := v3) ⟨by simp -implicitDefEqProofs (maxSteps := 2000000) only [h.k2, wk, act, asV, ↓reduceIte, Nat.reduceEqDiff, reduceCtorEq, Nat.reduceAdd, Nat.reduceLeDiff, Nat.reduceSub, Nat.reduceMul, List.reduceReplicate, Int.reduceEq, Int.reduceLT, Int.reduceLE, Int.reduceAdd, Int.reduceSub, Int.reduceMul, Nat.reduceLT, Int.reduceToNat], by simp -implicitDefEqProofs (maxSteps := 2000000) only [h.h2, wk, act, asV, ↓reduceIte, Nat.reduceEqDiff, reduceCtorEq, Nat.reduceAdd, Nat.reduceLeDiff, Nat.reduceSub, Nat.reduceMul, List.reduceReplicate, Int.reduceEq, Int.reduceLT, Int.reduceLE, Int.reduceAdd, Int.reduceSub, Int.reduceMul, Nat.reduceLT, Int.reduceToNat], by simp -implicitDefEqProofs (maxSteps := 2000000) only [h.k3, wk, act, asV, ↓reduceIte, Nat.reduceEqDiff, reduceCtorEq, Nat.reduceAdd, Nat.reduceLeDiff, Nat.reduceSub, Nat.reduceMul, List.reduceReplicate, Int.reduceEq, Int.reduceLT, Int.reduceLE, Int.reduceAdd, Int.reduceSub, Int.reduceMul, Nat.reduceLT, Int.reduceToNat], by simp -implicitDefEqProofs (maxSteps := 2000000) only [h.h3, wk, act, asV, ↓reduceIte, Nat.reduceEqDiff, reduceCtorEq, Nat.reduceAdd, Nat.reduceLeDiff, Nat.reduceSub, Nat.reduceMul, List.reduceReplicate, Int.reduceEq, Int.reduceLT, Int.reduceLE, Int.reduceAdd, Int.reduceSub, Int.reduceMul, Nat.reduceLT, Int.reduceToNat]⟩ hb hn hd
theorem ot_write (h : TS s b nm n d v2 v3) (hb : b.length = 32) (hn : nm.length < 2 ^ 63) (hd : d.length = 32) : Wp (RCs Tryd.prog) m3_26 (Post [.tmp 4] [.bool true]) s := by
  have lb : (bl b).length = 32 := by rw [bl_length, hb]
  have tb : List.take 32 (bl b) = bl b := List.take_of_length_le (by omega)
  have ld : (bl d).length = 32 := by rw [bl_length, hd]
  have td : List.take 32 (bl d) = bl d := List.take_of_length_le (by omega)
  have c1 := writeP_ok b nm d n hb hn hd
  have c2 := writeR_ok b nm d n hb hn hd
  obtain ⟨ps, hw, hp, hl⟩ : ∃ ps, wrR b nm n d = .sl .full ps.length (ptL ps) ∧ (∀ p ∈ ps, p.2.length = 32) ∧ ps.length ≤ 1 := by
    unfold wrR
    split
    · exact ⟨[(plP (decV b) nm n, d)], by simp [ptL], by simpa using hd, by simp⟩
    · exact ⟨[], rfl, by simp, by simp⟩
  rw [hw] at c1 c2
  have c3 := putsC_ok .full .full ps hp (by omega)
  have lP := ptL_length hp
  have pP := ptL_pur ps
  obtain ⟨E, hE'⟩ : ∃ E, E = wrE b nm n := ⟨_, rfl⟩
  rw [← hE'] at c1 c2
  repeat' (first | simp -implicitDefEqProofs (maxSteps := 2000000) only [m3_26, m3_6, m3_25, m3_7, m3_24, m3_8, m3_9, h.k2, h.h2, h.k3, h.h3, lb, tb, ld, td, lP, pP, bl_scal, bl_allO, wk, act, asV, ↓reduceIte, Nat.reduceEqDiff, reduceCtorEq, Nat.reduceAdd, Nat.reduceLeDiff, Nat.reduceSub, Nat.reduceMul, List.reduceReplicate, Int.reduceEq, Int.reduceLT, Int.reduceLE, Int.reduceAdd, Int.reduceSub, Int.reduceMul, Nat.reduceLT, Int.reduceToNat] | ((first | ((with_reducible refine CallL.gate ?_); apply CallL.of) | ((with_reducible refine CallP.gate ?_); apply CallP.of)); (case h1 => (simp -implicitDefEqProofs (maxSteps := 2000000) only [m3_26, m3_6, m3_25, m3_7, m3_24, m3_8, m3_9, h.k2, h.h2, h.k3, h.h3, lb, tb, ld, td, lP, pP, bl_scal, bl_allO, wk, act, asV, ↓reduceIte, Nat.reduceEqDiff, reduceCtorEq, Nat.reduceAdd, Nat.reduceLeDiff, Nat.reduceSub, Nat.reduceMul, List.reduceReplicate, Int.reduceEq, Int.reduceLT, Int.reduceLE, Int.reduceAdd, Int.reduceSub, Int.reduceMul, Nat.reduceLT, Int.reduceToNat]; first | done | (with_reducible rfl))); (case h2 => (first | exact c1 | exact c2 | exact c3)); (case h3 => simp -implicitDefEqProofs (maxSteps := 2000000) only [m3_26, m3_6, m3_25, m3_7, m3_24, m3_8, m3_9, h.k2, h.h2, h.k3, h.h3, lb, tb, ld, td, lP, pP, bl_scal, bl_allO, wk, act, asV, ↓reduceIte, Nat.reduceEqDiff, reduceCtorEq, Nat.reduceAdd, Nat.reduceLeDiff, Nat.reduceSub, Nat.reduceMul, List.reduceReplicate, Int.reduceEq, Int.reduceLT, Int.reduceLE, Int.reduceAdd, Int.reduceSub, Int.reduceMul, Nat.reduceLT, Int.reduceToNat])))
  exact ot_make (n := n) (v2 := v2) (v3 := v3) ⟨by simp -implicitDefEqProofs (maxSteps := 2000000) only [h.k2, wk, act, asV, ↓reduceIte, Nat.reduceEqDiff, reduceCtorEq, Nat.reduceAdd, Nat.reduceLeDiff, Nat.reduceSub, Nat.reduceMul, List.reduceReplicate, Int.reduceEq, Int.reduceLT, Int.reduceLE, Int.reduceAdd, Int.reduceSub, Int.reduceMul, Nat.reduceLT, Int.reduceToNat], by simp -implicitDefEqProofs (maxSteps := 2000000) only [h.h2, wk, act, asV, ↓reduceIte, Nat.reduceEqDiff, reduceCtorEq, Nat.reduceAdd, Nat.reduceLeDiff, Nat.reduceSub, Nat.reduceMul, List.reduceReplicate, Int.reduceEq, Int.reduceLT, Int.reduceLE, Int.reduceAdd, Int.reduceSub, Int.reduceMul, Nat.reduceLT, Int.reduceToNat], by simp -implicitDefEqProofs (maxSteps := 2000000) only [h.k3, wk, act, asV, ↓reduceIte, Nat.reduceEqDiff, reduceCtorEq, Nat.reduceAdd, Nat.reduceLeDiff, Nat.reduceSub, Nat.reduceMul, List.reduceReplicate, Int.reduceEq, Int.reduceLT, Int.reduceLE, Int.reduceAdd, Int.reduceSub, Int.reduceMul, Nat.reduceLT, Int.reduceToNat], by simp -implicitDefEqProofs (maxSteps := 2000000) only [h.h3, wk, act, asV, ↓reduceIte, Nat.reduceEqDiff, reduceCtorEq, Nat.reduceAdd, Nat.reduceLeDiff, Nat.reduceSub, Nat.reduceMul, List.reduceReplicate, Int.reduceEq, Int.reduceLT, Int.reduceLE, Int.reduceAdd, Int.reduceSub, Int.reduceMul, Nat.reduceLT, Int.reduceToNat]⟩ hb hn hd
theorem opsTell (b nm d : List UInt8) (n : Int) (hb : b.length = 32) (hn : nm.length < 2 ^ 63) (hd : d.length = 32) : RC Tryd.prog 3 [.agg (bl b), .agg (.str nm :: .int .i64 n :: bl d)] [.bool true] := by
  refine RC.of_wp c3 rfl ?_
  by_cases h1 : (100 : Int) < nm.length
  · repeat' (first | simp -implicitDefEqProofs (maxSteps := 2000000) only [m3_1, m3_2, m3_3, m3_4, m3_5, m3_6, m3_7, m3_8, m3_9, m3_10, m3_11, m3_12, m3_13, m3_14, m3_15, m3_16, m3_17, m3_18, m3_19, m3_20, m3_21, m3_22, m3_23, m3_24, m3_25, m3_26, m3_27, m3_28, m3_29, m3_30, m3_r, m3_b, m3, h1, wk, act, asV, ↓reduceIte, Nat.reduceEqDiff, reduceCtorEq, Nat.reduceAdd, Nat.reduceLeDiff, Nat.reduceSub, Nat.reduceMul, List.reduceReplicate, Int.reduceEq, Int.reduceLT, Int.reduceLE, Int.reduceAdd, Int.reduceSub, Int.reduceMul, Nat.reduceLT, Int.reduceToNat] | ((first | ((with_reducible refine CallL.gate ?_); apply CallL.of) | ((with_reducible refine CallP.gate ?_); apply CallP.of)); (case h1 => (simp -implicitDefEqProofs (maxSteps := 2000000) only [m3_1, m3_2, m3_3, m3_4, m3_5, m3_6, m3_7, m3_8, m3_9, m3_10, m3_11, m3_12, m3_13, m3_14, m3_15, m3_16, m3_17, m3_18, m3_19, m3_20, m3_21, m3_22, m3_23, m3_24, m3_25, m3_26, m3_27, m3_28, m3_29, m3_30, m3_r, m3_b, m3, h1, wk, act, asV, ↓reduceIte, Nat.reduceEqDiff, reduceCtorEq, Nat.reduceAdd, Nat.reduceLeDiff, Nat.reduceSub, Nat.reduceMul, List.reduceReplicate, Int.reduceEq, Int.reduceLT, Int.reduceLE, Int.reduceAdd, Int.reduceSub, Int.reduceMul, Nat.reduceLT, Int.reduceToNat]; first | done | (with_reducible rfl))); (case h2 => (first | exact wakesO_ok)); (case h3 => simp -implicitDefEqProofs (maxSteps := 2000000) only [m3_1, m3_2, m3_3, m3_4, m3_5, m3_6, m3_7, m3_8, m3_9, m3_10, m3_11, m3_12, m3_13, m3_14, m3_15, m3_16, m3_17, m3_18, m3_19, m3_20, m3_21, m3_22, m3_23, m3_24, m3_25, m3_26, m3_27, m3_28, m3_29, m3_30, m3_r, m3_b, m3, h1, wk, act, asV, ↓reduceIte, Nat.reduceEqDiff, reduceCtorEq, Nat.reduceAdd, Nat.reduceLeDiff, Nat.reduceSub, Nat.reduceMul, List.reduceReplicate, Int.reduceEq, Int.reduceLT, Int.reduceLE, Int.reduceAdd, Int.reduceSub, Int.reduceMul, Nat.reduceLT, Int.reduceToNat])))
  have lb : (bl b).length = 32 := by rw [bl_length, hb]
  have tb : List.take 32 (bl b) = bl b := List.take_of_length_le (by omega)
  have c1 := placeP_ok b nm n hb hn
  have c2 := placeR_ok b nm n hb hn
  have c3 := volsP_ok b hb
  have c4 := volsR_ok b hb
  have hv := good_vs (decV_good b)
  have ld : (bl d).length = 32 := by rw [bl_length, hd]
  rcases ownV_or (decV b) with ⟨h0, e⟩ | ⟨h0, e⟩
  · have c5 := vols_ok .full .full [] [] (by simp) (by simp)
    rw [decide_eq_true rfl, vl_nil, List.length_nil] at c5
    rw [e] at c3 c4
    repeat' (first | simp -implicitDefEqProofs (maxSteps := 2000000) only [m3, m3_r, m3_b, m3_1, m3_2, m3_3, m3_4, m3_5, m3_27, m3_28, m3_29, m3_30, h1, lb, tb, ld, bl_scal, bl_allO, wk, act, asV, ↓reduceIte, Nat.reduceEqDiff, reduceCtorEq, Nat.reduceAdd, Nat.reduceLeDiff, Nat.reduceSub, Nat.reduceMul, List.reduceReplicate, Int.reduceEq, Int.reduceLT, Int.reduceLE, Int.reduceAdd, Int.reduceSub, Int.reduceMul, Nat.reduceLT, Int.reduceToNat] | ((first | ((with_reducible refine CallL.gate ?_); apply CallL.of) | ((with_reducible refine CallP.gate ?_); apply CallP.of)); (case h1 => (simp -implicitDefEqProofs (maxSteps := 2000000) only [m3, m3_r, m3_b, m3_1, m3_2, m3_3, m3_4, m3_5, m3_27, m3_28, m3_29, m3_30, h1, lb, tb, ld, bl_scal, bl_allO, wk, act, asV, ↓reduceIte, Nat.reduceEqDiff, reduceCtorEq, Nat.reduceAdd, Nat.reduceLeDiff, Nat.reduceSub, Nat.reduceMul, List.reduceReplicate, Int.reduceEq, Int.reduceLT, Int.reduceLE, Int.reduceAdd, Int.reduceSub, Int.reduceMul, Nat.reduceLT, Int.reduceToNat]; first | done | (with_reducible rfl))); (case h2 => (first | exact c1 | exact c2 | exact c3 | exact c4 | exact c5)); (case h3 => simp -implicitDefEqProofs (maxSteps := 2000000) only [m3, m3_r, m3_b, m3_1, m3_2, m3_3, m3_4, m3_5, m3_27, m3_28, m3_29, m3_30, h1, lb, tb, ld, bl_scal, bl_allO, wk, act, asV, ↓reduceIte, Nat.reduceEqDiff, reduceCtorEq, Nat.reduceAdd, Nat.reduceLeDiff, Nat.reduceSub, Nat.reduceMul, List.reduceReplicate, Int.reduceEq, Int.reduceLT, Int.reduceLE, Int.reduceAdd, Int.reduceSub, Int.reduceMul, Nat.reduceLT, Int.reduceToNat])))
    exact ot_write (n := n) (v2 := _) (v3 := _) ⟨by simp -implicitDefEqProofs (maxSteps := 2000000) only [hideH, wk, act, asV, ↓reduceIte, Nat.reduceEqDiff, reduceCtorEq, Nat.reduceAdd, Nat.reduceLeDiff, Nat.reduceSub, Nat.reduceMul, List.reduceReplicate, Int.reduceEq, Int.reduceLT, Int.reduceLE, Int.reduceAdd, Int.reduceSub, Int.reduceMul, Nat.reduceLT, Int.reduceToNat]; first | done | rfl, by simp -implicitDefEqProofs (maxSteps := 2000000) only [hideH, wk, act, asV, ↓reduceIte, Nat.reduceEqDiff, reduceCtorEq, Nat.reduceAdd, Nat.reduceLeDiff, Nat.reduceSub, Nat.reduceMul, List.reduceReplicate, Int.reduceEq, Int.reduceLT, Int.reduceLE, Int.reduceAdd, Int.reduceSub, Int.reduceMul, Nat.reduceLT, Int.reduceToNat]; first | done | rfl, by simp -implicitDefEqProofs (maxSteps := 2000000) only [hideH, wk, act, asV, ↓reduceIte, Nat.reduceEqDiff, reduceCtorEq, Nat.reduceAdd, Nat.reduceLeDiff, Nat.reduceSub, Nat.reduceMul, List.reduceReplicate, Int.reduceEq, Int.reduceLT, Int.reduceLE, Int.reduceAdd, Int.reduceSub, Int.reduceMul, Nat.reduceLT, Int.reduceToNat]; first | done | rfl, by simp -implicitDefEqProofs (maxSteps := 2000000) only [hideH, wk, act, asV, ↓reduceIte, Nat.reduceEqDiff, reduceCtorEq, Nat.reduceAdd, Nat.reduceLeDiff, Nat.reduceSub, Nat.reduceMul, List.reduceReplicate, Int.reduceEq, Int.reduceLT, Int.reduceLE, Int.reduceAdd, Int.reduceSub, Int.reduceMul, Nat.reduceLT, Int.reduceToNat]; first | done | rfl⟩ hb hn hd
  · have c5 := vols_ok .plain .plain (decV b) (decV b) hv.len hv.bl
    rw [decide_eq_true rfl] at c5
    rw [e] at c3 c4
    have tv := take_vl (decV b)
    have lv := vl_length (decV b)
    have pv := vl_pur (decV b)
    repeat' (first | simp -implicitDefEqProofs (maxSteps := 2000000) only [m3, m3_r, m3_b, m3_1, m3_2, m3_3, m3_4, m3_5, m3_27, m3_28, m3_29, m3_30, h1, lb, tb, ld, tv, lv, pv, bl_scal, bl_allO, wk, act, asV, ↓reduceIte, Nat.reduceEqDiff, reduceCtorEq, Nat.reduceAdd, Nat.reduceLeDiff, Nat.reduceSub, Nat.reduceMul, List.reduceReplicate, Int.reduceEq, Int.reduceLT, Int.reduceLE, Int.reduceAdd, Int.reduceSub, Int.reduceMul, Nat.reduceLT, Int.reduceToNat] | ((first | ((with_reducible refine CallL.gate ?_); apply CallL.of) | ((with_reducible refine CallP.gate ?_); apply CallP.of)); (case h1 => (simp -implicitDefEqProofs (maxSteps := 2000000) only [m3, m3_r, m3_b, m3_1, m3_2, m3_3, m3_4, m3_5, m3_27, m3_28, m3_29, m3_30, h1, lb, tb, ld, tv, lv, pv, bl_scal, bl_allO, wk, act, asV, ↓reduceIte, Nat.reduceEqDiff, reduceCtorEq, Nat.reduceAdd, Nat.reduceLeDiff, Nat.reduceSub, Nat.reduceMul, List.reduceReplicate, Int.reduceEq, Int.reduceLT, Int.reduceLE, Int.reduceAdd, Int.reduceSub, Int.reduceMul, Nat.reduceLT, Int.reduceToNat]; first | done | (with_reducible rfl))); (case h2 => (first | exact c1 | exact c2 | exact c3 | exact c4 | exact c5)); (case h3 => simp -implicitDefEqProofs (maxSteps := 2000000) only [m3, m3_r, m3_b, m3_1, m3_2, m3_3, m3_4, m3_5, m3_27, m3_28, m3_29, m3_30, h1, lb, tb, ld, tv, lv, pv, bl_scal, bl_allO, wk, act, asV, ↓reduceIte, Nat.reduceEqDiff, reduceCtorEq, Nat.reduceAdd, Nat.reduceLeDiff, Nat.reduceSub, Nat.reduceMul, List.reduceReplicate, Int.reduceEq, Int.reduceLT, Int.reduceLE, Int.reduceAdd, Int.reduceSub, Int.reduceMul, Nat.reduceLT, Int.reduceToNat])))
    exact ot_write (n := n) (v2 := _) (v3 := _) ⟨by simp -implicitDefEqProofs (maxSteps := 2000000) only [hideH, wk, act, asV, ↓reduceIte, Nat.reduceEqDiff, reduceCtorEq, Nat.reduceAdd, Nat.reduceLeDiff, Nat.reduceSub, Nat.reduceMul, List.reduceReplicate, Int.reduceEq, Int.reduceLT, Int.reduceLE, Int.reduceAdd, Int.reduceSub, Int.reduceMul, Nat.reduceLT, Int.reduceToNat]; first | done | rfl, by simp -implicitDefEqProofs (maxSteps := 2000000) only [hideH, wk, act, asV, ↓reduceIte, Nat.reduceEqDiff, reduceCtorEq, Nat.reduceAdd, Nat.reduceLeDiff, Nat.reduceSub, Nat.reduceMul, List.reduceReplicate, Int.reduceEq, Int.reduceLT, Int.reduceLE, Int.reduceAdd, Int.reduceSub, Int.reduceMul, Nat.reduceLT, Int.reduceToNat]; first | done | rfl, by simp -implicitDefEqProofs (maxSteps := 2000000) only [hideH, wk, act, asV, ↓reduceIte, Nat.reduceEqDiff, reduceCtorEq, Nat.reduceAdd, Nat.reduceLeDiff, Nat.reduceSub, Nat.reduceMul, List.reduceReplicate, Int.reduceEq, Int.reduceLT, Int.reduceLE, Int.reduceAdd, Int.reduceSub, Int.reduceMul, Nat.reduceLT, Int.reduceToNat]; first | done | rfl, by simp -implicitDefEqProofs (maxSteps := 2000000) only [hideH, wk, act, asV, ↓reduceIte, Nat.reduceEqDiff, reduceCtorEq, Nat.reduceAdd, Nat.reduceLeDiff, Nat.reduceSub, Nat.reduceMul, List.reduceReplicate, Int.reduceEq, Int.reduceLT, Int.reduceLE, Int.reduceAdd, Int.reduceSub, Int.reduceMul, Nat.reduceLT, Int.reduceToNat]; first | done | rfl⟩ hb hn hd
end Go.Proofs.YtilbipknodpmmaaDoor
