/- The law OpsApart. -/
import Derived.Test.YtilbipknodpmmaaDoorO7
import Derived.Test.YtilbipknodpmmaaDoorM35
import Derived.Test.YtilbipknodpmmaaDoorB4
import Derived.Test.YtilbipknodpmmaaDoorB6
import Derived.Test.YtilbipknodpmmaaDoorE31
import Derived.Test.YtilbipknodpmmaaDoorM13
set_option linter.unusedVariables false
set_option linter.unusedSimpArgs false
set_option linter.unusedSectionVars false
set_option maxRecDepth 100000
set_option maxHeartbeats 8000000
namespace Go.Proofs.YtilbipknodpmmaaDoor
open Go.RowKit

theorem allB_at {vs : List Vol} {j : Nat} (h : j < vs.length) : allB vs = allB (vs.take j) ++ (vs[j].blocks ++ allB (vs.drop (j + 1))) := by
  have e : vs = vs.take j ++ vs[j] :: vs.drop (j + 1) := by rw [List.getElem_cons_drop h, List.take_append_drop]
  have : allB vs = allB (vs.take j ++ vs[j] :: vs.drop (j + 1)) := congrArg allB e
  exact this.trans (by unfold allB; rw [List.flatMap_append, List.flatMap_cons])
theorem blk_in {vs : List Vol} {i j : Nat} (hi : i < vs.length) (hij : i < j) {b : Int} (hb : b ∈ vs[i].blocks) : b ∈ allB (vs.take j) := by
  unfold allB
  refine List.mem_flatMap.2 ⟨vs[i], ?_, hb⟩
  rw [List.mem_iff_getElem]
  exact ⟨i, by rw [List.length_take]; omega, List.getElem_take⟩
theorem apart {vs : List Vol} (hn : (allB vs).Nodup) {i j x y : Nat} (hi : i < vs.length) (hj : j < vs.length) (hx : x < vs[i].blocks.length) (hy : y < vs[j].blocks.length) : vs[i].blocks[x] = vs[j].blocks[y] ↔ i = j ∧ x = y := by
  have key : ∀ {i j x y : Nat} (hi : i < vs.length) (hj : j < vs.length) (hx : x < vs[i].blocks.length) (hy : y < vs[j].blocks.length), i < j → vs[i].blocks[x] ≠ vs[j].blocks[y] := by
    intro i j x y hi hj hx hy hij e
    have h := hn
    rw [allB_at hj] at h
    have h2 := (List.nodup_append.1 h).2.2
    exact h2 _ (blk_in hi hij (List.getElem_mem hx)) _ (List.mem_append_left _ (List.getElem_mem hy)) e
  constructor
  · intro e
    rcases Nat.lt_trichotomy i j with h | h | h
    · exact absurd e (key hi hj hx hy h)
    · subst h
      refine ⟨rfl, ?_⟩
      have h := hn
      rw [allB_at hi] at h
      have h2 := (List.nodup_append.1 (List.nodup_append.1 h).2.1).1
      exact (List.getElem_inj h2).1 e
    · exact absurd e.symm (key hj hi hy hx h)
  · rintro ⟨rfl, rfl⟩
    rfl
theorem decV_tab {vs : List Vol} (hg : goodV vs = true) : decV (tabB vs) = vs := (decV_tabB hg).1
theorem find_at {vs : List Vol} (hg : goodV vs = true) {i : Nat} (hi : i < vs.length) : findV vs[i].name vs = (i : Nat) := find_self_nodup hi (goodV_P hg).nms
theorem plE_at {vs : List Vol} (hg : goodV vs = true) {i x : Nat} (hi : i < vs.length) : plE vs vs[i].name x = if x < vs[i].blocks.length then 0 else 17 := by
  have hf := find_at hg hi
  have hgd : vs.getD (findV vs[i].name vs).toNat ⟨[], []⟩ = vs[i] := by rw [hf, Int.toNat_natCast, List.getD_eq_getElem?_getD, List.getElem?_eq_getElem hi]; rfl
  unfold plE
  rw [if_neg (by omega), hgd]
  by_cases h : x < vs[i].blocks.length
  · rw [if_pos h, if_neg (by omega)]
  · rw [if_neg h, if_pos (by omega)]
theorem plP_at {vs : List Vol} (hg : goodV vs = true) {i x : Nat} (hi : i < vs.length) (hx : x < vs[i].blocks.length) : plP vs vs[i].name x = vs[i].blocks[x] := by
  have hf := find_at hg hi
  have hgd : vs.getD (findV vs[i].name vs).toNat ⟨[], []⟩ = vs[i] := by rw [hf, Int.toNat_natCast, List.getD_eq_getElem?_getD, List.getElem?_eq_getElem hi]; rfl
  unfold plP
  rw [if_pos (by rw [plE_at hg hi, if_pos hx]), hgd, Int.toNat_natCast, List.getD_eq_getElem?_getD, List.getElem?_eq_getElem hx]; rfl
theorem bl_eq (d : List UInt8) : eqL (bl d) (bl d) = some true := eqO_self (by simp [isEO, bl])
theorem bl_fit {d : List UInt8} (h : d.length = 32) : fitR [(32, .i)] (bl d) = true := by
  have l : (bl d).length = 32 := by rw [bl_length, h]
  have a : (bl d).all CK.i.fit = true := by simp [bl, CK.fit]
  simp only [fitR]
  rw [List.take_of_length_le (by omega), List.drop_of_length_le (by omega), a]
  simp [l]
theorem wr_at {vs : List Vol} (hg : goodV vs = true) {i x : Nat} (hi : i < vs.length) (D : List UInt8) (hD : D.length = 32) (hv : VsOk vs) :
    (∃ h : x < vs[i].blocks.length, RC Tryd.prog 18 [.agg (bl (tabB vs)), .str vs[i].name, .int .i64 (x : Nat), .agg (bl D)] [.sl .full 1 (ptC (vs[i].blocks[x], D)), .int .i64 0]) ∨
    (¬ x < vs[i].blocks.length ∧ RC Tryd.prog 18 [.agg (bl (tabB vs)), .str vs[i].name, .int .i64 (x : Nat), .agg (bl D)] [.sl .full 0 [], .int .i64 17]) := by
  have c := writeP_ok (tabB vs) vs[i].name D x (tabB_length (goodV_len hg)) (hv.nm _ (List.getElem_mem hi)) hD
  unfold wrR wrE at c
  rw [decV_tab hg, plE_at hg hi] at c
  by_cases h : x < vs[i].blocks.length
  · rw [if_pos h, if_pos rfl, plP_at hg hi h] at c
    exact .inl ⟨h, c⟩
  · rw [if_neg h, if_neg (by decide)] at c
    exact .inr ⟨h, c⟩
theorem blk_ne {vs : List Vol} (hg : goodV vs = true) {i x : Nat} (hi : i < vs.length) (hx : x < vs[i].blocks.length) : vs[i].blocks[x] ≠ 0 := by
  have h := List.all_eq_true.1 (volP_bl ((goodV_P hg).at hi)).2.2.2 _ (List.getElem_mem hx)
  simp only [inB, Bool.and_eq_true, decide_eq_true_eq] at h
  omega
theorem w64_u8 (a : UInt8) : IntKind.i64.wrap ((a.toNat : Nat) : Int) = (a.toNat : Nat) := by rw [IntKind.wrap_i64]; have := a.toNat_lt; omega
theorem opsApart {vs : List Vol} (a b c d : UInt8) (D : List UInt8) (hv : VsOk vs) (hD : D.length = 32) : RC Tryd.prog 5 [.sl .plain vs.length (vl vs), .agg (bl [a, b, c, d]), .agg (bl D)] [.bool true] := by
  refine RC.of_wp c5 rfl ?_
  have cg := goodR_ok .plain (by decide) vs hv
  have lD : (bl D).length = 32 := by rw [bl_length, hD]
  have tD : List.take 32 (bl D) = bl D := List.take_of_length_le (by omega)
  have b4 : bl [a, b, c, d] = [.int .u8 (a.toNat : Nat), .int .u8 (b.toNat : Nat), .int .u8 (c.toNat : Nat), .int .u8 (d.toNat : Nat)] := rfl
  rw [b4]
  cases hg : goodV vs with
  | false =>
    rw [hg] at cg
    repeat' (first | simp -implicitDefEqProofs (maxSteps := 2000000) only [m5_1, m5_2, m5_3, m5_4, m5_5, m5_6, m5_7, m5_8, m5_9, m5_10, m5_11, m5_12, m5_13, m5_14, m5_15, m5_16, m5_17, m5_r, m5_b, m5, lD, tD, bl_scal, bl_allO, wk, act, asV, ↓reduceIte, Nat.reduceEqDiff, reduceCtorEq, Nat.reduceAdd, Nat.reduceLeDiff, Nat.reduceSub, Nat.reduceMul, List.reduceReplicate, Int.reduceEq, Int.reduceLT, Int.reduceLE, Int.reduceAdd, Int.reduceSub, Int.reduceMul, Nat.reduceLT, Int.reduceToNat] | ((first | ((with_reducible refine CallL.gate ?_); apply CallL.of) | ((with_reducible refine CallP.gate ?_); apply CallP.of)); (case h1 => (simp -implicitDefEqProofs (maxSteps := 2000000) only [m5_1, m5_2, m5_3, m5_4, m5_5, m5_6, m5_7, m5_8, m5_9, m5_10, m5_11, m5_12, m5_13, m5_14, m5_15, m5_16, m5_17, m5_r, m5_b, m5, lD, tD, bl_scal, bl_allO, wk, act, asV, ↓reduceIte, Nat.reduceEqDiff, reduceCtorEq, Nat.reduceAdd, Nat.reduceLeDiff, Nat.reduceSub, Nat.reduceMul, List.reduceReplicate, Int.reduceEq, Int.reduceLT, Int.reduceLE, Int.reduceAdd, Int.reduceSub, Int.reduceMul, Nat.reduceLT, Int.reduceToNat]; first | done | (with_reducible rfl))); (case h2 => (first | exact cg | exact wakesO_ok)); (case h3 => simp -implicitDefEqProofs (maxSteps := 2000000) only [m5_1, m5_2, m5_3, m5_4, m5_5, m5_6, m5_7, m5_8, m5_9, m5_10, m5_11, m5_12, m5_13, m5_14, m5_15, m5_16, m5_17, m5_r, m5_b, m5, lD, tD, bl_scal, bl_allO, wk, act, asV, ↓reduceIte, Nat.reduceEqDiff, reduceCtorEq, Nat.reduceAdd, Nat.reduceLeDiff, Nat.reduceSub, Nat.reduceMul, List.reduceReplicate, Int.reduceEq, Int.reduceLT, Int.reduceLE, Int.reduceAdd, Int.reduceSub, Int.reduceMul, Nat.reduceLT, Int.reduceToNat])))
  | true =>
    rw [hg] at cg
    by_cases h0 : vs.length = 0
    · have h0' : ((vs.length : Nat) : Int) = 0 := by omega
      repeat' (first | simp -implicitDefEqProofs (maxSteps := 2000000) only [m5_1, m5_2, m5_3, m5_4, m5_5, m5_6, m5_7, m5_8, m5_9, m5_10, m5_11, m5_12, m5_13, m5_14, m5_15, m5_16, m5_17, m5_r, m5_b, m5, lD, tD, bl_scal, bl_allO, h0', wk, act, asV, ↓reduceIte, Nat.reduceEqDiff, reduceCtorEq, Nat.reduceAdd, Nat.reduceLeDiff, Nat.reduceSub, Nat.reduceMul, List.reduceReplicate, Int.reduceEq, Int.reduceLT, Int.reduceLE, Int.reduceAdd, Int.reduceSub, Int.reduceMul, Nat.reduceLT, Int.reduceToNat] | ((first | ((with_reducible refine CallL.gate ?_); apply CallL.of) | ((with_reducible refine CallP.gate ?_); apply CallP.of)); (case h1 => (simp -implicitDefEqProofs (maxSteps := 2000000) only [m5_1, m5_2, m5_3, m5_4, m5_5, m5_6, m5_7, m5_8, m5_9, m5_10, m5_11, m5_12, m5_13, m5_14, m5_15, m5_16, m5_17, m5_r, m5_b, m5, lD, tD, bl_scal, bl_allO, h0', wk, act, asV, ↓reduceIte, Nat.reduceEqDiff, reduceCtorEq, Nat.reduceAdd, Nat.reduceLeDiff, Nat.reduceSub, Nat.reduceMul, List.reduceReplicate, Int.reduceEq, Int.reduceLT, Int.reduceLE, Int.reduceAdd, Int.reduceSub, Int.reduceMul, Nat.reduceLT, Int.reduceToNat]; first | done | (with_reducible rfl))); (case h2 => (first | exact cg | exact wakesO_ok)); (case h3 => simp -implicitDefEqProofs (maxSteps := 2000000) only [m5_1, m5_2, m5_3, m5_4, m5_5, m5_6, m5_7, m5_8, m5_9, m5_10, m5_11, m5_12, m5_13, m5_14, m5_15, m5_16, m5_17, m5_r, m5_b, m5, lD, tD, bl_scal, bl_allO, h0', wk, act, asV, ↓reduceIte, Nat.reduceEqDiff, reduceCtorEq, Nat.reduceAdd, Nat.reduceLeDiff, Nat.reduceSub, Nat.reduceMul, List.reduceReplicate, Int.reduceEq, Int.reduceLT, Int.reduceLE, Int.reduceAdd, Int.reduceSub, Int.reduceMul, Nat.reduceLT, Int.reduceToNat])))
    · have h0' : ¬ ((vs.length : Nat) : Int) = 0 := by omega
      obtain ⟨i, hi, ei⟩ : ∃ i, i < vs.length ∧ (IntKind.i64.wrap ((a.toNat : Nat) : Int)).tmod vs.length = (i : Nat) := ⟨_, Nat.mod_lt _ (by omega), by rw [w64_u8]; exact tmod_nat _ _⟩
      obtain ⟨j, hj, ej⟩ : ∃ i, i < vs.length ∧ (IntKind.i64.wrap ((b.toNat : Nat) : Int)).tmod vs.length = (i : Nat) := ⟨_, Nat.mod_lt _ (by omega), by rw [w64_u8]; exact tmod_nat _ _⟩
      obtain ⟨x, ex⟩ : ∃ i : Nat, (IntKind.i64.wrap ((c.toNat : Nat) : Int)).tmod 5 = (i : Nat) := ⟨_, by rw [w64_u8]; exact tmod_nat _ 5⟩
      obtain ⟨y, ey⟩ : ∃ i : Nat, (IntKind.i64.wrap ((d.toNat : Nat) : Int)).tmod 5 = (i : Nat) := ⟨_, by rw [w64_u8]; exact tmod_nat _ 5⟩
      have ce := encT_ok .plain (by decide) vs hv
      rw [show tabR vs = tabB vs from if_pos hg, show tabE vs = 0 from if_pos hg] at ce
      have lT : (bl (tabB vs)).length = 32 := by rw [bl_length]; exact tabB_length (goodV_len hg)
      have tT : List.take 32 (bl (tabB vs)) = bl (tabB vs) := List.take_of_length_le (by omega)
      have hi' : (i : Int) < vs.length := by omega
      have hj' : (j : Int) < vs.length := by omega
      have dI := drop_vl hi
      have dJ := drop_vl hj
      have q1 := bl_eq D
      have q2 := bl_fit hD
      rcases wr_at (x := x) hg hi D hD hv with ⟨hx, c1⟩ | ⟨hx, c1⟩ <;> rcases wr_at (x := y) hg hj D hD hv with ⟨hy, c2⟩ | ⟨hy, c2⟩
      · have hx' : (x : Int) < vs[i].blocks.length := by omega
        have hy' : (y : Int) < vs[j].blocks.length := by omega
        have hap := apart (goodV_P hg).bls hi hj hx hy
        have hp0 := blk_ne hg hi hx
        unfold ptC at c1 c2
        by_cases hij : i = j
        · subst hij
          by_cases hxy : x = y
          · subst hxy
            repeat' (first | simp -implicitDefEqProofs (maxSteps := 2000000) only [m5_1, m5_2, m5_3, m5_4, m5_5, m5_6, m5_7, m5_8, m5_9, m5_10, m5_11, m5_12, m5_13, m5_14, m5_15, m5_16, m5_17, m5_r, m5_b, m5, lD, tD, lT, tT, bl_scal, bl_allO, h0', ei, ej, ex, ey, hi', dI, vl_length, hx', q1, q2, hp0, wk, act, asV, ↓reduceIte, Nat.reduceEqDiff, reduceCtorEq, Nat.reduceAdd, Nat.reduceLeDiff, Nat.reduceSub, Nat.reduceMul, List.reduceReplicate, Int.reduceEq, Int.reduceLT, Int.reduceLE, Int.reduceAdd, Int.reduceSub, Int.reduceMul, Nat.reduceLT, Int.reduceToNat] | ((first | ((with_reducible refine CallL.gate ?_); apply CallL.of) | ((with_reducible refine CallP.gate ?_); apply CallP.of)); (case h1 => (simp -implicitDefEqProofs (maxSteps := 2000000) only [m5_1, m5_2, m5_3, m5_4, m5_5, m5_6, m5_7, m5_8, m5_9, m5_10, m5_11, m5_12, m5_13, m5_14, m5_15, m5_16, m5_17, m5_r, m5_b, m5, lD, tD, lT, tT, bl_scal, bl_allO, h0', ei, ej, ex, ey, hi', dI, vl_length, hx', q1, q2, hp0, wk, act, asV, ↓reduceIte, Nat.reduceEqDiff, reduceCtorEq, Nat.reduceAdd, Nat.reduceLeDiff, Nat.reduceSub, Nat.reduceMul, List.reduceReplicate, Int.reduceEq, Int.reduceLT, Int.reduceLE, Int.reduceAdd, Int.reduceSub, Int.reduceMul, Nat.reduceLT, Int.reduceToNat]; first | done | (with_reducible rfl))); (case h2 => (first | exact cg | exact ce | exact c1 | exact c2 | exact wakesO_ok)); (case h3 => simp -implicitDefEqProofs (maxSteps := 2000000) only [m5_1, m5_2, m5_3, m5_4, m5_5, m5_6, m5_7, m5_8, m5_9, m5_10, m5_11, m5_12, m5_13, m5_14, m5_15, m5_16, m5_17, m5_r, m5_b, m5, lD, tD, lT, tT, bl_scal, bl_allO, h0', ei, ej, ex, ey, hi', dI, vl_length, hx', q1, q2, hp0, wk, act, asV, ↓reduceIte, Nat.reduceEqDiff, reduceCtorEq, Nat.reduceAdd, Nat.reduceLeDiff, Nat.reduceSub, Nat.reduceMul, List.reduceReplicate, Int.reduceEq, Int.reduceLT, Int.reduceLE, Int.reduceAdd, Int.reduceSub, Int.reduceMul, Nat.reduceLT, Int.reduceToNat])))
          · have hne : ¬ vs[i].blocks[x] = vs[i].blocks[y] := fun e => hxy (hap.1 e).2
            have hxy' : ¬ (x : Int) = y := by omega
            repeat' (first | simp -implicitDefEqProofs (maxSteps := 2000000) only [m5_1, m5_2, m5_3, m5_4, m5_5, m5_6, m5_7, m5_8, m5_9, m5_10, m5_11, m5_12, m5_13, m5_14, m5_15, m5_16, m5_17, m5_r, m5_b, m5, lD, tD, lT, tT, bl_scal, bl_allO, h0', ei, ej, ex, ey, hi', dI, vl_length, hx', hy', q1, q2, hp0, hne, hxy', wk, act, asV, ↓reduceIte, Nat.reduceEqDiff, reduceCtorEq, Nat.reduceAdd, Nat.reduceLeDiff, Nat.reduceSub, Nat.reduceMul, List.reduceReplicate, Int.reduceEq, Int.reduceLT, Int.reduceLE, Int.reduceAdd, Int.reduceSub, Int.reduceMul, Nat.reduceLT, Int.reduceToNat] | ((first | ((with_reducible refine CallL.gate ?_); apply CallL.of) | ((with_reducible refine CallP.gate ?_); apply CallP.of)); (case h1 => (simp -implicitDefEqProofs (maxSteps := 2000000) only [m5_1, m5_2, m5_3, m5_4, m5_5, m5_6, m5_7, m5_8, m5_9, m5_10, m5_11, m5_12, m5_13, m5_14, m5_15, m5_16, m5_17, m5_r, m5_b, m5, lD, tD, lT, tT, bl_scal, bl_allO, h0', ei, ej, ex, ey, hi', dI, vl_length, hx', hy', q1, q2, hp0, hne, hxy', wk, act, asV, ↓reduceIte, Nat.reduceEqDiff, reduceCtorEq, Nat.reduceAdd, Nat.reduceLeDiff, Nat.reduceSub, Nat.reduceMul, List.reduceReplicate, Int.reduceEq, Int.reduceLT, Int.reduceLE, Int.reduceAdd, Int.reduceSub, Int.reduceMul, Nat.reduceLT, Int.reduceToNat]; first | done | (with_reducible rfl))); (case h2 => (first | exact cg | exact ce | exact c1 | exact c2 | exact wakesO_ok)); (case h3 => simp -implicitDefEqProofs (maxSteps := 2000000) only [m5_1, m5_2, m5_3, m5_4, m5_5, m5_6, m5_7, m5_8, m5_9, m5_10, m5_11, m5_12, m5_13, m5_14, m5_15, m5_16, m5_17, m5_r, m5_b, m5, lD, tD, lT, tT, bl_scal, bl_allO, h0', ei, ej, ex, ey, hi', dI, vl_length, hx', hy', q1, q2, hp0, hne, hxy', wk, act, asV, ↓reduceIte, Nat.reduceEqDiff, reduceCtorEq, Nat.reduceAdd, Nat.reduceLeDiff, Nat.reduceSub, Nat.reduceMul, List.reduceReplicate, Int.reduceEq, Int.reduceLT, Int.reduceLE, Int.reduceAdd, Int.reduceSub, Int.reduceMul, Nat.reduceLT, Int.reduceToNat])))
        · have hne : ¬ vs[i].blocks[x] = vs[j].blocks[y] := fun e => hij (hap.1 e).1
          have hij' : ¬ (i : Int) = j := by omega
          repeat' (first | simp -implicitDefEqProofs (maxSteps := 2000000) only [m5_1, m5_2, m5_3, m5_4, m5_5, m5_6, m5_7, m5_8, m5_9, m5_10, m5_11, m5_12, m5_13, m5_14, m5_15, m5_16, m5_17, m5_r, m5_b, m5, lD, tD, lT, tT, bl_scal, bl_allO, h0', ei, ej, ex, ey, hi', hj', dI, dJ, vl_length, hx', hy', q1, q2, hp0, hne, hij', wk, act, asV, ↓reduceIte, Nat.reduceEqDiff, reduceCtorEq, Nat.reduceAdd, Nat.reduceLeDiff, Nat.reduceSub, Nat.reduceMul, List.reduceReplicate, Int.reduceEq, Int.reduceLT, Int.reduceLE, Int.reduceAdd, Int.reduceSub, Int.reduceMul, Nat.reduceLT, Int.reduceToNat] | ((first | ((with_reducible refine CallL.gate ?_); apply CallL.of) | ((with_reducible refine CallP.gate ?_); apply CallP.of)); (case h1 => (simp -implicitDefEqProofs (maxSteps := 2000000) only [m5_1, m5_2, m5_3, m5_4, m5_5, m5_6, m5_7, m5_8, m5_9, m5_10, m5_11, m5_12, m5_13, m5_14, m5_15, m5_16, m5_17, m5_r, m5_b, m5, lD, tD, lT, tT, bl_scal, bl_allO, h0', ei, ej, ex, ey, hi', hj', dI, dJ, vl_length, hx', hy', q1, q2, hp0, hne, hij', wk, act, asV, ↓reduceIte, Nat.reduceEqDiff, reduceCtorEq, Nat.reduceAdd, Nat.reduceLeDiff, Nat.reduceSub, Nat.reduceMul, List.reduceReplicate, Int.reduceEq, Int.reduceLT, Int.reduceLE, Int.reduceAdd, Int.reduceSub, Int.reduceMul, Nat.reduceLT, Int.reduceToNat]; first | done | (with_reducible rfl))); (case h2 => (first | exact cg | exact ce | exact c1 | exact c2 | exact wakesO_ok)); (case h3 => simp -implicitDefEqProofs (maxSteps := 2000000) only [m5_1, m5_2, m5_3, m5_4, m5_5, m5_6, m5_7, m5_8, m5_9, m5_10, m5_11, m5_12, m5_13, m5_14, m5_15, m5_16, m5_17, m5_r, m5_b, m5, lD, tD, lT, tT, bl_scal, bl_allO, h0', ei, ej, ex, ey, hi', hj', dI, dJ, vl_length, hx', hy', q1, q2, hp0, hne, hij', wk, act, asV, ↓reduceIte, Nat.reduceEqDiff, reduceCtorEq, Nat.reduceAdd, Nat.reduceLeDiff, Nat.reduceSub, Nat.reduceMul, List.reduceReplicate, Int.reduceEq, Int.reduceLT, Int.reduceLE, Int.reduceAdd, Int.reduceSub, Int.reduceMul, Nat.reduceLT, Int.reduceToNat])))
      · have hx' : (x : Int) < vs[i].blocks.length := by omega
        have hy' : ¬ (y : Int) < vs[j].blocks.length := by omega
        unfold ptC at c1
        repeat' (first | simp -implicitDefEqProofs (maxSteps := 2000000) only [m5_1, m5_2, m5_3, m5_4, m5_5, m5_6, m5_7, m5_8, m5_9, m5_10, m5_11, m5_12, m5_13, m5_14, m5_15, m5_16, m5_17, m5_r, m5_b, m5, lD, tD, lT, tT, bl_scal, bl_allO, h0', ei, ej, ex, ey, hi', hj', dI, dJ, vl_length, hx', hy', wk, act, asV, ↓reduceIte, Nat.reduceEqDiff, reduceCtorEq, Nat.reduceAdd, Nat.reduceLeDiff, Nat.reduceSub, Nat.reduceMul, List.reduceReplicate, Int.reduceEq, Int.reduceLT, Int.reduceLE, Int.reduceAdd, Int.reduceSub, Int.reduceMul, Nat.reduceLT, Int.reduceToNat] | ((first | ((with_reducible refine CallL.gate ?_); apply CallL.of) | ((with_reducible refine CallP.gate ?_); apply CallP.of)); (case h1 => (simp -implicitDefEqProofs (maxSteps := 2000000) only [m5_1, m5_2, m5_3, m5_4, m5_5, m5_6, m5_7, m5_8, m5_9, m5_10, m5_11, m5_12, m5_13, m5_14, m5_15, m5_16, m5_17, m5_r, m5_b, m5, lD, tD, lT, tT, bl_scal, bl_allO, h0', ei, ej, ex, ey, hi', hj', dI, dJ, vl_length, hx', hy', wk, act, asV, ↓reduceIte, Nat.reduceEqDiff, reduceCtorEq, Nat.reduceAdd, Nat.reduceLeDiff, Nat.reduceSub, Nat.reduceMul, List.reduceReplicate, Int.reduceEq, Int.reduceLT, Int.reduceLE, Int.reduceAdd, Int.reduceSub, Int.reduceMul, Nat.reduceLT, Int.reduceToNat]; first | done | (with_reducible rfl))); (case h2 => (first | exact cg | exact ce | exact c1 | exact c2 | exact wakesO_ok)); (case h3 => simp -implicitDefEqProofs (maxSteps := 2000000) only [m5_1, m5_2, m5_3, m5_4, m5_5, m5_6, m5_7, m5_8, m5_9, m5_10, m5_11, m5_12, m5_13, m5_14, m5_15, m5_16, m5_17, m5_r, m5_b, m5, lD, tD, lT, tT, bl_scal, bl_allO, h0', ei, ej, ex, ey, hi', hj', dI, dJ, vl_length, hx', hy', wk, act, asV, ↓reduceIte, Nat.reduceEqDiff, reduceCtorEq, Nat.reduceAdd, Nat.reduceLeDiff, Nat.reduceSub, Nat.reduceMul, List.reduceReplicate, Int.reduceEq, Int.reduceLT, Int.reduceLE, Int.reduceAdd, Int.reduceSub, Int.reduceMul, Nat.reduceLT, Int.reduceToNat])))
      · have hx' : ¬ (x : Int) < vs[i].blocks.length := by omega
        have hy' : (y : Int) < vs[j].blocks.length := by omega
        unfold ptC at c2
        repeat' (first | simp -implicitDefEqProofs (maxSteps := 2000000) only [m5_1, m5_2, m5_3, m5_4, m5_5, m5_6, m5_7, m5_8, m5_9, m5_10, m5_11, m5_12, m5_13, m5_14, m5_15, m5_16, m5_17, m5_r, m5_b, m5, lD, tD, lT, tT, bl_scal, bl_allO, h0', ei, ej, ex, ey, hi', hj', dI, dJ, vl_length, hx', hy', wk, act, asV, ↓reduceIte, Nat.reduceEqDiff, reduceCtorEq, Nat.reduceAdd, Nat.reduceLeDiff, Nat.reduceSub, Nat.reduceMul, List.reduceReplicate, Int.reduceEq, Int.reduceLT, Int.reduceLE, Int.reduceAdd, Int.reduceSub, Int.reduceMul, Nat.reduceLT, Int.reduceToNat] | ((first | ((with_reducible refine CallL.gate ?_); apply CallL.of) | ((with_reducible refine CallP.gate ?_); apply CallP.of)); (case h1 => (simp -implicitDefEqProofs (maxSteps := 2000000) only [m5_1, m5_2, m5_3, m5_4, m5_5, m5_6, m5_7, m5_8, m5_9, m5_10, m5_11, m5_12, m5_13, m5_14, m5_15, m5_16, m5_17, m5_r, m5_b, m5, lD, tD, lT, tT, bl_scal, bl_allO, h0', ei, ej, ex, ey, hi', hj', dI, dJ, vl_length, hx', hy', wk, act, asV, ↓reduceIte, Nat.reduceEqDiff, reduceCtorEq, Nat.reduceAdd, Nat.reduceLeDiff, Nat.reduceSub, Nat.reduceMul, List.reduceReplicate, Int.reduceEq, Int.reduceLT, Int.reduceLE, Int.reduceAdd, Int.reduceSub, Int.reduceMul, Nat.reduceLT, Int.reduceToNat]; first | done | (with_reducible rfl))); (case h2 => (first | exact cg | exact ce | exact c1 | exact c2 | exact wakesO_ok)); (case h3 => simp -implicitDefEqProofs (maxSteps := 2000000) only [m5_1, m5_2, m5_3, m5_4, m5_5, m5_6, m5_7, m5_8, m5_9, m5_10, m5_11, m5_12, m5_13, m5_14, m5_15, m5_16, m5_17, m5_r, m5_b, m5, lD, tD, lT, tT, bl_scal, bl_allO, h0', ei, ej, ex, ey, hi', hj', dI, dJ, vl_length, hx', hy', wk, act, asV, ↓reduceIte, Nat.reduceEqDiff, reduceCtorEq, Nat.reduceAdd, Nat.reduceLeDiff, Nat.reduceSub, Nat.reduceMul, List.reduceReplicate, Int.reduceEq, Int.reduceLT, Int.reduceLE, Int.reduceAdd, Int.reduceSub, Int.reduceMul, Nat.reduceLT, Int.reduceToNat])))
      · have hx' : ¬ (x : Int) < vs[i].blocks.length := by omega
        have hy' : ¬ (y : Int) < vs[j].blocks.length := by omega
        repeat' (first | simp -implicitDefEqProofs (maxSteps := 2000000) only [m5_1, m5_2, m5_3, m5_4, m5_5, m5_6, m5_7, m5_8, m5_9, m5_10, m5_11, m5_12, m5_13, m5_14, m5_15, m5_16, m5_17, m5_r, m5_b, m5, lD, tD, lT, tT, bl_scal, bl_allO, h0', ei, ej, ex, ey, hi', hj', dI, dJ, vl_length, hx', hy', wk, act, asV, ↓reduceIte, Nat.reduceEqDiff, reduceCtorEq, Nat.reduceAdd, Nat.reduceLeDiff, Nat.reduceSub, Nat.reduceMul, List.reduceReplicate, Int.reduceEq, Int.reduceLT, Int.reduceLE, Int.reduceAdd, Int.reduceSub, Int.reduceMul, Nat.reduceLT, Int.reduceToNat] | ((first | ((with_reducible refine CallL.gate ?_); apply CallL.of) | ((with_reducible refine CallP.gate ?_); apply CallP.of)); (case h1 => (simp -implicitDefEqProofs (maxSteps := 2000000) only [m5_1, m5_2, m5_3, m5_4, m5_5, m5_6, m5_7, m5_8, m5_9, m5_10, m5_11, m5_12, m5_13, m5_14, m5_15, m5_16, m5_17, m5_r, m5_b, m5, lD, tD, lT, tT, bl_scal, bl_allO, h0', ei, ej, ex, ey, hi', hj', dI, dJ, vl_length, hx', hy', wk, act, asV, ↓reduceIte, Nat.reduceEqDiff, reduceCtorEq, Nat.reduceAdd, Nat.reduceLeDiff, Nat.reduceSub, Nat.reduceMul, List.reduceReplicate, Int.reduceEq, Int.reduceLT, Int.reduceLE, Int.reduceAdd, Int.reduceSub, Int.reduceMul, Nat.reduceLT, Int.reduceToNat]; first | done | (with_reducible rfl))); (case h2 => (first | exact cg | exact ce | exact c1 | exact c2 | exact wakesO_ok)); (case h3 => simp -implicitDefEqProofs (maxSteps := 2000000) only [m5_1, m5_2, m5_3, m5_4, m5_5, m5_6, m5_7, m5_8, m5_9, m5_10, m5_11, m5_12, m5_13, m5_14, m5_15, m5_16, m5_17, m5_r, m5_b, m5, lD, tD, lT, tT, bl_scal, bl_allO, h0', ei, ej, ex, ey, hi', hj', dI, dJ, vl_length, hx', hy', wk, act, asV, ↓reduceIte, Nat.reduceEqDiff, reduceCtorEq, Nat.reduceAdd, Nat.reduceLeDiff, Nat.reduceSub, Nat.reduceMul, List.reduceReplicate, Int.reduceEq, Int.reduceLT, Int.reduceLE, Int.reduceAdd, Int.reduceSub, Int.reduceMul, Nat.reduceLT, Int.reduceToNat])))
end Go.Proofs.YtilbipknodpmmaaDoor
