/- Of the table: the reference's Good. -/
import Derived.Test.YtilbipknodpmmaaDoorE31
import Derived.Test.YtilbipknodpmmaaDoorM6
import Derived.Test.YtilbipknodpmmaaDoorB3
set_option linter.unusedVariables false
set_option linter.unusedSimpArgs false
set_option maxRecDepth 100000
set_option maxHeartbeats 8000000
namespace Go.Proofs.YtilbipknodpmmaaDoor
open Go.RowKit

def metL (L : List Int) : List IV := (List.range 12).map fun j : Nat => .bool (decide ((j : Int) ∈ L))
theorem metL_nil : List.replicate 12 (IV.bool false) = metL [] := by
  simp [metL, List.range, List.range.loop, List.replicate]
theorem metL_at (L : List Int) {n : Nat} (h : n < 12) : List.take 1 (List.drop n (metL L)) = [.bool (decide ((n : Int) ∈ L))] := by
  have : n < (metL L).length := by simpa [metL] using h
  rw [List.drop_eq_getElem_cons this]
  simp [metL]
theorem metL_set (L : List Int) {n : Nat} (h : n < 12) : List.take n (metL L) ++ [IV.bool true] ++ List.drop (n + 1) (metL L) = metL (L ++ [(n : Int)]) := by
  have e : (metL L).take n ++ [.bool true] ++ (metL L).drop (n + 1) = (metL L).set n (.bool true) := by
    rw [List.set_eq_take_append_cons_drop, if_pos (by simpa [metL] using h)]; simp
  rw [e]
  apply List.ext_getElem
  · simp [metL]
  · intro i h1 h2
    simp only [metL, List.getElem_set, List.getElem_map, List.getElem_range]
    split
    · rename_i hn; subst hn; simp
    · rename_i hn
      have : ¬ (i : Int) = (n : Int) := by omega
      simp [this]
theorem metL_length (L : List Int) : (metL L).length = 12 := by simp [metL]

theorem goodR_ok (f : Fl) (hf : f ≠ .lit) (vs : List Vol) (hv : VsOk vs) : RC Tryd.prog 25 [.sl f vs.length (vl vs)] [.bool (goodV vs)] := by
  refine RC.of_wp c25 rfl ?_
  by_cases h3 : (3 : Int) < vs.length
  · rw [goodV_long (by omega)]
    simp -implicitDefEqProofs (maxSteps := 2000000) only [m25_1, m25_2, m25_3, m25_4, m25_5, m25_6, m25_7, m25_8, m25_9, m25_10, m25_11, m25_12, m25_13, m25_14, m25_15, m25_16, m25_17, m25_r, m25_b, m25, h3, wk, act, asV, ↓reduceIte, Nat.reduceEqDiff, reduceCtorEq, Nat.reduceAdd, Nat.reduceLeDiff, Nat.reduceSub, Nat.reduceMul, List.reduceReplicate, Int.reduceEq, Int.reduceLT, Int.reduceLE, Int.reduceAdd, Int.reduceSub, Int.reduceMul, Nat.reduceLT, Int.reduceToNat]
  simp -implicitDefEqProofs (maxSteps := 2000000) only [m25_1, m25_2, m25_3, m25_4, m25_5, m25_6, m25_7, m25_8, m25_9, m25_10, m25_11, m25_12, m25_13, m25_14, m25_15, m25_16, m25_17, m25_r, m25_b, m25, h3, metL_nil, wk, act, asV, ↓reduceIte, Nat.reduceEqDiff, reduceCtorEq, Nat.reduceAdd, Nat.reduceLeDiff, Nat.reduceSub, Nat.reduceMul, List.reduceReplicate, Int.reduceEq, Int.reduceLT, Int.reduceLE, Int.reduceAdd, Int.reduceSub, Int.reduceMul, Nat.reduceLT, Int.reduceToNat]
  refine Wp_loop (fun k s => ∃ i, i ≤ vs.length ∧ k = vs.length - i ∧ s.t 0 = .sl f vs.length (vl vs) ∧ s.t 4 = .int .i64 i ∧ GoodP (vs.take i) ∧ ∃ ver, s.t 3 = .ptr 3 0 ver ∧ s.h 3 = ⟨ver, true, true, false, metL (allB (vs.take i))⟩) vs.length ⟨0, by omega, rfl, rfl, rfl, GoodP.nil, _, rfl, rfl⟩ ?_
  rintro k s ⟨i, hi, rfl, g0, g4, hg, ver, g3, gh3⟩
  by_cases hlt : i < vs.length
  · have hlt' : (i : Int) < vs.length := by omega
    have h2 : (0 : Nat) < 2 := by omega
    have hn := hv.nm _ (List.getElem_mem hlt)
    have cg := rgood_ok .full [vs[i].name] (by simp)
    simp only [List.all_cons, List.all_nil, Bool.and_true] at cg
    have cf := rfind_ok f vs[i].name vs hv.len
    by_cases hnm : goodN vs[i].name = true
    · rw [hnm] at cg
      by_cases hfi : findV vs[i].name vs = (i : Nat)
      · by_cases hb1 : (vs[i].blocks.length : Int) < 1
        · rw [not_each hlt (by intro h; have := volP_bl h; omega)]
          cases f with
          | lit => exact absurd rfl hf
          | _ => repeat' (first | simp -implicitDefEqProofs (maxSteps := 2000000) only [m25_1, m25_2, m25_3, m25_4, m25_5, m25_6, m25_7, m25_8, m25_9, m25_10, m25_11, m25_12, m25_13, m25_14, m25_15, m25_16, m25_17, m25_r, m25_b, m25, g0, g4, g3, gh3, hlt', hlt, h2, drop_vl hlt, vl_length, hfi, hb1, wk, act, asV, ↓reduceIte, Nat.reduceEqDiff, reduceCtorEq, Nat.reduceAdd, Nat.reduceLeDiff, Nat.reduceSub, Nat.reduceMul, List.reduceReplicate, Int.reduceEq, Int.reduceLT, Int.reduceLE, Int.reduceAdd, Int.reduceSub, Int.reduceMul, Nat.reduceLT, Int.reduceToNat] | ((first | ((with_reducible refine CallL.gate ?_); apply CallL.of) | ((with_reducible refine CallP.gate ?_); apply CallP.of)); (case h1 => (simp -implicitDefEqProofs (maxSteps := 2000000) only [m25_1, m25_2, m25_3, m25_4, m25_5, m25_6, m25_7, m25_8, m25_9, m25_10, m25_11, m25_12, m25_13, m25_14, m25_15, m25_16, m25_17, m25_r, m25_b, m25, g0, g4, g3, gh3, hlt', hlt, h2, drop_vl hlt, vl_length, hfi, hb1, wk, act, asV, ↓reduceIte, Nat.reduceEqDiff, reduceCtorEq, Nat.reduceAdd, Nat.reduceLeDiff, Nat.reduceSub, Nat.reduceMul, List.reduceReplicate, Int.reduceEq, Int.reduceLT, Int.reduceLE, Int.reduceAdd, Int.reduceSub, Int.reduceMul, Nat.reduceLT, Int.reduceToNat]; first | done | (with_reducible rfl))); (case h2 => (first | exact cg | exact cf)); (case h3 => simp -implicitDefEqProofs (maxSteps := 2000000) only [m25_1, m25_2, m25_3, m25_4, m25_5, m25_6, m25_7, m25_8, m25_9, m25_10, m25_11, m25_12, m25_13, m25_14, m25_15, m25_16, m25_17, m25_r, m25_b, m25, g0, g4, g3, gh3, hlt', hlt, h2, drop_vl hlt, vl_length, hfi, hb1, wk, act, asV, ↓reduceIte, Nat.reduceEqDiff, reduceCtorEq, Nat.reduceAdd, Nat.reduceLeDiff, Nat.reduceSub, Nat.reduceMul, List.reduceReplicate, Int.reduceEq, Int.reduceLT, Int.reduceLE, Int.reduceAdd, Int.reduceSub, Int.reduceMul, Nat.reduceLT, Int.reduceToNat])))
        by_cases hb4 : (4 : Int) < vs[i].blocks.length
        · rw [not_each hlt (by intro h; have := volP_bl h; omega)]
          cases f with
          | lit => exact absurd rfl hf
          | _ => repeat' (first | simp -implicitDefEqProofs (maxSteps := 2000000) only [m25_1, m25_2, m25_3, m25_4, m25_5, m25_6, m25_7, m25_8, m25_9, m25_10, m25_11, m25_12, m25_13, m25_14, m25_15, m25_16, m25_17, m25_r, m25_b, m25, g0, g4, g3, gh3, hlt', hlt, h2, drop_vl hlt, vl_length, hfi, hb1, hb4, wk, act, asV, ↓reduceIte, Nat.reduceEqDiff, reduceCtorEq, Nat.reduceAdd, Nat.reduceLeDiff, Nat.reduceSub, Nat.reduceMul, List.reduceReplicate, Int.reduceEq, Int.reduceLT, Int.reduceLE, Int.reduceAdd, Int.reduceSub, Int.reduceMul, Nat.reduceLT, Int.reduceToNat] | ((first | ((with_reducible refine CallL.gate ?_); apply CallL.of) | ((with_reducible refine CallP.gate ?_); apply CallP.of)); (case h1 => (simp -implicitDefEqProofs (maxSteps := 2000000) only [m25_1, m25_2, m25_3, m25_4, m25_5, m25_6, m25_7, m25_8, m25_9, m25_10, m25_11, m25_12, m25_13, m25_14, m25_15, m25_16, m25_17, m25_r, m25_b, m25, g0, g4, g3, gh3, hlt', hlt, h2, drop_vl hlt, vl_length, hfi, hb1, hb4, wk, act, asV, ↓reduceIte, Nat.reduceEqDiff, reduceCtorEq, Nat.reduceAdd, Nat.reduceLeDiff, Nat.reduceSub, Nat.reduceMul, List.reduceReplicate, Int.reduceEq, Int.reduceLT, Int.reduceLE, Int.reduceAdd, Int.reduceSub, Int.reduceMul, Nat.reduceLT, Int.reduceToNat]; first | done | (with_reducible rfl))); (case h2 => (first | exact cg | exact cf)); (case h3 => simp -implicitDefEqProofs (maxSteps := 2000000) only [m25_1, m25_2, m25_3, m25_4, m25_5, m25_6, m25_7, m25_8, m25_9, m25_10, m25_11, m25_12, m25_13, m25_14, m25_15, m25_16, m25_17, m25_r, m25_b, m25, g0, g4, g3, gh3, hlt', hlt, h2, drop_vl hlt, vl_length, hfi, hb1, hb4, wk, act, asV, ↓reduceIte, Nat.reduceEqDiff, reduceCtorEq, Nat.reduceAdd, Nat.reduceLeDiff, Nat.reduceSub, Nat.reduceMul, List.reduceReplicate, Int.reduceEq, Int.reduceLT, Int.reduceLE, Int.reduceAdd, Int.reduceSub, Int.reduceMul, Nat.reduceLT, Int.reduceToNat])))
        have hfr := find_fresh hlt hfi
        have inner : ∀ (Q : Ex → St → Prop) (s1 : St), (∀ s2 : St, s2.t 0 = .sl f vs.length (vl vs) → s2.t 4 = .int .i64 i → GoodP (vs.take (i + 1)) → (∃ ver, s2.t 3 = .ptr 3 0 ver ∧ s2.h 3 = ⟨ver, true, true, false, metL (allB (vs.take (i + 1)))⟩) → Q (.exit 2) s2) →
            (goodV vs = false → ∀ s2 : St, s2.t 2 = .bool false → Q .ret s2) →
            s1.t 0 = .sl f vs.length (vl vs) → s1.t 4 = .int .i64 i → s1.t 6 = .int .i64 0 →
            (∃ ver, s1.t 3 = .ptr 3 0 ver ∧ s1.h 3 = ⟨ver, true, true, false, metL (allB (vs.take i))⟩) →
            (∃ ver, s1.t 5 = .ptr 5 0 ver ∧ s1.h 5 = ⟨ver, true, true, false, [.str vs[i].name, .sl .plain vs[i].blocks.length (il vs[i].blocks)]⟩) →
            Wp (RCs Tryd.prog) (.loop m25_8) Q s1 := by
          intro Q s1 q1 q2 k0 k4 k6 k3 k5
          refine Wp_loop (fun m s => ∃ j, j ≤ vs[i].blocks.length ∧ m = vs[i].blocks.length - j ∧ s.t 0 = .sl f vs.length (vl vs) ∧ s.t 4 = .int .i64 i ∧ s.t 6 = .int .i64 j ∧ (vs[i].blocks.take j).all inB = true ∧ (allB (vs.take i) ++ vs[i].blocks.take j).Nodup ∧ (∃ ver, s.t 3 = .ptr 3 0 ver ∧ s.h 3 = ⟨ver, true, true, false, metL (allB (vs.take i) ++ vs[i].blocks.take j)⟩) ∧ (∃ ver, s.t 5 = .ptr 5 0 ver ∧ s.h 5 = ⟨ver, true, true, false, [.str vs[i].name, .sl .plain vs[i].blocks.length (il vs[i].blocks)]⟩)) vs[i].blocks.length ⟨0, by omega, rfl, k0, k4, k6, rfl, by simpa using hg.bls, by simpa using k3, k5⟩ ?_
          clear k0 k4 k6 k3 k5 g0 g4 g3 gh3 s1
          rintro m s ⟨j, hj, rfl, k0, k4, k6, hin, hnd, ⟨v3, k3, kh3⟩, ⟨v5, k5, kh5⟩⟩
          by_cases hjl : j < vs[i].blocks.length
          · have hjl' : (j : Int) < vs[i].blocks.length := by omega
            by_cases hx1 : vs[i].blocks[j] < 1
            · have hno : goodV vs = false := not_each hlt (by
                intro h
                have := List.all_eq_true.1 (volP_bl h).2.2.2 _ (List.getElem_mem hjl)
                rw [inB_no (.inl hx1)] at this; cases this)
              simp -implicitDefEqProofs (maxSteps := 2000000) only [k5, kh5, k6, hjl', hjl, drop_il hjl, hx1, m25_1, m25_2, m25_3, m25_4, m25_5, m25_6, m25_7, m25_8, m25_9, m25_10, m25_11, m25_12, m25_13, m25_14, m25_15, m25_16, m25_17, m25_r, m25_b, m25, wk, act, asV, ↓reduceIte, Nat.reduceEqDiff, reduceCtorEq, Nat.reduceAdd, Nat.reduceLeDiff, Nat.reduceSub, Nat.reduceMul, List.reduceReplicate, Int.reduceEq, Int.reduceLT, Int.reduceLE, Int.reduceAdd, Int.reduceSub, Int.reduceMul, Nat.reduceLT, Int.reduceToNat]
              exact q2 hno _ (by simp -implicitDefEqProofs (maxSteps := 2000000) only [wk, act, asV, ↓reduceIte, Nat.reduceEqDiff, reduceCtorEq, Nat.reduceAdd, Nat.reduceLeDiff, Nat.reduceSub, Nat.reduceMul, List.reduceReplicate, Int.reduceEq, Int.reduceLT, Int.reduceLE, Int.reduceAdd, Int.reduceSub, Int.reduceMul, Nat.reduceLT, Int.reduceToNat])
            by_cases hx2 : 12 ≤ vs[i].blocks[j]
            · have hno : goodV vs = false := not_each hlt (by
                intro h
                have := List.all_eq_true.1 (volP_bl h).2.2.2 _ (List.getElem_mem hjl)
                rw [inB_no (.inr hx2)] at this; cases this)
              simp -implicitDefEqProofs (maxSteps := 2000000) only [k5, kh5, k6, hjl', hjl, drop_il hjl, hx1, hx2, m25_1, m25_2, m25_3, m25_4, m25_5, m25_6, m25_7, m25_8, m25_9, m25_10, m25_11, m25_12, m25_13, m25_14, m25_15, m25_16, m25_17, m25_r, m25_b, m25, wk, act, asV, ↓reduceIte, Nat.reduceEqDiff, reduceCtorEq, Nat.reduceAdd, Nat.reduceLeDiff, Nat.reduceSub, Nat.reduceMul, List.reduceReplicate, Int.reduceEq, Int.reduceLT, Int.reduceLE, Int.reduceAdd, Int.reduceSub, Int.reduceMul, Nat.reduceLT, Int.reduceToNat]
              exact q2 hno _ (by simp -implicitDefEqProofs (maxSteps := 2000000) only [wk, act, asV, ↓reduceIte, Nat.reduceEqDiff, reduceCtorEq, Nat.reduceAdd, Nat.reduceLeDiff, Nat.reduceSub, Nat.reduceMul, List.reduceReplicate, Int.reduceEq, Int.reduceLT, Int.reduceLE, Int.reduceAdd, Int.reduceSub, Int.reduceMul, Nat.reduceLT, Int.reduceToNat])
            have hin' : (vs[i].blocks.take (j + 1)).all inB = true := by
              rw [List.take_succ_eq_append_getElem hjl, List.all_append, hin]
              simp [inB_of hx1 hx2]
            have etk : allB (vs.take i) ++ vs[i].blocks.take (j + 1) = (allB (vs.take i) ++ vs[i].blocks.take j) ++ [vs[i].blocks[j]] := by
              rw [List.take_succ_eq_append_getElem hjl, List.append_assoc]
            have hnb := @not_bls vs i j hlt hjl
            obtain ⟨n, hbn⟩ : ∃ n : Nat, vs[i].blocks[j] = (n : Int) := ⟨vs[i].blocks[j].toNat, by omega⟩
            have hn12 : n < 12 := by omega
            have hn12' : (n : Int) < 12 := by omega
            have hn11 : n ≤ 11 := by omega
            rw [hbn] at hx1 hx2 etk hnb
            obtain ⟨L, hL⟩ : ∃ L, L = allB (vs.take i) ++ vs[i].blocks.take j := ⟨_, rfl⟩
            rw [← hL] at kh3 etk hnb hnd
            have hat := metL_at L hn12
            have hst := metL_set L hn12
            by_cases hm : (n : Int) ∈ L
            · have hno : goodV vs = false := hnb hm
              rw [decide_eq_true hm] at hat
              simp -implicitDefEqProofs (maxSteps := 2000000) only [k3, kh3, k5, kh5, k6, hjl', hjl, drop_il hjl, hbn, hx1, hx2, hat, hn12, hn11, hn12', metL_length, m25_1, m25_2, m25_3, m25_4, m25_5, m25_6, m25_7, m25_8, m25_9, m25_10, m25_11, m25_12, m25_13, m25_14, m25_15, m25_16, m25_17, m25_r, m25_b, m25, wk, act, asV, ↓reduceIte, Nat.reduceEqDiff, reduceCtorEq, Nat.reduceAdd, Nat.reduceLeDiff, Nat.reduceSub, Nat.reduceMul, List.reduceReplicate, Int.reduceEq, Int.reduceLT, Int.reduceLE, Int.reduceAdd, Int.reduceSub, Int.reduceMul, Nat.reduceLT, Int.reduceToNat]
              exact q2 hno _ (by simp -implicitDefEqProofs (maxSteps := 2000000) only [wk, act, asV, ↓reduceIte, Nat.reduceEqDiff, reduceCtorEq, Nat.reduceAdd, Nat.reduceLeDiff, Nat.reduceSub, Nat.reduceMul, List.reduceReplicate, Int.reduceEq, Int.reduceLT, Int.reduceLE, Int.reduceAdd, Int.reduceSub, Int.reduceMul, Nat.reduceLT, Int.reduceToNat])
            · have hnd' : (allB (vs.take i) ++ vs[i].blocks.take (j + 1)).Nodup := by
                rw [etk]; exact nodup_snoc hnd hm
              rw [decide_eq_false hm] at hat
              simp -implicitDefEqProofs (maxSteps := 2000000) only [k0, k4, k3, kh3, k5, kh5, k6, hjl', hjl, drop_il hjl, hbn, hx1, hx2, hat, hn12, hn11, hn12', metL_length, hst, m25_1, m25_2, m25_3, m25_4, m25_5, m25_6, m25_7, m25_8, m25_9, m25_10, m25_11, m25_12, m25_13, m25_14, m25_15, m25_16, m25_17, m25_r, m25_b, m25, wrap_nat (show j < 2 ^ 63 - 1 by have := hv.bl _ (List.getElem_mem hlt); omega), wk, act, asV, ↓reduceIte, Nat.reduceEqDiff, reduceCtorEq, Nat.reduceAdd, Nat.reduceLeDiff, Nat.reduceSub, Nat.reduceMul, List.reduceReplicate, Int.reduceEq, Int.reduceLT, Int.reduceLE, Int.reduceAdd, Int.reduceSub, Int.reduceMul, Nat.reduceLT, Int.reduceToNat]
              refine ⟨vs[i].blocks.length - (j + 1), by omega, j + 1, by omega, rfl, rfl, hin', hnd', ?_⟩
              rw [etk]
              exact ⟨⟨_, rfl, rfl⟩, ⟨_, rfl, rfl⟩⟩
          · have hje : j = vs[i].blocks.length := by omega
            have hjl' : ¬ (j : Int) < vs[i].blocks.length := by omega
            rw [hje, List.take_length, ← allB_take hlt] at hnd kh3
            rw [hje, List.take_length] at hin
            have hg' : GoodP (vs.take (i + 1)) := by
              refine ⟨?_, ?_, hnd⟩
              · rw [List.take_succ_eq_append_getElem hlt, List.all_append, hg.each]
                simp only [List.all_cons, List.all_nil, Bool.and_true, Bool.true_and]
                exact volP_of hnm (by omega) (by omega) hin
              · rw [nmsV_take hlt]; exact nodup_snoc hg.nms hfr
            simp -implicitDefEqProofs (maxSteps := 2000000) only [k5, kh5, k6, hjl', m25_1, m25_2, m25_3, m25_4, m25_5, m25_6, m25_7, m25_8, m25_9, m25_10, m25_11, m25_12, m25_13, m25_14, m25_15, m25_16, m25_17, m25_r, m25_b, m25, wk, act, asV, ↓reduceIte, Nat.reduceEqDiff, reduceCtorEq, Nat.reduceAdd, Nat.reduceLeDiff, Nat.reduceSub, Nat.reduceMul, List.reduceReplicate, Int.reduceEq, Int.reduceLT, Int.reduceLE, Int.reduceAdd, Int.reduceSub, Int.reduceMul, Nat.reduceLT, Int.reduceToNat]
            exact q1 _ (by simp -implicitDefEqProofs (maxSteps := 2000000) only [k0, wk, act, asV, ↓reduceIte, Nat.reduceEqDiff, reduceCtorEq, Nat.reduceAdd, Nat.reduceLeDiff, Nat.reduceSub, Nat.reduceMul, List.reduceReplicate, Int.reduceEq, Int.reduceLT, Int.reduceLE, Int.reduceAdd, Int.reduceSub, Int.reduceMul, Nat.reduceLT, Int.reduceToNat]) (by simp -implicitDefEqProofs (maxSteps := 2000000) only [k4, wk, act, asV, ↓reduceIte, Nat.reduceEqDiff, reduceCtorEq, Nat.reduceAdd, Nat.reduceLeDiff, Nat.reduceSub, Nat.reduceMul, List.reduceReplicate, Int.reduceEq, Int.reduceLT, Int.reduceLE, Int.reduceAdd, Int.reduceSub, Int.reduceMul, Nat.reduceLT, Int.reduceToNat]) hg' ⟨v3, by simp -implicitDefEqProofs (maxSteps := 2000000) only [k3, wk, act, asV, ↓reduceIte, Nat.reduceEqDiff, reduceCtorEq, Nat.reduceAdd, Nat.reduceLeDiff, Nat.reduceSub, Nat.reduceMul, List.reduceReplicate, Int.reduceEq, Int.reduceLT, Int.reduceLE, Int.reduceAdd, Int.reduceSub, Int.reduceMul, Nat.reduceLT, Int.reduceToNat], by simp -implicitDefEqProofs (maxSteps := 2000000) only [kh3, wk, act, asV, ↓reduceIte, Nat.reduceEqDiff, reduceCtorEq, Nat.reduceAdd, Nat.reduceLeDiff, Nat.reduceSub, Nat.reduceMul, List.reduceReplicate, Int.reduceEq, Int.reduceLT, Int.reduceLE, Int.reduceAdd, Int.reduceSub, Int.reduceMul, Nat.reduceLT, Int.reduceToNat]⟩
        cases f with
        | lit => exact absurd rfl hf
        | _ =>
          repeat' (first | simp -implicitDefEqProofs (maxSteps := 2000000) only [m25_9, m25_10, m25_11, m25_12, m25_13, m25_2, m25_3, m25_4, g0, g4, g3, gh3, hlt', hlt, h2, drop_vl hlt, vl_length, hfi, hb1, hb4, wk, act, asV, ↓reduceIte, Nat.reduceEqDiff, reduceCtorEq, Nat.reduceAdd, Nat.reduceLeDiff, Nat.reduceSub, Nat.reduceMul, List.reduceReplicate, Int.reduceEq, Int.reduceLT, Int.reduceLE, Int.reduceAdd, Int.reduceSub, Int.reduceMul, Nat.reduceLT, Int.reduceToNat] | ((first | ((with_reducible refine CallL.gate ?_); apply CallL.of) | ((with_reducible refine CallP.gate ?_); apply CallP.of)); (case h1 => (simp -implicitDefEqProofs (maxSteps := 2000000) only [m25_9, m25_10, m25_11, m25_12, m25_13, m25_2, m25_3, m25_4, g0, g4, g3, gh3, hlt', hlt, h2, drop_vl hlt, vl_length, hfi, hb1, hb4, wk, act, asV, ↓reduceIte, Nat.reduceEqDiff, reduceCtorEq, Nat.reduceAdd, Nat.reduceLeDiff, Nat.reduceSub, Nat.reduceMul, List.reduceReplicate, Int.reduceEq, Int.reduceLT, Int.reduceLE, Int.reduceAdd, Int.reduceSub, Int.reduceMul, Nat.reduceLT, Int.reduceToNat]; first | done | (with_reducible rfl))); (case h2 => (first | exact cg | exact cf)); (case h3 => simp -implicitDefEqProofs (maxSteps := 2000000) only [m25_9, m25_10, m25_11, m25_12, m25_13, m25_2, m25_3, m25_4, g0, g4, g3, gh3, hlt', hlt, h2, drop_vl hlt, vl_length, hfi, hb1, hb4, wk, act, asV, ↓reduceIte, Nat.reduceEqDiff, reduceCtorEq, Nat.reduceAdd, Nat.reduceLeDiff, Nat.reduceSub, Nat.reduceMul, List.reduceReplicate, Int.reduceEq, Int.reduceLT, Int.reduceLE, Int.reduceAdd, Int.reduceSub, Int.reduceMul, Nat.reduceLT, Int.reduceToNat])))
          refine inner _ _ ?_ ?_ (by simp -implicitDefEqProofs (maxSteps := 2000000) only [g0, wk, act, asV, ↓reduceIte, Nat.reduceEqDiff, reduceCtorEq, Nat.reduceAdd, Nat.reduceLeDiff, Nat.reduceSub, Nat.reduceMul, List.reduceReplicate, Int.reduceEq, Int.reduceLT, Int.reduceLE, Int.reduceAdd, Int.reduceSub, Int.reduceMul, Nat.reduceLT, Int.reduceToNat]) (by simp -implicitDefEqProofs (maxSteps := 2000000) only [g4, wk, act, asV, ↓reduceIte, Nat.reduceEqDiff, reduceCtorEq, Nat.reduceAdd, Nat.reduceLeDiff, Nat.reduceSub, Nat.reduceMul, List.reduceReplicate, Int.reduceEq, Int.reduceLT, Int.reduceLE, Int.reduceAdd, Int.reduceSub, Int.reduceMul, Nat.reduceLT, Int.reduceToNat]) (by simp -implicitDefEqProofs (maxSteps := 2000000) only [wk, act, asV, ↓reduceIte, Nat.reduceEqDiff, reduceCtorEq, Nat.reduceAdd, Nat.reduceLeDiff, Nat.reduceSub, Nat.reduceMul, List.reduceReplicate, Int.reduceEq, Int.reduceLT, Int.reduceLE, Int.reduceAdd, Int.reduceSub, Int.reduceMul, Nat.reduceLT, Int.reduceToNat]) ⟨ver, by simp -implicitDefEqProofs (maxSteps := 2000000) only [g3, wk, act, asV, ↓reduceIte, Nat.reduceEqDiff, reduceCtorEq, Nat.reduceAdd, Nat.reduceLeDiff, Nat.reduceSub, Nat.reduceMul, List.reduceReplicate, Int.reduceEq, Int.reduceLT, Int.reduceLE, Int.reduceAdd, Int.reduceSub, Int.reduceMul, Nat.reduceLT, Int.reduceToNat], by simp -implicitDefEqProofs (maxSteps := 2000000) only [gh3, wk, act, asV, ↓reduceIte, Nat.reduceEqDiff, reduceCtorEq, Nat.reduceAdd, Nat.reduceLeDiff, Nat.reduceSub, Nat.reduceMul, List.reduceReplicate, Int.reduceEq, Int.reduceLT, Int.reduceLE, Int.reduceAdd, Int.reduceSub, Int.reduceMul, Nat.reduceLT, Int.reduceToNat]⟩ ⟨_, by simp -implicitDefEqProofs (maxSteps := 2000000) only [wk, act, asV, ↓reduceIte, Nat.reduceEqDiff, reduceCtorEq, Nat.reduceAdd, Nat.reduceLeDiff, Nat.reduceSub, Nat.reduceMul, List.reduceReplicate, Int.reduceEq, Int.reduceLT, Int.reduceLE, Int.reduceAdd, Int.reduceSub, Int.reduceMul, Nat.reduceLT, Int.reduceToNat]; first | done | rfl, by simp -implicitDefEqProofs (maxSteps := 2000000) only [wk, act, asV, ↓reduceIte, Nat.reduceEqDiff, reduceCtorEq, Nat.reduceAdd, Nat.reduceLeDiff, Nat.reduceSub, Nat.reduceMul, List.reduceReplicate, Int.reduceEq, Int.reduceLT, Int.reduceLE, Int.reduceAdd, Int.reduceSub, Int.reduceMul, Nat.reduceLT, Int.reduceToNat]; first | done | rfl⟩
          · intro s2 p0 p4 pg p3
            simp -implicitDefEqProofs (maxSteps := 2000000) only [p0, p4, wrap_nat (show i < 2 ^ 63 - 1 by omega), wk, act, asV, ↓reduceIte, Nat.reduceEqDiff, reduceCtorEq, Nat.reduceAdd, Nat.reduceLeDiff, Nat.reduceSub, Nat.reduceMul, List.reduceReplicate, Int.reduceEq, Int.reduceLT, Int.reduceLE, Int.reduceAdd, Int.reduceSub, Int.reduceMul, Nat.reduceLT, Int.reduceToNat]
            exact ⟨vs.length - (i + 1), by omega, i + 1, by omega, rfl, rfl, pg, p3⟩
          · intro hno s2 p2
            rw [hno]
            simp -implicitDefEqProofs (maxSteps := 2000000) only [p2, wk, act, asV, ↓reduceIte, Nat.reduceEqDiff, reduceCtorEq, Nat.reduceAdd, Nat.reduceLeDiff, Nat.reduceSub, Nat.reduceMul, List.reduceReplicate, Int.reduceEq, Int.reduceLT, Int.reduceLE, Int.reduceAdd, Int.reduceSub, Int.reduceMul, Nat.reduceLT, Int.reduceToNat]
      · have hno : goodV vs = false := goodV_no fun g => hfi (find_self_nodup hlt g.nms)
        rw [hno]
        have hfi := eq_false hfi
        cases f with
        | lit => exact absurd rfl hf
        | _ => repeat' (first | simp -implicitDefEqProofs (maxSteps := 2000000) only [m25_1, m25_2, m25_3, m25_4, m25_5, m25_6, m25_7, m25_8, m25_9, m25_10, m25_11, m25_12, m25_13, m25_14, m25_15, m25_16, m25_17, m25_r, m25_b, m25, g0, g4, g3, gh3, hlt', hlt, h2, drop_vl hlt, vl_length, hfi, wk, act, asV, ↓reduceIte, Nat.reduceEqDiff, reduceCtorEq, Nat.reduceAdd, Nat.reduceLeDiff, Nat.reduceSub, Nat.reduceMul, List.reduceReplicate, Int.reduceEq, Int.reduceLT, Int.reduceLE, Int.reduceAdd, Int.reduceSub, Int.reduceMul, Nat.reduceLT, Int.reduceToNat] | ((first | ((with_reducible refine CallL.gate ?_); apply CallL.of) | ((with_reducible refine CallP.gate ?_); apply CallP.of)); (case h1 => (simp -implicitDefEqProofs (maxSteps := 2000000) only [m25_1, m25_2, m25_3, m25_4, m25_5, m25_6, m25_7, m25_8, m25_9, m25_10, m25_11, m25_12, m25_13, m25_14, m25_15, m25_16, m25_17, m25_r, m25_b, m25, g0, g4, g3, gh3, hlt', hlt, h2, drop_vl hlt, vl_length, hfi, wk, act, asV, ↓reduceIte, Nat.reduceEqDiff, reduceCtorEq, Nat.reduceAdd, Nat.reduceLeDiff, Nat.reduceSub, Nat.reduceMul, List.reduceReplicate, Int.reduceEq, Int.reduceLT, Int.reduceLE, Int.reduceAdd, Int.reduceSub, Int.reduceMul, Nat.reduceLT, Int.reduceToNat]; first | done | (with_reducible rfl))); (case h2 => (first | exact cg | exact cf)); (case h3 => simp -implicitDefEqProofs (maxSteps := 2000000) only [m25_1, m25_2, m25_3, m25_4, m25_5, m25_6, m25_7, m25_8, m25_9, m25_10, m25_11, m25_12, m25_13, m25_14, m25_15, m25_16, m25_17, m25_r, m25_b, m25, g0, g4, g3, gh3, hlt', hlt, h2, drop_vl hlt, vl_length, hfi, wk, act, asV, ↓reduceIte, Nat.reduceEqDiff, reduceCtorEq, Nat.reduceAdd, Nat.reduceLeDiff, Nat.reduceSub, Nat.reduceMul, List.reduceReplicate, Int.reduceEq, Int.reduceLT, Int.reduceLE, Int.reduceAdd, Int.reduceSub, Int.reduceMul, Nat.reduceLT, Int.reduceToNat])))
    · have hnm' : goodN vs[i].name = false := by simpa using hnm
      rw [hnm'] at cg
      rw [not_each hlt (by intro h; exact hnm (volP_bl h).1)]
      repeat' (first | simp -implicitDefEqProofs (maxSteps := 2000000) only [m25_1, m25_2, m25_3, m25_4, m25_5, m25_6, m25_7, m25_8, m25_9, m25_10, m25_11, m25_12, m25_13, m25_14, m25_15, m25_16, m25_17, m25_r, m25_b, m25, g0, g4, g3, gh3, hlt', hlt, h2, drop_vl hlt, vl_length, wk, act, asV, ↓reduceIte, Nat.reduceEqDiff, reduceCtorEq, Nat.reduceAdd, Nat.reduceLeDiff, Nat.reduceSub, Nat.reduceMul, List.reduceReplicate, Int.reduceEq, Int.reduceLT, Int.reduceLE, Int.reduceAdd, Int.reduceSub, Int.reduceMul, Nat.reduceLT, Int.reduceToNat] | ((first | ((with_reducible refine CallL.gate ?_); apply CallL.of) | ((with_reducible refine CallP.gate ?_); apply CallP.of)); (case h1 => (simp -implicitDefEqProofs (maxSteps := 2000000) only [m25_1, m25_2, m25_3, m25_4, m25_5, m25_6, m25_7, m25_8, m25_9, m25_10, m25_11, m25_12, m25_13, m25_14, m25_15, m25_16, m25_17, m25_r, m25_b, m25, g0, g4, g3, gh3, hlt', hlt, h2, drop_vl hlt, vl_length, wk, act, asV, ↓reduceIte, Nat.reduceEqDiff, reduceCtorEq, Nat.reduceAdd, Nat.reduceLeDiff, Nat.reduceSub, Nat.reduceMul, List.reduceReplicate, Int.reduceEq, Int.reduceLT, Int.reduceLE, Int.reduceAdd, Int.reduceSub, Int.reduceMul, Nat.reduceLT, Int.reduceToNat]; first | done | (with_reducible rfl))); (case h2 => (first | exact cg)); (case h3 => simp -implicitDefEqProofs (maxSteps := 2000000) only [m25_1, m25_2, m25_3, m25_4, m25_5, m25_6, m25_7, m25_8, m25_9, m25_10, m25_11, m25_12, m25_13, m25_14, m25_15, m25_16, m25_17, m25_r, m25_b, m25, g0, g4, g3, gh3, hlt', hlt, h2, drop_vl hlt, vl_length, wk, act, asV, ↓reduceIte, Nat.reduceEqDiff, reduceCtorEq, Nat.reduceAdd, Nat.reduceLeDiff, Nat.reduceSub, Nat.reduceMul, List.reduceReplicate, Int.reduceEq, Int.reduceLT, Int.reduceLE, Int.reduceAdd, Int.reduceSub, Int.reduceMul, Nat.reduceLT, Int.reduceToNat])))
  · have hie : i = vs.length := by omega
    have hlt' : ¬ (i : Int) < vs.length := by omega
    rw [hie, List.take_length] at hg
    rw [goodV_yes (by omega) hg]
    simp -implicitDefEqProofs (maxSteps := 2000000) only [m25_1, m25_2, m25_3, m25_4, m25_5, m25_6, m25_7, m25_8, m25_9, m25_10, m25_11, m25_12, m25_13, m25_14, m25_15, m25_16, m25_17, m25_r, m25_b, m25, g0, g4, hlt', wk, act, asV, ↓reduceIte, Nat.reduceEqDiff, reduceCtorEq, Nat.reduceAdd, Nat.reduceLeDiff, Nat.reduceSub, Nat.reduceMul, List.reduceReplicate, Int.reduceEq, Int.reduceLT, Int.reduceLE, Int.reduceAdd, Int.reduceSub, Int.reduceMul, Nat.reduceLT, Int.reduceToNat]
end Go.Proofs.YtilbipknodpmmaaDoor
