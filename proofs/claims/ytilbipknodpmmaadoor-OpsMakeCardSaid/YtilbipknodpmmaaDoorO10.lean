/- The law OpsMake. -/
import Derived.Test.YtilbipknodpmmaaDoorO9
import Derived.Test.YtilbipknodpmmaaDoorM34
import Derived.Test.YtilbipknodpmmaaDoorE31
import Derived.Test.YtilbipknodpmmaaDoorM13
import Derived.Test.YtilbipknodpmmaaDoorM6
set_option linter.unusedVariables false
set_option linter.unusedSimpArgs false
set_option linter.unusedSectionVars false
set_option maxRecDepth 100000
set_option maxHeartbeats 8000000
namespace Go.Proofs.YtilbipknodpmmaaDoor
open Go.RowKit

theorem ptL_at {ps : List (Int × List UInt8)} (h : ∀ p ∈ ps, p.2.length = 32) {i : Nat} (hi : i < ps.length) : (ptL ps).drop (i * 33) = .int .i64 ps[i].1 :: (bl ps[i].2 ++ (ptL ps).drop ((i + 1) * 33)) := by
  rw [ptL_drop h hi]; rfl
theorem goodPt_ok (f : Fl) (ps : List (Int × List UInt8)) (h : ∀ p ∈ ps, p.2.length = 32) (hin : ∀ p ∈ ps, 0 ≤ p.1 ∧ p.1 < 12) (hnd : (ps.map Prod.fst).Nodup) (h1 : 1 ≤ ps.length) (h5 : ps.length ≤ 5) : RC Tryd.prog 27 [.sl f ps.length (ptL ps)] [.bool true] := by
  refine RC.of_wp c27 rfl ?_
  have lL := ptL_length h
  have h1' : (1 : Int) ≤ ps.length := by omega
  have h5' : (ps.length : Int) ≤ 5 := by omega
  simp -implicitDefEqProofs (maxSteps := 2000000) only [m27_1, m27_2, m27_3, m27_4, m27_5, m27_6, m27_7, m27_8, m27_9, m27_10, m27_11, m27_r, m27_b, m27, wk, act, asV, ↓reduceIte, Nat.reduceEqDiff, reduceCtorEq, Nat.reduceAdd, Nat.reduceLeDiff, Nat.reduceSub, Nat.reduceMul, List.reduceReplicate, Int.reduceEq, Int.reduceLT, Int.reduceLE, Int.reduceAdd, Int.reduceSub, Int.reduceMul, Nat.reduceLT, Int.reduceToNat]
  refine Wp_loop (fun m s => ∃ i, i ≤ ps.length ∧ m = ps.length - i ∧ s.t 0 = .sl f ps.length (ptL ps) ∧ s.t 3 = .int .i64 (i : Nat)) ps.length ⟨0, by omega, rfl, rfl, rfl⟩ ?_
  rintro m s ⟨i, hi, rfl, k0, k3⟩
  by_cases hil : i < ps.length
  · have hil' : (i : Int) < ps.length := by omega
    have eI := ptL_at h hil
    have hi0 : ¬ ps[i].1 < 0 := by have := hin _ (List.getElem_mem hil); omega
    have hi12 : ¬ (12 : Int) ≤ ps[i].1 := by have := hin _ (List.getElem_mem hil); omega
    have wi : IntKind.i64.wrap (((i : Nat) : Int) + 1) = ((i + 1 : Nat) : Int) := by rw [IntKind.wrap_i64]; omega
    simp -implicitDefEqProofs (maxSteps := 2000000) only [k0, k3, hil', eI, lL, hi0, hi12, wk, act, asV, ↓reduceIte, Nat.reduceEqDiff, reduceCtorEq, Nat.reduceAdd, Nat.reduceLeDiff, Nat.reduceSub, Nat.reduceMul, List.reduceReplicate, Int.reduceEq, Int.reduceLT, Int.reduceLE, Int.reduceAdd, Int.reduceSub, Int.reduceMul, Nat.reduceLT, Int.reduceToNat]
    refine Wp_loop (fun m s => ∃ k, k ≤ i ∧ m = i - k ∧ s.t 0 = .sl f ps.length (ptL ps) ∧ s.t 3 = .int .i64 (i : Nat) ∧ s.t 4 = .int .i64 (k : Nat)) i ⟨0, by omega, rfl, by simp -implicitDefEqProofs (maxSteps := 2000000) only [k0, wk, act, asV, ↓reduceIte, Nat.reduceEqDiff, reduceCtorEq, Nat.reduceAdd, Nat.reduceLeDiff, Nat.reduceSub, Nat.reduceMul, List.reduceReplicate, Int.reduceEq, Int.reduceLT, Int.reduceLE, Int.reduceAdd, Int.reduceSub, Int.reduceMul, Nat.reduceLT, Int.reduceToNat], by simp -implicitDefEqProofs (maxSteps := 2000000) only [k3, wk, act, asV, ↓reduceIte, Nat.reduceEqDiff, reduceCtorEq, Nat.reduceAdd, Nat.reduceLeDiff, Nat.reduceSub, Nat.reduceMul, List.reduceReplicate, Int.reduceEq, Int.reduceLT, Int.reduceLE, Int.reduceAdd, Int.reduceSub, Int.reduceMul, Nat.reduceLT, Int.reduceToNat], by simp -implicitDefEqProofs (maxSteps := 2000000) only [wk, act, asV, ↓reduceIte, Nat.reduceEqDiff, reduceCtorEq, Nat.reduceAdd, Nat.reduceLeDiff, Nat.reduceSub, Nat.reduceMul, List.reduceReplicate, Int.reduceEq, Int.reduceLT, Int.reduceLE, Int.reduceAdd, Int.reduceSub, Int.reduceMul, Nat.reduceLT, Int.reduceToNat]⟩ ?_
    clear k0 k3
    rintro m s ⟨k, hk, rfl, k0, k3, k4⟩
    by_cases hki : k < i
    · have hki' : (k : Int) < i := by omega
      have hkl : k < ps.length := by omega
      have hkl' : (k : Int) < ps.length := by omega
      have eK := ptL_at h hkl
      have hne : ¬ ps[k].1 = ps[i].1 := by
        have := List.pairwise_iff_getElem.1 hnd k i (by simpa using hkl) (by simpa using hil) hki
        simpa using this
      have wk' : IntKind.i64.wrap (((k : Nat) : Int) + 1) = ((k + 1 : Nat) : Int) := by rw [IntKind.wrap_i64]; omega
      simp -implicitDefEqProofs (maxSteps := 2000000) only [k0, k3, k4, hil', eI, lL, hki', hkl', eK, hne, wk', wk, act, asV, ↓reduceIte, Nat.reduceEqDiff, reduceCtorEq, Nat.reduceAdd, Nat.reduceLeDiff, Nat.reduceSub, Nat.reduceMul, List.reduceReplicate, Int.reduceEq, Int.reduceLT, Int.reduceLE, Int.reduceAdd, Int.reduceSub, Int.reduceMul, Nat.reduceLT, Int.reduceToNat]
      exact ⟨i - (k + 1), by omega, k + 1, by omega, rfl, rfl⟩
    · obtain rfl : k = i := by omega
      have hki' : ¬ ((k : Nat) : Int) < k := by omega
      simp -implicitDefEqProofs (maxSteps := 2000000) only [k0, k3, k4, hki', wi, wk, act, asV, ↓reduceIte, Nat.reduceEqDiff, reduceCtorEq, Nat.reduceAdd, Nat.reduceLeDiff, Nat.reduceSub, Nat.reduceMul, List.reduceReplicate, Int.reduceEq, Int.reduceLT, Int.reduceLE, Int.reduceAdd, Int.reduceSub, Int.reduceMul, Nat.reduceLT, Int.reduceToNat]
      exact ⟨ps.length - (k + 1), by omega, k + 1, by omega, rfl, rfl⟩
  · obtain rfl : i = ps.length := by omega
    have hil' : ¬ ((ps.length : Nat) : Int) < ps.length := by omega
    simp -implicitDefEqProofs (maxSteps := 2000000) only [k0, k3, hil', h1', h5', wk, act, asV, ↓reduceIte, Nat.reduceEqDiff, reduceCtorEq, Nat.reduceAdd, Nat.reduceLeDiff, Nat.reduceSub, Nat.reduceMul, List.reduceReplicate, Int.reduceEq, Int.reduceLT, Int.reduceLE, Int.reduceAdd, Int.reduceSub, Int.reduceMul, Nat.reduceLT, Int.reduceToNat]

/-! ### what is made -/
structure Mk (vs : List Vol) (nm : List UInt8) (n : Nat) (fr : List Int) (ps : List (Int × List UInt8)) (V : List Vol) : Prop where
  eps : ps = zpt fr ++ [(0, tabB V)]
  eV : V = vs ++ [⟨nm, fr⟩]
  fl : fr.length = n
  gV : goodV V = true
  f0 : ∀ b ∈ fr, inB b = true
  fnd : fr.Nodup
  n1 : 1 ≤ n
  n4 : n ≤ 4
  none : findV nm vs < 0
theorem mk_of {vs : List Vol} {nm : List UInt8} {N : Int} (hg : goodV vs = true) (hE : mkE vs nm N = 0) : ∃ n fr V, N = (n : Nat) ∧ Mk vs nm n fr (mkP vs nm N) V := by
  unfold mkE at hE
  split at hE
  · cases hE
  · rename_i a1
    split at hE
    · cases hE
    · rename_i a2
      split at hE
      · cases hE
      · rename_i a3
        split at hE
        · cases hE
        · rename_i a4
          split at hE
          · cases hE
          · rename_i a5
            have hl : ((frees (used vs)).take N.toNat).length = N.toNat := by rw [List.length_take]; omega
            refine ⟨N.toNat, (frees (used vs)).take N.toNat, mkV vs nm N, by omega, rfl, rfl, hl, ?_, ?_, ?_, by omega, by omega, by omega⟩
            · exact good_make hg (by omega) (by cases hh : goodN nm <;> first | exact absurd hh a1 | rfl) (by omega) (by omega) (by omega) (by omega)
            · exact fun b hb => (frees_inB (goodV_P hg).each b (List.mem_of_mem_take hb)).1
            · exact (List.take_sublist _ _).nodup (frees_nodup _)
theorem zpt_length (bs : List Int) : (zpt bs).length = bs.length := List.length_map ..
section
variable {vs V : List Vol} {nm : List UInt8} {n : Nat} {fr : List Int} {ps : List (Int × List UInt8)}
theorem Mk.lV (h : Mk vs nm n fr ps V) : V.length = vs.length + 1 := by rw [h.eV]; simp
theorem Mk.v3 (h : Mk vs nm n fr ps V) : V.length ≤ 3 := goodV_len h.gV
theorem Mk.len (h : Mk vs nm n fr ps V) : ps.length = n + 1 := by rw [h.eps, List.length_append, zpt_length, h.fl]; rfl
theorem Mk.h32 (h : Mk vs nm n fr ps V) : ∀ p ∈ ps, p.2.length = 32 := by
  intro p hp
  rw [h.eps] at hp
  rcases List.mem_append.1 hp with hp | hp
  · exact zpt_ok _ p hp
  · obtain rfl := List.mem_singleton.1 hp
    exact tabB_length h.v3
theorem Mk.fst (h : Mk vs nm n fr ps V) : ps.map Prod.fst = fr ++ [0] := by
  rw [h.eps, List.map_append, zpt, List.map_map]
  congr 1
  exact List.map_id' fr
theorem inB_pos {b : Int} (h : inB b = true) : 1 ≤ b ∧ b < 12 := by
  simp only [inB, Bool.and_eq_true, decide_eq_true_eq] at h; exact h
theorem Mk.ok (h : Mk vs nm n fr ps V) (f : Fl) : RC Tryd.prog 27 [.sl f ps.length (ptL ps)] [.bool true] := by
  have l := h.len
  have a1 := h.n1
  have a4 := h.n4
  refine goodPt_ok f ps h.h32 ?_ ?_ (by omega) (by omega)
  · intro p hp
    have hm : p.1 ∈ ps.map Prod.fst := List.mem_map.2 ⟨p, hp, rfl⟩
    rw [h.fst] at hm
    rcases List.mem_append.1 hm with hm | hm
    · have := inB_pos (h.f0 _ hm); omega
    · have := List.mem_singleton.1 hm; omega
  · rw [h.fst]
    refine nodup_snoc h.fnd fun hm => ?_
    have := inB_pos (h.f0 _ hm)
    omega
theorem Mk.at (h : Mk vs nm n fr ps V) {i : Nat} (hi : i < fr.length) : (ptL ps).drop (i * 33) = .int .i64 fr[i] :: (bl (zs 32) ++ (ptL ps).drop ((i + 1) * 33)) := by
  have hl : i < ps.length := by rw [h.len]; have := h.fl; omega
  rw [ptL_at h.h32 hl]
  have e : ps[i] = (fr[i], zs 32) := by
    have := h.eps
    subst this
    rw [List.getElem_append_left (by rw [zpt_length]; exact hi)]
    simp [zpt]
  rw [e]
theorem Mk.last (h : Mk vs nm n fr ps V) : (ptL ps).drop (n * 33) = .int .i64 0 :: bl (tabB V) := by
  have hl : n < ps.length := by rw [h.len]; omega
  rw [ptL_at h.h32 hl]
  have l := ptL_length h.h32
  have e : ps[n] = (0, tabB V) := by
    have := h.eps
    subst this
    rw [List.getElem_append_right (by rw [zpt_length, h.fl]; omega)]
    simp [zpt_length, h.fl]
  rw [e, List.drop_of_length_le (by rw [l, h.len]; omega), List.append_nil]
theorem Mk.findV (h : Mk vs nm n fr ps V) : findV nm V = (vs.length : Nat) := by
  have hl : vs.length < V.length := by rw [h.lV]; omega
  have e : V[vs.length].name = nm := by
    have := h.eV
    subst this
    simp
  rw [← e]
  exact find_at h.gV hl
theorem Mk.gone (h : Mk vs nm n fr ps V) (hn : nm.length < 2 ^ 63) : RC Tryd.prog 23 [.agg (bl (tabB V)), .str nm] [.own 1 33 (.int .i64 0 :: bl (tabB vs)), .int .i64 0] := by
  have c := goneP_ok (tabB V) nm (tabB_length h.v3) hn
  rw [decV_tab h.gV] at c
  unfold gnE gnP at c
  rw [h.findV, if_neg (by omega)] at c
  have e : V.eraseIdx (((vs.length : Nat) : Int)).toNat = vs := by
    rw [h.eV, Int.toNat_natCast, List.eraseIdx_append_of_length_le (Nat.le_refl _)]
    simp
  rw [e] at c
  have e2 : outP 0 [(0, tabB vs)] = .own 1 33 (.int .i64 0 :: bl (tabB vs)) := by
    unfold outP; rw [if_pos rfl]; simp [ptL, ptC]
  rw [e2] at c
  exact c
theorem Mk.dec (h : Mk vs nm n fr ps V) : RC Tryd.prog 28 [.agg (bl (tabB V))] [.own (vs.length + 1) 2 (vl V), .int .i64 0] := by
  have c := decTab_ok (tabB V) (tabB_length h.v3)
  rw [decV_tab h.gV, (decV_tabB h.gV).2] at c
  unfold ownV at c
  rw [if_neg (by rw [h.eV]; simp), h.lV] at c
  exact c
theorem Mk.lastV (h : Mk vs nm n fr ps V) : (vl V).drop (vs.length * 2) = [.str nm, .sl .plain n (il fr)] := by
  rw [h.eV, vl_append, ← vl_length, List.drop_left]
  simp [vl, h.fl]
theorem Mk.initV (h : Mk vs nm n fr ps V) : (vl V).take (vs.length * 2) = vl vs := by
  rw [h.eV, vl_append, ← vl_length, List.take_left]
end
theorem eqZ : eqL (bl (zs 32)) [.int .u8 0, .int .u8 0, .int .u8 0, .int .u8 0, .int .u8 0, .int .u8 0, .int .u8 0, .int .u8 0, .int .u8 0, .int .u8 0, .int .u8 0, .int .u8 0, .int .u8 0, .int .u8 0, .int .u8 0, .int .u8 0, .int .u8 0, .int .u8 0, .int .u8 0, .int .u8 0, .int .u8 0, .int .u8 0, .int .u8 0, .int .u8 0, .int .u8 0, .int .u8 0, .int .u8 0, .int .u8 0, .int .u8 0, .int .u8 0, .int .u8 0, .int .u8 0] = some true := by decide +kernel
theorem fitZ : fitR [(32, .i)] [.int .u8 0, .int .u8 0, .int .u8 0, .int .u8 0, .int .u8 0, .int .u8 0, .int .u8 0, .int .u8 0, .int .u8 0, .int .u8 0, .int .u8 0, .int .u8 0, .int .u8 0, .int .u8 0, .int .u8 0, .int .u8 0, .int .u8 0, .int .u8 0, .int .u8 0, .int .u8 0, .int .u8 0, .int .u8 0, .int .u8 0, .int .u8 0, .int .u8 0, .int .u8 0, .int .u8 0, .int .u8 0, .int .u8 0, .int .u8 0, .int .u8 0, .int .u8 0] = true := by decide +kernel
theorem opsMake {vs : List Vol} (nm : List UInt8) (N : Int) (hv : VsOk vs) (hn : nm.length < 2 ^ 63) : RC Tryd.prog 4 [.sl .plain vs.length (vl vs), .str nm, .int .i64 N] [.bool true] := by
  refine RC.of_wp c4 rfl ?_
  by_cases h1 : (100 : Int) < nm.length
  · repeat' (first | simp -implicitDefEqProofs (maxSteps := 2000000) only [m4_1, m4_2, m4_3, m4_4, m4_5, m4_6, m4_7, m4_8, m4_9, m4_10, m4_11, m4_12, m4_13, m4_14, m4_15, m4_16, m4_17, m4_18, m4_19, m4_20, m4_21, m4_22, m4_23, m4_24, m4_25, m4_26, m4_27, m4_28, m4_29, m4_30, m4_r, m4_b, m4, h1, wk, act, asV, ↓reduceIte, Nat.reduceEqDiff, reduceCtorEq, Nat.reduceAdd, Nat.reduceLeDiff, Nat.reduceSub, Nat.reduceMul, List.reduceReplicate, Int.reduceEq, Int.reduceLT, Int.reduceLE, Int.reduceAdd, Int.reduceSub, Int.reduceMul, Nat.reduceLT, Int.reduceToNat] | ((first | ((with_reducible refine CallL.gate ?_); apply CallL.of) | ((with_reducible refine CallP.gate ?_); apply CallP.of)); (case h1 => (simp -implicitDefEqProofs (maxSteps := 2000000) only [m4_1, m4_2, m4_3, m4_4, m4_5, m4_6, m4_7, m4_8, m4_9, m4_10, m4_11, m4_12, m4_13, m4_14, m4_15, m4_16, m4_17, m4_18, m4_19, m4_20, m4_21, m4_22, m4_23, m4_24, m4_25, m4_26, m4_27, m4_28, m4_29, m4_30, m4_r, m4_b, m4, h1, wk, act, asV, ↓reduceIte, Nat.reduceEqDiff, reduceCtorEq, Nat.reduceAdd, Nat.reduceLeDiff, Nat.reduceSub, Nat.reduceMul, List.reduceReplicate, Int.reduceEq, Int.reduceLT, Int.reduceLE, Int.reduceAdd, Int.reduceSub, Int.reduceMul, Nat.reduceLT, Int.reduceToNat]; first | done | (with_reducible rfl))); (case h2 => (first | exact wakesO_ok)); (case h3 => simp -implicitDefEqProofs (maxSteps := 2000000) only [m4_1, m4_2, m4_3, m4_4, m4_5, m4_6, m4_7, m4_8, m4_9, m4_10, m4_11, m4_12, m4_13, m4_14, m4_15, m4_16, m4_17, m4_18, m4_19, m4_20, m4_21, m4_22, m4_23, m4_24, m4_25, m4_26, m4_27, m4_28, m4_29, m4_30, m4_r, m4_b, m4, h1, wk, act, asV, ↓reduceIte, Nat.reduceEqDiff, reduceCtorEq, Nat.reduceAdd, Nat.reduceLeDiff, Nat.reduceSub, Nat.reduceMul, List.reduceReplicate, Int.reduceEq, Int.reduceLT, Int.reduceLE, Int.reduceAdd, Int.reduceSub, Int.reduceMul, Nat.reduceLT, Int.reduceToNat])))
  have cg := goodR_ok .plain (by decide) vs hv
  cases hg : goodV vs with
  | false =>
    rw [hg] at cg
    repeat' (first | simp -implicitDefEqProofs (maxSteps := 2000000) only [m4_1, m4_2, m4_3, m4_4, m4_5, m4_6, m4_7, m4_8, m4_9, m4_10, m4_11, m4_12, m4_13, m4_14, m4_15, m4_16, m4_17, m4_18, m4_19, m4_20, m4_21, m4_22, m4_23, m4_24, m4_25, m4_26, m4_27, m4_28, m4_29, m4_30, m4_r, m4_b, m4, h1, wk, act, asV, ↓reduceIte, Nat.reduceEqDiff, reduceCtorEq, Nat.reduceAdd, Nat.reduceLeDiff, Nat.reduceSub, Nat.reduceMul, List.reduceReplicate, Int.reduceEq, Int.reduceLT, Int.reduceLE, Int.reduceAdd, Int.reduceSub, Int.reduceMul, Nat.reduceLT, Int.reduceToNat] | ((first | ((with_reducible refine CallL.gate ?_); apply CallL.of) | ((with_reducible refine CallP.gate ?_); apply CallP.of)); (case h1 => (simp -implicitDefEqProofs (maxSteps := 2000000) only [m4_1, m4_2, m4_3, m4_4, m4_5, m4_6, m4_7, m4_8, m4_9, m4_10, m4_11, m4_12, m4_13, m4_14, m4_15, m4_16, m4_17, m4_18, m4_19, m4_20, m4_21, m4_22, m4_23, m4_24, m4_25, m4_26, m4_27, m4_28, m4_29, m4_30, m4_r, m4_b, m4, h1, wk, act, asV, ↓reduceIte, Nat.reduceEqDiff, reduceCtorEq, Nat.reduceAdd, Nat.reduceLeDiff, Nat.reduceSub, Nat.reduceMul, List.reduceReplicate, Int.reduceEq, Int.reduceLT, Int.reduceLE, Int.reduceAdd, Int.reduceSub, Int.reduceMul, Nat.reduceLT, Int.reduceToNat]; first | done | (with_reducible rfl))); (case h2 => (first | exact cg | exact wakesO_ok)); (case h3 => simp -implicitDefEqProofs (maxSteps := 2000000) only [m4_1, m4_2, m4_3, m4_4, m4_5, m4_6, m4_7, m4_8, m4_9, m4_10, m4_11, m4_12, m4_13, m4_14, m4_15, m4_16, m4_17, m4_18, m4_19, m4_20, m4_21, m4_22, m4_23, m4_24, m4_25, m4_26, m4_27, m4_28, m4_29, m4_30, m4_r, m4_b, m4, h1, wk, act, asV, ↓reduceIte, Nat.reduceEqDiff, reduceCtorEq, Nat.reduceAdd, Nat.reduceLeDiff, Nat.reduceSub, Nat.reduceMul, List.reduceReplicate, Int.reduceEq, Int.reduceLT, Int.reduceLE, Int.reduceAdd, Int.reduceSub, Int.reduceMul, Nat.reduceLT, Int.reduceToNat])))
  | true =>
    rw [hg] at cg
    have ce := encT_ok .plain (by decide) vs hv
    rw [show tabR vs = tabB vs from if_pos hg, show tabE vs = 0 from if_pos hg] at ce
    have lT : (bl (tabB vs)).length = 32 := by rw [bl_length]; exact tabB_length (goodV_len hg)
    have tT : List.take 32 (bl (tabB vs)) = bl (tabB vs) := List.take_of_length_le (by omega)
    have cm := makeP_ok (tabB vs) nm N (tabB_length (goodV_len hg)) hn
    rw [decV_tab hg] at cm
    by_cases hE : mkE vs nm N = 0
    · obtain ⟨n, fr, V, rfl, hk⟩ := mk_of hg hE
      rw [hE, show outP 0 (mkP vs nm (n : Nat)) = .own (mkP vs nm (n : Nat)).length 33 (ptL (mkP vs nm (n : Nat))) from if_pos rfl] at cm
      obtain ⟨ps, hps⟩ : ∃ ps, ps = mkP vs nm (n : Nat) := ⟨_, rfl⟩
      rw [← hps] at cm hk
      have c27 := hk.ok .plain
      rw [hk.len] at cm c27
      have cd := hk.dec
      have cv := vols_ok .plain .plain vs vs hv.len hv.bl
      rw [decide_eq_true rfl] at cv
      have lP := ptL_length hk.h32
      rw [hk.len] at lP
      have sP := ptL_scal ps
      have pP := ptL_pur ps
      have tP : List.take ((n + 1) * 33) (ptL ps) = ptL ps := List.take_of_length_le (by omega)
      have eN := hk.last
      have lV := vl_length V
      rw [hk.lV] at lV
      have pV := vl_pur V
      have lB : (bl (tabB V)).length = 32 := by rw [bl_length]; exact tabB_length hk.v3
      have tB : List.take 32 (bl (tabB V)) = bl (tabB V) := List.take_of_length_le (by omega)
      have iV := hk.initV
      have zV := hk.lastV
      have n1 := hk.n1
      have n4 := hk.n4
      have v3 := hk.v3
      rw [hk.lV] at v3
      have hn0 : ¬ ((n : Nat) : Int) < 0 := by omega
      have wn : IntKind.i64.wrap (((n : Nat) : Int) + 1) = ((n + 1 : Nat) : Int) := by rw [IntKind.wrap_i64]; omega
      have wl : IntKind.i64.wrap (((vs.length : Nat) : Int) + 1) = ((vs.length + 1 : Nat) : Int) := by rw [IntKind.wrap_i64]; omega
      have hnn : ((n : Nat) : Int) < ((n + 1 : Nat) : Int) := by omega
      have hll : ((vs.length : Nat) : Int) < ((vs.length + 1 : Nat) : Int) := by omega
      have hll2 : vs.length ≤ vs.length + 1 := by omega
      have r1 : n * 33 + 1 ≤ (n + 1) * 33 := by omega
      have r2 : n * 33 + 1 + 32 ≤ (n + 1) * 33 := by omega
      have r3 : n * 33 + 33 ≤ (n + 1) * 33 := by omega
      have eN1 : List.drop (n * 33 + 1) (ptL ps) = bl (tabB V) := by rw [← List.drop_drop, eN]; rfl
      have r4 : vs.length * 2 + 1 ≤ (vs.length + 1) * 2 := by omega
      have r5 : vs.length * 2 + 1 + 1 ≤ (vs.length + 1) * 2 := by omega
      have r6 : vs.length * 2 + 2 ≤ (vs.length + 1) * 2 := by omega
      have zV1 : List.drop (vs.length * 2 + 1) (vl V) = [.sl .plain n (il fr)] := by rw [← List.drop_drop, zV]; rfl
      repeat' (first | simp -implicitDefEqProofs (maxSteps := 2000000) only [m4_1, m4_2, m4_3, m4_4, m4_5, m4_6, m4_7, m4_8, m4_9, m4_10, m4_11, m4_12, m4_13, m4_14, m4_15, m4_16, m4_17, m4_18, m4_19, m4_20, m4_21, m4_22, m4_23, m4_24, m4_25, m4_26, m4_27, m4_28, m4_29, m4_30, m4_r, m4_b, m4, h1, lT, tT, lP, sP, pP, tP, eN, lV, pV, lB, tB, iV, zV, r1, r2, r3, r4, r5, r6, eN1, zV1, hn0, wn, wl, hnn, hll, hll2, bl_scal, bl_allO, wk, act, asV, ↓reduceIte, Nat.reduceEqDiff, reduceCtorEq, Nat.reduceAdd, Nat.reduceLeDiff, Nat.reduceSub, Nat.reduceMul, List.reduceReplicate, Int.reduceEq, Int.reduceLT, Int.reduceLE, Int.reduceAdd, Int.reduceSub, Int.reduceMul, Nat.reduceLT, Int.reduceToNat] | ((first | ((with_reducible refine CallL.gate ?_); apply CallL.of) | ((with_reducible refine CallP.gate ?_); apply CallP.of)); (case h1 => (simp -implicitDefEqProofs (maxSteps := 2000000) only [m4_1, m4_2, m4_3, m4_4, m4_5, m4_6, m4_7, m4_8, m4_9, m4_10, m4_11, m4_12, m4_13, m4_14, m4_15, m4_16, m4_17, m4_18, m4_19, m4_20, m4_21, m4_22, m4_23, m4_24, m4_25, m4_26, m4_27, m4_28, m4_29, m4_30, m4_r, m4_b, m4, h1, lT, tT, lP, sP, pP, tP, eN, lV, pV, lB, tB, iV, zV, r1, r2, r3, r4, r5, r6, eN1, zV1, hn0, wn, wl, hnn, hll, hll2, bl_scal, bl_allO, wk, act, asV, ↓reduceIte, Nat.reduceEqDiff, reduceCtorEq, Nat.reduceAdd, Nat.reduceLeDiff, Nat.reduceSub, Nat.reduceMul, List.reduceReplicate, Int.reduceEq, Int.reduceLT, Int.reduceLE, Int.reduceAdd, Int.reduceSub, Int.reduceMul, Nat.reduceLT, Int.reduceToNat]; first | done | (with_reducible rfl))); (case h2 => (first | exact cg | exact ce | exact cm | exact c27 | exact cd | exact cv)); (case h3 => simp -implicitDefEqProofs (maxSteps := 2000000) only [m4_1, m4_2, m4_3, m4_4, m4_5, m4_6, m4_7, m4_8, m4_9, m4_10, m4_11, m4_12, m4_13, m4_14, m4_15, m4_16, m4_17, m4_18, m4_19, m4_20, m4_21, m4_22, m4_23, m4_24, m4_25, m4_26, m4_27, m4_28, m4_29, m4_30, m4_r, m4_b, m4, h1, lT, tT, lP, sP, pP, tP, eN, lV, pV, lB, tB, iV, zV, r1, r2, r3, r4, r5, r6, eN1, zV1, hn0, wn, wl, hnn, hll, hll2, bl_scal, bl_allO, wk, act, asV, ↓reduceIte, Nat.reduceEqDiff, reduceCtorEq, Nat.reduceAdd, Nat.reduceLeDiff, Nat.reduceSub, Nat.reduceMul, List.reduceReplicate, Int.reduceEq, Int.reduceLT, Int.reduceLE, Int.reduceAdd, Int.reduceSub, Int.reduceMul, Nat.reduceLT, Int.reduceToNat])))
      clear cg ce cm c27 cd cv
      have l0 : List.drop 0 (ptL ps) = ptL ps := rfl
      refine Wp_loop (fun m s => ∃ i w7 w9 w11, i ≤ n ∧ m = n - i ∧ s.t 0 = .sl .plain vs.length (vl vs) ∧ s.t 1 = .str nm ∧ s.t 2 = .int .i64 (n : Nat) ∧ s.t 7 = .ptr 7 0 w7 ∧ s.t 9 = .row 36 0 (n + 1) 33 w9 ∧ s.t 11 = .row 75 0 (vs.length + 1) 2 w11 ∧ s.t 13 = .int .i64 (i : Nat) ∧ s.h 7 = ⟨w7, true, true, false, bl (tabB vs)⟩ ∧ s.h 36 = ⟨w9, true, true, true, ptL ps⟩ ∧ s.h 75 = ⟨w11, true, true, true, vl V⟩) n ⟨0, _, _, _, by omega, rfl, by simp -implicitDefEqProofs (maxSteps := 2000000) only [wk, act, asV, ↓reduceIte, Nat.reduceEqDiff, reduceCtorEq, Nat.reduceAdd, Nat.reduceLeDiff, Nat.reduceSub, Nat.reduceMul, List.reduceReplicate, Int.reduceEq, Int.reduceLT, Int.reduceLE, Int.reduceAdd, Int.reduceSub, Int.reduceMul, Nat.reduceLT, Int.reduceToNat], by simp -implicitDefEqProofs (maxSteps := 2000000) only [wk, act, asV, ↓reduceIte, Nat.reduceEqDiff, reduceCtorEq, Nat.reduceAdd, Nat.reduceLeDiff, Nat.reduceSub, Nat.reduceMul, List.reduceReplicate, Int.reduceEq, Int.reduceLT, Int.reduceLE, Int.reduceAdd, Int.reduceSub, Int.reduceMul, Nat.reduceLT, Int.reduceToNat], by simp -implicitDefEqProofs (maxSteps := 2000000) only [wk, act, asV, ↓reduceIte, Nat.reduceEqDiff, reduceCtorEq, Nat.reduceAdd, Nat.reduceLeDiff, Nat.reduceSub, Nat.reduceMul, List.reduceReplicate, Int.reduceEq, Int.reduceLT, Int.reduceLE, Int.reduceAdd, Int.reduceSub, Int.reduceMul, Nat.reduceLT, Int.reduceToNat], by simp -implicitDefEqProofs (maxSteps := 2000000) only [wk, act, asV, ↓reduceIte, Nat.reduceEqDiff, reduceCtorEq, Nat.reduceAdd, Nat.reduceLeDiff, Nat.reduceSub, Nat.reduceMul, List.reduceReplicate, Int.reduceEq, Int.reduceLT, Int.reduceLE, Int.reduceAdd, Int.reduceSub, Int.reduceMul, Nat.reduceLT, Int.reduceToNat]; first | done | rfl, by simp -implicitDefEqProofs (maxSteps := 2000000) only [wk, act, asV, ↓reduceIte, Nat.reduceEqDiff, reduceCtorEq, Nat.reduceAdd, Nat.reduceLeDiff, Nat.reduceSub, Nat.reduceMul, List.reduceReplicate, Int.reduceEq, Int.reduceLT, Int.reduceLE, Int.reduceAdd, Int.reduceSub, Int.reduceMul, Nat.reduceLT, Int.reduceToNat]; first | done | rfl, by simp -implicitDefEqProofs (maxSteps := 2000000) only [wk, act, asV, ↓reduceIte, Nat.reduceEqDiff, reduceCtorEq, Nat.reduceAdd, Nat.reduceLeDiff, Nat.reduceSub, Nat.reduceMul, List.reduceReplicate, Int.reduceEq, Int.reduceLT, Int.reduceLE, Int.reduceAdd, Int.reduceSub, Int.reduceMul, Nat.reduceLT, Int.reduceToNat]; first | done | rfl, by simp -implicitDefEqProofs (maxSteps := 2000000) only [wk, act, asV, ↓reduceIte, Nat.reduceEqDiff, reduceCtorEq, Nat.reduceAdd, Nat.reduceLeDiff, Nat.reduceSub, Nat.reduceMul, List.reduceReplicate, Int.reduceEq, Int.reduceLT, Int.reduceLE, Int.reduceAdd, Int.reduceSub, Int.reduceMul, Nat.reduceLT, Int.reduceToNat], by simp -implicitDefEqProofs (maxSteps := 2000000) only [wk, act, asV, ↓reduceIte, Nat.reduceEqDiff, reduceCtorEq, Nat.reduceAdd, Nat.reduceLeDiff, Nat.reduceSub, Nat.reduceMul, List.reduceReplicate, Int.reduceEq, Int.reduceLT, Int.reduceLE, Int.reduceAdd, Int.reduceSub, Int.reduceMul, Nat.reduceLT, Int.reduceToNat]; first | done | rfl, by simp -implicitDefEqProofs (maxSteps := 2000000) only [wk, act, asV, ↓reduceIte, Nat.reduceEqDiff, reduceCtorEq, Nat.reduceAdd, Nat.reduceLeDiff, Nat.reduceSub, Nat.reduceMul, List.reduceReplicate, Int.reduceEq, Int.reduceLT, Int.reduceLE, Int.reduceAdd, Int.reduceSub, Int.reduceMul, Nat.reduceLT, Int.reduceToNat]; first | done | rfl, by simp -implicitDefEqProofs (maxSteps := 2000000) only [wk, act, asV, ↓reduceIte, Nat.reduceEqDiff, reduceCtorEq, Nat.reduceAdd, Nat.reduceLeDiff, Nat.reduceSub, Nat.reduceMul, List.reduceReplicate, Int.reduceEq, Int.reduceLT, Int.reduceLE, Int.reduceAdd, Int.reduceSub, Int.reduceMul, Nat.reduceLT, Int.reduceToNat]; first | done | rfl⟩ ?_
      rintro m s ⟨i, w7, w9, w11, hi, rfl, k0, k1, k2, k7, k9, k11, k13, kh7, kh9, kh11⟩
      have zc := zs_cells
      by_cases hin : i < n
      · have hin' : (i : Int) < (n : Nat) := by omega
        have hinn : (i : Int) < ((n + 1 : Nat) : Int) := by omega
        have hif : i < fr.length := by rw [hk.fl]; exact hin
        have eI := hk.at hif
        have dI := drop_il hif
        have r7 : i * 33 + 1 ≤ (n + 1) * 33 := by omega
        have r8 : i * 33 + 1 + 32 ≤ (n + 1) * 33 := by omega
        have r9 : i * 33 + 33 ≤ (n + 1) * 33 := by omega
        have lz : (bl (zs 32)).length = 32 := rfl
        have eI1 : List.drop (i * 33 + 1) (ptL ps) = bl (zs 32) ++ (ptL ps).drop ((i + 1) * 33) := by rw [← List.drop_drop, eI]; rfl
        have tI1 : List.take 32 (bl (zs 32) ++ (ptL ps).drop ((i + 1) * 33)) = bl (zs 32) := by rw [List.take_append, lz, Nat.sub_self, List.take_zero, List.append_nil]; rfl
        have q1 := bl_eq (zs 32)
        have q3 := eqZ
        have q4 := fitZ
        have q2 := bl_fit (d := zs 32) rfl
        have lf : (il fr).length = n := by rw [il_length, hk.fl]
        have wi : IntKind.i64.wrap (((i : Nat) : Int) + 1) = ((i + 1 : Nat) : Int) := by rw [IntKind.wrap_i64]; omega
        obtain ⟨F, hF⟩ : ∃ F, F = fr[i] := ⟨_, rfl⟩
        rw [← hF] at eI dI
        obtain ⟨W, hW⟩ : ∃ W, W = (ptL ps).drop ((i + 1) * 33) := ⟨_, rfl⟩
        rw [← hW] at eI eI1 tI1
        simp -implicitDefEqProofs (maxSteps := 2000000) only [k0, k1, k2, k7, k9, k11, k13, kh7, kh9, kh11, hin', hinn, hin, eI, dI, r7, r8, r9, eI1, tI1, q1, q2, lf, lP, lV, zV, zV1, r4, r5, r6, hll, wi, q3, q4, wk, act, asV, ↓reduceIte, Nat.reduceEqDiff, reduceCtorEq, Nat.reduceAdd, Nat.reduceLeDiff, Nat.reduceSub, Nat.reduceMul, List.reduceReplicate, Int.reduceEq, Int.reduceLT, Int.reduceLE, Int.reduceAdd, Int.reduceSub, Int.reduceMul, Nat.reduceLT, Int.reduceToNat]
        exact ⟨n - (i + 1), by omega, i + 1, w7, w9, w11, by omega, by and_intros <;> rfl⟩
      · obtain rfl : i = n := by omega
        have hin' : ¬ ((i : Nat) : Int) < i := by omega
        have cn := hk.gone hn
        have q1 := bl_eq (tabB vs)
        have q2 := bl_fit (tabB_length (goodV_len hg))
        have lR : (IV.int .i64 0 :: bl (tabB vs)).length = 33 := by rw [List.length_cons, lT]
        have tR : List.take 33 (IV.int .i64 0 :: bl (tabB vs)) = .int .i64 0 :: bl (tabB vs) := List.take_of_length_le (by omega)
        have sR : (IV.int .i64 0 :: bl (tabB vs)).all IV.scal = true := ptC_scal (0, tabB vs)
        repeat' (first | simp -implicitDefEqProofs (maxSteps := 2000000) only [k0, k1, k2, k7, k9, k11, k13, kh7, kh9, kh11, hin', lR, tR, sR, lT, tT, q1, q2, lP, eN, eN1, r1, r2, r3, lB, tB, hnn, bl_scal, bl_allO, wk, act, asV, ↓reduceIte, Nat.reduceEqDiff, reduceCtorEq, Nat.reduceAdd, Nat.reduceLeDiff, Nat.reduceSub, Nat.reduceMul, List.reduceReplicate, Int.reduceEq, Int.reduceLT, Int.reduceLE, Int.reduceAdd, Int.reduceSub, Int.reduceMul, Nat.reduceLT, Int.reduceToNat] | ((first | ((with_reducible refine CallL.gate ?_); apply CallL.of) | ((with_reducible refine CallP.gate ?_); apply CallP.of)); (case h1 => (simp -implicitDefEqProofs (maxSteps := 2000000) only [k0, k1, k2, k7, k9, k11, k13, kh7, kh9, kh11, hin', lR, tR, sR, lT, tT, q1, q2, lP, eN, eN1, r1, r2, r3, lB, tB, hnn, bl_scal, bl_allO, wk, act, asV, ↓reduceIte, Nat.reduceEqDiff, reduceCtorEq, Nat.reduceAdd, Nat.reduceLeDiff, Nat.reduceSub, Nat.reduceMul, List.reduceReplicate, Int.reduceEq, Int.reduceLT, Int.reduceLE, Int.reduceAdd, Int.reduceSub, Int.reduceMul, Nat.reduceLT, Int.reduceToNat]; first | done | (with_reducible rfl))); (case h2 => (first | exact cn | exact wakesO_ok)); (case h3 => simp -implicitDefEqProofs (maxSteps := 2000000) only [k0, k1, k2, k7, k9, k11, k13, kh7, kh9, kh11, hin', lR, tR, sR, lT, tT, q1, q2, lP, eN, eN1, r1, r2, r3, lB, tB, hnn, bl_scal, bl_allO, wk, act, asV, ↓reduceIte, Nat.reduceEqDiff, reduceCtorEq, Nat.reduceAdd, Nat.reduceLeDiff, Nat.reduceSub, Nat.reduceMul, List.reduceReplicate, Int.reduceEq, Int.reduceLT, Int.reduceLE, Int.reduceAdd, Int.reduceSub, Int.reduceMul, Nat.reduceLT, Int.reduceToNat])))
    · rw [show outP (mkE vs nm N) (mkP vs nm N) = .sl .full 0 [] from if_neg hE] at cm
      obtain ⟨E, hE'⟩ : ∃ E, E = mkE vs nm N := ⟨_, rfl⟩
      rw [← hE'] at cm hE
      repeat' (first | simp -implicitDefEqProofs (maxSteps := 2000000) only [m4_1, m4_2, m4_3, m4_4, m4_5, m4_6, m4_7, m4_8, m4_9, m4_10, m4_11, m4_12, m4_13, m4_14, m4_15, m4_16, m4_17, m4_18, m4_19, m4_20, m4_21, m4_22, m4_23, m4_24, m4_25, m4_26, m4_27, m4_28, m4_29, m4_30, m4_r, m4_b, m4, h1, lT, tT, hE, bl_scal, bl_allO, wk, act, asV, ↓reduceIte, Nat.reduceEqDiff, reduceCtorEq, Nat.reduceAdd, Nat.reduceLeDiff, Nat.reduceSub, Nat.reduceMul, List.reduceReplicate, Int.reduceEq, Int.reduceLT, Int.reduceLE, Int.reduceAdd, Int.reduceSub, Int.reduceMul, Nat.reduceLT, Int.reduceToNat] | ((first | ((with_reducible refine CallL.gate ?_); apply CallL.of) | ((with_reducible refine CallP.gate ?_); apply CallP.of)); (case h1 => (simp -implicitDefEqProofs (maxSteps := 2000000) only [m4_1, m4_2, m4_3, m4_4, m4_5, m4_6, m4_7, m4_8, m4_9, m4_10, m4_11, m4_12, m4_13, m4_14, m4_15, m4_16, m4_17, m4_18, m4_19, m4_20, m4_21, m4_22, m4_23, m4_24, m4_25, m4_26, m4_27, m4_28, m4_29, m4_30, m4_r, m4_b, m4, h1, lT, tT, hE, bl_scal, bl_allO, wk, act, asV, ↓reduceIte, Nat.reduceEqDiff, reduceCtorEq, Nat.reduceAdd, Nat.reduceLeDiff, Nat.reduceSub, Nat.reduceMul, List.reduceReplicate, Int.reduceEq, Int.reduceLT, Int.reduceLE, Int.reduceAdd, Int.reduceSub, Int.reduceMul, Nat.reduceLT, Int.reduceToNat]; first | done | (with_reducible rfl))); (case h2 => (first | exact cg | exact ce | exact cm | exact wakesO_ok)); (case h3 => simp -implicitDefEqProofs (maxSteps := 2000000) only [m4_1, m4_2, m4_3, m4_4, m4_5, m4_6, m4_7, m4_8, m4_9, m4_10, m4_11, m4_12, m4_13, m4_14, m4_15, m4_16, m4_17, m4_18, m4_19, m4_20, m4_21, m4_22, m4_23, m4_24, m4_25, m4_26, m4_27, m4_28, m4_29, m4_30, m4_r, m4_b, m4, h1, lT, tT, hE, bl_scal, bl_allO, wk, act, asV, ↓reduceIte, Nat.reduceEqDiff, reduceCtorEq, Nat.reduceAdd, Nat.reduceLeDiff, Nat.reduceSub, Nat.reduceMul, List.reduceReplicate, Int.reduceEq, Int.reduceLT, Int.reduceLE, Int.reduceAdd, Int.reduceSub, Int.reduceMul, Nat.reduceLT, Int.reduceToNat])))
end Go.Proofs.YtilbipknodpmmaaDoor
