/- The law CapsWards. -/
import Derived.Test.YtkphojcmjffccaaDoorY6
import Derived.Test.YtkphojcmjffccaaDoorE31
import Derived.Test.YtkphojcmjffccaaDoorM15
set_option linter.unusedVariables false
set_option linter.unusedSimpArgs false
set_option linter.unusedSectionVars false
set_option maxRecDepth 100000
set_option maxHeartbeats 8000000
namespace Go.Proofs.YtkphojcmjffccaaDoor
open Go.RowKit

theorem andI_self {r : Int} (h1 : 1 ≤ r) (h2 : r ≤ 3) : andI r r = r := by
  have : r = 1 ∨ r = 2 ∨ r = 3 := by omega
  rcases this with rfl | rfl | rfl <;> decide
theorem okC_bounds {t : Tok} (h : okC t = true) : 0 ≤ t.place ∧ t.place < 4 ∧ 1 ≤ t.rights ∧ t.rights ≤ 3 := by
  simp only [okC, Bool.and_eq_true, decide_eq_true_eq] at h
  omega
theorem capsWards (k : List UInt8) (place : Int) (gen tick : Nat) (c : Tok) (hc0 : c.Ok) (n0 n1 : UInt8) (hk : k.length < 2 ^ 63) :
    RC Tryd.prog 5 [.agg (wardC .plain k place gen tick), .agg (clC c), .agg [.int .u8 (n0.toNat : Int), .int .u8 (n1.toNat : Int)]] [.bool true] := by
  refine RC.of_wp c5 rfl ?_
  have cw := wakesC_ok
  simp only [wardC]
  by_cases h1 : (200 : Int) < (k.length : Nat)
  · repeat' (first | simp -implicitDefEqProofs (maxSteps := 2000000) only [m5_1, m5_2, m5_3, m5_4, m5_5, m5_6, m5_7, m5_8, m5_9, m5_10, m5_11, m5_12, m5_13, m5_14, m5_15, m5_16, m5_17, m5_18, m5_19, m5_20, m5_21, m5_22, m5_23, m5_24, m5_25, m5_r, m5_b, m5, clC, h1, wk, act, asV, ↓reduceIte, Nat.reduceEqDiff, reduceCtorEq, Nat.reduceAdd, Nat.reduceLeDiff, Nat.reduceSub, Nat.reduceMul, List.reduceReplicate, Int.reduceEq, Int.reduceLT, Int.reduceLE, Int.reduceAdd, Int.reduceSub, Int.reduceMul, Nat.reduceLT, Int.reduceToNat] | ((first | ((with_reducible refine CallL.gate ?_); apply CallL.of) | ((with_reducible refine CallpL.gate ?_); apply CallpL.of) | ((with_reducible refine CallP.gate ?_); apply CallP.of) | ((with_reducible refine CallpP.gate ?_); apply CallpP.of)); (case h1 => (simp -implicitDefEqProofs (maxSteps := 2000000) only [m5_1, m5_2, m5_3, m5_4, m5_5, m5_6, m5_7, m5_8, m5_9, m5_10, m5_11, m5_12, m5_13, m5_14, m5_15, m5_16, m5_17, m5_18, m5_19, m5_20, m5_21, m5_22, m5_23, m5_24, m5_25, m5_r, m5_b, m5, clC, h1, wk, act, asV, ↓reduceIte, Nat.reduceEqDiff, reduceCtorEq, Nat.reduceAdd, Nat.reduceLeDiff, Nat.reduceSub, Nat.reduceMul, List.reduceReplicate, Int.reduceEq, Int.reduceLT, Int.reduceLE, Int.reduceAdd, Int.reduceSub, Int.reduceMul, Nat.reduceLT, Int.reduceToNat]; first | done | (with_reducible rfl))); (case h2 => (first | exact cw)); (case h3 => simp -implicitDefEqProofs (maxSteps := 2000000) only [m5_1, m5_2, m5_3, m5_4, m5_5, m5_6, m5_7, m5_8, m5_9, m5_10, m5_11, m5_12, m5_13, m5_14, m5_15, m5_16, m5_17, m5_18, m5_19, m5_20, m5_21, m5_22, m5_23, m5_24, m5_25, m5_r, m5_b, m5, clC, h1, wk, act, asV, ↓reduceIte, Nat.reduceEqDiff, reduceCtorEq, Nat.reduceAdd, Nat.reduceLeDiff, Nat.reduceSub, Nat.reduceMul, List.reduceReplicate, Int.reduceEq, Int.reduceLT, Int.reduceLE, Int.reduceAdd, Int.reduceSub, Int.reduceMul, Nat.reduceLT, Int.reduceToNat])))
  by_cases h2 : (100 : Int) < (c.name.length : Nat)
  · repeat' (first | simp -implicitDefEqProofs (maxSteps := 2000000) only [m5_1, m5_2, m5_3, m5_4, m5_5, m5_6, m5_7, m5_8, m5_9, m5_10, m5_11, m5_12, m5_13, m5_14, m5_15, m5_16, m5_17, m5_18, m5_19, m5_20, m5_21, m5_22, m5_23, m5_24, m5_25, m5_r, m5_b, m5, clC, h1, h2, wk, act, asV, ↓reduceIte, Nat.reduceEqDiff, reduceCtorEq, Nat.reduceAdd, Nat.reduceLeDiff, Nat.reduceSub, Nat.reduceMul, List.reduceReplicate, Int.reduceEq, Int.reduceLT, Int.reduceLE, Int.reduceAdd, Int.reduceSub, Int.reduceMul, Nat.reduceLT, Int.reduceToNat] | ((first | ((with_reducible refine CallL.gate ?_); apply CallL.of) | ((with_reducible refine CallpL.gate ?_); apply CallpL.of) | ((with_reducible refine CallP.gate ?_); apply CallP.of) | ((with_reducible refine CallpP.gate ?_); apply CallpP.of)); (case h1 => (simp -implicitDefEqProofs (maxSteps := 2000000) only [m5_1, m5_2, m5_3, m5_4, m5_5, m5_6, m5_7, m5_8, m5_9, m5_10, m5_11, m5_12, m5_13, m5_14, m5_15, m5_16, m5_17, m5_18, m5_19, m5_20, m5_21, m5_22, m5_23, m5_24, m5_25, m5_r, m5_b, m5, clC, h1, h2, wk, act, asV, ↓reduceIte, Nat.reduceEqDiff, reduceCtorEq, Nat.reduceAdd, Nat.reduceLeDiff, Nat.reduceSub, Nat.reduceMul, List.reduceReplicate, Int.reduceEq, Int.reduceLT, Int.reduceLE, Int.reduceAdd, Int.reduceSub, Int.reduceMul, Nat.reduceLT, Int.reduceToNat]; first | done | (with_reducible rfl))); (case h2 => (first | exact cw)); (case h3 => simp -implicitDefEqProofs (maxSteps := 2000000) only [m5_1, m5_2, m5_3, m5_4, m5_5, m5_6, m5_7, m5_8, m5_9, m5_10, m5_11, m5_12, m5_13, m5_14, m5_15, m5_16, m5_17, m5_18, m5_19, m5_20, m5_21, m5_22, m5_23, m5_24, m5_25, m5_r, m5_b, m5, clC, h1, h2, wk, act, asV, ↓reduceIte, Nat.reduceEqDiff, reduceCtorEq, Nat.reduceAdd, Nat.reduceLeDiff, Nat.reduceSub, Nat.reduceMul, List.reduceReplicate, Int.reduceEq, Int.reduceLT, Int.reduceLE, Int.reduceAdd, Int.reduceSub, Int.reduceMul, Nat.reduceLT, Int.reduceToNat])))
  have hk39 : k.length ≤ 2 ^ 39 := by omega
  have c1 := mint_ok .plain (by decide) k hk39 c hc0
  have lA : (tkC (mintT k c)).length = 37 := tk_len (mintT_ok hc0).tag
  have tA := tk_take (mintT_ok (k := k) hc0).tag
  have xA := tk_drop (mintT_ok (k := k) hc0).tag
  have sA := tk_scal (mintT k c)
  by_cases hc : okC c = true
  · have e2 : tokE c = 0 := if_pos hc
    rw [e2] at c1
    have hM : tkC (mintT k c) = clC c ++ bl (macB k (claimB c)) := by rw [show mintT k c = { c with tag := macB k (claimB c) } from if_pos hc]; rfl
    obtain ⟨b1, b2, b3, b4⟩ := okC_bounds hc
    have n0l : n0.toNat < 256 := n0.toNat_lt
    have n1l : n1.toNat < 256 := n1.toNat_lt
    have ar := andI_self b3 b4
    have x1 : IntKind.i64.wrap ((n0.toNat : Nat) : Int) = ((n0.toNat : Nat) : Int) := by rw [IntKind.wrap_i64]; omega
    have x2 : Int.tmod ((n0.toNat : Nat) : Int) 3 = ((n0.toNat % 3 : Nat) : Int) := by rw [show (3 : Int) = ((3 : Nat) : Int) from rfl, ← Int.ofNat_tmod]
    have x3 : IntKind.i64.wrap (1 + ((n0.toNat % 3 : Nat) : Int)) = ((1 + n0.toNat % 3 : Nat) : Int) := by rw [IntKind.wrap_i64]; omega
    have x4 : IntKind.i64.wrap (c.place + ((1 + n0.toNat % 3 : Nat) : Int)) = c.place + ((1 + n0.toNat % 3 : Nat) : Int) := by rw [IntKind.wrap_i64]; omega
    have y1 : IntKind.u32.wrap ((n1.toNat : Nat) : Int) = ((n1.toNat : Nat) : Int) := by rw [IntKind.wrap_u32]; omega
    have y2 : IntKind.u32.wrap (1 + ((n1.toNat : Nat) : Int)) = ((1 + n1.toNat : Nat) : Int) := by rw [IntKind.wrap_u32]; omega
    obtain ⟨g', hg'⟩ : ∃ g : Nat, g = (c.gen + (1 + n1.toNat)) % 2 ^ 32 := ⟨_, rfl⟩
    have hgl := hc0.gen
    have gne : ¬ c.gen = g' := by omega
    have y3 : IntKind.u32.wrap (((c.gen : Nat) : Int) + ((1 + n1.toNat : Nat) : Int)) = ((g' : Nat) : Int) := by rw [IntKind.wrap_u32]; omega
    obtain ⟨q, hq⟩ : ∃ q : Nat, q = 1 + n0.toNat % 3 := ⟨_, rfl⟩
    rw [← hq] at x3 x4
    have r0 := fun nm => checkE_mint (k := k) hc c.place c.gen c.til nm c.rights
    have r1 := fun nm => checkE_mint (k := k) hc (c.place + (q : Nat)) c.gen c.til nm c.rights
    have r2 := fun nm => checkE_mint (k := k) hc c.place g' c.til nm c.rights
    simp only [if_true, Nat.lt_irrefl, if_false, ar, not_true_eq_false, or_false] at r0
    have pne : ¬ c.place = c.place + ((q : Nat) : Int) := by omega
    simp only [pne, if_false] at r1
    simp only [if_true, gne, if_false] at r2
    have dM := macB_length k (claimB c)
    obtain ⟨m0, hm0⟩ : ∃ m : UInt8, m = (macB k (claimB c)).getD 0 0 := ⟨_, rfl⟩
    obtain ⟨c2, hc2⟩ : ∃ t : Tok, t = { c with tag := (macB k (claimB c)).set 0 (m0 + 1) } := ⟨_, rfl⟩
    have hc2o : c2.Ok := by subst hc2; obtain ⟨a, b, d, _⟩ := hc0; exact ⟨a, b, d, by rw [List.length_set, dM]⟩
    have r3 : checkE k c.place g' c.til c2 [111, 116, 104, 101, 114] 7 = 12 := by
      unfold checkE
      refine if_neg fun h => ?_
      have h3 := h.2.2
      subst hc2
      have h4 : macB k (claimB c) = (macB k (claimB c)).set 0 (m0 + 1) := h3
      have h5 := congrArg (fun l : List UInt8 => l.getD 0 0) h4
      simp only [← hm0] at h5
      have : 0 < (macB k (claimB c)).length := by omega
      simp [this] at h5
    have cA2 : tkC c2 = clC c ++ bl ((macB k (claimB c)).set 0 (m0 + 1)) := by subst hc2; rfl
    have lM : (bl (macB k (claimB c))).length = 32 := by rw [bl_length, dM]
    have atM : List.take 1 (List.drop 5 (tkC (mintT k c))) = [.int .u8 (m0.toNat : Int)] := by
      rw [hM, hm0]; exact at_b (b := macB k (claimB c)) (k := 0) (by omega)
    have wu : IntKind.u8.wrap ((m0.toNat : Int) + 1) = ((m0 + 1 : UInt8).toNat : Int) := by
      rw [IntKind.wrap_u8, UInt8.toNat_add]
      have := m0.toNat_lt
      rw [show (1 : UInt8).toNat = 1 from rfl]
      omega
    have stM : List.take 5 (tkC (mintT k c)) ++ [IV.int .u8 ((m0 + 1 : UInt8).toNat : Int)] ++ List.drop 6 (tkC (mintT k c)) = tkC c2 := by
      rw [hM, cA2, ← bl_set (by omega)]
      rfl
    obtain ⟨nm, hnm⟩ : ∃ nm, nm = if c.name = [] then [120] else c.name := ⟨_, rfl⟩
    have r0' : checkE k c.place c.gen c.til (mintT k c) nm c.rights = 0 := by
      rw [r0, if_neg]
      rintro ⟨u1, u2⟩
      rw [if_neg u1] at hnm
      exact u2 hnm.symm
    have c3 := check_ok .plain (by decide) k hk39 c.place c.gen c.til (mintT k c) (mintT_ok hc0) nm c.rights
    have c4 := check_ok .plain (by decide) k hk39 (c.place + (q : Nat)) c.gen c.til (mintT k c) (mintT_ok hc0) nm c.rights
    have c5 := check_ok .plain (by decide) k hk39 c.place g' c.til (mintT k c) (mintT_ok hc0) nm c.rights
    have c6 := check_ok .plain (by decide) k hk39 c.place g' c.til c2 hc2o [111, 116, 104, 101, 114] 7
    rw [r0'] at c3
    rw [r1] at c4
    rw [r2] at c5
    rw [r3] at c6
    have lB : (tkC c2).length = 37 := tk_len hc2o.tag
    have tB := tk_take hc2o.tag
    have xB := tk_drop hc2o.tag
    have sB := tk_scal c2
    obtain ⟨A, hA⟩ : ∃ A, A = tkC (mintT k c) := ⟨_, rfl⟩
    obtain ⟨B, hB⟩ : ∃ A, A = tkC c2 := ⟨_, rfl⟩
    rw [← hA] at c1 c3 c4 c5 lA tA xA sA atM stM
    rw [← hB] at c6 lB tB xB sB stM
    simp only [wardC] at c3 c4 c5 c6
    repeat' (first | simp -implicitDefEqProofs (maxSteps := 2000000) only [m5_1, m5_2, m5_3, m5_4, m5_5, m5_6, m5_7, m5_8, m5_9, m5_10, m5_11, m5_12, m5_13, m5_14, m5_15, m5_16, m5_17, m5_18, m5_19, m5_20, m5_21, m5_22, m5_23, m5_24, m5_25, m5_r, m5_b, m5, clC, h1, h2, lA, tA, xA, sA, wk, act, asV, ↓reduceIte, Nat.reduceEqDiff, reduceCtorEq, Nat.reduceAdd, Nat.reduceLeDiff, Nat.reduceSub, Nat.reduceMul, List.reduceReplicate, Int.reduceEq, Int.reduceLT, Int.reduceLE, Int.reduceAdd, Int.reduceSub, Int.reduceMul, Nat.reduceLT, Int.reduceToNat] | ((first | ((with_reducible refine CallL.gate ?_); apply CallL.of) | ((with_reducible refine CallpL.gate ?_); apply CallpL.of) | ((with_reducible refine CallP.gate ?_); apply CallP.of) | ((with_reducible refine CallpP.gate ?_); apply CallpP.of)); (case h1 => (simp -implicitDefEqProofs (maxSteps := 2000000) only [m5_1, m5_2, m5_3, m5_4, m5_5, m5_6, m5_7, m5_8, m5_9, m5_10, m5_11, m5_12, m5_13, m5_14, m5_15, m5_16, m5_17, m5_18, m5_19, m5_20, m5_21, m5_22, m5_23, m5_24, m5_25, m5_r, m5_b, m5, clC, h1, h2, lA, tA, xA, sA, wk, act, asV, ↓reduceIte, Nat.reduceEqDiff, reduceCtorEq, Nat.reduceAdd, Nat.reduceLeDiff, Nat.reduceSub, Nat.reduceMul, List.reduceReplicate, Int.reduceEq, Int.reduceLT, Int.reduceLE, Int.reduceAdd, Int.reduceSub, Int.reduceMul, Nat.reduceLT, Int.reduceToNat]; first | done | (with_reducible rfl))); (case h2 => (first | exact c1)); (case h3 => simp -implicitDefEqProofs (maxSteps := 2000000) only [m5_1, m5_2, m5_3, m5_4, m5_5, m5_6, m5_7, m5_8, m5_9, m5_10, m5_11, m5_12, m5_13, m5_14, m5_15, m5_16, m5_17, m5_18, m5_19, m5_20, m5_21, m5_22, m5_23, m5_24, m5_25, m5_r, m5_b, m5, clC, h1, h2, lA, tA, xA, sA, wk, act, asV, ↓reduceIte, Nat.reduceEqDiff, reduceCtorEq, Nat.reduceAdd, Nat.reduceLeDiff, Nat.reduceSub, Nat.reduceMul, List.reduceReplicate, Int.reduceEq, Int.reduceLT, Int.reduceLE, Int.reduceAdd, Int.reduceSub, Int.reduceMul, Nat.reduceLT, Int.reduceToNat])))
    obtain ⟨Inv, hInv⟩ : ∃ Inv : (Nat → Bool) → St → Prop, Inv = fun (L : Nat → Bool) (s : St) => ∃ v3 v4 v5 v7, s.t 3 = .ptr 3 0 v3 ∧ s.h 3 = ⟨v3, true, true, false, [.sl .plain k.length (bl k), .int .i64 (cond (L 7) c.place place), .int .u32 ((cond (L 9) c.gen gen : Nat) : Int), .int .u32 ((cond (L 11) c.til tick : Nat) : Int)]⟩ ∧ s.t 4 = .ptr 4 0 v4 ∧ s.h 4 = ⟨v4, true, true, false, clC c⟩ ∧ s.t 5 = .ptr 5 0 v5 ∧ s.h 5 = ⟨v5, true, true, false, [.int .u8 (n0.toNat : Int), .int .u8 (n1.toNat : Int)]⟩ ∧ s.t 7 = .ptr 7 0 v7 ∧ s.h 7 = ⟨v7, true, true, false, A⟩ ∧ (L 0 = true → s.t 33 = .ptr 4 0 v4) ∧ (L 1 = true → s.t 34 = .int .i64 c.place) ∧ (L 2 = true → s.t 35 = .ptr 4 4 v4) ∧ (L 3 = true → s.t 36 = .int .u32 (c.gen : Nat)) ∧ (L 4 = true → s.t 37 = .ptr 4 3 v4) ∧ (L 5 = true → s.t 38 = .int .u32 (c.til : Nat)) ∧ (L 6 = true → s.t 39 = .ptr 3 1 v3) ∧ (L 8 = true → s.t 40 = .ptr 3 2 v3) ∧ (L 10 = true → s.t 41 = .ptr 3 3 v3) := ⟨_, rfl⟩
    refine Wp_drxI Inv ?_ ?_ ?_
    · rw [hInv]
      exact ⟨_, _, _, _, by simp -implicitDefEqProofs (maxSteps := 2000000) only [wk, act, asV, ↓reduceIte, Nat.reduceEqDiff, reduceCtorEq, Nat.reduceAdd, Nat.reduceLeDiff, Nat.reduceSub, Nat.reduceMul, List.reduceReplicate, Int.reduceEq, Int.reduceLT, Int.reduceLE, Int.reduceAdd, Int.reduceSub, Int.reduceMul, Nat.reduceLT, Int.reduceToNat]; first | done | rfl, by simp -implicitDefEqProofs (maxSteps := 2000000) only [wk, act, asV, ↓reduceIte, Nat.reduceEqDiff, reduceCtorEq, Nat.reduceAdd, Nat.reduceLeDiff, Nat.reduceSub, Nat.reduceMul, List.reduceReplicate, Int.reduceEq, Int.reduceLT, Int.reduceLE, Int.reduceAdd, Int.reduceSub, Int.reduceMul, Nat.reduceLT, Int.reduceToNat]; first | done | rfl, by simp -implicitDefEqProofs (maxSteps := 2000000) only [wk, act, asV, ↓reduceIte, Nat.reduceEqDiff, reduceCtorEq, Nat.reduceAdd, Nat.reduceLeDiff, Nat.reduceSub, Nat.reduceMul, List.reduceReplicate, Int.reduceEq, Int.reduceLT, Int.reduceLE, Int.reduceAdd, Int.reduceSub, Int.reduceMul, Nat.reduceLT, Int.reduceToNat]; first | done | rfl, by simp -implicitDefEqProofs (maxSteps := 2000000) only [wk, act, asV, ↓reduceIte, Nat.reduceEqDiff, reduceCtorEq, Nat.reduceAdd, Nat.reduceLeDiff, Nat.reduceSub, Nat.reduceMul, List.reduceReplicate, Int.reduceEq, Int.reduceLT, Int.reduceLE, Int.reduceAdd, Int.reduceSub, Int.reduceMul, Nat.reduceLT, Int.reduceToNat]; first | done | rfl, by simp -implicitDefEqProofs (maxSteps := 2000000) only [wk, act, asV, ↓reduceIte, Nat.reduceEqDiff, reduceCtorEq, Nat.reduceAdd, Nat.reduceLeDiff, Nat.reduceSub, Nat.reduceMul, List.reduceReplicate, Int.reduceEq, Int.reduceLT, Int.reduceLE, Int.reduceAdd, Int.reduceSub, Int.reduceMul, Nat.reduceLT, Int.reduceToNat]; first | done | rfl, by simp -implicitDefEqProofs (maxSteps := 2000000) only [wk, act, asV, ↓reduceIte, Nat.reduceEqDiff, reduceCtorEq, Nat.reduceAdd, Nat.reduceLeDiff, Nat.reduceSub, Nat.reduceMul, List.reduceReplicate, Int.reduceEq, Int.reduceLT, Int.reduceLE, Int.reduceAdd, Int.reduceSub, Int.reduceMul, Nat.reduceLT, Int.reduceToNat]; first | done | rfl, by simp -implicitDefEqProofs (maxSteps := 2000000) only [wk, act, asV, ↓reduceIte, Nat.reduceEqDiff, reduceCtorEq, Nat.reduceAdd, Nat.reduceLeDiff, Nat.reduceSub, Nat.reduceMul, List.reduceReplicate, Int.reduceEq, Int.reduceLT, Int.reduceLE, Int.reduceAdd, Int.reduceSub, Int.reduceMul, Nat.reduceLT, Int.reduceToNat]; first | done | rfl, by simp -implicitDefEqProofs (maxSteps := 2000000) only [wk, act, asV, ↓reduceIte, Nat.reduceEqDiff, reduceCtorEq, Nat.reduceAdd, Nat.reduceLeDiff, Nat.reduceSub, Nat.reduceMul, List.reduceReplicate, Int.reduceEq, Int.reduceLT, Int.reduceLE, Int.reduceAdd, Int.reduceSub, Int.reduceMul, Nat.reduceLT, Int.reduceToNat]; first | done | rfl, fun h => absurd (h : false = true) (by decide), fun h => absurd (h : false = true) (by decide), fun h => absurd (h : false = true) (by decide), fun h => absurd (h : false = true) (by decide), fun h => absurd (h : false = true) (by decide), fun h => absurd (h : false = true) (by decide), fun h => absurd (h : false = true) (by decide), fun h => absurd (h : false = true) (by decide), fun h => absurd (h : false = true) (by decide)⟩
    · refine stepsX_cons ?_ (stepsX_cons ?_ (stepsX_cons ?_ (stepsX_cons ?_ (stepsX_cons ?_ (stepsX_cons ?_ (stepsX_cons ?_ (stepsX_cons ?_ (stepsX_cons ?_ (stepsX_cons ?_ (stepsX_cons ?_ (stepsX_cons ?_ (stepsX_nil))))))))))))
      · intro L s hL hp hI
        rw [hInv] at hI
        obtain ⟨v3, v4, v5, v7, k3, kh3, k4, kh4, k5, kh5, k7, kh7, f0, f1, f2, f3, f4, f5, f6, f8, f10⟩ := hI
        simp -implicitDefEqProofs (maxSteps := 2000000) only [k3, kh3, k4, kh4, wk, act, asV, ↓reduceIte, Nat.reduceEqDiff, reduceCtorEq, Nat.reduceAdd, Nat.reduceLeDiff, Nat.reduceSub, Nat.reduceMul, List.reduceReplicate, Int.reduceEq, Int.reduceLT, Int.reduceLE, Int.reduceAdd, Int.reduceSub, Int.reduceMul, Nat.reduceLT, Int.reduceToNat]
        rw [hInv]
        exact ⟨v3, v4, v5, v7, k3, kh3, k4, kh4, k5, kh5, k7, kh7, fun _ => rfl, f1, f2, f3, f4, f5, f6, f8, f10⟩
      · intro L s hL hp hI
        rw [hInv] at hI
        obtain ⟨v3, v4, v5, v7, k3, kh3, k4, kh4, k5, kh5, k7, kh7, f0, f1, f2, f3, f4, f5, f6, f8, f10⟩ := hI
        have p0 := f0 (hp 0 (by simp))
        simp -implicitDefEqProofs (maxSteps := 2000000) only [k3, kh3, k4, kh4, p0, clC, wk, act, asV, ↓reduceIte, Nat.reduceEqDiff, reduceCtorEq, Nat.reduceAdd, Nat.reduceLeDiff, Nat.reduceSub, Nat.reduceMul, List.reduceReplicate, Int.reduceEq, Int.reduceLT, Int.reduceLE, Int.reduceAdd, Int.reduceSub, Int.reduceMul, Nat.reduceLT, Int.reduceToNat]
        rw [hInv]
        exact ⟨v3, v4, v5, v7, k3, kh3, k4, kh4, k5, kh5, k7, kh7, f0, fun _ => rfl, f2, f3, f4, f5, f6, f8, f10⟩
      · intro L s hL hp hI
        rw [hInv] at hI
        obtain ⟨v3, v4, v5, v7, k3, kh3, k4, kh4, k5, kh5, k7, kh7, f0, f1, f2, f3, f4, f5, f6, f8, f10⟩ := hI
        simp -implicitDefEqProofs (maxSteps := 2000000) only [k3, kh3, k4, kh4, wk, act, asV, ↓reduceIte, Nat.reduceEqDiff, reduceCtorEq, Nat.reduceAdd, Nat.reduceLeDiff, Nat.reduceSub, Nat.reduceMul, List.reduceReplicate, Int.reduceEq, Int.reduceLT, Int.reduceLE, Int.reduceAdd, Int.reduceSub, Int.reduceMul, Nat.reduceLT, Int.reduceToNat]
        rw [hInv]
        exact ⟨v3, v4, v5, v7, k3, kh3, k4, kh4, k5, kh5, k7, kh7, f0, f1, fun _ => rfl, f3, f4, f5, f6, f8, f10⟩
      · intro L s hL hp hI
        rw [hInv] at hI
        obtain ⟨v3, v4, v5, v7, k3, kh3, k4, kh4, k5, kh5, k7, kh7, f0, f1, f2, f3, f4, f5, f6, f8, f10⟩ := hI
        have p2 := f2 (hp 2 (by simp))
        simp -implicitDefEqProofs (maxSteps := 2000000) only [k3, kh3, k4, kh4, p2, clC, wk, act, asV, ↓reduceIte, Nat.reduceEqDiff, reduceCtorEq, Nat.reduceAdd, Nat.reduceLeDiff, Nat.reduceSub, Nat.reduceMul, List.reduceReplicate, Int.reduceEq, Int.reduceLT, Int.reduceLE, Int.reduceAdd, Int.reduceSub, Int.reduceMul, Nat.reduceLT, Int.reduceToNat]
        rw [hInv]
        exact ⟨v3, v4, v5, v7, k3, kh3, k4, kh4, k5, kh5, k7, kh7, f0, f1, f2, fun _ => rfl, f4, f5, f6, f8, f10⟩
      · intro L s hL hp hI
        rw [hInv] at hI
        obtain ⟨v3, v4, v5, v7, k3, kh3, k4, kh4, k5, kh5, k7, kh7, f0, f1, f2, f3, f4, f5, f6, f8, f10⟩ := hI
        simp -implicitDefEqProofs (maxSteps := 2000000) only [k3, kh3, k4, kh4, wk, act, asV, ↓reduceIte, Nat.reduceEqDiff, reduceCtorEq, Nat.reduceAdd, Nat.reduceLeDiff, Nat.reduceSub, Nat.reduceMul, List.reduceReplicate, Int.reduceEq, Int.reduceLT, Int.reduceLE, Int.reduceAdd, Int.reduceSub, Int.reduceMul, Nat.reduceLT, Int.reduceToNat]
        rw [hInv]
        exact ⟨v3, v4, v5, v7, k3, kh3, k4, kh4, k5, kh5, k7, kh7, f0, f1, f2, f3, fun _ => rfl, f5, f6, f8, f10⟩
      · intro L s hL hp hI
        rw [hInv] at hI
        obtain ⟨v3, v4, v5, v7, k3, kh3, k4, kh4, k5, kh5, k7, kh7, f0, f1, f2, f3, f4, f5, f6, f8, f10⟩ := hI
        have p4 := f4 (hp 4 (by simp))
        simp -implicitDefEqProofs (maxSteps := 2000000) only [k3, kh3, k4, kh4, p4, clC, wk, act, asV, ↓reduceIte, Nat.reduceEqDiff, reduceCtorEq, Nat.reduceAdd, Nat.reduceLeDiff, Nat.reduceSub, Nat.reduceMul, List.reduceReplicate, Int.reduceEq, Int.reduceLT, Int.reduceLE, Int.reduceAdd, Int.reduceSub, Int.reduceMul, Nat.reduceLT, Int.reduceToNat]
        rw [hInv]
        exact ⟨v3, v4, v5, v7, k3, kh3, k4, kh4, k5, kh5, k7, kh7, f0, f1, f2, f3, f4, fun _ => rfl, f6, f8, f10⟩
      · intro L s hL hp hI
        rw [hInv] at hI
        obtain ⟨v3, v4, v5, v7, k3, kh3, k4, kh4, k5, kh5, k7, kh7, f0, f1, f2, f3, f4, f5, f6, f8, f10⟩ := hI
        simp -implicitDefEqProofs (maxSteps := 2000000) only [k3, kh3, k4, kh4, wk, act, asV, ↓reduceIte, Nat.reduceEqDiff, reduceCtorEq, Nat.reduceAdd, Nat.reduceLeDiff, Nat.reduceSub, Nat.reduceMul, List.reduceReplicate, Int.reduceEq, Int.reduceLT, Int.reduceLE, Int.reduceAdd, Int.reduceSub, Int.reduceMul, Nat.reduceLT, Int.reduceToNat]
        rw [hInv]
        exact ⟨v3, v4, v5, v7, k3, kh3, k4, kh4, k5, kh5, k7, kh7, f0, f1, f2, f3, f4, f5, fun _ => rfl, f8, f10⟩
      · intro L s hL hp hI
        rw [hInv] at hI
        obtain ⟨v3, v4, v5, v7, k3, kh3, k4, kh4, k5, kh5, k7, kh7, f0, f1, f2, f3, f4, f5, f6, f8, f10⟩ := hI
        have p6 := f6 (hp 6 (by simp))
        have p1 := f1 (hp 1 (by simp))
        simp -implicitDefEqProofs (maxSteps := 2000000) only [k3, kh3, k4, kh4, p6, p1, wk, act, asV, ↓reduceIte, Nat.reduceEqDiff, reduceCtorEq, Nat.reduceAdd, Nat.reduceLeDiff, Nat.reduceSub, Nat.reduceMul, List.reduceReplicate, Int.reduceEq, Int.reduceLT, Int.reduceLE, Int.reduceAdd, Int.reduceSub, Int.reduceMul, Nat.reduceLT, Int.reduceToNat]
        rw [hInv]
        exact ⟨v3, v4, v5, v7, k3, rfl, k4, kh4, k5, kh5, k7, kh7, f0, f1, f2, f3, f4, f5, f6, f8, f10⟩
      · intro L s hL hp hI
        rw [hInv] at hI
        obtain ⟨v3, v4, v5, v7, k3, kh3, k4, kh4, k5, kh5, k7, kh7, f0, f1, f2, f3, f4, f5, f6, f8, f10⟩ := hI
        simp -implicitDefEqProofs (maxSteps := 2000000) only [k3, kh3, k4, kh4, wk, act, asV, ↓reduceIte, Nat.reduceEqDiff, reduceCtorEq, Nat.reduceAdd, Nat.reduceLeDiff, Nat.reduceSub, Nat.reduceMul, List.reduceReplicate, Int.reduceEq, Int.reduceLT, Int.reduceLE, Int.reduceAdd, Int.reduceSub, Int.reduceMul, Nat.reduceLT, Int.reduceToNat]
        rw [hInv]
        exact ⟨v3, v4, v5, v7, k3, kh3, k4, kh4, k5, kh5, k7, kh7, f0, f1, f2, f3, f4, f5, f6, fun _ => rfl, f10⟩
      · intro L s hL hp hI
        rw [hInv] at hI
        obtain ⟨v3, v4, v5, v7, k3, kh3, k4, kh4, k5, kh5, k7, kh7, f0, f1, f2, f3, f4, f5, f6, f8, f10⟩ := hI
        have p8 := f8 (hp 8 (by simp))
        have p3 := f3 (hp 3 (by simp))
        simp -implicitDefEqProofs (maxSteps := 2000000) only [k3, kh3, k4, kh4, p8, p3, wk, act, asV, ↓reduceIte, Nat.reduceEqDiff, reduceCtorEq, Nat.reduceAdd, Nat.reduceLeDiff, Nat.reduceSub, Nat.reduceMul, List.reduceReplicate, Int.reduceEq, Int.reduceLT, Int.reduceLE, Int.reduceAdd, Int.reduceSub, Int.reduceMul, Nat.reduceLT, Int.reduceToNat]
        rw [hInv]
        exact ⟨v3, v4, v5, v7, k3, rfl, k4, kh4, k5, kh5, k7, kh7, f0, f1, f2, f3, f4, f5, f6, f8, f10⟩
      · intro L s hL hp hI
        rw [hInv] at hI
        obtain ⟨v3, v4, v5, v7, k3, kh3, k4, kh4, k5, kh5, k7, kh7, f0, f1, f2, f3, f4, f5, f6, f8, f10⟩ := hI
        simp -implicitDefEqProofs (maxSteps := 2000000) only [k3, kh3, k4, kh4, wk, act, asV, ↓reduceIte, Nat.reduceEqDiff, reduceCtorEq, Nat.reduceAdd, Nat.reduceLeDiff, Nat.reduceSub, Nat.reduceMul, List.reduceReplicate, Int.reduceEq, Int.reduceLT, Int.reduceLE, Int.reduceAdd, Int.reduceSub, Int.reduceMul, Nat.reduceLT, Int.reduceToNat]
        rw [hInv]
        exact ⟨v3, v4, v5, v7, k3, kh3, k4, kh4, k5, kh5, k7, kh7, f0, f1, f2, f3, f4, f5, f6, f8, fun _ => rfl⟩
      · intro L s hL hp hI
        rw [hInv] at hI
        obtain ⟨v3, v4, v5, v7, k3, kh3, k4, kh4, k5, kh5, k7, kh7, f0, f1, f2, f3, f4, f5, f6, f8, f10⟩ := hI
        have p10 := f10 (hp 10 (by simp))
        have p5 := f5 (hp 5 (by simp))
        simp -implicitDefEqProofs (maxSteps := 2000000) only [k3, kh3, k4, kh4, p10, p5, wk, act, asV, ↓reduceIte, Nat.reduceEqDiff, reduceCtorEq, Nat.reduceAdd, Nat.reduceLeDiff, Nat.reduceSub, Nat.reduceMul, List.reduceReplicate, Int.reduceEq, Int.reduceLT, Int.reduceLE, Int.reduceAdd, Int.reduceSub, Int.reduceMul, Nat.reduceLT, Int.reduceToNat]
        rw [hInv]
        exact ⟨v3, v4, v5, v7, k3, rfl, k4, kh4, k5, kh5, k7, kh7, f0, f1, f2, f3, f4, f5, f6, f8, f10⟩
    · intro s hI
      rw [hInv] at hI
      obtain ⟨v3, v4, v5, v7, k3, kh3, k4, kh4, k5, kh5, k7, kh7, f0, f1, f2, f3, f4, f5, f6, f8, f10⟩ := hI
      obtain ⟨W, hW⟩ : ∃ W : List IV, W = [.sl .plain k.length (bl k), .int .i64 c.place, .int .u32 (c.gen : Nat), .int .u32 (c.til : Nat)] := ⟨_, rfl⟩
      have kh3 : s.h 3 = ⟨v3, true, true, false, W⟩ := by rw [hW]; exact kh3
      rw [← hW] at c3
      have lW : W.length = 4 := by rw [hW]; rfl
      have tW : List.take 4 W = W := List.take_of_length_le (by omega)
      have xW : List.drop 4 W = [] := List.drop_of_length_le (by omega)
      have nW : ∀ s : St, s.snap (.agg W) = some (.agg W) := fun s => by rw [hW]; rfl
      by_cases hn : c.name = []
      · obtain rfl : nm = [120] := by rw [hnm, if_pos hn]
        have nn1 := eq_true hn
        repeat' (first | simp -implicitDefEqProofs (maxSteps := 2000000) only [k3, kh3, k4, kh4, k5, kh5, k7, kh7, clC, nn1, lW, tW, xW, nW, lA, tA, xA, sA, wk, act, asV, ↓reduceIte, Nat.reduceEqDiff, reduceCtorEq, Nat.reduceAdd, Nat.reduceLeDiff, Nat.reduceSub, Nat.reduceMul, List.reduceReplicate, Int.reduceEq, Int.reduceLT, Int.reduceLE, Int.reduceAdd, Int.reduceSub, Int.reduceMul, Nat.reduceLT, Int.reduceToNat] | ((first | ((with_reducible refine CallL.gate ?_); apply CallL.of) | ((with_reducible refine CallpL.gate ?_); apply CallpL.of) | ((with_reducible refine CallP.gate ?_); apply CallP.of) | ((with_reducible refine CallpP.gate ?_); apply CallpP.of)); (case h1 => (simp -implicitDefEqProofs (maxSteps := 2000000) only [k3, kh3, k4, kh4, k5, kh5, k7, kh7, clC, nn1, lW, tW, xW, nW, lA, tA, xA, sA, wk, act, asV, ↓reduceIte, Nat.reduceEqDiff, reduceCtorEq, Nat.reduceAdd, Nat.reduceLeDiff, Nat.reduceSub, Nat.reduceMul, List.reduceReplicate, Int.reduceEq, Int.reduceLT, Int.reduceLE, Int.reduceAdd, Int.reduceSub, Int.reduceMul, Nat.reduceLT, Int.reduceToNat]; first | done | (with_reducible rfl))); (case h2 => (first | exact c3)); (case h3 => simp -implicitDefEqProofs (maxSteps := 2000000) only [k3, kh3, k4, kh4, k5, kh5, k7, kh7, clC, nn1, lW, tW, xW, nW, lA, tA, xA, sA, wk, act, asV, ↓reduceIte, Nat.reduceEqDiff, reduceCtorEq, Nat.reduceAdd, Nat.reduceLeDiff, Nat.reduceSub, Nat.reduceMul, List.reduceReplicate, Int.reduceEq, Int.reduceLT, Int.reduceLE, Int.reduceAdd, Int.reduceSub, Int.reduceMul, Nat.reduceLT, Int.reduceToNat])))
        obtain ⟨Inv, hInv⟩ : ∃ Inv : (Nat → Bool) → St → Prop, Inv = fun (L : Nat → Bool) (s : St) => ∃ v3 v4 v5 v7, s.t 3 = .ptr 3 0 v3 ∧ s.h 3 = ⟨v3, true, true, false, W⟩ ∧ s.t 4 = .ptr 4 0 v4 ∧ s.h 4 = ⟨v4, true, true, false, clC c⟩ ∧ s.t 5 = .ptr 5 0 v5 ∧ s.h 5 = ⟨v5, true, true, false, [.int .u8 (n0.toNat : Int), .int .u8 (n1.toNat : Int)]⟩ ∧ s.t 7 = .ptr 7 0 v7 ∧ s.h 7 = ⟨v7, true, true, false, A⟩ ∧ s.t 9 = .str [120] ∧ (L 0 = true → s.t 54 = .agg W) ∧ (L 1 = true → s.t 55 = .agg W) ∧ (L 2 = true → ∃ v c, s.t 10 = .ptr 10 0 v ∧ s.h 10 = ⟨v, true, true, false, c⟩ ∧ c.length = 4 ∧ (L 4 = true → c = W)) ∧ (L 3 = true → ∃ v c, s.t 11 = .ptr 11 0 v ∧ s.h 11 = ⟨v, true, true, false, c⟩ ∧ c.length = 4 ∧ (L 5 = true → c = W)) ∧ (L 4 = true → L 2 = true) ∧ (L 5 = true → L 3 = true) := ⟨_, rfl⟩
        refine Wp_drxI Inv ?_ ?_ ?_
        · rw [hInv]
          exact ⟨_, _, _, _, by simp -implicitDefEqProofs (maxSteps := 2000000) only [k3, kh3, k4, kh4, k5, kh5, k7, kh7, wk, act, asV, ↓reduceIte, Nat.reduceEqDiff, reduceCtorEq, Nat.reduceAdd, Nat.reduceLeDiff, Nat.reduceSub, Nat.reduceMul, List.reduceReplicate, Int.reduceEq, Int.reduceLT, Int.reduceLE, Int.reduceAdd, Int.reduceSub, Int.reduceMul, Nat.reduceLT, Int.reduceToNat]; first | done | rfl, by simp -implicitDefEqProofs (maxSteps := 2000000) only [k3, kh3, k4, kh4, k5, kh5, k7, kh7, wk, act, asV, ↓reduceIte, Nat.reduceEqDiff, reduceCtorEq, Nat.reduceAdd, Nat.reduceLeDiff, Nat.reduceSub, Nat.reduceMul, List.reduceReplicate, Int.reduceEq, Int.reduceLT, Int.reduceLE, Int.reduceAdd, Int.reduceSub, Int.reduceMul, Nat.reduceLT, Int.reduceToNat]; first | done | rfl, by simp -implicitDefEqProofs (maxSteps := 2000000) only [k3, kh3, k4, kh4, k5, kh5, k7, kh7, wk, act, asV, ↓reduceIte, Nat.reduceEqDiff, reduceCtorEq, Nat.reduceAdd, Nat.reduceLeDiff, Nat.reduceSub, Nat.reduceMul, List.reduceReplicate, Int.reduceEq, Int.reduceLT, Int.reduceLE, Int.reduceAdd, Int.reduceSub, Int.reduceMul, Nat.reduceLT, Int.reduceToNat]; first | done | rfl, by simp -implicitDefEqProofs (maxSteps := 2000000) only [k3, kh3, k4, kh4, k5, kh5, k7, kh7, wk, act, asV, ↓reduceIte, Nat.reduceEqDiff, reduceCtorEq, Nat.reduceAdd, Nat.reduceLeDiff, Nat.reduceSub, Nat.reduceMul, List.reduceReplicate, Int.reduceEq, Int.reduceLT, Int.reduceLE, Int.reduceAdd, Int.reduceSub, Int.reduceMul, Nat.reduceLT, Int.reduceToNat]; first | done | rfl, by simp -implicitDefEqProofs (maxSteps := 2000000) only [k3, kh3, k4, kh4, k5, kh5, k7, kh7, wk, act, asV, ↓reduceIte, Nat.reduceEqDiff, reduceCtorEq, Nat.reduceAdd, Nat.reduceLeDiff, Nat.reduceSub, Nat.reduceMul, List.reduceReplicate, Int.reduceEq, Int.reduceLT, Int.reduceLE, Int.reduceAdd, Int.reduceSub, Int.reduceMul, Nat.reduceLT, Int.reduceToNat]; first | done | rfl, by simp -implicitDefEqProofs (maxSteps := 2000000) only [k3, kh3, k4, kh4, k5, kh5, k7, kh7, wk, act, asV, ↓reduceIte, Nat.reduceEqDiff, reduceCtorEq, Nat.reduceAdd, Nat.reduceLeDiff, Nat.reduceSub, Nat.reduceMul, List.reduceReplicate, Int.reduceEq, Int.reduceLT, Int.reduceLE, Int.reduceAdd, Int.reduceSub, Int.reduceMul, Nat.reduceLT, Int.reduceToNat]; first | done | rfl, by simp -implicitDefEqProofs (maxSteps := 2000000) only [k3, kh3, k4, kh4, k5, kh5, k7, kh7, wk, act, asV, ↓reduceIte, Nat.reduceEqDiff, reduceCtorEq, Nat.reduceAdd, Nat.reduceLeDiff, Nat.reduceSub, Nat.reduceMul, List.reduceReplicate, Int.reduceEq, Int.reduceLT, Int.reduceLE, Int.reduceAdd, Int.reduceSub, Int.reduceMul, Nat.reduceLT, Int.reduceToNat]; first | done | rfl, by simp -implicitDefEqProofs (maxSteps := 2000000) only [k3, kh3, k4, kh4, k5, kh5, k7, kh7, wk, act, asV, ↓reduceIte, Nat.reduceEqDiff, reduceCtorEq, Nat.reduceAdd, Nat.reduceLeDiff, Nat.reduceSub, Nat.reduceMul, List.reduceReplicate, Int.reduceEq, Int.reduceLT, Int.reduceLE, Int.reduceAdd, Int.reduceSub, Int.reduceMul, Nat.reduceLT, Int.reduceToNat]; first | done | rfl, by simp -implicitDefEqProofs (maxSteps := 2000000) only [k3, kh3, k4, kh4, k5, kh5, k7, kh7, wk, act, asV, ↓reduceIte, Nat.reduceEqDiff, reduceCtorEq, Nat.reduceAdd, Nat.reduceLeDiff, Nat.reduceSub, Nat.reduceMul, List.reduceReplicate, Int.reduceEq, Int.reduceLT, Int.reduceLE, Int.reduceAdd, Int.reduceSub, Int.reduceMul, Nat.reduceLT, Int.reduceToNat]; first | done | rfl, fun h => absurd (h : false = true) (by decide), fun h => absurd (h : false = true) (by decide), fun h => absurd (h : false = true) (by decide), fun h => absurd (h : false = true) (by decide), fun h => absurd (h : false = true) (by decide), fun h => absurd (h : false = true) (by decide)⟩
        · refine stepsX_cons ?_ (stepsX_cons ?_ (stepsX_cons ?_ (stepsX_cons ?_ (stepsX_cons ?_ (stepsX_cons ?_ (stepsX_nil))))))
          · intro L s hL hp hI
            rw [hInv] at hI
            obtain ⟨v3, v4, v5, v7, k3, kh3, k4, kh4, k5, kh5, k7, kh7, k9, f0, f1, f2, f3, g4, g5⟩ := hI
            simp -implicitDefEqProofs (maxSteps := 2000000) only [k3, kh3, lW, tW, wk, act, asV, ↓reduceIte, Nat.reduceEqDiff, reduceCtorEq, Nat.reduceAdd, Nat.reduceLeDiff, Nat.reduceSub, Nat.reduceMul, List.reduceReplicate, Int.reduceEq, Int.reduceLT, Int.reduceLE, Int.reduceAdd, Int.reduceSub, Int.reduceMul, Nat.reduceLT, Int.reduceToNat]
            rw [hInv]
            exact ⟨v3, v4, v5, v7, k3, kh3, k4, kh4, k5, kh5, k7, kh7, k9, fun _ => rfl, f1, f2, f3, g4, g5⟩
          · intro L s hL hp hI
            rw [hInv] at hI
            obtain ⟨v3, v4, v5, v7, k3, kh3, k4, kh4, k5, kh5, k7, kh7, k9, f0, f1, f2, f3, g4, g5⟩ := hI
            simp -implicitDefEqProofs (maxSteps := 2000000) only [k3, kh3, lW, tW, wk, act, asV, ↓reduceIte, Nat.reduceEqDiff, reduceCtorEq, Nat.reduceAdd, Nat.reduceLeDiff, Nat.reduceSub, Nat.reduceMul, List.reduceReplicate, Int.reduceEq, Int.reduceLT, Int.reduceLE, Int.reduceAdd, Int.reduceSub, Int.reduceMul, Nat.reduceLT, Int.reduceToNat]
            rw [hInv]
            exact ⟨v3, v4, v5, v7, k3, kh3, k4, kh4, k5, kh5, k7, kh7, k9, f0, fun _ => rfl, f2, f3, g4, g5⟩
          · intro L s hL hp hI
            rw [hInv] at hI
            obtain ⟨v3, v4, v5, v7, k3, kh3, k4, kh4, k5, kh5, k7, kh7, k9, f0, f1, f2, f3, g4, g5⟩ := hI
            simp -implicitDefEqProofs (maxSteps := 2000000) only [k3, kh3, wk, act, asV, ↓reduceIte, Nat.reduceEqDiff, reduceCtorEq, Nat.reduceAdd, Nat.reduceLeDiff, Nat.reduceSub, Nat.reduceMul, List.reduceReplicate, Int.reduceEq, Int.reduceLT, Int.reduceLE, Int.reduceAdd, Int.reduceSub, Int.reduceMul, Nat.reduceLT, Int.reduceToNat]
            rw [hInv]
            exact ⟨v3, v4, v5, v7, k3, kh3, k4, kh4, k5, kh5, k7, kh7, k9, f0, f1, fun _ => ⟨_, _, rfl, rfl, rfl, fun h => absurd (g4 h) (by rw [hL]; decide)⟩, f3, fun _ => rfl, g5⟩
          · intro L s hL hp hI
            rw [hInv] at hI
            obtain ⟨v3, v4, v5, v7, k3, kh3, k4, kh4, k5, kh5, k7, kh7, k9, f0, f1, f2, f3, g4, g5⟩ := hI
            simp -implicitDefEqProofs (maxSteps := 2000000) only [k3, kh3, wk, act, asV, ↓reduceIte, Nat.reduceEqDiff, reduceCtorEq, Nat.reduceAdd, Nat.reduceLeDiff, Nat.reduceSub, Nat.reduceMul, List.reduceReplicate, Int.reduceEq, Int.reduceLT, Int.reduceLE, Int.reduceAdd, Int.reduceSub, Int.reduceMul, Nat.reduceLT, Int.reduceToNat]
            rw [hInv]
            exact ⟨v3, v4, v5, v7, k3, kh3, k4, kh4, k5, kh5, k7, kh7, k9, f0, f1, f2, fun _ => ⟨_, _, rfl, rfl, rfl, fun h => absurd (g5 h) (by rw [hL]; decide)⟩, g4, fun _ => rfl⟩
          · intro L s hL hp hI
            rw [hInv] at hI
            obtain ⟨v3, v4, v5, v7, k3, kh3, k4, kh4, k5, kh5, k7, kh7, k9, f0, f1, f2, f3, g4, g5⟩ := hI
            have p0 := f0 (hp 0 (by simp))
            have p := hp 2 (by simp)
            obtain ⟨va, ca, q4, qh4, ql, _⟩ := f2 p
            have xc : List.drop 4 ca = [] := List.drop_of_length_le (by omega)
            simp -implicitDefEqProofs (maxSteps := 2000000) only [k3, kh3, p0, q4, qh4, ql, xc, lW, wk, act, asV, ↓reduceIte, Nat.reduceEqDiff, reduceCtorEq, Nat.reduceAdd, Nat.reduceLeDiff, Nat.reduceSub, Nat.reduceMul, List.reduceReplicate, Int.reduceEq, Int.reduceLT, Int.reduceLE, Int.reduceAdd, Int.reduceSub, Int.reduceMul, Nat.reduceLT, Int.reduceToNat]
            rw [hInv]
            exact ⟨v3, v4, v5, v7, k3, kh3, k4, kh4, k5, kh5, k7, kh7, k9, f0, f1, fun _ => ⟨va, W, q4, rfl, lW, fun _ => rfl⟩, f3, fun _ => p, g5⟩
          · intro L s hL hp hI
            rw [hInv] at hI
            obtain ⟨v3, v4, v5, v7, k3, kh3, k4, kh4, k5, kh5, k7, kh7, k9, f0, f1, f2, f3, g4, g5⟩ := hI
            have p1 := f1 (hp 1 (by simp))
            have p := hp 3 (by simp)
            obtain ⟨va, ca, q4, qh4, ql, _⟩ := f3 p
            have xc : List.drop 4 ca = [] := List.drop_of_length_le (by omega)
            simp -implicitDefEqProofs (maxSteps := 2000000) only [k3, kh3, p1, q4, qh4, ql, xc, lW, wk, act, asV, ↓reduceIte, Nat.reduceEqDiff, reduceCtorEq, Nat.reduceAdd, Nat.reduceLeDiff, Nat.reduceSub, Nat.reduceMul, List.reduceReplicate, Int.reduceEq, Int.reduceLT, Int.reduceLE, Int.reduceAdd, Int.reduceSub, Int.reduceMul, Nat.reduceLT, Int.reduceToNat]
            rw [hInv]
            exact ⟨v3, v4, v5, v7, k3, kh3, k4, kh4, k5, kh5, k7, kh7, k9, f0, f1, f2, fun _ => ⟨va, W, q4, rfl, lW, fun _ => rfl⟩, g4, fun _ => p⟩
        · intro s hI
          rw [hInv] at hI
          obtain ⟨v3, v4, v5, v7, k3, kh3, k4, kh4, k5, kh5, k7, kh7, k9, f0, f1, f2, f3, g4, g5⟩ := hI
          obtain ⟨w2, c2_, q2, qh2, _, e2⟩ := f2 (by decide)
          rw [e2 (by decide)] at qh2
          obtain ⟨w3, c3_, q3, qh3, _, e3⟩ := f3 (by decide)
          rw [e3 (by decide)] at qh3
          rw [hW] at kh3 qh2 qh3
          repeat' (first | simp -implicitDefEqProofs (maxSteps := 2000000) only [k3, kh3, k4, kh4, k5, kh5, k7, kh7, k9, q2, qh2, q3, qh3, clC, x1, x2, x3, x4, y1, y2, y3, atM, wu, stM, lA, tA, xA, sA, lB, tB, xB, sB, wk, act, asV, ↓reduceIte, Nat.reduceEqDiff, reduceCtorEq, Nat.reduceAdd, Nat.reduceLeDiff, Nat.reduceSub, Nat.reduceMul, List.reduceReplicate, Int.reduceEq, Int.reduceLT, Int.reduceLE, Int.reduceAdd, Int.reduceSub, Int.reduceMul, Nat.reduceLT, Int.reduceToNat] | ((first | ((with_reducible refine CallL.gate ?_); apply CallL.of) | ((with_reducible refine CallpL.gate ?_); apply CallpL.of) | ((with_reducible refine CallP.gate ?_); apply CallP.of) | ((with_reducible refine CallpP.gate ?_); apply CallpP.of)); (case h1 => (simp -implicitDefEqProofs (maxSteps := 2000000) only [k3, kh3, k4, kh4, k5, kh5, k7, kh7, k9, q2, qh2, q3, qh3, clC, x1, x2, x3, x4, y1, y2, y3, atM, wu, stM, lA, tA, xA, sA, lB, tB, xB, sB, wk, act, asV, ↓reduceIte, Nat.reduceEqDiff, reduceCtorEq, Nat.reduceAdd, Nat.reduceLeDiff, Nat.reduceSub, Nat.reduceMul, List.reduceReplicate, Int.reduceEq, Int.reduceLT, Int.reduceLE, Int.reduceAdd, Int.reduceSub, Int.reduceMul, Nat.reduceLT, Int.reduceToNat]; first | done | (with_reducible rfl))); (case h2 => (first | exact c4 | exact c5 | exact c6 | exact cw)); (case h3 => simp -implicitDefEqProofs (maxSteps := 2000000) only [k3, kh3, k4, kh4, k5, kh5, k7, kh7, k9, q2, qh2, q3, qh3, clC, x1, x2, x3, x4, y1, y2, y3, atM, wu, stM, lA, tA, xA, sA, lB, tB, xB, sB, wk, act, asV, ↓reduceIte, Nat.reduceEqDiff, reduceCtorEq, Nat.reduceAdd, Nat.reduceLeDiff, Nat.reduceSub, Nat.reduceMul, List.reduceReplicate, Int.reduceEq, Int.reduceLT, Int.reduceLE, Int.reduceAdd, Int.reduceSub, Int.reduceMul, Nat.reduceLT, Int.reduceToNat])))
      · obtain rfl : nm = c.name := by rw [hnm, if_neg hn]
        have nn1 := hn
        repeat' (first | simp -implicitDefEqProofs (maxSteps := 2000000) only [k3, kh3, k4, kh4, k5, kh5, k7, kh7, clC, nn1, lW, tW, xW, nW, lA, tA, xA, sA, wk, act, asV, ↓reduceIte, Nat.reduceEqDiff, reduceCtorEq, Nat.reduceAdd, Nat.reduceLeDiff, Nat.reduceSub, Nat.reduceMul, List.reduceReplicate, Int.reduceEq, Int.reduceLT, Int.reduceLE, Int.reduceAdd, Int.reduceSub, Int.reduceMul, Nat.reduceLT, Int.reduceToNat] | ((first | ((with_reducible refine CallL.gate ?_); apply CallL.of) | ((with_reducible refine CallpL.gate ?_); apply CallpL.of) | ((with_reducible refine CallP.gate ?_); apply CallP.of) | ((with_reducible refine CallpP.gate ?_); apply CallpP.of)); (case h1 => (simp -implicitDefEqProofs (maxSteps := 2000000) only [k3, kh3, k4, kh4, k5, kh5, k7, kh7, clC, nn1, lW, tW, xW, nW, lA, tA, xA, sA, wk, act, asV, ↓reduceIte, Nat.reduceEqDiff, reduceCtorEq, Nat.reduceAdd, Nat.reduceLeDiff, Nat.reduceSub, Nat.reduceMul, List.reduceReplicate, Int.reduceEq, Int.reduceLT, Int.reduceLE, Int.reduceAdd, Int.reduceSub, Int.reduceMul, Nat.reduceLT, Int.reduceToNat]; first | done | (with_reducible rfl))); (case h2 => (first | exact c3)); (case h3 => simp -implicitDefEqProofs (maxSteps := 2000000) only [k3, kh3, k4, kh4, k5, kh5, k7, kh7, clC, nn1, lW, tW, xW, nW, lA, tA, xA, sA, wk, act, asV, ↓reduceIte, Nat.reduceEqDiff, reduceCtorEq, Nat.reduceAdd, Nat.reduceLeDiff, Nat.reduceSub, Nat.reduceMul, List.reduceReplicate, Int.reduceEq, Int.reduceLT, Int.reduceLE, Int.reduceAdd, Int.reduceSub, Int.reduceMul, Nat.reduceLT, Int.reduceToNat])))
        obtain ⟨Inv, hInv⟩ : ∃ Inv : (Nat → Bool) → St → Prop, Inv = fun (L : Nat → Bool) (s : St) => ∃ v3 v4 v5 v7, s.t 3 = .ptr 3 0 v3 ∧ s.h 3 = ⟨v3, true, true, false, W⟩ ∧ s.t 4 = .ptr 4 0 v4 ∧ s.h 4 = ⟨v4, true, true, false, clC c⟩ ∧ s.t 5 = .ptr 5 0 v5 ∧ s.h 5 = ⟨v5, true, true, false, [.int .u8 (n0.toNat : Int), .int .u8 (n1.toNat : Int)]⟩ ∧ s.t 7 = .ptr 7 0 v7 ∧ s.h 7 = ⟨v7, true, true, false, A⟩ ∧ s.t 9 = .str c.name ∧ (L 0 = true → s.t 54 = .agg W) ∧ (L 1 = true → s.t 55 = .agg W) ∧ (L 2 = true → ∃ v c, s.t 10 = .ptr 10 0 v ∧ s.h 10 = ⟨v, true, true, false, c⟩ ∧ c.length = 4 ∧ (L 4 = true → c = W)) ∧ (L 3 = true → ∃ v c, s.t 11 = .ptr 11 0 v ∧ s.h 11 = ⟨v, true, true, false, c⟩ ∧ c.length = 4 ∧ (L 5 = true → c = W)) ∧ (L 4 = true → L 2 = true) ∧ (L 5 = true → L 3 = true) := ⟨_, rfl⟩
        refine Wp_drxI Inv ?_ ?_ ?_
        · rw [hInv]
          exact ⟨_, _, _, _, by simp -implicitDefEqProofs (maxSteps := 2000000) only [k3, kh3, k4, kh4, k5, kh5, k7, kh7, wk, act, asV, ↓reduceIte, Nat.reduceEqDiff, reduceCtorEq, Nat.reduceAdd, Nat.reduceLeDiff, Nat.reduceSub, Nat.reduceMul, List.reduceReplicate, Int.reduceEq, Int.reduceLT, Int.reduceLE, Int.reduceAdd, Int.reduceSub, Int.reduceMul, Nat.reduceLT, Int.reduceToNat]; first | done | rfl, by simp -implicitDefEqProofs (maxSteps := 2000000) only [k3, kh3, k4, kh4, k5, kh5, k7, kh7, wk, act, asV, ↓reduceIte, Nat.reduceEqDiff, reduceCtorEq, Nat.reduceAdd, Nat.reduceLeDiff, Nat.reduceSub, Nat.reduceMul, List.reduceReplicate, Int.reduceEq, Int.reduceLT, Int.reduceLE, Int.reduceAdd, Int.reduceSub, Int.reduceMul, Nat.reduceLT, Int.reduceToNat]; first | done | rfl, by simp -implicitDefEqProofs (maxSteps := 2000000) only [k3, kh3, k4, kh4, k5, kh5, k7, kh7, wk, act, asV, ↓reduceIte, Nat.reduceEqDiff, reduceCtorEq, Nat.reduceAdd, Nat.reduceLeDiff, Nat.reduceSub, Nat.reduceMul, List.reduceReplicate, Int.reduceEq, Int.reduceLT, Int.reduceLE, Int.reduceAdd, Int.reduceSub, Int.reduceMul, Nat.reduceLT, Int.reduceToNat]; first | done | rfl, by simp -implicitDefEqProofs (maxSteps := 2000000) only [k3, kh3, k4, kh4, k5, kh5, k7, kh7, wk, act, asV, ↓reduceIte, Nat.reduceEqDiff, reduceCtorEq, Nat.reduceAdd, Nat.reduceLeDiff, Nat.reduceSub, Nat.reduceMul, List.reduceReplicate, Int.reduceEq, Int.reduceLT, Int.reduceLE, Int.reduceAdd, Int.reduceSub, Int.reduceMul, Nat.reduceLT, Int.reduceToNat]; first | done | rfl, by simp -implicitDefEqProofs (maxSteps := 2000000) only [k3, kh3, k4, kh4, k5, kh5, k7, kh7, wk, act, asV, ↓reduceIte, Nat.reduceEqDiff, reduceCtorEq, Nat.reduceAdd, Nat.reduceLeDiff, Nat.reduceSub, Nat.reduceMul, List.reduceReplicate, Int.reduceEq, Int.reduceLT, Int.reduceLE, Int.reduceAdd, Int.reduceSub, Int.reduceMul, Nat.reduceLT, Int.reduceToNat]; first | done | rfl, by simp -implicitDefEqProofs (maxSteps := 2000000) only [k3, kh3, k4, kh4, k5, kh5, k7, kh7, wk, act, asV, ↓reduceIte, Nat.reduceEqDiff, reduceCtorEq, Nat.reduceAdd, Nat.reduceLeDiff, Nat.reduceSub, Nat.reduceMul, List.reduceReplicate, Int.reduceEq, Int.reduceLT, Int.reduceLE, Int.reduceAdd, Int.reduceSub, Int.reduceMul, Nat.reduceLT, Int.reduceToNat]; first | done | rfl, by simp -implicitDefEqProofs (maxSteps := 2000000) only [k3, kh3, k4, kh4, k5, kh5, k7, kh7, wk, act, asV, ↓reduceIte, Nat.reduceEqDiff, reduceCtorEq, Nat.reduceAdd, Nat.reduceLeDiff, Nat.reduceSub, Nat.reduceMul, List.reduceReplicate, Int.reduceEq, Int.reduceLT, Int.reduceLE, Int.reduceAdd, Int.reduceSub, Int.reduceMul, Nat.reduceLT, Int.reduceToNat]; first | done | rfl, by simp -implicitDefEqProofs (maxSteps := 2000000) only [k3, kh3, k4, kh4, k5, kh5, k7, kh7, wk, act, asV, ↓reduceIte, Nat.reduceEqDiff, reduceCtorEq, Nat.reduceAdd, Nat.reduceLeDiff, Nat.reduceSub, Nat.reduceMul, List.reduceReplicate, Int.reduceEq, Int.reduceLT, Int.reduceLE, Int.reduceAdd, Int.reduceSub, Int.reduceMul, Nat.reduceLT, Int.reduceToNat]; first | done | rfl, by simp -implicitDefEqProofs (maxSteps := 2000000) only [k3, kh3, k4, kh4, k5, kh5, k7, kh7, wk, act, asV, ↓reduceIte, Nat.reduceEqDiff, reduceCtorEq, Nat.reduceAdd, Nat.reduceLeDiff, Nat.reduceSub, Nat.reduceMul, List.reduceReplicate, Int.reduceEq, Int.reduceLT, Int.reduceLE, Int.reduceAdd, Int.reduceSub, Int.reduceMul, Nat.reduceLT, Int.reduceToNat]; first | done | rfl, fun h => absurd (h : false = true) (by decide), fun h => absurd (h : false = true) (by decide), fun h => absurd (h : false = true) (by decide), fun h => absurd (h : false = true) (by decide), fun h => absurd (h : false = true) (by decide), fun h => absurd (h : false = true) (by decide)⟩
        · refine stepsX_cons ?_ (stepsX_cons ?_ (stepsX_cons ?_ (stepsX_cons ?_ (stepsX_cons ?_ (stepsX_cons ?_ (stepsX_nil))))))
          · intro L s hL hp hI
            rw [hInv] at hI
            obtain ⟨v3, v4, v5, v7, k3, kh3, k4, kh4, k5, kh5, k7, kh7, k9, f0, f1, f2, f3, g4, g5⟩ := hI
            simp -implicitDefEqProofs (maxSteps := 2000000) only [k3, kh3, lW, tW, wk, act, asV, ↓reduceIte, Nat.reduceEqDiff, reduceCtorEq, Nat.reduceAdd, Nat.reduceLeDiff, Nat.reduceSub, Nat.reduceMul, List.reduceReplicate, Int.reduceEq, Int.reduceLT, Int.reduceLE, Int.reduceAdd, Int.reduceSub, Int.reduceMul, Nat.reduceLT, Int.reduceToNat]
            rw [hInv]
            exact ⟨v3, v4, v5, v7, k3, kh3, k4, kh4, k5, kh5, k7, kh7, k9, fun _ => rfl, f1, f2, f3, g4, g5⟩
          · intro L s hL hp hI
            rw [hInv] at hI
            obtain ⟨v3, v4, v5, v7, k3, kh3, k4, kh4, k5, kh5, k7, kh7, k9, f0, f1, f2, f3, g4, g5⟩ := hI
            simp -implicitDefEqProofs (maxSteps := 2000000) only [k3, kh3, lW, tW, wk, act, asV, ↓reduceIte, Nat.reduceEqDiff, reduceCtorEq, Nat.reduceAdd, Nat.reduceLeDiff, Nat.reduceSub, Nat.reduceMul, List.reduceReplicate, Int.reduceEq, Int.reduceLT, Int.reduceLE, Int.reduceAdd, Int.reduceSub, Int.reduceMul, Nat.reduceLT, Int.reduceToNat]
            rw [hInv]
            exact ⟨v3, v4, v5, v7, k3, kh3, k4, kh4, k5, kh5, k7, kh7, k9, f0, fun _ => rfl, f2, f3, g4, g5⟩
          · intro L s hL hp hI
            rw [hInv] at hI
            obtain ⟨v3, v4, v5, v7, k3, kh3, k4, kh4, k5, kh5, k7, kh7, k9, f0, f1, f2, f3, g4, g5⟩ := hI
            simp -implicitDefEqProofs (maxSteps := 2000000) only [k3, kh3, wk, act, asV, ↓reduceIte, Nat.reduceEqDiff, reduceCtorEq, Nat.reduceAdd, Nat.reduceLeDiff, Nat.reduceSub, Nat.reduceMul, List.reduceReplicate, Int.reduceEq, Int.reduceLT, Int.reduceLE, Int.reduceAdd, Int.reduceSub, Int.reduceMul, Nat.reduceLT, Int.reduceToNat]
            rw [hInv]
            exact ⟨v3, v4, v5, v7, k3, kh3, k4, kh4, k5, kh5, k7, kh7, k9, f0, f1, fun _ => ⟨_, _, rfl, rfl, rfl, fun h => absurd (g4 h) (by rw [hL]; decide)⟩, f3, fun _ => rfl, g5⟩
          · intro L s hL hp hI
            rw [hInv] at hI
            obtain ⟨v3, v4, v5, v7, k3, kh3, k4, kh4, k5, kh5, k7, kh7, k9, f0, f1, f2, f3, g4, g5⟩ := hI
            simp -implicitDefEqProofs (maxSteps := 2000000) only [k3, kh3, wk, act, asV, ↓reduceIte, Nat.reduceEqDiff, reduceCtorEq, Nat.reduceAdd, Nat.reduceLeDiff, Nat.reduceSub, Nat.reduceMul, List.reduceReplicate, Int.reduceEq, Int.reduceLT, Int.reduceLE, Int.reduceAdd, Int.reduceSub, Int.reduceMul, Nat.reduceLT, Int.reduceToNat]
            rw [hInv]
            exact ⟨v3, v4, v5, v7, k3, kh3, k4, kh4, k5, kh5, k7, kh7, k9, f0, f1, f2, fun _ => ⟨_, _, rfl, rfl, rfl, fun h => absurd (g5 h) (by rw [hL]; decide)⟩, g4, fun _ => rfl⟩
          · intro L s hL hp hI
            rw [hInv] at hI
            obtain ⟨v3, v4, v5, v7, k3, kh3, k4, kh4, k5, kh5, k7, kh7, k9, f0, f1, f2, f3, g4, g5⟩ := hI
            have p0 := f0 (hp 0 (by simp))
            have p := hp 2 (by simp)
            obtain ⟨va, ca, q4, qh4, ql, _⟩ := f2 p
            have xc : List.drop 4 ca = [] := List.drop_of_length_le (by omega)
            simp -implicitDefEqProofs (maxSteps := 2000000) only [k3, kh3, p0, q4, qh4, ql, xc, lW, wk, act, asV, ↓reduceIte, Nat.reduceEqDiff, reduceCtorEq, Nat.reduceAdd, Nat.reduceLeDiff, Nat.reduceSub, Nat.reduceMul, List.reduceReplicate, Int.reduceEq, Int.reduceLT, Int.reduceLE, Int.reduceAdd, Int.reduceSub, Int.reduceMul, Nat.reduceLT, Int.reduceToNat]
            rw [hInv]
            exact ⟨v3, v4, v5, v7, k3, kh3, k4, kh4, k5, kh5, k7, kh7, k9, f0, f1, fun _ => ⟨va, W, q4, rfl, lW, fun _ => rfl⟩, f3, fun _ => p, g5⟩
          · intro L s hL hp hI
            rw [hInv] at hI
            obtain ⟨v3, v4, v5, v7, k3, kh3, k4, kh4, k5, kh5, k7, kh7, k9, f0, f1, f2, f3, g4, g5⟩ := hI
            have p1 := f1 (hp 1 (by simp))
            have p := hp 3 (by simp)
            obtain ⟨va, ca, q4, qh4, ql, _⟩ := f3 p
            have xc : List.drop 4 ca = [] := List.drop_of_length_le (by omega)
            simp -implicitDefEqProofs (maxSteps := 2000000) only [k3, kh3, p1, q4, qh4, ql, xc, lW, wk, act, asV, ↓reduceIte, Nat.reduceEqDiff, reduceCtorEq, Nat.reduceAdd, Nat.reduceLeDiff, Nat.reduceSub, Nat.reduceMul, List.reduceReplicate, Int.reduceEq, Int.reduceLT, Int.reduceLE, Int.reduceAdd, Int.reduceSub, Int.reduceMul, Nat.reduceLT, Int.reduceToNat]
            rw [hInv]
            exact ⟨v3, v4, v5, v7, k3, kh3, k4, kh4, k5, kh5, k7, kh7, k9, f0, f1, f2, fun _ => ⟨va, W, q4, rfl, lW, fun _ => rfl⟩, g4, fun _ => p⟩
        · intro s hI
          rw [hInv] at hI
          obtain ⟨v3, v4, v5, v7, k3, kh3, k4, kh4, k5, kh5, k7, kh7, k9, f0, f1, f2, f3, g4, g5⟩ := hI
          obtain ⟨w2, c2_, q2, qh2, _, e2⟩ := f2 (by decide)
          rw [e2 (by decide)] at qh2
          obtain ⟨w3, c3_, q3, qh3, _, e3⟩ := f3 (by decide)
          rw [e3 (by decide)] at qh3
          rw [hW] at kh3 qh2 qh3
          repeat' (first | simp -implicitDefEqProofs (maxSteps := 2000000) only [k3, kh3, k4, kh4, k5, kh5, k7, kh7, k9, q2, qh2, q3, qh3, clC, x1, x2, x3, x4, y1, y2, y3, atM, wu, stM, lA, tA, xA, sA, lB, tB, xB, sB, wk, act, asV, ↓reduceIte, Nat.reduceEqDiff, reduceCtorEq, Nat.reduceAdd, Nat.reduceLeDiff, Nat.reduceSub, Nat.reduceMul, List.reduceReplicate, Int.reduceEq, Int.reduceLT, Int.reduceLE, Int.reduceAdd, Int.reduceSub, Int.reduceMul, Nat.reduceLT, Int.reduceToNat] | ((first | ((with_reducible refine CallL.gate ?_); apply CallL.of) | ((with_reducible refine CallpL.gate ?_); apply CallpL.of) | ((with_reducible refine CallP.gate ?_); apply CallP.of) | ((with_reducible refine CallpP.gate ?_); apply CallpP.of)); (case h1 => (simp -implicitDefEqProofs (maxSteps := 2000000) only [k3, kh3, k4, kh4, k5, kh5, k7, kh7, k9, q2, qh2, q3, qh3, clC, x1, x2, x3, x4, y1, y2, y3, atM, wu, stM, lA, tA, xA, sA, lB, tB, xB, sB, wk, act, asV, ↓reduceIte, Nat.reduceEqDiff, reduceCtorEq, Nat.reduceAdd, Nat.reduceLeDiff, Nat.reduceSub, Nat.reduceMul, List.reduceReplicate, Int.reduceEq, Int.reduceLT, Int.reduceLE, Int.reduceAdd, Int.reduceSub, Int.reduceMul, Nat.reduceLT, Int.reduceToNat]; first | done | (with_reducible rfl))); (case h2 => (first | exact c4 | exact c5 | exact c6 | exact cw)); (case h3 => simp -implicitDefEqProofs (maxSteps := 2000000) only [k3, kh3, k4, kh4, k5, kh5, k7, kh7, k9, q2, qh2, q3, qh3, clC, x1, x2, x3, x4, y1, y2, y3, atM, wu, stM, lA, tA, xA, sA, lB, tB, xB, sB, wk, act, asV, ↓reduceIte, Nat.reduceEqDiff, reduceCtorEq, Nat.reduceAdd, Nat.reduceLeDiff, Nat.reduceSub, Nat.reduceMul, List.reduceReplicate, Int.reduceEq, Int.reduceLT, Int.reduceLE, Int.reduceAdd, Int.reduceSub, Int.reduceMul, Nat.reduceLT, Int.reduceToNat])))
  · have e2 : tokE c = 11 := if_neg hc
    rw [e2] at c1
    obtain ⟨A, hA⟩ : ∃ A, A = tkC (mintT k c) := ⟨_, rfl⟩
    rw [← hA] at c1 lA tA xA sA
    repeat' (first | simp -implicitDefEqProofs (maxSteps := 2000000) only [m5_1, m5_2, m5_3, m5_4, m5_5, m5_6, m5_7, m5_8, m5_9, m5_10, m5_11, m5_12, m5_13, m5_14, m5_15, m5_16, m5_17, m5_18, m5_19, m5_20, m5_21, m5_22, m5_23, m5_24, m5_25, m5_r, m5_b, m5, clC, h1, h2, lA, tA, xA, sA, wk, act, asV, ↓reduceIte, Nat.reduceEqDiff, reduceCtorEq, Nat.reduceAdd, Nat.reduceLeDiff, Nat.reduceSub, Nat.reduceMul, List.reduceReplicate, Int.reduceEq, Int.reduceLT, Int.reduceLE, Int.reduceAdd, Int.reduceSub, Int.reduceMul, Nat.reduceLT, Int.reduceToNat] | ((first | ((with_reducible refine CallL.gate ?_); apply CallL.of) | ((with_reducible refine CallpL.gate ?_); apply CallpL.of) | ((with_reducible refine CallP.gate ?_); apply CallP.of) | ((with_reducible refine CallpP.gate ?_); apply CallpP.of)); (case h1 => (simp -implicitDefEqProofs (maxSteps := 2000000) only [m5_1, m5_2, m5_3, m5_4, m5_5, m5_6, m5_7, m5_8, m5_9, m5_10, m5_11, m5_12, m5_13, m5_14, m5_15, m5_16, m5_17, m5_18, m5_19, m5_20, m5_21, m5_22, m5_23, m5_24, m5_25, m5_r, m5_b, m5, clC, h1, h2, lA, tA, xA, sA, wk, act, asV, ↓reduceIte, Nat.reduceEqDiff, reduceCtorEq, Nat.reduceAdd, Nat.reduceLeDiff, Nat.reduceSub, Nat.reduceMul, List.reduceReplicate, Int.reduceEq, Int.reduceLT, Int.reduceLE, Int.reduceAdd, Int.reduceSub, Int.reduceMul, Nat.reduceLT, Int.reduceToNat]; first | done | (with_reducible rfl))); (case h2 => (first | exact c1 | exact cw)); (case h3 => simp -implicitDefEqProofs (maxSteps := 2000000) only [m5_1, m5_2, m5_3, m5_4, m5_5, m5_6, m5_7, m5_8, m5_9, m5_10, m5_11, m5_12, m5_13, m5_14, m5_15, m5_16, m5_17, m5_18, m5_19, m5_20, m5_21, m5_22, m5_23, m5_24, m5_25, m5_r, m5_b, m5, clC, h1, h2, lA, tA, xA, sA, wk, act, asV, ↓reduceIte, Nat.reduceEqDiff, reduceCtorEq, Nat.reduceAdd, Nat.reduceLeDiff, Nat.reduceSub, Nat.reduceMul, List.reduceReplicate, Int.reduceEq, Int.reduceLT, Int.reduceLE, Int.reduceAdd, Int.reduceSub, Int.reduceMul, Nat.reduceLT, Int.reduceToNat])))
end Go.Proofs.YtkphojcmjffccaaDoor
