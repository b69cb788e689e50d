/- What a token may, by the reference. -/
import Derived.Test.YtkphojcmjffccaaDoorY2
import Derived.Test.YtkphojcmjffccaaDoorE31
import Derived.Test.YtkphojcmjffccaaDoorM15
import Derived.Test.YtkphojcmjffccaaDoorM7
set_option linter.unusedVariables false
set_option linter.unusedSimpArgs false
set_option linter.unusedSectionVars false
set_option maxRecDepth 100000
set_option maxHeartbeats 8000000
namespace Go.Proofs.YtkphojcmjffccaaDoor
open Go.RowKit

theorem checkR_ok (f : Fl) (hf : ¬ f = .lit) (k : List UInt8) (hk : k.length ≤ 2 ^ 39) (place : Int) (gen tick : Nat) (t : Tok) (ht : t.Ok) (name : List UInt8) (right : Int) :
    RC Tryd.prog 10 [.agg (wardC f k place gen tick), .agg (tkC t), .str name, .int .i64 right] [.int .i64 (checkE k place gen tick t name right)] := by
  refine RC.of_wp c10 rfl ?_
  have c1 := mintR_ok f hf k hk t ht
  have hg := ht.tag
  have lG : (bl t.tag).length = 32 := by rw [bl_length, hg]
  have tG : List.take 32 (bl t.tag) = bl t.tag := List.take_of_length_le (by omega)
  have xG : List.drop 32 (bl t.tag) = [] := List.drop_of_length_le (by omega)
  by_cases hc : okC t = true
  · have e2 : tokE t = 0 := if_pos hc
    have e3 : tkC (mintT k t) = clC t ++ bl (macB k (claimB t)) := by rw [show mintT k t = { t with tag := macB k (claimB t) } from if_pos hc]; rfl
    rw [e2, e3] at c1
    have dM := macB_length k (claimB t)
    have c2 := eqL_by (macB k (claimB t)) t.tag (by omega)
    have f2 := fitR_by dM
    unfold checkE
    obtain ⟨M, hM⟩ : ∃ M, M = macB k (claimB t) := ⟨_, rfl⟩
    rw [← hM] at c1 c2 f2 dM ⊢
    have lM : (bl M).length = 32 := by rw [bl_length, dM]
    have tM : List.take 32 (bl M) = bl M := List.take_of_length_le (by omega)
    have xM : List.drop 32 (bl M) = [] := List.drop_of_length_le (by omega)
    simp only [tkC, clC, wardC] at c1 ⊢
    by_cases hp0 : t.place = place
    · have hp := eq_true hp0
      by_cases hm : M = t.tag
      · rw [decide_eq_true hm] at c2
        by_cases hge0 : t.gen = gen
        · have hge := eq_true (show ((t.gen : Nat) : Int) = ((gen : Nat) : Int) by omega)
          by_cases hti : t.til < tick
          · have hti' : ((t.til : Nat) : Int) < ((tick : Nat) : Int) := by omega
            rw [if_pos ⟨hc, hp0, hm⟩, if_pos hge0, if_pos hti]
            repeat' (first | simp -implicitDefEqProofs (maxSteps := 2000000) only [m10_1, m10_2, m10_3, m10_4, m10_5, m10_6, m10_7, m10_8, m10_9, m10_10, m10_r, m10_b, m10, c2, f2, hp, hge, hti', lG, tG, xG, lM, tM, xM, bl_scal, bl_pur, wk, act, asV, ↓reduceIte, Nat.reduceEqDiff, reduceCtorEq, Nat.reduceAdd, Nat.reduceLeDiff, Nat.reduceSub, Nat.reduceMul, List.reduceReplicate, Int.reduceEq, Int.reduceLT, Int.reduceLE, Int.reduceAdd, Int.reduceSub, Int.reduceMul, Nat.reduceLT, Int.reduceToNat] | ((first | ((with_reducible refine CallL.gate ?_); apply CallL.of) | ((with_reducible refine CallpL.gate ?_); apply CallpL.of) | ((with_reducible refine CallP.gate ?_); apply CallP.of) | ((with_reducible refine CallpP.gate ?_); apply CallpP.of)); (case h1 => (simp -implicitDefEqProofs (maxSteps := 2000000) only [m10_1, m10_2, m10_3, m10_4, m10_5, m10_6, m10_7, m10_8, m10_9, m10_10, m10_r, m10_b, m10, c2, f2, hp, hge, hti', lG, tG, xG, lM, tM, xM, bl_scal, bl_pur, wk, act, asV, ↓reduceIte, Nat.reduceEqDiff, reduceCtorEq, Nat.reduceAdd, Nat.reduceLeDiff, Nat.reduceSub, Nat.reduceMul, List.reduceReplicate, Int.reduceEq, Int.reduceLT, Int.reduceLE, Int.reduceAdd, Int.reduceSub, Int.reduceMul, Nat.reduceLT, Int.reduceToNat]; first | done | (with_reducible rfl))); (case h2 => (first | exact c1)); (case h3 => simp -implicitDefEqProofs (maxSteps := 2000000) only [m10_1, m10_2, m10_3, m10_4, m10_5, m10_6, m10_7, m10_8, m10_9, m10_10, m10_r, m10_b, m10, c2, f2, hp, hge, hti', lG, tG, xG, lM, tM, xM, bl_scal, bl_pur, wk, act, asV, ↓reduceIte, Nat.reduceEqDiff, reduceCtorEq, Nat.reduceAdd, Nat.reduceLeDiff, Nat.reduceSub, Nat.reduceMul, List.reduceReplicate, Int.reduceEq, Int.reduceLT, Int.reduceLE, Int.reduceAdd, Int.reduceSub, Int.reduceMul, Nat.reduceLT, Int.reduceToNat])))
          · have hti' : ¬ ((t.til : Nat) : Int) < ((tick : Nat) : Int) := by omega
            rw [if_pos ⟨hc, hp0, hm⟩, if_pos hge0, if_neg hti]
            have ba := bits_and t.rights right
            by_cases n10 : t.name = []
            · have n1 := eq_true n10
              by_cases hr0 : andI t.rights right = right
              · have hr := eq_true hr0
                rw [if_neg (by rintro (⟨h, _⟩ | h) <;> exact h (by assumption))]
                repeat' (first | simp -implicitDefEqProofs (maxSteps := 2000000) only [m10_1, m10_2, m10_3, m10_4, m10_5, m10_6, m10_7, m10_8, m10_9, m10_10, m10_r, m10_b, m10, c2, f2, hp, hge, hti', n1, ba, hr, lG, tG, xG, lM, tM, xM, bl_scal, bl_pur, wk, act, asV, ↓reduceIte, Nat.reduceEqDiff, reduceCtorEq, Nat.reduceAdd, Nat.reduceLeDiff, Nat.reduceSub, Nat.reduceMul, List.reduceReplicate, Int.reduceEq, Int.reduceLT, Int.reduceLE, Int.reduceAdd, Int.reduceSub, Int.reduceMul, Nat.reduceLT, Int.reduceToNat] | ((first | ((with_reducible refine CallL.gate ?_); apply CallL.of) | ((with_reducible refine CallpL.gate ?_); apply CallpL.of) | ((with_reducible refine CallP.gate ?_); apply CallP.of) | ((with_reducible refine CallpP.gate ?_); apply CallpP.of)); (case h1 => (simp -implicitDefEqProofs (maxSteps := 2000000) only [m10_1, m10_2, m10_3, m10_4, m10_5, m10_6, m10_7, m10_8, m10_9, m10_10, m10_r, m10_b, m10, c2, f2, hp, hge, hti', n1, ba, hr, lG, tG, xG, lM, tM, xM, bl_scal, bl_pur, wk, act, asV, ↓reduceIte, Nat.reduceEqDiff, reduceCtorEq, Nat.reduceAdd, Nat.reduceLeDiff, Nat.reduceSub, Nat.reduceMul, List.reduceReplicate, Int.reduceEq, Int.reduceLT, Int.reduceLE, Int.reduceAdd, Int.reduceSub, Int.reduceMul, Nat.reduceLT, Int.reduceToNat]; first | done | (with_reducible rfl))); (case h2 => (first | exact c1)); (case h3 => simp -implicitDefEqProofs (maxSteps := 2000000) only [m10_1, m10_2, m10_3, m10_4, m10_5, m10_6, m10_7, m10_8, m10_9, m10_10, m10_r, m10_b, m10, c2, f2, hp, hge, hti', n1, ba, hr, lG, tG, xG, lM, tM, xM, bl_scal, bl_pur, wk, act, asV, ↓reduceIte, Nat.reduceEqDiff, reduceCtorEq, Nat.reduceAdd, Nat.reduceLeDiff, Nat.reduceSub, Nat.reduceMul, List.reduceReplicate, Int.reduceEq, Int.reduceLT, Int.reduceLE, Int.reduceAdd, Int.reduceSub, Int.reduceMul, Nat.reduceLT, Int.reduceToNat])))
              · have hr := hr0
                rw [if_pos (.inr hr)]
                repeat' (first | simp -implicitDefEqProofs (maxSteps := 2000000) only [m10_1, m10_2, m10_3, m10_4, m10_5, m10_6, m10_7, m10_8, m10_9, m10_10, m10_r, m10_b, m10, c2, f2, hp, hge, hti', n1, ba, hr, lG, tG, xG, lM, tM, xM, bl_scal, bl_pur, wk, act, asV, ↓reduceIte, Nat.reduceEqDiff, reduceCtorEq, Nat.reduceAdd, Nat.reduceLeDiff, Nat.reduceSub, Nat.reduceMul, List.reduceReplicate, Int.reduceEq, Int.reduceLT, Int.reduceLE, Int.reduceAdd, Int.reduceSub, Int.reduceMul, Nat.reduceLT, Int.reduceToNat] | ((first | ((with_reducible refine CallL.gate ?_); apply CallL.of) | ((with_reducible refine CallpL.gate ?_); apply CallpL.of) | ((with_reducible refine CallP.gate ?_); apply CallP.of) | ((with_reducible refine CallpP.gate ?_); apply CallpP.of)); (case h1 => (simp -implicitDefEqProofs (maxSteps := 2000000) only [m10_1, m10_2, m10_3, m10_4, m10_5, m10_6, m10_7, m10_8, m10_9, m10_10, m10_r, m10_b, m10, c2, f2, hp, hge, hti', n1, ba, hr, lG, tG, xG, lM, tM, xM, bl_scal, bl_pur, wk, act, asV, ↓reduceIte, Nat.reduceEqDiff, reduceCtorEq, Nat.reduceAdd, Nat.reduceLeDiff, Nat.reduceSub, Nat.reduceMul, List.reduceReplicate, Int.reduceEq, Int.reduceLT, Int.reduceLE, Int.reduceAdd, Int.reduceSub, Int.reduceMul, Nat.reduceLT, Int.reduceToNat]; first | done | (with_reducible rfl))); (case h2 => (first | exact c1)); (case h3 => simp -implicitDefEqProofs (maxSteps := 2000000) only [m10_1, m10_2, m10_3, m10_4, m10_5, m10_6, m10_7, m10_8, m10_9, m10_10, m10_r, m10_b, m10, c2, f2, hp, hge, hti', n1, ba, hr, lG, tG, xG, lM, tM, xM, bl_scal, bl_pur, wk, act, asV, ↓reduceIte, Nat.reduceEqDiff, reduceCtorEq, Nat.reduceAdd, Nat.reduceLeDiff, Nat.reduceSub, Nat.reduceMul, List.reduceReplicate, Int.reduceEq, Int.reduceLT, Int.reduceLE, Int.reduceAdd, Int.reduceSub, Int.reduceMul, Nat.reduceLT, Int.reduceToNat])))
            · have n1' := n10
              by_cases n20 : t.name = name
              · have n2 := eq_true n20
                by_cases hr0 : andI t.rights right = right
                · have hr := eq_true hr0
                  rw [if_neg (by rintro (⟨_, h⟩ | h) <;> exact h (by assumption))]
                  repeat' (first | simp -implicitDefEqProofs (maxSteps := 2000000) only [m10_1, m10_2, m10_3, m10_4, m10_5, m10_6, m10_7, m10_8, m10_9, m10_10, m10_r, m10_b, m10, c2, f2, hp, hge, hti', n2, n1', ba, hr, lG, tG, xG, lM, tM, xM, bl_scal, bl_pur, wk, act, asV, ↓reduceIte, Nat.reduceEqDiff, reduceCtorEq, Nat.reduceAdd, Nat.reduceLeDiff, Nat.reduceSub, Nat.reduceMul, List.reduceReplicate, Int.reduceEq, Int.reduceLT, Int.reduceLE, Int.reduceAdd, Int.reduceSub, Int.reduceMul, Nat.reduceLT, Int.reduceToNat] | ((first | ((with_reducible refine CallL.gate ?_); apply CallL.of) | ((with_reducible refine CallpL.gate ?_); apply CallpL.of) | ((with_reducible refine CallP.gate ?_); apply CallP.of) | ((with_reducible refine CallpP.gate ?_); apply CallpP.of)); (case h1 => (simp -implicitDefEqProofs (maxSteps := 2000000) only [m10_1, m10_2, m10_3, m10_4, m10_5, m10_6, m10_7, m10_8, m10_9, m10_10, m10_r, m10_b, m10, c2, f2, hp, hge, hti', n2, n1', ba, hr, lG, tG, xG, lM, tM, xM, bl_scal, bl_pur, wk, act, asV, ↓reduceIte, Nat.reduceEqDiff, reduceCtorEq, Nat.reduceAdd, Nat.reduceLeDiff, Nat.reduceSub, Nat.reduceMul, List.reduceReplicate, Int.reduceEq, Int.reduceLT, Int.reduceLE, Int.reduceAdd, Int.reduceSub, Int.reduceMul, Nat.reduceLT, Int.reduceToNat]; first | done | (with_reducible rfl))); (case h2 => (first | exact c1)); (case h3 => simp -implicitDefEqProofs (maxSteps := 2000000) only [m10_1, m10_2, m10_3, m10_4, m10_5, m10_6, m10_7, m10_8, m10_9, m10_10, m10_r, m10_b, m10, c2, f2, hp, hge, hti', n2, n1', ba, hr, lG, tG, xG, lM, tM, xM, bl_scal, bl_pur, wk, act, asV, ↓reduceIte, Nat.reduceEqDiff, reduceCtorEq, Nat.reduceAdd, Nat.reduceLeDiff, Nat.reduceSub, Nat.reduceMul, List.reduceReplicate, Int.reduceEq, Int.reduceLT, Int.reduceLE, Int.reduceAdd, Int.reduceSub, Int.reduceMul, Nat.reduceLT, Int.reduceToNat])))
                · have hr := hr0
                  rw [if_pos (.inr hr)]
                  repeat' (first | simp -implicitDefEqProofs (maxSteps := 2000000) only [m10_1, m10_2, m10_3, m10_4, m10_5, m10_6, m10_7, m10_8, m10_9, m10_10, m10_r, m10_b, m10, c2, f2, hp, hge, hti', n2, n1', ba, hr, lG, tG, xG, lM, tM, xM, bl_scal, bl_pur, wk, act, asV, ↓reduceIte, Nat.reduceEqDiff, reduceCtorEq, Nat.reduceAdd, Nat.reduceLeDiff, Nat.reduceSub, Nat.reduceMul, List.reduceReplicate, Int.reduceEq, Int.reduceLT, Int.reduceLE, Int.reduceAdd, Int.reduceSub, Int.reduceMul, Nat.reduceLT, Int.reduceToNat] | ((first | ((with_reducible refine CallL.gate ?_); apply CallL.of) | ((with_reducible refine CallpL.gate ?_); apply CallpL.of) | ((with_reducible refine CallP.gate ?_); apply CallP.of) | ((with_reducible refine CallpP.gate ?_); apply CallpP.of)); (case h1 => (simp -implicitDefEqProofs (maxSteps := 2000000) only [m10_1, m10_2, m10_3, m10_4, m10_5, m10_6, m10_7, m10_8, m10_9, m10_10, m10_r, m10_b, m10, c2, f2, hp, hge, hti', n2, n1', ba, hr, lG, tG, xG, lM, tM, xM, bl_scal, bl_pur, wk, act, asV, ↓reduceIte, Nat.reduceEqDiff, reduceCtorEq, Nat.reduceAdd, Nat.reduceLeDiff, Nat.reduceSub, Nat.reduceMul, List.reduceReplicate, Int.reduceEq, Int.reduceLT, Int.reduceLE, Int.reduceAdd, Int.reduceSub, Int.reduceMul, Nat.reduceLT, Int.reduceToNat]; first | done | (with_reducible rfl))); (case h2 => (first | exact c1)); (case h3 => simp -implicitDefEqProofs (maxSteps := 2000000) only [m10_1, m10_2, m10_3, m10_4, m10_5, m10_6, m10_7, m10_8, m10_9, m10_10, m10_r, m10_b, m10, c2, f2, hp, hge, hti', n2, n1', ba, hr, lG, tG, xG, lM, tM, xM, bl_scal, bl_pur, wk, act, asV, ↓reduceIte, Nat.reduceEqDiff, reduceCtorEq, Nat.reduceAdd, Nat.reduceLeDiff, Nat.reduceSub, Nat.reduceMul, List.reduceReplicate, Int.reduceEq, Int.reduceLT, Int.reduceLE, Int.reduceAdd, Int.reduceSub, Int.reduceMul, Nat.reduceLT, Int.reduceToNat])))
              · have n2 := n20
                rw [if_pos (.inl ⟨n10, n20⟩)]
                repeat' (first | simp -implicitDefEqProofs (maxSteps := 2000000) only [m10_1, m10_2, m10_3, m10_4, m10_5, m10_6, m10_7, m10_8, m10_9, m10_10, m10_r, m10_b, m10, c2, f2, hp, hge, hti', n1', n2, lG, tG, xG, lM, tM, xM, bl_scal, bl_pur, wk, act, asV, ↓reduceIte, Nat.reduceEqDiff, reduceCtorEq, Nat.reduceAdd, Nat.reduceLeDiff, Nat.reduceSub, Nat.reduceMul, List.reduceReplicate, Int.reduceEq, Int.reduceLT, Int.reduceLE, Int.reduceAdd, Int.reduceSub, Int.reduceMul, Nat.reduceLT, Int.reduceToNat] | ((first | ((with_reducible refine CallL.gate ?_); apply CallL.of) | ((with_reducible refine CallpL.gate ?_); apply CallpL.of) | ((with_reducible refine CallP.gate ?_); apply CallP.of) | ((with_reducible refine CallpP.gate ?_); apply CallpP.of)); (case h1 => (simp -implicitDefEqProofs (maxSteps := 2000000) only [m10_1, m10_2, m10_3, m10_4, m10_5, m10_6, m10_7, m10_8, m10_9, m10_10, m10_r, m10_b, m10, c2, f2, hp, hge, hti', n1', n2, lG, tG, xG, lM, tM, xM, bl_scal, bl_pur, wk, act, asV, ↓reduceIte, Nat.reduceEqDiff, reduceCtorEq, Nat.reduceAdd, Nat.reduceLeDiff, Nat.reduceSub, Nat.reduceMul, List.reduceReplicate, Int.reduceEq, Int.reduceLT, Int.reduceLE, Int.reduceAdd, Int.reduceSub, Int.reduceMul, Nat.reduceLT, Int.reduceToNat]; first | done | (with_reducible rfl))); (case h2 => (first | exact c1)); (case h3 => simp -implicitDefEqProofs (maxSteps := 2000000) only [m10_1, m10_2, m10_3, m10_4, m10_5, m10_6, m10_7, m10_8, m10_9, m10_10, m10_r, m10_b, m10, c2, f2, hp, hge, hti', n1', n2, lG, tG, xG, lM, tM, xM, bl_scal, bl_pur, wk, act, asV, ↓reduceIte, Nat.reduceEqDiff, reduceCtorEq, Nat.reduceAdd, Nat.reduceLeDiff, Nat.reduceSub, Nat.reduceMul, List.reduceReplicate, Int.reduceEq, Int.reduceLT, Int.reduceLE, Int.reduceAdd, Int.reduceSub, Int.reduceMul, Nat.reduceLT, Int.reduceToNat])))
        · have hge' : ¬ ((t.gen : Nat) : Int) = ((gen : Nat) : Int) := by omega
          rw [if_pos ⟨hc, hp0, hm⟩, if_neg hge0]
          repeat' (first | simp -implicitDefEqProofs (maxSteps := 2000000) only [m10_1, m10_2, m10_3, m10_4, m10_5, m10_6, m10_7, m10_8, m10_9, m10_10, m10_r, m10_b, m10, c2, f2, hp, hge', lG, tG, xG, lM, tM, xM, bl_scal, bl_pur, wk, act, asV, ↓reduceIte, Nat.reduceEqDiff, reduceCtorEq, Nat.reduceAdd, Nat.reduceLeDiff, Nat.reduceSub, Nat.reduceMul, List.reduceReplicate, Int.reduceEq, Int.reduceLT, Int.reduceLE, Int.reduceAdd, Int.reduceSub, Int.reduceMul, Nat.reduceLT, Int.reduceToNat] | ((first | ((with_reducible refine CallL.gate ?_); apply CallL.of) | ((with_reducible refine CallpL.gate ?_); apply CallpL.of) | ((with_reducible refine CallP.gate ?_); apply CallP.of) | ((with_reducible refine CallpP.gate ?_); apply CallpP.of)); (case h1 => (simp -implicitDefEqProofs (maxSteps := 2000000) only [m10_1, m10_2, m10_3, m10_4, m10_5, m10_6, m10_7, m10_8, m10_9, m10_10, m10_r, m10_b, m10, c2, f2, hp, hge', lG, tG, xG, lM, tM, xM, bl_scal, bl_pur, wk, act, asV, ↓reduceIte, Nat.reduceEqDiff, reduceCtorEq, Nat.reduceAdd, Nat.reduceLeDiff, Nat.reduceSub, Nat.reduceMul, List.reduceReplicate, Int.reduceEq, Int.reduceLT, Int.reduceLE, Int.reduceAdd, Int.reduceSub, Int.reduceMul, Nat.reduceLT, Int.reduceToNat]; first | done | (with_reducible rfl))); (case h2 => (first | exact c1)); (case h3 => simp -implicitDefEqProofs (maxSteps := 2000000) only [m10_1, m10_2, m10_3, m10_4, m10_5, m10_6, m10_7, m10_8, m10_9, m10_10, m10_r, m10_b, m10, c2, f2, hp, hge', lG, tG, xG, lM, tM, xM, bl_scal, bl_pur, wk, act, asV, ↓reduceIte, Nat.reduceEqDiff, reduceCtorEq, Nat.reduceAdd, Nat.reduceLeDiff, Nat.reduceSub, Nat.reduceMul, List.reduceReplicate, Int.reduceEq, Int.reduceLT, Int.reduceLE, Int.reduceAdd, Int.reduceSub, Int.reduceMul, Nat.reduceLT, Int.reduceToNat])))
      · rw [decide_eq_false hm] at c2
        rw [if_neg (fun h => hm h.2.2)]
        repeat' (first | simp -implicitDefEqProofs (maxSteps := 2000000) only [m10_1, m10_2, m10_3, m10_4, m10_5, m10_6, m10_7, m10_8, m10_9, m10_10, m10_r, m10_b, m10, c2, f2, hp, lG, tG, xG, lM, tM, xM, bl_scal, bl_pur, wk, act, asV, ↓reduceIte, Nat.reduceEqDiff, reduceCtorEq, Nat.reduceAdd, Nat.reduceLeDiff, Nat.reduceSub, Nat.reduceMul, List.reduceReplicate, Int.reduceEq, Int.reduceLT, Int.reduceLE, Int.reduceAdd, Int.reduceSub, Int.reduceMul, Nat.reduceLT, Int.reduceToNat] | ((first | ((with_reducible refine CallL.gate ?_); apply CallL.of) | ((with_reducible refine CallpL.gate ?_); apply CallpL.of) | ((with_reducible refine CallP.gate ?_); apply CallP.of) | ((with_reducible refine CallpP.gate ?_); apply CallpP.of)); (case h1 => (simp -implicitDefEqProofs (maxSteps := 2000000) only [m10_1, m10_2, m10_3, m10_4, m10_5, m10_6, m10_7, m10_8, m10_9, m10_10, m10_r, m10_b, m10, c2, f2, hp, lG, tG, xG, lM, tM, xM, bl_scal, bl_pur, wk, act, asV, ↓reduceIte, Nat.reduceEqDiff, reduceCtorEq, Nat.reduceAdd, Nat.reduceLeDiff, Nat.reduceSub, Nat.reduceMul, List.reduceReplicate, Int.reduceEq, Int.reduceLT, Int.reduceLE, Int.reduceAdd, Int.reduceSub, Int.reduceMul, Nat.reduceLT, Int.reduceToNat]; first | done | (with_reducible rfl))); (case h2 => (first | exact c1)); (case h3 => simp -implicitDefEqProofs (maxSteps := 2000000) only [m10_1, m10_2, m10_3, m10_4, m10_5, m10_6, m10_7, m10_8, m10_9, m10_10, m10_r, m10_b, m10, c2, f2, hp, lG, tG, xG, lM, tM, xM, bl_scal, bl_pur, wk, act, asV, ↓reduceIte, Nat.reduceEqDiff, reduceCtorEq, Nat.reduceAdd, Nat.reduceLeDiff, Nat.reduceSub, Nat.reduceMul, List.reduceReplicate, Int.reduceEq, Int.reduceLT, Int.reduceLE, Int.reduceAdd, Int.reduceSub, Int.reduceMul, Nat.reduceLT, Int.reduceToNat])))
    · have hp := hp0
      rw [if_neg (fun h => hp h.2.1)]
      repeat' (first | simp -implicitDefEqProofs (maxSteps := 2000000) only [m10_1, m10_2, m10_3, m10_4, m10_5, m10_6, m10_7, m10_8, m10_9, m10_10, m10_r, m10_b, m10, c2, f2, hp, lG, tG, xG, lM, tM, xM, bl_scal, bl_pur, wk, act, asV, ↓reduceIte, Nat.reduceEqDiff, reduceCtorEq, Nat.reduceAdd, Nat.reduceLeDiff, Nat.reduceSub, Nat.reduceMul, List.reduceReplicate, Int.reduceEq, Int.reduceLT, Int.reduceLE, Int.reduceAdd, Int.reduceSub, Int.reduceMul, Nat.reduceLT, Int.reduceToNat] | ((first | ((with_reducible refine CallL.gate ?_); apply CallL.of) | ((with_reducible refine CallpL.gate ?_); apply CallpL.of) | ((with_reducible refine CallP.gate ?_); apply CallP.of) | ((with_reducible refine CallpP.gate ?_); apply CallpP.of)); (case h1 => (simp -implicitDefEqProofs (maxSteps := 2000000) only [m10_1, m10_2, m10_3, m10_4, m10_5, m10_6, m10_7, m10_8, m10_9, m10_10, m10_r, m10_b, m10, c2, f2, hp, lG, tG, xG, lM, tM, xM, bl_scal, bl_pur, wk, act, asV, ↓reduceIte, Nat.reduceEqDiff, reduceCtorEq, Nat.reduceAdd, Nat.reduceLeDiff, Nat.reduceSub, Nat.reduceMul, List.reduceReplicate, Int.reduceEq, Int.reduceLT, Int.reduceLE, Int.reduceAdd, Int.reduceSub, Int.reduceMul, Nat.reduceLT, Int.reduceToNat]; first | done | (with_reducible rfl))); (case h2 => (first | exact c1)); (case h3 => simp -implicitDefEqProofs (maxSteps := 2000000) only [m10_1, m10_2, m10_3, m10_4, m10_5, m10_6, m10_7, m10_8, m10_9, m10_10, m10_r, m10_b, m10, c2, f2, hp, lG, tG, xG, lM, tM, xM, bl_scal, bl_pur, wk, act, asV, ↓reduceIte, Nat.reduceEqDiff, reduceCtorEq, Nat.reduceAdd, Nat.reduceLeDiff, Nat.reduceSub, Nat.reduceMul, List.reduceReplicate, Int.reduceEq, Int.reduceLT, Int.reduceLE, Int.reduceAdd, Int.reduceSub, Int.reduceMul, Nat.reduceLT, Int.reduceToNat])))
  · have e2 : tokE t = 11 := if_neg hc
    have e3 : mintT k t = zT := if_neg hc
    rw [e2, e3] at c1
    have e4 : checkE k place gen tick t name right = 12 := if_neg (fun h => hc h.1)
    rw [e4]
    have zc := zT_cells
    simp only [tkC, clC, wardC] at c1 zc ⊢
    repeat' (first | simp -implicitDefEqProofs (maxSteps := 2000000) only [m10_1, m10_2, m10_3, m10_4, m10_5, m10_6, m10_7, m10_8, m10_9, m10_10, m10_r, m10_b, m10, zc, lG, tG, xG, bl_scal, bl_pur, wk, act, asV, ↓reduceIte, Nat.reduceEqDiff, reduceCtorEq, Nat.reduceAdd, Nat.reduceLeDiff, Nat.reduceSub, Nat.reduceMul, List.reduceReplicate, Int.reduceEq, Int.reduceLT, Int.reduceLE, Int.reduceAdd, Int.reduceSub, Int.reduceMul, Nat.reduceLT, Int.reduceToNat] | ((first | ((with_reducible refine CallL.gate ?_); apply CallL.of) | ((with_reducible refine CallpL.gate ?_); apply CallpL.of) | ((with_reducible refine CallP.gate ?_); apply CallP.of) | ((with_reducible refine CallpP.gate ?_); apply CallpP.of)); (case h1 => (simp -implicitDefEqProofs (maxSteps := 2000000) only [m10_1, m10_2, m10_3, m10_4, m10_5, m10_6, m10_7, m10_8, m10_9, m10_10, m10_r, m10_b, m10, zc, lG, tG, xG, bl_scal, bl_pur, wk, act, asV, ↓reduceIte, Nat.reduceEqDiff, reduceCtorEq, Nat.reduceAdd, Nat.reduceLeDiff, Nat.reduceSub, Nat.reduceMul, List.reduceReplicate, Int.reduceEq, Int.reduceLT, Int.reduceLE, Int.reduceAdd, Int.reduceSub, Int.reduceMul, Nat.reduceLT, Int.reduceToNat]; first | done | (with_reducible rfl))); (case h2 => (first | exact c1)); (case h3 => simp -implicitDefEqProofs (maxSteps := 2000000) only [m10_1, m10_2, m10_3, m10_4, m10_5, m10_6, m10_7, m10_8, m10_9, m10_10, m10_r, m10_b, m10, zc, lG, tG, xG, bl_scal, bl_pur, wk, act, asV, ↓reduceIte, Nat.reduceEqDiff, reduceCtorEq, Nat.reduceAdd, Nat.reduceLeDiff, Nat.reduceSub, Nat.reduceMul, List.reduceReplicate, Int.reduceEq, Int.reduceLT, Int.reduceLE, Int.reduceAdd, Int.reduceSub, Int.reduceMul, Nat.reduceLT, Int.reduceToNat])))
end Go.Proofs.YtkphojcmjffccaaDoor
/- Numbers in bounds. -/
set_option linter.unusedVariables false
set_option linter.unusedSimpArgs false
set_option maxRecDepth 100000
set_option maxHeartbeats 2000000
namespace Go.Proofs.YtkphojcmjffccaaDoor
open Go.RowKit

/-- a number from 0 to n - 1 -/
def modN (k : Int) (n : Nat) : Nat := (k % (n : Int)).toNat
theorem modN_lt (k : Int) {n : Nat} (h : 0 < n) : modN k n < n := by
  have := Int.emod_lt_of_pos k (show (0 : Int) < n by omega)
  have := Int.emod_nonneg k (show (n : Int) ≠ 0 by omega)
  unfold modN; omega
theorem mod_ok (k : Int) {n : Nat} (h0 : 0 < n) (hn : n ≤ 2 ^ 62) : RC Tryd.prog 12 [.int .i64 k, .int .i64 (n : Nat)] [.int .i64 (modN k n : Nat)] := by
  refine RC.of_wp c12 rfl ?_
  have h1 : ¬ (n : Int) < 1 := by omega
  have h2 : ¬ (n : Int) = 0 := by omega
  have h3 := Int.mul_tdiv_add_tmod k n
  have h4 : k.tmod n < n := Int.tmod_lt_of_pos k (by omega)
  have h5 : -(n : Int) < k.tmod n := Int.lt_tmod_of_pos k (by omega)
  have hw : IntKind.i64.wrap (k.tmod n + n) = k.tmod n + n := by rw [IntKind.wrap_i64]; omega
  have h6 : (k.tmod n + n).tmod n = (modN k n : Nat) := by
    rw [Int.tmod_eq_emod_of_nonneg (by omega), Int.add_emod_right]
    have h7 : k.tmod n = k - n * k.tdiv n := by omega
    have h8 := Int.emod_nonneg k h2
    rw [h7, Int.sub_mul_emod_self_left]
    unfold modN
    omega
  simp -implicitDefEqProofs (maxSteps := 2000000) only [m12_1, m12_2, m12_3, m12_r, m12_b, m12, h1, h2, hw, h6, wk, act, asV, ↓reduceIte, Nat.reduceEqDiff, reduceCtorEq, Nat.reduceAdd, Nat.reduceLeDiff, Nat.reduceSub, Nat.reduceMul, List.reduceReplicate, Int.reduceEq, Int.reduceLT, Int.reduceLE, Int.reduceAdd, Int.reduceSub, Int.reduceMul, Nat.reduceLT, Int.reduceToNat]

end Go.Proofs.YtkphojcmjffccaaDoor
/- Tokens: the statements' own example wakes. -/
set_option linter.unusedVariables false
set_option linter.unusedSimpArgs false
set_option linter.unusedSectionVars false
set_option maxRecDepth 100000
set_option maxHeartbeats 8000000
namespace Go.Proofs.YtkphojcmjffccaaDoor
open Go.RowKit

def cA : Tok := ⟨1, [97, 98], 1, 9, 2, List.replicate 32 0⟩
theorem cA_ok : cA.Ok := ⟨by decide, by decide, by decide, by decide⟩
def tA : Tok := mintT [107] cA
theorem tA_ok : tA.Ok := ⟨by decide +kernel, by decide +kernel, by decide +kernel, by decide +kernel⟩
theorem ward_ok : RC Tryd.prog 13 [] [.agg [.sl .plain 1 [.int .u8 107], .int .i64 1, .int .u32 2, .int .u32 9]] := by
  refine RC.of_wp c13 rfl ?_
  simp -implicitDefEqProofs (maxSteps := 2000000) only [m13_1, m13_r, m13_b, m13, wk, act, asV, ↓reduceIte, Nat.reduceEqDiff, reduceCtorEq, Nat.reduceAdd, Nat.reduceLeDiff, Nat.reduceSub, Nat.reduceMul, List.reduceReplicate, Int.reduceEq, Int.reduceLT, Int.reduceLE, Int.reduceAdd, Int.reduceSub, Int.reduceMul, Nat.reduceLT, Int.reduceToNat]
theorem wardC_lit (f : Fl) (a : UInt8) (p : Int) (g n : Nat) : wardC f [a] p g n = [.sl f 1 [.int .u8 (a.toNat : Int)], .int .i64 p, .int .u32 (g : Nat), .int .u32 (n : Nat)] := rfl

theorem wakesC_ok : RC Tryd.prog 6 [] [.bool true] := by
  refine RC.of_wp c6 rfl ?_
  have c0 := mint_ok .full (by decide) [107] (by decide) cA cA_ok
  have e0 : tokE cA = 0 := by decide
  have e1 : clC cA = [.int .i64 1, .str [97, 98], .int .i64 1, .int .u32 9, .int .u32 2] := rfl
  have e2 : bl [107] = [.int .u8 107] := rfl
  rw [e0, e1, e2] at c0
  have hA : mintT [107] cA = tA := rfl
  rw [hA] at c0
  simp only [List.length_cons, List.length_nil, Nat.reduceAdd] at c0
  have c1 := check_ok .plain (by decide) [107] (by decide) 1 2 9 tA tA_ok [97, 98] 1
  have c2 := check_ok .plain (by decide) [107] (by decide) 1 2 9 tA tA_ok [97, 98] 2
  have c3 := check_ok .plain (by decide) [107] (by decide) 1 2 9 tA tA_ok [98] 1
  have c4 := check_ok .plain (by decide) [107] (by decide) 1 2 10 tA tA_ok [97, 98] 1
  have c5 := check_ok .full (by decide) [106] (by decide) 1 2 9 tA tA_ok [97, 98] 1
  have c6 := check_ok .plain (by decide) [107] (by decide) 1 3 9 tA tA_ok [97, 98] 1
  have r1 : checkE [107] 1 2 9 tA [97, 98] 1 = 0 := by decide +kernel
  have r2 : checkE [107] 1 2 9 tA [97, 98] 2 = 15 := by decide +kernel
  have r3 : checkE [107] 1 2 9 tA [98] 1 = 15 := by decide +kernel
  have r4 : checkE [107] 1 2 10 tA [97, 98] 1 = 13 := by decide +kernel
  have r5 : checkE [106] 1 2 9 tA [97, 98] 1 = 12 := by decide +kernel
  have r6 : checkE [107] 1 3 9 tA [97, 98] 1 = 14 := by decide +kernel
  rw [r1, wardC_lit] at c1
  rw [r2, wardC_lit] at c2
  rw [r3, wardC_lit] at c3
  rw [r4, wardC_lit] at c4
  rw [r5, wardC_lit] at c5
  rw [r6, wardC_lit] at c6
  have u1 : ((107 : UInt8).toNat : Int) = 107 := rfl
  have u2 : ((106 : UInt8).toNat : Int) = 106 := rfl
  have n2 : ((2 : Nat) : Int) = 2 := rfl
  have n3 : ((3 : Nat) : Int) = 3 := rfl
  have n9 : ((9 : Nat) : Int) = 9 := rfl
  have n10 : ((10 : Nat) : Int) = 10 := rfl
  simp only [u1, u2, n2, n3, n9, n10] at c1 c2 c3 c4 c5 c6
  have lA : (tkC tA).length = 37 := tk_len tA_ok.tag
  have tA' := tk_take tA_ok.tag
  have xA := tk_drop tA_ok.tag
  have sA := tk_scal tA
  obtain ⟨A, hAA⟩ : ∃ A, A = tkC tA := ⟨_, rfl⟩
  rw [← hAA] at c0 c1 c2 c3 c4 c5 c6 lA tA' xA sA
  obtain ⟨W, hW⟩ : ∃ W : List IV, W = [.sl .plain 1 [.int .u8 107], .int .i64 1, .int .u32 2, .int .u32 9] := ⟨_, rfl⟩
  have c7 := ward_ok
  rw [← hW] at c7
  have lW : W.length = 4 := by rw [hW]; rfl
  have tW : List.take 4 W = W := List.take_of_length_le (by omega)
  have xW : List.drop 4 W = [] := List.drop_of_length_le (by omega)
  repeat' (first | simp -implicitDefEqProofs (maxSteps := 2000000) only [m6_1, m6_2, m6_3, m6_4, m6_5, m6_6, m6_7, m6_8, m6_9, m6_10, m6_11, m6_12, m6_13, m6_r, m6_b, m6, lA, tA', xA, sA, lW, tW, xW, wk, act, asV, ↓reduceIte, Nat.reduceEqDiff, reduceCtorEq, Nat.reduceAdd, Nat.reduceLeDiff, Nat.reduceSub, Nat.reduceMul, List.reduceReplicate, Int.reduceEq, Int.reduceLT, Int.reduceLE, Int.reduceAdd, Int.reduceSub, Int.reduceMul, Nat.reduceLT, Int.reduceToNat] | ((first | ((with_reducible refine CallL.gate ?_); apply CallL.of) | ((with_reducible refine CallpL.gate ?_); apply CallpL.of) | ((with_reducible refine CallP.gate ?_); apply CallP.of) | ((with_reducible refine CallpP.gate ?_); apply CallpP.of)); (case h1 => (simp -implicitDefEqProofs (maxSteps := 2000000) only [m6_1, m6_2, m6_3, m6_4, m6_5, m6_6, m6_7, m6_8, m6_9, m6_10, m6_11, m6_12, m6_13, m6_r, m6_b, m6, lA, tA', xA, sA, lW, tW, xW, wk, act, asV, ↓reduceIte, Nat.reduceEqDiff, reduceCtorEq, Nat.reduceAdd, Nat.reduceLeDiff, Nat.reduceSub, Nat.reduceMul, List.reduceReplicate, Int.reduceEq, Int.reduceLT, Int.reduceLE, Int.reduceAdd, Int.reduceSub, Int.reduceMul, Nat.reduceLT, Int.reduceToNat]; first | done | (with_reducible rfl))); (case h2 => (first | exact c0 | exact c7)); (case h3 => simp -implicitDefEqProofs (maxSteps := 2000000) only [m6_1, m6_2, m6_3, m6_4, m6_5, m6_6, m6_7, m6_8, m6_9, m6_10, m6_11, m6_12, m6_13, m6_r, m6_b, m6, lA, tA', xA, sA, lW, tW, xW, wk, act, asV, ↓reduceIte, Nat.reduceEqDiff, reduceCtorEq, Nat.reduceAdd, Nat.reduceLeDiff, Nat.reduceSub, Nat.reduceMul, List.reduceReplicate, Int.reduceEq, Int.reduceLT, Int.reduceLE, Int.reduceAdd, Int.reduceSub, Int.reduceMul, Nat.reduceLT, Int.reduceToNat])))
  obtain ⟨Inv, hInv⟩ : ∃ Inv : (Nat → Bool) → St → Prop, Inv = fun L s => (∃ v, s.t 3 = .ptr 3 0 v ∧ s.h 3 = ⟨v, true, true, false, W⟩) ∧ (∃ v, s.t 1 = .ptr 1 0 v ∧ s.h 1 = ⟨v, true, true, false, A⟩) ∧ s.t 2 = .int .i64 0 ∧
    (L 0 = true → s.t 15 = .agg W) ∧ (L 1 = true → s.t 16 = .agg W) ∧ (L 2 = true → s.t 17 = .agg W) ∧
    (L 3 = true → ∃ v c, s.t 4 = .ptr 4 0 v ∧ s.h 4 = ⟨v, true, true, false, c⟩ ∧ c.length = 4 ∧ (L 6 = true → c = W)) ∧
    (L 4 = true → ∃ v c, s.t 5 = .ptr 5 0 v ∧ s.h 5 = ⟨v, true, true, false, c⟩ ∧ c.length = 4 ∧ (L 7 = true → c = W)) ∧
    (L 5 = true → ∃ v c, s.t 6 = .ptr 6 0 v ∧ s.h 6 = ⟨v, true, true, false, c⟩ ∧ c.length = 4 ∧ (L 8 = true → c = W)) ∧
    (L 6 = true → L 3 = true) ∧ (L 7 = true → L 4 = true) ∧ (L 8 = true → L 5 = true) := ⟨_, rfl⟩
  refine Wp_drxI Inv ?_ ?_ ?_
  · rw [hInv]
    refine ⟨⟨_, by simp -implicitDefEqProofs (maxSteps := 2000000) only [wk, act, asV, ↓reduceIte, Nat.reduceEqDiff, reduceCtorEq, Nat.reduceAdd, Nat.reduceLeDiff, Nat.reduceSub, Nat.reduceMul, List.reduceReplicate, Int.reduceEq, Int.reduceLT, Int.reduceLE, Int.reduceAdd, Int.reduceSub, Int.reduceMul, Nat.reduceLT, Int.reduceToNat]; first | done | rfl, by simp -implicitDefEqProofs (maxSteps := 2000000) only [wk, act, asV, ↓reduceIte, Nat.reduceEqDiff, reduceCtorEq, Nat.reduceAdd, Nat.reduceLeDiff, Nat.reduceSub, Nat.reduceMul, List.reduceReplicate, Int.reduceEq, Int.reduceLT, Int.reduceLE, Int.reduceAdd, Int.reduceSub, Int.reduceMul, Nat.reduceLT, Int.reduceToNat]; first | done | rfl⟩, ⟨_, by simp -implicitDefEqProofs (maxSteps := 2000000) only [wk, act, asV, ↓reduceIte, Nat.reduceEqDiff, reduceCtorEq, Nat.reduceAdd, Nat.reduceLeDiff, Nat.reduceSub, Nat.reduceMul, List.reduceReplicate, Int.reduceEq, Int.reduceLT, Int.reduceLE, Int.reduceAdd, Int.reduceSub, Int.reduceMul, Nat.reduceLT, Int.reduceToNat]; first | done | rfl, by simp -implicitDefEqProofs (maxSteps := 2000000) only [wk, act, asV, ↓reduceIte, Nat.reduceEqDiff, reduceCtorEq, Nat.reduceAdd, Nat.reduceLeDiff, Nat.reduceSub, Nat.reduceMul, List.reduceReplicate, Int.reduceEq, Int.reduceLT, Int.reduceLE, Int.reduceAdd, Int.reduceSub, Int.reduceMul, Nat.reduceLT, Int.reduceToNat]; first | done | rfl⟩, by simp -implicitDefEqProofs (maxSteps := 2000000) only [wk, act, asV, ↓reduceIte, Nat.reduceEqDiff, reduceCtorEq, Nat.reduceAdd, Nat.reduceLeDiff, Nat.reduceSub, Nat.reduceMul, List.reduceReplicate, Int.reduceEq, Int.reduceLT, Int.reduceLE, Int.reduceAdd, Int.reduceSub, Int.reduceMul, Nat.reduceLT, Int.reduceToNat], ?_⟩
    simp
  · refine stepsX_cons ?_ (stepsX_cons ?_ (stepsX_cons ?_ (stepsX_cons ?_ (stepsX_cons ?_ (stepsX_cons ?_ (stepsX_cons ?_ (stepsX_cons ?_ (stepsX_cons ?_ stepsX_nil))))))))
    · intro L s hL hp hI
      rw [hInv] at hI
      obtain ⟨⟨v3, k3, kh3⟩, ⟨v1, k1, kh1⟩, k2, f0, f1, f2, f3, f4, f5, g6, g7, g8⟩ := hI
      simp -implicitDefEqProofs (maxSteps := 2000000) only [k3, kh3, lW, tW, wk, act, asV, ↓reduceIte, Nat.reduceEqDiff, reduceCtorEq, Nat.reduceAdd, Nat.reduceLeDiff, Nat.reduceSub, Nat.reduceMul, List.reduceReplicate, Int.reduceEq, Int.reduceLT, Int.reduceLE, Int.reduceAdd, Int.reduceSub, Int.reduceMul, Nat.reduceLT, Int.reduceToNat]
      rw [hInv]
      exact ⟨⟨v3, k3, kh3⟩, ⟨v1, k1, kh1⟩, k2, fun _ => rfl, f1, f2, f3, f4, f5, g6, g7, g8⟩
    · intro L s hL hp hI
      rw [hInv] at hI
      obtain ⟨⟨v3, k3, kh3⟩, ⟨v1, k1, kh1⟩, k2, f0, f1, f2, f3, f4, f5, g6, g7, g8⟩ := hI
      simp -implicitDefEqProofs (maxSteps := 2000000) only [k3, kh3, lW, tW, wk, act, asV, ↓reduceIte, Nat.reduceEqDiff, reduceCtorEq, Nat.reduceAdd, Nat.reduceLeDiff, Nat.reduceSub, Nat.reduceMul, List.reduceReplicate, Int.reduceEq, Int.reduceLT, Int.reduceLE, Int.reduceAdd, Int.reduceSub, Int.reduceMul, Nat.reduceLT, Int.reduceToNat]
      rw [hInv]
      exact ⟨⟨v3, k3, kh3⟩, ⟨v1, k1, kh1⟩, k2, f0, fun _ => rfl, f2, f3, f4, f5, g6, g7, g8⟩
    · intro L s hL hp hI
      rw [hInv] at hI
      obtain ⟨⟨v3, k3, kh3⟩, ⟨v1, k1, kh1⟩, k2, f0, f1, f2, f3, f4, f5, g6, g7, g8⟩ := hI
      simp -implicitDefEqProofs (maxSteps := 2000000) only [k3, kh3, lW, tW, wk, act, asV, ↓reduceIte, Nat.reduceEqDiff, reduceCtorEq, Nat.reduceAdd, Nat.reduceLeDiff, Nat.reduceSub, Nat.reduceMul, List.reduceReplicate, Int.reduceEq, Int.reduceLT, Int.reduceLE, Int.reduceAdd, Int.reduceSub, Int.reduceMul, Nat.reduceLT, Int.reduceToNat]
      rw [hInv]
      exact ⟨⟨v3, k3, kh3⟩, ⟨v1, k1, kh1⟩, k2, f0, f1, fun _ => rfl, f3, f4, f5, g6, g7, g8⟩
    · intro L s hL hp hI
      rw [hInv] at hI
      obtain ⟨⟨v3, k3, kh3⟩, ⟨v1, k1, kh1⟩, k2, f0, f1, f2, f3, f4, f5, g6, g7, g8⟩ := hI
      simp -implicitDefEqProofs (maxSteps := 2000000) only [wk, act, asV, ↓reduceIte, Nat.reduceEqDiff, reduceCtorEq, Nat.reduceAdd, Nat.reduceLeDiff, Nat.reduceSub, Nat.reduceMul, List.reduceReplicate, Int.reduceEq, Int.reduceLT, Int.reduceLE, Int.reduceAdd, Int.reduceSub, Int.reduceMul, Nat.reduceLT, Int.reduceToNat]
      rw [hInv]
      exact ⟨⟨v3, k3, kh3⟩, ⟨v1, k1, kh1⟩, k2, f0, f1, f2, fun _ => ⟨_, _, rfl, rfl, rfl, fun h => absurd (g6 h) (by rw [hL]; decide)⟩, f4, f5, fun _ => rfl, g7, g8⟩
    · intro L s hL hp hI
      rw [hInv] at hI
      obtain ⟨⟨v3, k3, kh3⟩, ⟨v1, k1, kh1⟩, k2, f0, f1, f2, f3, f4, f5, g6, g7, g8⟩ := hI
      simp -implicitDefEqProofs (maxSteps := 2000000) only [wk, act, asV, ↓reduceIte, Nat.reduceEqDiff, reduceCtorEq, Nat.reduceAdd, Nat.reduceLeDiff, Nat.reduceSub, Nat.reduceMul, List.reduceReplicate, Int.reduceEq, Int.reduceLT, Int.reduceLE, Int.reduceAdd, Int.reduceSub, Int.reduceMul, Nat.reduceLT, Int.reduceToNat]
      rw [hInv]
      exact ⟨⟨v3, k3, kh3⟩, ⟨v1, k1, kh1⟩, k2, f0, f1, f2, f3, fun _ => ⟨_, _, rfl, rfl, rfl, fun h => absurd (g7 h) (by rw [hL]; decide)⟩, f5, g6, fun _ => rfl, g8⟩
    · intro L s hL hp hI
      rw [hInv] at hI
      obtain ⟨⟨v3, k3, kh3⟩, ⟨v1, k1, kh1⟩, k2, f0, f1, f2, f3, f4, f5, g6, g7, g8⟩ := hI
      simp -implicitDefEqProofs (maxSteps := 2000000) only [wk, act, asV, ↓reduceIte, Nat.reduceEqDiff, reduceCtorEq, Nat.reduceAdd, Nat.reduceLeDiff, Nat.reduceSub, Nat.reduceMul, List.reduceReplicate, Int.reduceEq, Int.reduceLT, Int.reduceLE, Int.reduceAdd, Int.reduceSub, Int.reduceMul, Nat.reduceLT, Int.reduceToNat]
      rw [hInv]
      exact ⟨⟨v3, k3, kh3⟩, ⟨v1, k1, kh1⟩, k2, f0, f1, f2, f3, f4, fun _ => ⟨_, _, rfl, rfl, rfl, fun h => absurd (g8 h) (by rw [hL]; decide)⟩, g6, g7, fun _ => rfl⟩
    · intro L s hL hp hI
      rw [hInv] at hI
      obtain ⟨⟨v3, k3, kh3⟩, ⟨v1, k1, kh1⟩, k2, f0, f1, f2, f3, f4, f5, g6, g7, g8⟩ := hI
      have p := hp 3 (by simp)
      obtain ⟨v4, c, q4, qh4, ql, _⟩ := f3 p
      have k15 := f0 (hp 0 (by simp))
      have xc : List.drop 4 c = [] := List.drop_of_length_le (by omega)
      simp -implicitDefEqProofs (maxSteps := 2000000) only [q4, qh4, k15, lW, tW, ql, xc, wk, act, asV, ↓reduceIte, Nat.reduceEqDiff, reduceCtorEq, Nat.reduceAdd, Nat.reduceLeDiff, Nat.reduceSub, Nat.reduceMul, List.reduceReplicate, Int.reduceEq, Int.reduceLT, Int.reduceLE, Int.reduceAdd, Int.reduceSub, Int.reduceMul, Nat.reduceLT, Int.reduceToNat]
      rw [hInv]
      exact ⟨⟨v3, k3, kh3⟩, ⟨v1, k1, kh1⟩, k2, f0, f1, f2, fun _ => ⟨v4, W, q4, rfl, lW, fun _ => rfl⟩, f4, f5, fun _ => p, g7, g8⟩
    · intro L s hL hp hI
      rw [hInv] at hI
      obtain ⟨⟨v3, k3, kh3⟩, ⟨v1, k1, kh1⟩, k2, f0, f1, f2, f3, f4, f5, g6, g7, g8⟩ := hI
      have p := hp 4 (by simp)
      obtain ⟨v4, c, q4, qh4, ql, _⟩ := f4 p
      have k15 := f1 (hp 1 (by simp))
      have xc : List.drop 4 c = [] := List.drop_of_length_le (by omega)
      simp -implicitDefEqProofs (maxSteps := 2000000) only [q4, qh4, k15, lW, tW, ql, xc, wk, act, asV, ↓reduceIte, Nat.reduceEqDiff, reduceCtorEq, Nat.reduceAdd, Nat.reduceLeDiff, Nat.reduceSub, Nat.reduceMul, List.reduceReplicate, Int.reduceEq, Int.reduceLT, Int.reduceLE, Int.reduceAdd, Int.reduceSub, Int.reduceMul, Nat.reduceLT, Int.reduceToNat]
      rw [hInv]
      exact ⟨⟨v3, k3, kh3⟩, ⟨v1, k1, kh1⟩, k2, f0, f1, f2, f3, fun _ => ⟨v4, W, q4, rfl, lW, fun _ => rfl⟩, f5, g6, fun _ => p, g8⟩
    · intro L s hL hp hI
      rw [hInv] at hI
      obtain ⟨⟨v3, k3, kh3⟩, ⟨v1, k1, kh1⟩, k2, f0, f1, f2, f3, f4, f5, g6, g7, g8⟩ := hI
      have p := hp 5 (by simp)
      obtain ⟨v4, c, q4, qh4, ql, _⟩ := f5 p
      have k15 := f2 (hp 2 (by simp))
      have xc : List.drop 4 c = [] := List.drop_of_length_le (by omega)
      simp -implicitDefEqProofs (maxSteps := 2000000) only [q4, qh4, k15, lW, tW, ql, xc, wk, act, asV, ↓reduceIte, Nat.reduceEqDiff, reduceCtorEq, Nat.reduceAdd, Nat.reduceLeDiff, Nat.reduceSub, Nat.reduceMul, List.reduceReplicate, Int.reduceEq, Int.reduceLT, Int.reduceLE, Int.reduceAdd, Int.reduceSub, Int.reduceMul, Nat.reduceLT, Int.reduceToNat]
      rw [hInv]
      exact ⟨⟨v3, k3, kh3⟩, ⟨v1, k1, kh1⟩, k2, f0, f1, f2, f3, f4, fun _ => ⟨v4, W, q4, rfl, lW, fun _ => rfl⟩, g6, g7, fun _ => p⟩
  · intro s hI
    rw [hInv] at hI
    obtain ⟨⟨v3, k3, kh3⟩, ⟨v1, k1, kh1⟩, k2, f0, f1, f2, f3, f4, f5, g6, g7, g8⟩ := hI
    obtain ⟨v4, c4', q4, qh4, _, e4⟩ := f3 (by decide)
    obtain ⟨v5, c5', q5, qh5, _, e5⟩ := f4 (by decide)
    obtain ⟨v6, c6', q6, qh6, _, e6⟩ := f5 (by decide)
    obtain rfl := e4 (by decide)
    obtain rfl := e5 (by decide)
    obtain rfl := e6 (by decide)
    rw [hW] at kh3 qh4 qh5 qh6
    repeat' (first | simp -implicitDefEqProofs (maxSteps := 2000000) only [k3, kh3, k1, kh1, k2, q4, qh4, q5, qh5, q6, qh6, lA, tA', xA, sA, wk, act, asV, ↓reduceIte, Nat.reduceEqDiff, reduceCtorEq, Nat.reduceAdd, Nat.reduceLeDiff, Nat.reduceSub, Nat.reduceMul, List.reduceReplicate, Int.reduceEq, Int.reduceLT, Int.reduceLE, Int.reduceAdd, Int.reduceSub, Int.reduceMul, Nat.reduceLT, Int.reduceToNat] | ((first | ((with_reducible refine CallL.gate ?_); apply CallL.of) | ((with_reducible refine CallpL.gate ?_); apply CallpL.of) | ((with_reducible refine CallP.gate ?_); apply CallP.of) | ((with_reducible refine CallpP.gate ?_); apply CallpP.of)); (case h1 => (simp -implicitDefEqProofs (maxSteps := 2000000) only [k3, kh3, k1, kh1, k2, q4, qh4, q5, qh5, q6, qh6, lA, tA', xA, sA, wk, act, asV, ↓reduceIte, Nat.reduceEqDiff, reduceCtorEq, Nat.reduceAdd, Nat.reduceLeDiff, Nat.reduceSub, Nat.reduceMul, List.reduceReplicate, Int.reduceEq, Int.reduceLT, Int.reduceLE, Int.reduceAdd, Int.reduceSub, Int.reduceMul, Nat.reduceLT, Int.reduceToNat]; first | done | (with_reducible rfl))); (case h2 => (first | exact c1 | exact c2 | exact c3 | exact c4 | exact c5 | exact c6)); (case h3 => simp -implicitDefEqProofs (maxSteps := 2000000) only [k3, kh3, k1, kh1, k2, q4, qh4, q5, qh5, q6, qh6, lA, tA', xA, sA, wk, act, asV, ↓reduceIte, Nat.reduceEqDiff, reduceCtorEq, Nat.reduceAdd, Nat.reduceLeDiff, Nat.reduceSub, Nat.reduceMul, List.reduceReplicate, Int.reduceEq, Int.reduceLT, Int.reduceLE, Int.reduceAdd, Int.reduceSub, Int.reduceMul, Nat.reduceLT, Int.reduceToNat])))
end Go.Proofs.YtkphojcmjffccaaDoor
