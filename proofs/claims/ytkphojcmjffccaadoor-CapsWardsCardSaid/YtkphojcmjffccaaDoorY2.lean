/- The token of a claim. -/
import Derived.Test.YtkphojcmjffccaaDoorH3
import Derived.Test.YtkphojcmjffccaaDoorK5
import Derived.Test.YtkphojcmjffccaaDoorT7
import Derived.Test.YtkphojcmjffccaaDoorE31
import Derived.Test.YtkphojcmjffccaaDoorM15
set_option linter.unusedVariables false
set_option linter.unusedSimpArgs false
set_option linter.unusedSectionVars false
set_option maxRecDepth 100000
set_option maxHeartbeats 8000000
namespace Go.Proofs.YtkphojcmjffccaaDoor
open Go.RowKit

/-- a claim's token by a key -/
def mintT (k : List UInt8) (t : Tok) : Tok := if okC t = true then { t with tag := macB k (claimB t) } else zT
theorem clC_tag (t : Tok) (g : List UInt8) : clC { t with tag := g } = clC t := rfl
theorem mint_ok (f : Fl) (hf : ¬ f = .lit) (k : List UInt8) (hk : k.length ≤ 2 ^ 39) (t : Tok) (ht : t.Ok) :
    RC Tryd.prog 7 [.sl f k.length (bl k), .agg (clC t)] [.agg (tkC (mintT k t)), .int .i64 (tokE t)] := by
  refine RC.of_wp c7 rfl ?_
  have c1 := claim_ok t ht
  by_cases hc : okC t = true
  · have e1 : claimR t = claimB t := if_pos hc
    have e2 : tokE t = 0 := if_pos hc
    have e3 : mintT k t = { t with tag := macB k (claimB t) } := if_pos hc
    have hl := claimB_length t
    have c2 := mac_ok f .full hf (by decide) k [(.plain, claimB t)] hk (by simp) (by rw [one_part]; omega)
    have ep : pl [(Fl.plain, claimB t)] = [.sl .plain (claimB t).length (bl (claimB t))] := rfl
    rw [one_part, ep, List.length_cons, List.length_nil, hl] at c2
    rw [e1, e2, hl] at c1
    rw [e2, e3]
    have dM := macB_length k (claimB t)
    rw [tkC, clC_tag]
    dsimp only
    obtain ⟨M, hM⟩ : ∃ M, M = macB k (claimB t) := ⟨_, rfl⟩
    rw [← hM] at c2 dM ⊢
    obtain ⟨w, hw⟩ : ∃ w, w = claimB t := ⟨_, rfl⟩
    rw [← hw] at c1 c2 hl
    have lM : (bl M).length = 32 := by rw [bl_length, dM]
    have tM : List.take 32 (bl M) = bl M := List.take_of_length_le (by omega)
    have tw : List.take 14 (bl w) = bl w := List.take_of_length_le (by rw [bl_length, hl]; exact Nat.le_refl _)
    have lw : (bl w).length = 14 := by rw [bl_length, hl]
    simp only [clC] at c1 ⊢
    repeat' (first | simp -implicitDefEqProofs (maxSteps := 2000000) only [m7_1, m7_2, m7_3, m7_4, m7_5, m7_6, m7_r, m7_b, m7, hf, lM, tM, tw, lw, bl_scal, bl_pur, wk, act, asV, ↓reduceIte, Nat.reduceEqDiff, reduceCtorEq, Nat.reduceAdd, Nat.reduceLeDiff, Nat.reduceSub, Nat.reduceMul, List.reduceReplicate, Int.reduceEq, Int.reduceLT, Int.reduceLE, Int.reduceAdd, Int.reduceSub, Int.reduceMul, Nat.reduceLT, Int.reduceToNat] | ((first | ((with_reducible refine CallL.gate ?_); apply CallL.of) | ((with_reducible refine CallpL.gate ?_); apply CallpL.of) | ((with_reducible refine CallP.gate ?_); apply CallP.of) | ((with_reducible refine CallpP.gate ?_); apply CallpP.of)); (case h1 => (simp -implicitDefEqProofs (maxSteps := 2000000) only [m7_1, m7_2, m7_3, m7_4, m7_5, m7_6, m7_r, m7_b, m7, hf, lM, tM, tw, lw, bl_scal, bl_pur, wk, act, asV, ↓reduceIte, Nat.reduceEqDiff, reduceCtorEq, Nat.reduceAdd, Nat.reduceLeDiff, Nat.reduceSub, Nat.reduceMul, List.reduceReplicate, Int.reduceEq, Int.reduceLT, Int.reduceLE, Int.reduceAdd, Int.reduceSub, Int.reduceMul, Nat.reduceLT, Int.reduceToNat]; first | done | (with_reducible rfl))); (case h2 => (first | exact c1 | exact c2)); (case h3 => simp -implicitDefEqProofs (maxSteps := 2000000) only [m7_1, m7_2, m7_3, m7_4, m7_5, m7_6, m7_r, m7_b, m7, hf, lM, tM, tw, lw, bl_scal, bl_pur, wk, act, asV, ↓reduceIte, Nat.reduceEqDiff, reduceCtorEq, Nat.reduceAdd, Nat.reduceLeDiff, Nat.reduceSub, Nat.reduceMul, List.reduceReplicate, Int.reduceEq, Int.reduceLT, Int.reduceLE, Int.reduceAdd, Int.reduceSub, Int.reduceMul, Nat.reduceLT, Int.reduceToNat])))
    all_goals trace_state
  · have e1 : claimR t = [] := if_neg hc
    have e2 : tokE t = 11 := if_neg hc
    have e3 : mintT k t = zT := if_neg hc
    rw [e1, e2] at c1
    rw [e2, e3]
    have zc := zT_cells
    simp only [clC] at c1 ⊢
    repeat' (first | simp -implicitDefEqProofs (maxSteps := 2000000) only [m7_1, m7_2, m7_3, m7_4, m7_5, m7_6, m7_r, m7_b, m7, hf, zc, bl_scal, bl_pur, wk, act, asV, ↓reduceIte, Nat.reduceEqDiff, reduceCtorEq, Nat.reduceAdd, Nat.reduceLeDiff, Nat.reduceSub, Nat.reduceMul, List.reduceReplicate, Int.reduceEq, Int.reduceLT, Int.reduceLE, Int.reduceAdd, Int.reduceSub, Int.reduceMul, Nat.reduceLT, Int.reduceToNat] | ((first | ((with_reducible refine CallL.gate ?_); apply CallL.of) | ((with_reducible refine CallpL.gate ?_); apply CallpL.of) | ((with_reducible refine CallP.gate ?_); apply CallP.of) | ((with_reducible refine CallpP.gate ?_); apply CallpP.of)); (case h1 => (simp -implicitDefEqProofs (maxSteps := 2000000) only [m7_1, m7_2, m7_3, m7_4, m7_5, m7_6, m7_r, m7_b, m7, hf, zc, bl_scal, bl_pur, wk, act, asV, ↓reduceIte, Nat.reduceEqDiff, reduceCtorEq, Nat.reduceAdd, Nat.reduceLeDiff, Nat.reduceSub, Nat.reduceMul, List.reduceReplicate, Int.reduceEq, Int.reduceLT, Int.reduceLE, Int.reduceAdd, Int.reduceSub, Int.reduceMul, Nat.reduceLT, Int.reduceToNat]; first | done | (with_reducible rfl))); (case h2 => (first | exact c1)); (case h3 => simp -implicitDefEqProofs (maxSteps := 2000000) only [m7_1, m7_2, m7_3, m7_4, m7_5, m7_6, m7_r, m7_b, m7, hf, zc, bl_scal, bl_pur, wk, act, asV, ↓reduceIte, Nat.reduceEqDiff, reduceCtorEq, Nat.reduceAdd, Nat.reduceLeDiff, Nat.reduceSub, Nat.reduceMul, List.reduceReplicate, Int.reduceEq, Int.reduceLT, Int.reduceLE, Int.reduceAdd, Int.reduceSub, Int.reduceMul, Nat.reduceLT, Int.reduceToNat])))
    all_goals trace_state
theorem mintR_ok (f : Fl) (hf : ¬ f = .lit) (k : List UInt8) (hk : k.length ≤ 2 ^ 39) (t : Tok) (ht : t.Ok) :
    RC Tryd.prog 8 [.sl f k.length (bl k), .agg (clC t)] [.agg (tkC (mintT k t)), .int .i64 (tokE t)] := by
  refine RC.of_wp c8 rfl ?_
  have c1 := rclaim_ok t ht
  by_cases hc : okC t = true
  · have e1 : claimR t = claimB t := if_pos hc
    have e2 : tokE t = 0 := if_pos hc
    have e3 : mintT k t = { t with tag := macB k (claimB t) } := if_pos hc
    have hl := claimB_length t
    have c2 := macR_ok f .full hf (by decide) k [(.plain, claimB t)] hk (by simp) (by rw [one_part]; omega)
    have ep : pl [(Fl.plain, claimB t)] = [.sl .plain (claimB t).length (bl (claimB t))] := rfl
    rw [one_part, ep, List.length_cons, List.length_nil, hl] at c2
    rw [e1, e2, hl] at c1
    rw [e2, e3]
    have dM := macB_length k (claimB t)
    rw [tkC, clC_tag]
    dsimp only
    obtain ⟨M, hM⟩ : ∃ M, M = macB k (claimB t) := ⟨_, rfl⟩
    rw [← hM] at c2 dM ⊢
    obtain ⟨w, hw⟩ : ∃ w, w = claimB t := ⟨_, rfl⟩
    rw [← hw] at c1 c2 hl
    have lM : (bl M).length = 32 := by rw [bl_length, dM]
    have tM : List.take 32 (bl M) = bl M := List.take_of_length_le (by omega)
    have tw : List.take 14 (bl w) = bl w := List.take_of_length_le (by rw [bl_length, hl]; exact Nat.le_refl _)
    have lw : (bl w).length = 14 := by rw [bl_length, hl]
    simp only [clC] at c1 ⊢
    repeat' (first | simp -implicitDefEqProofs (maxSteps := 2000000) only [m8_1, m8_2, m8_3, m8_4, m8_5, m8_6, m8_r, m8_b, m8, hf, lM, tM, tw, lw, bl_scal, bl_pur, wk, act, asV, ↓reduceIte, Nat.reduceEqDiff, reduceCtorEq, Nat.reduceAdd, Nat.reduceLeDiff, Nat.reduceSub, Nat.reduceMul, List.reduceReplicate, Int.reduceEq, Int.reduceLT, Int.reduceLE, Int.reduceAdd, Int.reduceSub, Int.reduceMul, Nat.reduceLT, Int.reduceToNat] | ((first | ((with_reducible refine CallL.gate ?_); apply CallL.of) | ((with_reducible refine CallpL.gate ?_); apply CallpL.of) | ((with_reducible refine CallP.gate ?_); apply CallP.of) | ((with_reducible refine CallpP.gate ?_); apply CallpP.of)); (case h1 => (simp -implicitDefEqProofs (maxSteps := 2000000) only [m8_1, m8_2, m8_3, m8_4, m8_5, m8_6, m8_r, m8_b, m8, hf, lM, tM, tw, lw, bl_scal, bl_pur, wk, act, asV, ↓reduceIte, Nat.reduceEqDiff, reduceCtorEq, Nat.reduceAdd, Nat.reduceLeDiff, Nat.reduceSub, Nat.reduceMul, List.reduceReplicate, Int.reduceEq, Int.reduceLT, Int.reduceLE, Int.reduceAdd, Int.reduceSub, Int.reduceMul, Nat.reduceLT, Int.reduceToNat]; first | done | (with_reducible rfl))); (case h2 => (first | exact c1 | exact c2)); (case h3 => simp -implicitDefEqProofs (maxSteps := 2000000) only [m8_1, m8_2, m8_3, m8_4, m8_5, m8_6, m8_r, m8_b, m8, hf, lM, tM, tw, lw, bl_scal, bl_pur, wk, act, asV, ↓reduceIte, Nat.reduceEqDiff, reduceCtorEq, Nat.reduceAdd, Nat.reduceLeDiff, Nat.reduceSub, Nat.reduceMul, List.reduceReplicate, Int.reduceEq, Int.reduceLT, Int.reduceLE, Int.reduceAdd, Int.reduceSub, Int.reduceMul, Nat.reduceLT, Int.reduceToNat])))
    all_goals trace_state
  · have e1 : claimR t = [] := if_neg hc
    have e2 : tokE t = 11 := if_neg hc
    have e3 : mintT k t = zT := if_neg hc
    rw [e1, e2] at c1
    rw [e2, e3]
    have zc := zT_cells
    simp only [clC] at c1 ⊢
    repeat' (first | simp -implicitDefEqProofs (maxSteps := 2000000) only [m8_1, m8_2, m8_3, m8_4, m8_5, m8_6, m8_r, m8_b, m8, hf, zc, bl_scal, bl_pur, wk, act, asV, ↓reduceIte, Nat.reduceEqDiff, reduceCtorEq, Nat.reduceAdd, Nat.reduceLeDiff, Nat.reduceSub, Nat.reduceMul, List.reduceReplicate, Int.reduceEq, Int.reduceLT, Int.reduceLE, Int.reduceAdd, Int.reduceSub, Int.reduceMul, Nat.reduceLT, Int.reduceToNat] | ((first | ((with_reducible refine CallL.gate ?_); apply CallL.of) | ((with_reducible refine CallpL.gate ?_); apply CallpL.of) | ((with_reducible refine CallP.gate ?_); apply CallP.of) | ((with_reducible refine CallpP.gate ?_); apply CallpP.of)); (case h1 => (simp -implicitDefEqProofs (maxSteps := 2000000) only [m8_1, m8_2, m8_3, m8_4, m8_5, m8_6, m8_r, m8_b, m8, hf, zc, bl_scal, bl_pur, wk, act, asV, ↓reduceIte, Nat.reduceEqDiff, reduceCtorEq, Nat.reduceAdd, Nat.reduceLeDiff, Nat.reduceSub, Nat.reduceMul, List.reduceReplicate, Int.reduceEq, Int.reduceLT, Int.reduceLE, Int.reduceAdd, Int.reduceSub, Int.reduceMul, Nat.reduceLT, Int.reduceToNat]; first | done | (with_reducible rfl))); (case h2 => (first | exact c1)); (case h3 => simp -implicitDefEqProofs (maxSteps := 2000000) only [m8_1, m8_2, m8_3, m8_4, m8_5, m8_6, m8_r, m8_b, m8, hf, zc, bl_scal, bl_pur, wk, act, asV, ↓reduceIte, Nat.reduceEqDiff, reduceCtorEq, Nat.reduceAdd, Nat.reduceLeDiff, Nat.reduceSub, Nat.reduceMul, List.reduceReplicate, Int.reduceEq, Int.reduceLT, Int.reduceLE, Int.reduceAdd, Int.reduceSub, Int.reduceMul, Nat.reduceLT, Int.reduceToNat])))
    all_goals trace_state
end Go.Proofs.YtkphojcmjffccaaDoor
/- What a token may. -/
set_option linter.unusedVariables false
set_option linter.unusedSimpArgs false
set_option linter.unusedSectionVars false
set_option maxRecDepth 100000
set_option maxHeartbeats 8000000
namespace Go.Proofs.YtkphojcmjffccaaDoor
open Go.RowKit

def andI (x y : Int) : Int := IntKind.i64.wrap ((BitVec.ofInt 64 x &&& BitVec.ofInt 64 y).toNat : Int)
theorem bits_and (x y : Int) : bitsI .and .i64 x y = some (andI x y) := rfl
/-- what a token may, by a ward -/
def checkE (k : List UInt8) (place : Int) (gen tick : Nat) (t : Tok) (name : List UInt8) (right : Int) : Int :=
  if okC t = true ∧ t.place = place ∧ macB k (claimB t) = t.tag then
    if t.gen = gen then if t.til < tick then 13 else if (¬ t.name = [] ∧ ¬ t.name = name) ∨ ¬ andI t.rights right = right then 15 else 0
    else 14
  else 12
def wardC (f : Fl) (k : List UInt8) (place : Int) (gen tick : Nat) : List IV := [.sl f k.length (bl k), .int .i64 place, .int .u32 (gen : Nat), .int .u32 (tick : Nat)]

theorem check_ok (f : Fl) (hf : ¬ f = .lit) (k : List UInt8) (hk : k.length ≤ 2 ^ 39) (place : Int) (gen tick : Nat) (t : Tok) (ht : t.Ok) (name : List UInt8) (right : Int) :
    RC Tryd.prog 9 [.agg (wardC f k place gen tick), .agg (tkC t), .str name, .int .i64 right] [.int .i64 (checkE k place gen tick t name right)] := by
  refine RC.of_wp c9 rfl ?_
  have c1 := mint_ok f hf k hk t ht
  have hg := ht.tag
  have lG : (bl t.tag).length = 32 := by rw [bl_length, hg]
  have tG : List.take 32 (bl t.tag) = bl t.tag := List.take_of_length_le (by omega)
  have xG : List.drop 32 (bl t.tag) = [] := List.drop_of_length_le (by omega)
  by_cases hc : okC t = true
  · have e2 : tokE t = 0 := if_pos hc
    have e3 : tkC (mintT k t) = clC t ++ bl (macB k (claimB t)) := by rw [show mintT k t = { t with tag := macB k (claimB t) } from if_pos hc]; rfl
    rw [e2, e3] at c1
    have dM := macB_length k (claimB t)
    have c2 := same_ok .plain .plain (macB k (claimB t)) t.tag (by omega) (by omega)
    rw [dM, hg] at c2
    unfold checkE
    obtain ⟨M, hM⟩ : ∃ M, M = macB k (claimB t) := ⟨_, rfl⟩
    rw [← hM] at c1 c2 dM ⊢
    have lM : (bl M).length = 32 := by rw [bl_length, dM]
    have tM : List.take 32 (bl M) = bl M := List.take_of_length_le (by omega)
    have xM : List.drop 32 (bl M) = [] := List.drop_of_length_le (by omega)
    simp only [tkC, clC, wardC] at c1 ⊢
    by_cases hp0 : t.place = place
    · have hp := eq_true hp0
      by_cases hm : M = t.tag
      · rw [decide_eq_true hm] at c2
        by_cases hge0 : t.gen = gen
        · have hge := eq_true (show ((t.gen : Nat) : Int) = ((gen : Nat) : Int) by omega)
          by_cases hti : t.til < tick
          · have hti' : ((t.til : Nat) : Int) < ((tick : Nat) : Int) := by omega
            rw [if_pos ⟨hc, hp0, hm⟩, if_pos hge0, if_pos hti]
            repeat' (first | simp -implicitDefEqProofs (maxSteps := 2000000) only [m9_1, m9_2, m9_3, m9_4, m9_5, m9_6, m9_7, m9_8, m9_9, m9_10, m9_r, m9_b, m9, hp, hge, hti', lG, tG, xG, lM, tM, xM, bl_scal, bl_pur, wk, act, asV, ↓reduceIte, Nat.reduceEqDiff, reduceCtorEq, Nat.reduceAdd, Nat.reduceLeDiff, Nat.reduceSub, Nat.reduceMul, List.reduceReplicate, Int.reduceEq, Int.reduceLT, Int.reduceLE, Int.reduceAdd, Int.reduceSub, Int.reduceMul, Nat.reduceLT, Int.reduceToNat] | ((first | ((with_reducible refine CallL.gate ?_); apply CallL.of) | ((with_reducible refine CallpL.gate ?_); apply CallpL.of) | ((with_reducible refine CallP.gate ?_); apply CallP.of) | ((with_reducible refine CallpP.gate ?_); apply CallpP.of)); (case h1 => (simp -implicitDefEqProofs (maxSteps := 2000000) only [m9_1, m9_2, m9_3, m9_4, m9_5, m9_6, m9_7, m9_8, m9_9, m9_10, m9_r, m9_b, m9, hp, hge, hti', lG, tG, xG, lM, tM, xM, bl_scal, bl_pur, wk, act, asV, ↓reduceIte, Nat.reduceEqDiff, reduceCtorEq, Nat.reduceAdd, Nat.reduceLeDiff, Nat.reduceSub, Nat.reduceMul, List.reduceReplicate, Int.reduceEq, Int.reduceLT, Int.reduceLE, Int.reduceAdd, Int.reduceSub, Int.reduceMul, Nat.reduceLT, Int.reduceToNat]; first | done | (with_reducible rfl))); (case h2 => (first | exact c1 | exact c2)); (case h3 => simp -implicitDefEqProofs (maxSteps := 2000000) only [m9_1, m9_2, m9_3, m9_4, m9_5, m9_6, m9_7, m9_8, m9_9, m9_10, m9_r, m9_b, m9, hp, hge, hti', lG, tG, xG, lM, tM, xM, bl_scal, bl_pur, wk, act, asV, ↓reduceIte, Nat.reduceEqDiff, reduceCtorEq, Nat.reduceAdd, Nat.reduceLeDiff, Nat.reduceSub, Nat.reduceMul, List.reduceReplicate, Int.reduceEq, Int.reduceLT, Int.reduceLE, Int.reduceAdd, Int.reduceSub, Int.reduceMul, Nat.reduceLT, Int.reduceToNat])))
          · have hti' : ¬ ((t.til : Nat) : Int) < ((tick : Nat) : Int) := by omega
            rw [if_pos ⟨hc, hp0, hm⟩, if_pos hge0, if_neg hti]
            have ba := bits_and t.rights right
            by_cases n10 : t.name = []
            · have n1 := eq_true n10
              by_cases hr0 : andI t.rights right = right
              · have hr := eq_true hr0
                rw [if_neg (by rintro (⟨h, _⟩ | h) <;> exact h (by assumption))]
                repeat' (first | simp -implicitDefEqProofs (maxSteps := 2000000) only [m9_1, m9_2, m9_3, m9_4, m9_5, m9_6, m9_7, m9_8, m9_9, m9_10, m9_r, m9_b, m9, hp, hge, hti', n1, ba, hr, lG, tG, xG, lM, tM, xM, bl_scal, bl_pur, wk, act, asV, ↓reduceIte, Nat.reduceEqDiff, reduceCtorEq, Nat.reduceAdd, Nat.reduceLeDiff, Nat.reduceSub, Nat.reduceMul, List.reduceReplicate, Int.reduceEq, Int.reduceLT, Int.reduceLE, Int.reduceAdd, Int.reduceSub, Int.reduceMul, Nat.reduceLT, Int.reduceToNat] | ((first | ((with_reducible refine CallL.gate ?_); apply CallL.of) | ((with_reducible refine CallpL.gate ?_); apply CallpL.of) | ((with_reducible refine CallP.gate ?_); apply CallP.of) | ((with_reducible refine CallpP.gate ?_); apply CallpP.of)); (case h1 => (simp -implicitDefEqProofs (maxSteps := 2000000) only [m9_1, m9_2, m9_3, m9_4, m9_5, m9_6, m9_7, m9_8, m9_9, m9_10, m9_r, m9_b, m9, hp, hge, hti', n1, ba, hr, lG, tG, xG, lM, tM, xM, bl_scal, bl_pur, wk, act, asV, ↓reduceIte, Nat.reduceEqDiff, reduceCtorEq, Nat.reduceAdd, Nat.reduceLeDiff, Nat.reduceSub, Nat.reduceMul, List.reduceReplicate, Int.reduceEq, Int.reduceLT, Int.reduceLE, Int.reduceAdd, Int.reduceSub, Int.reduceMul, Nat.reduceLT, Int.reduceToNat]; first | done | (with_reducible rfl))); (case h2 => (first | exact c1 | exact c2)); (case h3 => simp -implicitDefEqProofs (maxSteps := 2000000) only [m9_1, m9_2, m9_3, m9_4, m9_5, m9_6, m9_7, m9_8, m9_9, m9_10, m9_r, m9_b, m9, hp, hge, hti', n1, ba, hr, lG, tG, xG, lM, tM, xM, bl_scal, bl_pur, wk, act, asV, ↓reduceIte, Nat.reduceEqDiff, reduceCtorEq, Nat.reduceAdd, Nat.reduceLeDiff, Nat.reduceSub, Nat.reduceMul, List.reduceReplicate, Int.reduceEq, Int.reduceLT, Int.reduceLE, Int.reduceAdd, Int.reduceSub, Int.reduceMul, Nat.reduceLT, Int.reduceToNat])))
              · have hr := hr0
                rw [if_pos (.inr hr)]
                repeat' (first | simp -implicitDefEqProofs (maxSteps := 2000000) only [m9_1, m9_2, m9_3, m9_4, m9_5, m9_6, m9_7, m9_8, m9_9, m9_10, m9_r, m9_b, m9, hp, hge, hti', n1, ba, hr, lG, tG, xG, lM, tM, xM, bl_scal, bl_pur, wk, act, asV, ↓reduceIte, Nat.reduceEqDiff, reduceCtorEq, Nat.reduceAdd, Nat.reduceLeDiff, Nat.reduceSub, Nat.reduceMul, List.reduceReplicate, Int.reduceEq, Int.reduceLT, Int.reduceLE, Int.reduceAdd, Int.reduceSub, Int.reduceMul, Nat.reduceLT, Int.reduceToNat] | ((first | ((with_reducible refine CallL.gate ?_); apply CallL.of) | ((with_reducible refine CallpL.gate ?_); apply CallpL.of) | ((with_reducible refine CallP.gate ?_); apply CallP.of) | ((with_reducible refine CallpP.gate ?_); apply CallpP.of)); (case h1 => (simp -implicitDefEqProofs (maxSteps := 2000000) only [m9_1, m9_2, m9_3, m9_4, m9_5, m9_6, m9_7, m9_8, m9_9, m9_10, m9_r, m9_b, m9, hp, hge, hti', n1, ba, hr, lG, tG, xG, lM, tM, xM, bl_scal, bl_pur, wk, act, asV, ↓reduceIte, Nat.reduceEqDiff, reduceCtorEq, Nat.reduceAdd, Nat.reduceLeDiff, Nat.reduceSub, Nat.reduceMul, List.reduceReplicate, Int.reduceEq, Int.reduceLT, Int.reduceLE, Int.reduceAdd, Int.reduceSub, Int.reduceMul, Nat.reduceLT, Int.reduceToNat]; first | done | (with_reducible rfl))); (case h2 => (first | exact c1 | exact c2)); (case h3 => simp -implicitDefEqProofs (maxSteps := 2000000) only [m9_1, m9_2, m9_3, m9_4, m9_5, m9_6, m9_7, m9_8, m9_9, m9_10, m9_r, m9_b, m9, hp, hge, hti', n1, ba, hr, lG, tG, xG, lM, tM, xM, bl_scal, bl_pur, wk, act, asV, ↓reduceIte, Nat.reduceEqDiff, reduceCtorEq, Nat.reduceAdd, Nat.reduceLeDiff, Nat.reduceSub, Nat.reduceMul, List.reduceReplicate, Int.reduceEq, Int.reduceLT, Int.reduceLE, Int.reduceAdd, Int.reduceSub, Int.reduceMul, Nat.reduceLT, Int.reduceToNat])))
            · have n1' := n10
              by_cases n20 : t.name = name
              · have n2 := eq_true n20
                by_cases hr0 : andI t.rights right = right
                · have hr := eq_true hr0
                  rw [if_neg (by rintro (⟨_, h⟩ | h) <;> exact h (by assumption))]
                  repeat' (first | simp -implicitDefEqProofs (maxSteps := 2000000) only [m9_1, m9_2, m9_3, m9_4, m9_5, m9_6, m9_7, m9_8, m9_9, m9_10, m9_r, m9_b, m9, hp, hge, hti', n2, n1', ba, hr, lG, tG, xG, lM, tM, xM, bl_scal, bl_pur, wk, act, asV, ↓reduceIte, Nat.reduceEqDiff, reduceCtorEq, Nat.reduceAdd, Nat.reduceLeDiff, Nat.reduceSub, Nat.reduceMul, List.reduceReplicate, Int.reduceEq, Int.reduceLT, Int.reduceLE, Int.reduceAdd, Int.reduceSub, Int.reduceMul, Nat.reduceLT, Int.reduceToNat] | ((first | ((with_reducible refine CallL.gate ?_); apply CallL.of) | ((with_reducible refine CallpL.gate ?_); apply CallpL.of) | ((with_reducible refine CallP.gate ?_); apply CallP.of) | ((with_reducible refine CallpP.gate ?_); apply CallpP.of)); (case h1 => (simp -implicitDefEqProofs (maxSteps := 2000000) only [m9_1, m9_2, m9_3, m9_4, m9_5, m9_6, m9_7, m9_8, m9_9, m9_10, m9_r, m9_b, m9, hp, hge, hti', n2, n1', ba, hr, lG, tG, xG, lM, tM, xM, bl_scal, bl_pur, wk, act, asV, ↓reduceIte, Nat.reduceEqDiff, reduceCtorEq, Nat.reduceAdd, Nat.reduceLeDiff, Nat.reduceSub, Nat.reduceMul, List.reduceReplicate, Int.reduceEq, Int.reduceLT, Int.reduceLE, Int.reduceAdd, Int.reduceSub, Int.reduceMul, Nat.reduceLT, Int.reduceToNat]; first | done | (with_reducible rfl))); (case h2 => (first | exact c1 | exact c2)); (case h3 => simp -implicitDefEqProofs (maxSteps := 2000000) only [m9_1, m9_2, m9_3, m9_4, m9_5, m9_6, m9_7, m9_8, m9_9, m9_10, m9_r, m9_b, m9, hp, hge, hti', n2, n1', ba, hr, lG, tG, xG, lM, tM, xM, bl_scal, bl_pur, wk, act, asV, ↓reduceIte, Nat.reduceEqDiff, reduceCtorEq, Nat.reduceAdd, Nat.reduceLeDiff, Nat.reduceSub, Nat.reduceMul, List.reduceReplicate, Int.reduceEq, Int.reduceLT, Int.reduceLE, Int.reduceAdd, Int.reduceSub, Int.reduceMul, Nat.reduceLT, Int.reduceToNat])))
                · have hr := hr0
                  rw [if_pos (.inr hr)]
                  repeat' (first | simp -implicitDefEqProofs (maxSteps := 2000000) only [m9_1, m9_2, m9_3, m9_4, m9_5, m9_6, m9_7, m9_8, m9_9, m9_10, m9_r, m9_b, m9, hp, hge, hti', n2, n1', ba, hr, lG, tG, xG, lM, tM, xM, bl_scal, bl_pur, wk, act, asV, ↓reduceIte, Nat.reduceEqDiff, reduceCtorEq, Nat.reduceAdd, Nat.reduceLeDiff, Nat.reduceSub, Nat.reduceMul, List.reduceReplicate, Int.reduceEq, Int.reduceLT, Int.reduceLE, Int.reduceAdd, Int.reduceSub, Int.reduceMul, Nat.reduceLT, Int.reduceToNat] | ((first | ((with_reducible refine CallL.gate ?_); apply CallL.of) | ((with_reducible refine CallpL.gate ?_); apply CallpL.of) | ((with_reducible refine CallP.gate ?_); apply CallP.of) | ((with_reducible refine CallpP.gate ?_); apply CallpP.of)); (case h1 => (simp -implicitDefEqProofs (maxSteps := 2000000) only [m9_1, m9_2, m9_3, m9_4, m9_5, m9_6, m9_7, m9_8, m9_9, m9_10, m9_r, m9_b, m9, hp, hge, hti', n2, n1', ba, hr, lG, tG, xG, lM, tM, xM, bl_scal, bl_pur, wk, act, asV, ↓reduceIte, Nat.reduceEqDiff, reduceCtorEq, Nat.reduceAdd, Nat.reduceLeDiff, Nat.reduceSub, Nat.reduceMul, List.reduceReplicate, Int.reduceEq, Int.reduceLT, Int.reduceLE, Int.reduceAdd, Int.reduceSub, Int.reduceMul, Nat.reduceLT, Int.reduceToNat]; first | done | (with_reducible rfl))); (case h2 => (first | exact c1 | exact c2)); (case h3 => simp -implicitDefEqProofs (maxSteps := 2000000) only [m9_1, m9_2, m9_3, m9_4, m9_5, m9_6, m9_7, m9_8, m9_9, m9_10, m9_r, m9_b, m9, hp, hge, hti', n2, n1', ba, hr, lG, tG, xG, lM, tM, xM, bl_scal, bl_pur, wk, act, asV, ↓reduceIte, Nat.reduceEqDiff, reduceCtorEq, Nat.reduceAdd, Nat.reduceLeDiff, Nat.reduceSub, Nat.reduceMul, List.reduceReplicate, Int.reduceEq, Int.reduceLT, Int.reduceLE, Int.reduceAdd, Int.reduceSub, Int.reduceMul, Nat.reduceLT, Int.reduceToNat])))
              · have n2 := n20
                rw [if_pos (.inl ⟨n10, n20⟩)]
                repeat' (first | simp -implicitDefEqProofs (maxSteps := 2000000) only [m9_1, m9_2, m9_3, m9_4, m9_5, m9_6, m9_7, m9_8, m9_9, m9_10, m9_r, m9_b, m9, hp, hge, hti', n1', n2, lG, tG, xG, lM, tM, xM, bl_scal, bl_pur, wk, act, asV, ↓reduceIte, Nat.reduceEqDiff, reduceCtorEq, Nat.reduceAdd, Nat.reduceLeDiff, Nat.reduceSub, Nat.reduceMul, List.reduceReplicate, Int.reduceEq, Int.reduceLT, Int.reduceLE, Int.reduceAdd, Int.reduceSub, Int.reduceMul, Nat.reduceLT, Int.reduceToNat] | ((first | ((with_reducible refine CallL.gate ?_); apply CallL.of) | ((with_reducible refine CallpL.gate ?_); apply CallpL.of) | ((with_reducible refine CallP.gate ?_); apply CallP.of) | ((with_reducible refine CallpP.gate ?_); apply CallpP.of)); (case h1 => (simp -implicitDefEqProofs (maxSteps := 2000000) only [m9_1, m9_2, m9_3, m9_4, m9_5, m9_6, m9_7, m9_8, m9_9, m9_10, m9_r, m9_b, m9, hp, hge, hti', n1', n2, lG, tG, xG, lM, tM, xM, bl_scal, bl_pur, wk, act, asV, ↓reduceIte, Nat.reduceEqDiff, reduceCtorEq, Nat.reduceAdd, Nat.reduceLeDiff, Nat.reduceSub, Nat.reduceMul, List.reduceReplicate, Int.reduceEq, Int.reduceLT, Int.reduceLE, Int.reduceAdd, Int.reduceSub, Int.reduceMul, Nat.reduceLT, Int.reduceToNat]; first | done | (with_reducible rfl))); (case h2 => (first | exact c1 | exact c2)); (case h3 => simp -implicitDefEqProofs (maxSteps := 2000000) only [m9_1, m9_2, m9_3, m9_4, m9_5, m9_6, m9_7, m9_8, m9_9, m9_10, m9_r, m9_b, m9, hp, hge, hti', n1', n2, lG, tG, xG, lM, tM, xM, bl_scal, bl_pur, wk, act, asV, ↓reduceIte, Nat.reduceEqDiff, reduceCtorEq, Nat.reduceAdd, Nat.reduceLeDiff, Nat.reduceSub, Nat.reduceMul, List.reduceReplicate, Int.reduceEq, Int.reduceLT, Int.reduceLE, Int.reduceAdd, Int.reduceSub, Int.reduceMul, Nat.reduceLT, Int.reduceToNat])))
        · have hge' : ¬ ((t.gen : Nat) : Int) = ((gen : Nat) : Int) := by omega
          rw [if_pos ⟨hc, hp0, hm⟩, if_neg hge0]
          repeat' (first | simp -implicitDefEqProofs (maxSteps := 2000000) only [m9_1, m9_2, m9_3, m9_4, m9_5, m9_6, m9_7, m9_8, m9_9, m9_10, m9_r, m9_b, m9, hp, hge', lG, tG, xG, lM, tM, xM, bl_scal, bl_pur, wk, act, asV, ↓reduceIte, Nat.reduceEqDiff, reduceCtorEq, Nat.reduceAdd, Nat.reduceLeDiff, Nat.reduceSub, Nat.reduceMul, List.reduceReplicate, Int.reduceEq, Int.reduceLT, Int.reduceLE, Int.reduceAdd, Int.reduceSub, Int.reduceMul, Nat.reduceLT, Int.reduceToNat] | ((first | ((with_reducible refine CallL.gate ?_); apply CallL.of) | ((with_reducible refine CallpL.gate ?_); apply CallpL.of) | ((with_reducible refine CallP.gate ?_); apply CallP.of) | ((with_reducible refine CallpP.gate ?_); apply CallpP.of)); (case h1 => (simp -implicitDefEqProofs (maxSteps := 2000000) only [m9_1, m9_2, m9_3, m9_4, m9_5, m9_6, m9_7, m9_8, m9_9, m9_10, m9_r, m9_b, m9, hp, hge', lG, tG, xG, lM, tM, xM, bl_scal, bl_pur, wk, act, asV, ↓reduceIte, Nat.reduceEqDiff, reduceCtorEq, Nat.reduceAdd, Nat.reduceLeDiff, Nat.reduceSub, Nat.reduceMul, List.reduceReplicate, Int.reduceEq, Int.reduceLT, Int.reduceLE, Int.reduceAdd, Int.reduceSub, Int.reduceMul, Nat.reduceLT, Int.reduceToNat]; first | done | (with_reducible rfl))); (case h2 => (first | exact c1 | exact c2)); (case h3 => simp -implicitDefEqProofs (maxSteps := 2000000) only [m9_1, m9_2, m9_3, m9_4, m9_5, m9_6, m9_7, m9_8, m9_9, m9_10, m9_r, m9_b, m9, hp, hge', lG, tG, xG, lM, tM, xM, bl_scal, bl_pur, wk, act, asV, ↓reduceIte, Nat.reduceEqDiff, reduceCtorEq, Nat.reduceAdd, Nat.reduceLeDiff, Nat.reduceSub, Nat.reduceMul, List.reduceReplicate, Int.reduceEq, Int.reduceLT, Int.reduceLE, Int.reduceAdd, Int.reduceSub, Int.reduceMul, Nat.reduceLT, Int.reduceToNat])))
      · rw [decide_eq_false hm] at c2
        rw [if_neg (fun h => hm h.2.2)]
        repeat' (first | simp -implicitDefEqProofs (maxSteps := 2000000) only [m9_1, m9_2, m9_3, m9_4, m9_5, m9_6, m9_7, m9_8, m9_9, m9_10, m9_r, m9_b, m9, hp, lG, tG, xG, lM, tM, xM, bl_scal, bl_pur, wk, act, asV, ↓reduceIte, Nat.reduceEqDiff, reduceCtorEq, Nat.reduceAdd, Nat.reduceLeDiff, Nat.reduceSub, Nat.reduceMul, List.reduceReplicate, Int.reduceEq, Int.reduceLT, Int.reduceLE, Int.reduceAdd, Int.reduceSub, Int.reduceMul, Nat.reduceLT, Int.reduceToNat] | ((first | ((with_reducible refine CallL.gate ?_); apply CallL.of) | ((with_reducible refine CallpL.gate ?_); apply CallpL.of) | ((with_reducible refine CallP.gate ?_); apply CallP.of) | ((with_reducible refine CallpP.gate ?_); apply CallpP.of)); (case h1 => (simp -implicitDefEqProofs (maxSteps := 2000000) only [m9_1, m9_2, m9_3, m9_4, m9_5, m9_6, m9_7, m9_8, m9_9, m9_10, m9_r, m9_b, m9, hp, lG, tG, xG, lM, tM, xM, bl_scal, bl_pur, wk, act, asV, ↓reduceIte, Nat.reduceEqDiff, reduceCtorEq, Nat.reduceAdd, Nat.reduceLeDiff, Nat.reduceSub, Nat.reduceMul, List.reduceReplicate, Int.reduceEq, Int.reduceLT, Int.reduceLE, Int.reduceAdd, Int.reduceSub, Int.reduceMul, Nat.reduceLT, Int.reduceToNat]; first | done | (with_reducible rfl))); (case h2 => (first | exact c1 | exact c2)); (case h3 => simp -implicitDefEqProofs (maxSteps := 2000000) only [m9_1, m9_2, m9_3, m9_4, m9_5, m9_6, m9_7, m9_8, m9_9, m9_10, m9_r, m9_b, m9, hp, lG, tG, xG, lM, tM, xM, bl_scal, bl_pur, wk, act, asV, ↓reduceIte, Nat.reduceEqDiff, reduceCtorEq, Nat.reduceAdd, Nat.reduceLeDiff, Nat.reduceSub, Nat.reduceMul, List.reduceReplicate, Int.reduceEq, Int.reduceLT, Int.reduceLE, Int.reduceAdd, Int.reduceSub, Int.reduceMul, Nat.reduceLT, Int.reduceToNat])))
    · have hp := hp0
      rw [if_neg (fun h => hp h.2.1)]
      repeat' (first | simp -implicitDefEqProofs (maxSteps := 2000000) only [m9_1, m9_2, m9_3, m9_4, m9_5, m9_6, m9_7, m9_8, m9_9, m9_10, m9_r, m9_b, m9, hp, lG, tG, xG, lM, tM, xM, bl_scal, bl_pur, wk, act, asV, ↓reduceIte, Nat.reduceEqDiff, reduceCtorEq, Nat.reduceAdd, Nat.reduceLeDiff, Nat.reduceSub, Nat.reduceMul, List.reduceReplicate, Int.reduceEq, Int.reduceLT, Int.reduceLE, Int.reduceAdd, Int.reduceSub, Int.reduceMul, Nat.reduceLT, Int.reduceToNat] | ((first | ((with_reducible refine CallL.gate ?_); apply CallL.of) | ((with_reducible refine CallpL.gate ?_); apply CallpL.of) | ((with_reducible refine CallP.gate ?_); apply CallP.of) | ((with_reducible refine CallpP.gate ?_); apply CallpP.of)); (case h1 => (simp -implicitDefEqProofs (maxSteps := 2000000) only [m9_1, m9_2, m9_3, m9_4, m9_5, m9_6, m9_7, m9_8, m9_9, m9_10, m9_r, m9_b, m9, hp, lG, tG, xG, lM, tM, xM, bl_scal, bl_pur, wk, act, asV, ↓reduceIte, Nat.reduceEqDiff, reduceCtorEq, Nat.reduceAdd, Nat.reduceLeDiff, Nat.reduceSub, Nat.reduceMul, List.reduceReplicate, Int.reduceEq, Int.reduceLT, Int.reduceLE, Int.reduceAdd, Int.reduceSub, Int.reduceMul, Nat.reduceLT, Int.reduceToNat]; first | done | (with_reducible rfl))); (case h2 => (first | exact c1 | exact c2)); (case h3 => simp -implicitDefEqProofs (maxSteps := 2000000) only [m9_1, m9_2, m9_3, m9_4, m9_5, m9_6, m9_7, m9_8, m9_9, m9_10, m9_r, m9_b, m9, hp, lG, tG, xG, lM, tM, xM, bl_scal, bl_pur, wk, act, asV, ↓reduceIte, Nat.reduceEqDiff, reduceCtorEq, Nat.reduceAdd, Nat.reduceLeDiff, Nat.reduceSub, Nat.reduceMul, List.reduceReplicate, Int.reduceEq, Int.reduceLT, Int.reduceLE, Int.reduceAdd, Int.reduceSub, Int.reduceMul, Nat.reduceLT, Int.reduceToNat])))
  · have e2 : tokE t = 11 := if_neg hc
    have e3 : mintT k t = zT := if_neg hc
    rw [e2, e3] at c1
    have e4 : checkE k place gen tick t name right = 12 := if_neg (fun h => hc h.1)
    rw [e4]
    have zc := zT_cells
    simp only [tkC, clC, wardC] at c1 zc ⊢
    repeat' (first | simp -implicitDefEqProofs (maxSteps := 2000000) only [m9_1, m9_2, m9_3, m9_4, m9_5, m9_6, m9_7, m9_8, m9_9, m9_10, m9_r, m9_b, m9, zc, lG, tG, xG, bl_scal, bl_pur, wk, act, asV, ↓reduceIte, Nat.reduceEqDiff, reduceCtorEq, Nat.reduceAdd, Nat.reduceLeDiff, Nat.reduceSub, Nat.reduceMul, List.reduceReplicate, Int.reduceEq, Int.reduceLT, Int.reduceLE, Int.reduceAdd, Int.reduceSub, Int.reduceMul, Nat.reduceLT, Int.reduceToNat] | ((first | ((with_reducible refine CallL.gate ?_); apply CallL.of) | ((with_reducible refine CallpL.gate ?_); apply CallpL.of) | ((with_reducible refine CallP.gate ?_); apply CallP.of) | ((with_reducible refine CallpP.gate ?_); apply CallpP.of)); (case h1 => (simp -implicitDefEqProofs (maxSteps := 2000000) only [m9_1, m9_2, m9_3, m9_4, m9_5, m9_6, m9_7, m9_8, m9_9, m9_10, m9_r, m9_b, m9, zc, lG, tG, xG, bl_scal, bl_pur, wk, act, asV, ↓reduceIte, Nat.reduceEqDiff, reduceCtorEq, Nat.reduceAdd, Nat.reduceLeDiff, Nat.reduceSub, Nat.reduceMul, List.reduceReplicate, Int.reduceEq, Int.reduceLT, Int.reduceLE, Int.reduceAdd, Int.reduceSub, Int.reduceMul, Nat.reduceLT, Int.reduceToNat]; first | done | (with_reducible rfl))); (case h2 => (first | exact c1)); (case h3 => simp -implicitDefEqProofs (maxSteps := 2000000) only [m9_1, m9_2, m9_3, m9_4, m9_5, m9_6, m9_7, m9_8, m9_9, m9_10, m9_r, m9_b, m9, zc, lG, tG, xG, bl_scal, bl_pur, wk, act, asV, ↓reduceIte, Nat.reduceEqDiff, reduceCtorEq, Nat.reduceAdd, Nat.reduceLeDiff, Nat.reduceSub, Nat.reduceMul, List.reduceReplicate, Int.reduceEq, Int.reduceLT, Int.reduceLE, Int.reduceAdd, Int.reduceSub, Int.reduceMul, Nat.reduceLT, Int.reduceToNat])))
end Go.Proofs.YtkphojcmjffccaaDoor
