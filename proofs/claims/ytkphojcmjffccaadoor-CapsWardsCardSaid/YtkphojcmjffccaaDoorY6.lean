/- The law CapsScope. -/
import Derived.Test.YtkphojcmjffccaaDoorY5
import Derived.Test.YtkphojcmjffccaaDoorE31
import Derived.Test.YtkphojcmjffccaaDoorM15
set_option linter.unusedVariables false
set_option linter.unusedSimpArgs false
set_option linter.unusedSectionVars false
set_option maxRecDepth 100000
set_option maxHeartbeats 8000000
namespace Go.Proofs.YtkphojcmjffccaaDoor
open Go.RowKit

theorem checkE_mint {k : List UInt8} {t : Tok} (hc : okC t = true) (place : Int) (gen tick : Nat) (name : List UInt8) (right : Int) :
    checkE k place gen tick (mintT k t) name right = if t.place = place then if t.gen = gen then if t.til < tick then 13 else if (¬ t.name = [] ∧ ¬ t.name = name) ∨ ¬ andI t.rights right = right then 15 else 0 else 14 else 12 := by
  have e : mintT k t = { t with tag := macB k (claimB t) } := if_pos hc
  have e1 : okC { t with tag := macB k (claimB t) } = true := hc
  have e2 : claimB { t with tag := macB k (claimB t) } = claimB t := rfl
  rw [e]
  unfold checkE
  rw [e2]
  by_cases hp : t.place = place
  · rw [if_pos hp, if_pos ⟨e1, hp, rfl⟩]
  · rw [if_neg hp, if_neg (fun h => hp h.2.1)]
theorem mod_small {n : Nat} (h : n < 1000) : modN (n : Int) 1000 = n := by
  unfold modN
  omega
theorem capsScope (k : List UInt8) (place : Int) (gen tick : Nat) (hg : gen < 2 ^ 32) (ht : tick < 2 ^ 32) (a b : List UInt8) (hk : k.length < 2 ^ 63) (ha : a.length < 2 ^ 63) (hb : b.length < 2 ^ 63) :
    RC Tryd.prog 4 [.agg (wardC .plain k place gen tick), .str a, .str b] [.bool true] := by
  refine RC.of_wp c4 rfl ?_
  have cw := wakesC_ok
  have w0 : List.take 1 (wardC .plain k place gen tick) = [.sl .plain k.length (bl k)] := rfl
  have w1 : List.take 1 (List.drop 1 (wardC .plain k place gen tick)) = [.int .i64 place] := rfl
  have w2 : List.take 1 (List.drop 2 (wardC .plain k place gen tick)) = [.int .u32 (gen : Nat)] := rfl
  have w3 : List.take 1 (List.drop 3 (wardC .plain k place gen tick)) = [.int .u32 (tick : Nat)] := rfl
  have lW : (wardC .plain k place gen tick).length = 4 := rfl
  have tW : List.take 4 (wardC .plain k place gen tick) = wardC .plain k place gen tick := rfl
  have nW : ∀ s : St, s.snap (.agg (wardC .plain k place gen tick)) = some (.agg (wardC .plain k place gen tick)) := fun s => rfl
  obtain ⟨W, hW⟩ : ∃ W, W = wardC .plain k place gen tick := ⟨_, rfl⟩
  by_cases h1 : (200 : Int) < (k.length : Nat)
  · rw [← hW] at w0 lW tW ⊢
    repeat' (first | simp -implicitDefEqProofs (maxSteps := 2000000) only [m4_1, m4_2, m4_3, m4_4, m4_5, m4_6, m4_7, m4_8, m4_9, m4_10, m4_11, m4_12, m4_13, m4_14, m4_15, m4_16, m4_17, m4_18, m4_19, m4_20, m4_21, m4_22, m4_23, m4_24, m4_r, m4_b, m4, w0, lW, tW, h1, wk, act, asV, ↓reduceIte, Nat.reduceEqDiff, reduceCtorEq, Nat.reduceAdd, Nat.reduceLeDiff, Nat.reduceSub, Nat.reduceMul, List.reduceReplicate, Int.reduceEq, Int.reduceLT, Int.reduceLE, Int.reduceAdd, Int.reduceSub, Int.reduceMul, Nat.reduceLT, Int.reduceToNat] | ((first | ((with_reducible refine CallL.gate ?_); apply CallL.of) | ((with_reducible refine CallpL.gate ?_); apply CallpL.of) | ((with_reducible refine CallP.gate ?_); apply CallP.of) | ((with_reducible refine CallpP.gate ?_); apply CallpP.of)); (case h1 => (simp -implicitDefEqProofs (maxSteps := 2000000) only [m4_1, m4_2, m4_3, m4_4, m4_5, m4_6, m4_7, m4_8, m4_9, m4_10, m4_11, m4_12, m4_13, m4_14, m4_15, m4_16, m4_17, m4_18, m4_19, m4_20, m4_21, m4_22, m4_23, m4_24, m4_r, m4_b, m4, w0, lW, tW, h1, wk, act, asV, ↓reduceIte, Nat.reduceEqDiff, reduceCtorEq, Nat.reduceAdd, Nat.reduceLeDiff, Nat.reduceSub, Nat.reduceMul, List.reduceReplicate, Int.reduceEq, Int.reduceLT, Int.reduceLE, Int.reduceAdd, Int.reduceSub, Int.reduceMul, Nat.reduceLT, Int.reduceToNat]; first | done | (with_reducible rfl))); (case h2 => (first | exact cw)); (case h3 => simp -implicitDefEqProofs (maxSteps := 2000000) only [m4_1, m4_2, m4_3, m4_4, m4_5, m4_6, m4_7, m4_8, m4_9, m4_10, m4_11, m4_12, m4_13, m4_14, m4_15, m4_16, m4_17, m4_18, m4_19, m4_20, m4_21, m4_22, m4_23, m4_24, m4_r, m4_b, m4, w0, lW, tW, h1, wk, act, asV, ↓reduceIte, Nat.reduceEqDiff, reduceCtorEq, Nat.reduceAdd, Nat.reduceLeDiff, Nat.reduceSub, Nat.reduceMul, List.reduceReplicate, Int.reduceEq, Int.reduceLT, Int.reduceLE, Int.reduceAdd, Int.reduceSub, Int.reduceMul, Nat.reduceLT, Int.reduceToNat])))
  by_cases h2 : (100 : Int) < (a.length : Nat)
  · rw [← hW] at w0 lW tW ⊢
    repeat' (first | simp -implicitDefEqProofs (maxSteps := 2000000) only [m4_1, m4_2, m4_3, m4_4, m4_5, m4_6, m4_7, m4_8, m4_9, m4_10, m4_11, m4_12, m4_13, m4_14, m4_15, m4_16, m4_17, m4_18, m4_19, m4_20, m4_21, m4_22, m4_23, m4_24, m4_r, m4_b, m4, w0, lW, tW, h1, h2, wk, act, asV, ↓reduceIte, Nat.reduceEqDiff, reduceCtorEq, Nat.reduceAdd, Nat.reduceLeDiff, Nat.reduceSub, Nat.reduceMul, List.reduceReplicate, Int.reduceEq, Int.reduceLT, Int.reduceLE, Int.reduceAdd, Int.reduceSub, Int.reduceMul, Nat.reduceLT, Int.reduceToNat] | ((first | ((with_reducible refine CallL.gate ?_); apply CallL.of) | ((with_reducible refine CallpL.gate ?_); apply CallpL.of) | ((with_reducible refine CallP.gate ?_); apply CallP.of) | ((with_reducible refine CallpP.gate ?_); apply CallpP.of)); (case h1 => (simp -implicitDefEqProofs (maxSteps := 2000000) only [m4_1, m4_2, m4_3, m4_4, m4_5, m4_6, m4_7, m4_8, m4_9, m4_10, m4_11, m4_12, m4_13, m4_14, m4_15, m4_16, m4_17, m4_18, m4_19, m4_20, m4_21, m4_22, m4_23, m4_24, m4_r, m4_b, m4, w0, lW, tW, h1, h2, wk, act, asV, ↓reduceIte, Nat.reduceEqDiff, reduceCtorEq, Nat.reduceAdd, Nat.reduceLeDiff, Nat.reduceSub, Nat.reduceMul, List.reduceReplicate, Int.reduceEq, Int.reduceLT, Int.reduceLE, Int.reduceAdd, Int.reduceSub, Int.reduceMul, Nat.reduceLT, Int.reduceToNat]; first | done | (with_reducible rfl))); (case h2 => (first | exact cw)); (case h3 => simp -implicitDefEqProofs (maxSteps := 2000000) only [m4_1, m4_2, m4_3, m4_4, m4_5, m4_6, m4_7, m4_8, m4_9, m4_10, m4_11, m4_12, m4_13, m4_14, m4_15, m4_16, m4_17, m4_18, m4_19, m4_20, m4_21, m4_22, m4_23, m4_24, m4_r, m4_b, m4, w0, lW, tW, h1, h2, wk, act, asV, ↓reduceIte, Nat.reduceEqDiff, reduceCtorEq, Nat.reduceAdd, Nat.reduceLeDiff, Nat.reduceSub, Nat.reduceMul, List.reduceReplicate, Int.reduceEq, Int.reduceLT, Int.reduceLE, Int.reduceAdd, Int.reduceSub, Int.reduceMul, Nat.reduceLT, Int.reduceToNat])))
  by_cases h3 : (100 : Int) < (b.length : Nat)
  · rw [← hW] at w0 lW tW ⊢
    repeat' (first | simp -implicitDefEqProofs (maxSteps := 2000000) only [m4_1, m4_2, m4_3, m4_4, m4_5, m4_6, m4_7, m4_8, m4_9, m4_10, m4_11, m4_12, m4_13, m4_14, m4_15, m4_16, m4_17, m4_18, m4_19, m4_20, m4_21, m4_22, m4_23, m4_24, m4_r, m4_b, m4, w0, lW, tW, h1, h2, h3, wk, act, asV, ↓reduceIte, Nat.reduceEqDiff, reduceCtorEq, Nat.reduceAdd, Nat.reduceLeDiff, Nat.reduceSub, Nat.reduceMul, List.reduceReplicate, Int.reduceEq, Int.reduceLT, Int.reduceLE, Int.reduceAdd, Int.reduceSub, Int.reduceMul, Nat.reduceLT, Int.reduceToNat] | ((first | ((with_reducible refine CallL.gate ?_); apply CallL.of) | ((with_reducible refine CallpL.gate ?_); apply CallpL.of) | ((with_reducible refine CallP.gate ?_); apply CallP.of) | ((with_reducible refine CallpP.gate ?_); apply CallpP.of)); (case h1 => (simp -implicitDefEqProofs (maxSteps := 2000000) only [m4_1, m4_2, m4_3, m4_4, m4_5, m4_6, m4_7, m4_8, m4_9, m4_10, m4_11, m4_12, m4_13, m4_14, m4_15, m4_16, m4_17, m4_18, m4_19, m4_20, m4_21, m4_22, m4_23, m4_24, m4_r, m4_b, m4, w0, lW, tW, h1, h2, h3, wk, act, asV, ↓reduceIte, Nat.reduceEqDiff, reduceCtorEq, Nat.reduceAdd, Nat.reduceLeDiff, Nat.reduceSub, Nat.reduceMul, List.reduceReplicate, Int.reduceEq, Int.reduceLT, Int.reduceLE, Int.reduceAdd, Int.reduceSub, Int.reduceMul, Nat.reduceLT, Int.reduceToNat]; first | done | (with_reducible rfl))); (case h2 => (first | exact cw)); (case h3 => simp -implicitDefEqProofs (maxSteps := 2000000) only [m4_1, m4_2, m4_3, m4_4, m4_5, m4_6, m4_7, m4_8, m4_9, m4_10, m4_11, m4_12, m4_13, m4_14, m4_15, m4_16, m4_17, m4_18, m4_19, m4_20, m4_21, m4_22, m4_23, m4_24, m4_r, m4_b, m4, w0, lW, tW, h1, h2, h3, wk, act, asV, ↓reduceIte, Nat.reduceEqDiff, reduceCtorEq, Nat.reduceAdd, Nat.reduceLeDiff, Nat.reduceSub, Nat.reduceMul, List.reduceReplicate, Int.reduceEq, Int.reduceLT, Int.reduceLE, Int.reduceAdd, Int.reduceSub, Int.reduceMul, Nat.reduceLT, Int.reduceToNat])))
  have hk39 : k.length ≤ 2 ^ 39 := by omega
  obtain ⟨t1, e1⟩ : ∃ t : Tok, t = ⟨place, a, 1, tick, gen, List.replicate 32 0⟩ := ⟨_, rfl⟩
  obtain ⟨t2, e2⟩ : ∃ t : Tok, t = ⟨place, [], 3, tick, gen, List.replicate 32 0⟩ := ⟨_, rfl⟩
  have o1 : t1.Ok := by subst e1; exact ⟨ha, ht, hg, List.length_replicate⟩
  have o2 : t2.Ok := by subst e2; exact ⟨Nat.two_pow_pos 63, ht, hg, List.length_replicate⟩
  have g1 : clC t1 = [.int .i64 place, .str a, .int .i64 1, .int .u32 (tick : Nat), .int .u32 (gen : Nat)] := by subst e1; rfl
  have g2 : clC t2 = [.int .i64 place, .str [], .int .i64 3, .int .u32 (tick : Nat), .int .u32 (gen : Nat)] := by subst e2; rfl
  have c1 := mint_ok .plain (by decide) k hk39 t1 o1
  have c2 := mint_ok .plain (by decide) k hk39 t2 o2
  have c3 := check_ok .plain (by decide) k hk39 place gen tick (mintT k t1) (mintT_ok o1) b 1
  have c4 := check_ok .plain (by decide) k hk39 place gen tick (mintT k t1) (mintT_ok o1) a 2
  have c5 := check_ok .plain (by decide) k hk39 place gen tick (mintT k t2) (mintT_ok o2) a 1
  have c6 := check_ok .plain (by decide) k hk39 place gen tick (mintT k t2) (mintT_ok o2) b 2
  have cm := mod_ok (a.length : Int) (n := 1000) (by decide) (by decide)
  rw [mod_small (by omega)] at cm
  have k1000 : (((1000 : Nat) : Int)) = 1000 := rfl
  rw [k1000] at cm
  have lA : (tkC (mintT k t1)).length = 37 := tk_len (mintT_ok o1).tag
  have tA := tk_take (mintT_ok (k := k) o1).tag
  have xA := tk_drop (mintT_ok (k := k) o1).tag
  have sA := tk_scal (mintT k t1)
  have lB : (tkC (mintT k t2)).length = 37 := tk_len (mintT_ok o2).tag
  have tB := tk_take (mintT_ok (k := k) o2).tag
  have xB := tk_drop (mintT_ok (k := k) o2).tag
  have sB := tk_scal (mintT k t2)
  have p1 : t1.place = place := by subst e1; rfl
  have p2 : t1.gen = gen := by subst e1; rfl
  have p3 : t1.til = tick := by subst e1; rfl
  have p4 : t1.name = a := by subst e1; rfl
  have p5 : t1.rights = 1 := by subst e1; rfl
  rw [g1] at c1
  rw [g2] at c2
  rw [← hW] at w0 w1 w2 w3 lW tW nW c3 c4 c5 c6 ⊢
  have i11 : andI 1 1 = 1 := by decide
  have i12 : andI 1 2 = 0 := by decide
  have i31 : andI 3 1 = 1 := by decide
  have i32 : andI 3 2 = 2 := by decide
  have rA := fun h : okC t1 = true => checkE_mint (k := k) h place gen tick b 1
  have rB := fun h : okC t1 = true => checkE_mint (k := k) h place gen tick a 2
  rw [if_pos p1, if_pos p2, if_neg (by omega), p4, p5, i11] at rA
  rw [if_pos p1, if_pos p2, if_neg (by omega), p4, p5, i12] at rB
  have q1 : t2.place = place := by subst e2; rfl
  have q2 : t2.gen = gen := by subst e2; rfl
  have q3 : t2.til = tick := by subst e2; rfl
  have q4 : t2.name = [] := by subst e2; rfl
  have q5 : t2.rights = 3 := by subst e2; rfl
  have rC := fun h : okC t2 = true => checkE_mint (k := k) h place gen tick a 1
  have rD := fun h : okC t2 = true => checkE_mint (k := k) h place gen tick b 2
  rw [if_pos q1, if_pos q2, if_neg (by omega), q4, q5, i31] at rC
  rw [if_pos q1, if_pos q2, if_neg (by omega), q4, q5, i32] at rD
  simp only [not_true_eq_false, false_and, or_self, if_false, or_false] at rA rB rC rD
  obtain ⟨A, hA⟩ : ∃ A, A = tkC (mintT k t1) := ⟨_, rfl⟩
  obtain ⟨B, hB⟩ : ∃ A, A = tkC (mintT k t2) := ⟨_, rfl⟩
  rw [← hA] at c1 c3 c4 lA tA xA sA
  rw [← hB] at c2 c5 c6 lB tB xB sB
  rw [if_pos (.inr (by decide))] at rB
  by_cases hc : okC t1 = true
  · have e3 : tokE t1 = 0 := if_pos hc
    rw [e3] at c1
    rw [rB hc] at c4
    rw [rA hc] at c3
    by_cases n1 : a = []
    · rw [if_neg (fun h => h.1 n1)] at c3
      have n1 := eq_true n1
      by_cases hd : okC t2 = true
      · have e4 : tokE t2 = 0 := if_pos hd
        rw [e4] at c2
        rw [rC hd] at c5
        rw [rD hd] at c6
        repeat' (first | simp -implicitDefEqProofs (maxSteps := 2000000) only [m4_1, m4_2, m4_3, m4_4, m4_5, m4_6, m4_7, m4_8, m4_9, m4_10, m4_11, m4_12, m4_13, m4_14, m4_15, m4_16, m4_17, m4_18, m4_19, m4_20, m4_21, m4_22, m4_23, m4_24, m4_r, m4_b, m4, w0, w1, w2, w3, lW, tW, nW, h1, h2, h3, lA, tA, xA, sA, lB, tB, xB, sB, n1, bl_scal, bl_pur, wk, act, asV, ↓reduceIte, Nat.reduceEqDiff, reduceCtorEq, Nat.reduceAdd, Nat.reduceLeDiff, Nat.reduceSub, Nat.reduceMul, List.reduceReplicate, Int.reduceEq, Int.reduceLT, Int.reduceLE, Int.reduceAdd, Int.reduceSub, Int.reduceMul, Nat.reduceLT, Int.reduceToNat] | ((first | ((with_reducible refine CallL.gate ?_); apply CallL.of) | ((with_reducible refine CallpL.gate ?_); apply CallpL.of) | ((with_reducible refine CallP.gate ?_); apply CallP.of) | ((with_reducible refine CallpP.gate ?_); apply CallpP.of)); (case h1 => (simp -implicitDefEqProofs (maxSteps := 2000000) only [m4_1, m4_2, m4_3, m4_4, m4_5, m4_6, m4_7, m4_8, m4_9, m4_10, m4_11, m4_12, m4_13, m4_14, m4_15, m4_16, m4_17, m4_18, m4_19, m4_20, m4_21, m4_22, m4_23, m4_24, m4_r, m4_b, m4, w0, w1, w2, w3, lW, tW, nW, h1, h2, h3, lA, tA, xA, sA, lB, tB, xB, sB, n1, bl_scal, bl_pur, wk, act, asV, ↓reduceIte, Nat.reduceEqDiff, reduceCtorEq, Nat.reduceAdd, Nat.reduceLeDiff, Nat.reduceSub, Nat.reduceMul, List.reduceReplicate, Int.reduceEq, Int.reduceLT, Int.reduceLE, Int.reduceAdd, Int.reduceSub, Int.reduceMul, Nat.reduceLT, Int.reduceToNat]; first | done | (with_reducible rfl))); (case h2 => (first | exact c1 | exact c2 | exact c3 | exact c4 | exact c5 | exact c6 | exact cm | exact cw)); (case h3 => simp -implicitDefEqProofs (maxSteps := 2000000) only [m4_1, m4_2, m4_3, m4_4, m4_5, m4_6, m4_7, m4_8, m4_9, m4_10, m4_11, m4_12, m4_13, m4_14, m4_15, m4_16, m4_17, m4_18, m4_19, m4_20, m4_21, m4_22, m4_23, m4_24, m4_r, m4_b, m4, w0, w1, w2, w3, lW, tW, nW, h1, h2, h3, lA, tA, xA, sA, lB, tB, xB, sB, n1, bl_scal, bl_pur, wk, act, asV, ↓reduceIte, Nat.reduceEqDiff, reduceCtorEq, Nat.reduceAdd, Nat.reduceLeDiff, Nat.reduceSub, Nat.reduceMul, List.reduceReplicate, Int.reduceEq, Int.reduceLT, Int.reduceLE, Int.reduceAdd, Int.reduceSub, Int.reduceMul, Nat.reduceLT, Int.reduceToNat])))
      · have e4 : tokE t2 = 11 := if_neg hd
        rw [e4] at c2
        repeat' (first | simp -implicitDefEqProofs (maxSteps := 2000000) only [m4_1, m4_2, m4_3, m4_4, m4_5, m4_6, m4_7, m4_8, m4_9, m4_10, m4_11, m4_12, m4_13, m4_14, m4_15, m4_16, m4_17, m4_18, m4_19, m4_20, m4_21, m4_22, m4_23, m4_24, m4_r, m4_b, m4, w0, w1, w2, w3, lW, tW, nW, h1, h2, h3, lA, tA, xA, sA, lB, tB, xB, sB, n1, bl_scal, bl_pur, wk, act, asV, ↓reduceIte, Nat.reduceEqDiff, reduceCtorEq, Nat.reduceAdd, Nat.reduceLeDiff, Nat.reduceSub, Nat.reduceMul, List.reduceReplicate, Int.reduceEq, Int.reduceLT, Int.reduceLE, Int.reduceAdd, Int.reduceSub, Int.reduceMul, Nat.reduceLT, Int.reduceToNat] | ((first | ((with_reducible refine CallL.gate ?_); apply CallL.of) | ((with_reducible refine CallpL.gate ?_); apply CallpL.of) | ((with_reducible refine CallP.gate ?_); apply CallP.of) | ((with_reducible refine CallpP.gate ?_); apply CallpP.of)); (case h1 => (simp -implicitDefEqProofs (maxSteps := 2000000) only [m4_1, m4_2, m4_3, m4_4, m4_5, m4_6, m4_7, m4_8, m4_9, m4_10, m4_11, m4_12, m4_13, m4_14, m4_15, m4_16, m4_17, m4_18, m4_19, m4_20, m4_21, m4_22, m4_23, m4_24, m4_r, m4_b, m4, w0, w1, w2, w3, lW, tW, nW, h1, h2, h3, lA, tA, xA, sA, lB, tB, xB, sB, n1, bl_scal, bl_pur, wk, act, asV, ↓reduceIte, Nat.reduceEqDiff, reduceCtorEq, Nat.reduceAdd, Nat.reduceLeDiff, Nat.reduceSub, Nat.reduceMul, List.reduceReplicate, Int.reduceEq, Int.reduceLT, Int.reduceLE, Int.reduceAdd, Int.reduceSub, Int.reduceMul, Nat.reduceLT, Int.reduceToNat]; first | done | (with_reducible rfl))); (case h2 => (first | exact c1 | exact c2 | exact c3 | exact c4 | exact cw)); (case h3 => simp -implicitDefEqProofs (maxSteps := 2000000) only [m4_1, m4_2, m4_3, m4_4, m4_5, m4_6, m4_7, m4_8, m4_9, m4_10, m4_11, m4_12, m4_13, m4_14, m4_15, m4_16, m4_17, m4_18, m4_19, m4_20, m4_21, m4_22, m4_23, m4_24, m4_r, m4_b, m4, w0, w1, w2, w3, lW, tW, nW, h1, h2, h3, lA, tA, xA, sA, lB, tB, xB, sB, n1, bl_scal, bl_pur, wk, act, asV, ↓reduceIte, Nat.reduceEqDiff, reduceCtorEq, Nat.reduceAdd, Nat.reduceLeDiff, Nat.reduceSub, Nat.reduceMul, List.reduceReplicate, Int.reduceEq, Int.reduceLT, Int.reduceLE, Int.reduceAdd, Int.reduceSub, Int.reduceMul, Nat.reduceLT, Int.reduceToNat])))
    · by_cases n2 : a = b
      · rw [if_neg (fun h => h.2 n2)] at c3
        have n2 := eq_true n2
        by_cases hd : okC t2 = true
        · have e4 : tokE t2 = 0 := if_pos hd
          rw [e4] at c2
          rw [rC hd] at c5
          rw [rD hd] at c6
          repeat' (first | simp -implicitDefEqProofs (maxSteps := 2000000) only [m4_1, m4_2, m4_3, m4_4, m4_5, m4_6, m4_7, m4_8, m4_9, m4_10, m4_11, m4_12, m4_13, m4_14, m4_15, m4_16, m4_17, m4_18, m4_19, m4_20, m4_21, m4_22, m4_23, m4_24, m4_r, m4_b, m4, w0, w1, w2, w3, lW, tW, nW, h1, h2, h3, lA, tA, xA, sA, lB, tB, xB, sB, n1, n2, bl_scal, bl_pur, wk, act, asV, ↓reduceIte, Nat.reduceEqDiff, reduceCtorEq, Nat.reduceAdd, Nat.reduceLeDiff, Nat.reduceSub, Nat.reduceMul, List.reduceReplicate, Int.reduceEq, Int.reduceLT, Int.reduceLE, Int.reduceAdd, Int.reduceSub, Int.reduceMul, Nat.reduceLT, Int.reduceToNat] | ((first | ((with_reducible refine CallL.gate ?_); apply CallL.of) | ((with_reducible refine CallpL.gate ?_); apply CallpL.of) | ((with_reducible refine CallP.gate ?_); apply CallP.of) | ((with_reducible refine CallpP.gate ?_); apply CallpP.of)); (case h1 => (simp -implicitDefEqProofs (maxSteps := 2000000) only [m4_1, m4_2, m4_3, m4_4, m4_5, m4_6, m4_7, m4_8, m4_9, m4_10, m4_11, m4_12, m4_13, m4_14, m4_15, m4_16, m4_17, m4_18, m4_19, m4_20, m4_21, m4_22, m4_23, m4_24, m4_r, m4_b, m4, w0, w1, w2, w3, lW, tW, nW, h1, h2, h3, lA, tA, xA, sA, lB, tB, xB, sB, n1, n2, bl_scal, bl_pur, wk, act, asV, ↓reduceIte, Nat.reduceEqDiff, reduceCtorEq, Nat.reduceAdd, Nat.reduceLeDiff, Nat.reduceSub, Nat.reduceMul, List.reduceReplicate, Int.reduceEq, Int.reduceLT, Int.reduceLE, Int.reduceAdd, Int.reduceSub, Int.reduceMul, Nat.reduceLT, Int.reduceToNat]; first | done | (with_reducible rfl))); (case h2 => (first | exact c1 | exact c2 | exact c3 | exact c4 | exact c5 | exact c6 | exact cm | exact cw)); (case h3 => simp -implicitDefEqProofs (maxSteps := 2000000) only [m4_1, m4_2, m4_3, m4_4, m4_5, m4_6, m4_7, m4_8, m4_9, m4_10, m4_11, m4_12, m4_13, m4_14, m4_15, m4_16, m4_17, m4_18, m4_19, m4_20, m4_21, m4_22, m4_23, m4_24, m4_r, m4_b, m4, w0, w1, w2, w3, lW, tW, nW, h1, h2, h3, lA, tA, xA, sA, lB, tB, xB, sB, n1, n2, bl_scal, bl_pur, wk, act, asV, ↓reduceIte, Nat.reduceEqDiff, reduceCtorEq, Nat.reduceAdd, Nat.reduceLeDiff, Nat.reduceSub, Nat.reduceMul, List.reduceReplicate, Int.reduceEq, Int.reduceLT, Int.reduceLE, Int.reduceAdd, Int.reduceSub, Int.reduceMul, Nat.reduceLT, Int.reduceToNat])))
        · have e4 : tokE t2 = 11 := if_neg hd
          rw [e4] at c2
          repeat' (first | simp -implicitDefEqProofs (maxSteps := 2000000) only [m4_1, m4_2, m4_3, m4_4, m4_5, m4_6, m4_7, m4_8, m4_9, m4_10, m4_11, m4_12, m4_13, m4_14, m4_15, m4_16, m4_17, m4_18, m4_19, m4_20, m4_21, m4_22, m4_23, m4_24, m4_r, m4_b, m4, w0, w1, w2, w3, lW, tW, nW, h1, h2, h3, lA, tA, xA, sA, lB, tB, xB, sB, n1, n2, bl_scal, bl_pur, wk, act, asV, ↓reduceIte, Nat.reduceEqDiff, reduceCtorEq, Nat.reduceAdd, Nat.reduceLeDiff, Nat.reduceSub, Nat.reduceMul, List.reduceReplicate, Int.reduceEq, Int.reduceLT, Int.reduceLE, Int.reduceAdd, Int.reduceSub, Int.reduceMul, Nat.reduceLT, Int.reduceToNat] | ((first | ((with_reducible refine CallL.gate ?_); apply CallL.of) | ((with_reducible refine CallpL.gate ?_); apply CallpL.of) | ((with_reducible refine CallP.gate ?_); apply CallP.of) | ((with_reducible refine CallpP.gate ?_); apply CallpP.of)); (case h1 => (simp -implicitDefEqProofs (maxSteps := 2000000) only [m4_1, m4_2, m4_3, m4_4, m4_5, m4_6, m4_7, m4_8, m4_9, m4_10, m4_11, m4_12, m4_13, m4_14, m4_15, m4_16, m4_17, m4_18, m4_19, m4_20, m4_21, m4_22, m4_23, m4_24, m4_r, m4_b, m4, w0, w1, w2, w3, lW, tW, nW, h1, h2, h3, lA, tA, xA, sA, lB, tB, xB, sB, n1, n2, bl_scal, bl_pur, wk, act, asV, ↓reduceIte, Nat.reduceEqDiff, reduceCtorEq, Nat.reduceAdd, Nat.reduceLeDiff, Nat.reduceSub, Nat.reduceMul, List.reduceReplicate, Int.reduceEq, Int.reduceLT, Int.reduceLE, Int.reduceAdd, Int.reduceSub, Int.reduceMul, Nat.reduceLT, Int.reduceToNat]; first | done | (with_reducible rfl))); (case h2 => (first | exact c1 | exact c2 | exact c3 | exact c4 | exact cw)); (case h3 => simp -implicitDefEqProofs (maxSteps := 2000000) only [m4_1, m4_2, m4_3, m4_4, m4_5, m4_6, m4_7, m4_8, m4_9, m4_10, m4_11, m4_12, m4_13, m4_14, m4_15, m4_16, m4_17, m4_18, m4_19, m4_20, m4_21, m4_22, m4_23, m4_24, m4_r, m4_b, m4, w0, w1, w2, w3, lW, tW, nW, h1, h2, h3, lA, tA, xA, sA, lB, tB, xB, sB, n1, n2, bl_scal, bl_pur, wk, act, asV, ↓reduceIte, Nat.reduceEqDiff, reduceCtorEq, Nat.reduceAdd, Nat.reduceLeDiff, Nat.reduceSub, Nat.reduceMul, List.reduceReplicate, Int.reduceEq, Int.reduceLT, Int.reduceLE, Int.reduceAdd, Int.reduceSub, Int.reduceMul, Nat.reduceLT, Int.reduceToNat])))
      · rw [if_pos ⟨n1, n2⟩] at c3
        by_cases hd : okC t2 = true
        · have e4 : tokE t2 = 0 := if_pos hd
          rw [e4] at c2
          rw [rC hd] at c5
          rw [rD hd] at c6
          repeat' (first | simp -implicitDefEqProofs (maxSteps := 2000000) only [m4_1, m4_2, m4_3, m4_4, m4_5, m4_6, m4_7, m4_8, m4_9, m4_10, m4_11, m4_12, m4_13, m4_14, m4_15, m4_16, m4_17, m4_18, m4_19, m4_20, m4_21, m4_22, m4_23, m4_24, m4_r, m4_b, m4, w0, w1, w2, w3, lW, tW, nW, h1, h2, h3, lA, tA, xA, sA, lB, tB, xB, sB, n1, n2, bl_scal, bl_pur, wk, act, asV, ↓reduceIte, Nat.reduceEqDiff, reduceCtorEq, Nat.reduceAdd, Nat.reduceLeDiff, Nat.reduceSub, Nat.reduceMul, List.reduceReplicate, Int.reduceEq, Int.reduceLT, Int.reduceLE, Int.reduceAdd, Int.reduceSub, Int.reduceMul, Nat.reduceLT, Int.reduceToNat] | ((first | ((with_reducible refine CallL.gate ?_); apply CallL.of) | ((with_reducible refine CallpL.gate ?_); apply CallpL.of) | ((with_reducible refine CallP.gate ?_); apply CallP.of) | ((with_reducible refine CallpP.gate ?_); apply CallpP.of)); (case h1 => (simp -implicitDefEqProofs (maxSteps := 2000000) only [m4_1, m4_2, m4_3, m4_4, m4_5, m4_6, m4_7, m4_8, m4_9, m4_10, m4_11, m4_12, m4_13, m4_14, m4_15, m4_16, m4_17, m4_18, m4_19, m4_20, m4_21, m4_22, m4_23, m4_24, m4_r, m4_b, m4, w0, w1, w2, w3, lW, tW, nW, h1, h2, h3, lA, tA, xA, sA, lB, tB, xB, sB, n1, n2, bl_scal, bl_pur, wk, act, asV, ↓reduceIte, Nat.reduceEqDiff, reduceCtorEq, Nat.reduceAdd, Nat.reduceLeDiff, Nat.reduceSub, Nat.reduceMul, List.reduceReplicate, Int.reduceEq, Int.reduceLT, Int.reduceLE, Int.reduceAdd, Int.reduceSub, Int.reduceMul, Nat.reduceLT, Int.reduceToNat]; first | done | (with_reducible rfl))); (case h2 => (first | exact c1 | exact c2 | exact c3 | exact c4 | exact c5 | exact c6 | exact cm | exact cw)); (case h3 => simp -implicitDefEqProofs (maxSteps := 2000000) only [m4_1, m4_2, m4_3, m4_4, m4_5, m4_6, m4_7, m4_8, m4_9, m4_10, m4_11, m4_12, m4_13, m4_14, m4_15, m4_16, m4_17, m4_18, m4_19, m4_20, m4_21, m4_22, m4_23, m4_24, m4_r, m4_b, m4, w0, w1, w2, w3, lW, tW, nW, h1, h2, h3, lA, tA, xA, sA, lB, tB, xB, sB, n1, n2, bl_scal, bl_pur, wk, act, asV, ↓reduceIte, Nat.reduceEqDiff, reduceCtorEq, Nat.reduceAdd, Nat.reduceLeDiff, Nat.reduceSub, Nat.reduceMul, List.reduceReplicate, Int.reduceEq, Int.reduceLT, Int.reduceLE, Int.reduceAdd, Int.reduceSub, Int.reduceMul, Nat.reduceLT, Int.reduceToNat])))
        · have e4 : tokE t2 = 11 := if_neg hd
          rw [e4] at c2
          repeat' (first | simp -implicitDefEqProofs (maxSteps := 2000000) only [m4_1, m4_2, m4_3, m4_4, m4_5, m4_6, m4_7, m4_8, m4_9, m4_10, m4_11, m4_12, m4_13, m4_14, m4_15, m4_16, m4_17, m4_18, m4_19, m4_20, m4_21, m4_22, m4_23, m4_24, m4_r, m4_b, m4, w0, w1, w2, w3, lW, tW, nW, h1, h2, h3, lA, tA, xA, sA, lB, tB, xB, sB, n1, n2, bl_scal, bl_pur, wk, act, asV, ↓reduceIte, Nat.reduceEqDiff, reduceCtorEq, Nat.reduceAdd, Nat.reduceLeDiff, Nat.reduceSub, Nat.reduceMul, List.reduceReplicate, Int.reduceEq, Int.reduceLT, Int.reduceLE, Int.reduceAdd, Int.reduceSub, Int.reduceMul, Nat.reduceLT, Int.reduceToNat] | ((first | ((with_reducible refine CallL.gate ?_); apply CallL.of) | ((with_reducible refine CallpL.gate ?_); apply CallpL.of) | ((with_reducible refine CallP.gate ?_); apply CallP.of) | ((with_reducible refine CallpP.gate ?_); apply CallpP.of)); (case h1 => (simp -implicitDefEqProofs (maxSteps := 2000000) only [m4_1, m4_2, m4_3, m4_4, m4_5, m4_6, m4_7, m4_8, m4_9, m4_10, m4_11, m4_12, m4_13, m4_14, m4_15, m4_16, m4_17, m4_18, m4_19, m4_20, m4_21, m4_22, m4_23, m4_24, m4_r, m4_b, m4, w0, w1, w2, w3, lW, tW, nW, h1, h2, h3, lA, tA, xA, sA, lB, tB, xB, sB, n1, n2, bl_scal, bl_pur, wk, act, asV, ↓reduceIte, Nat.reduceEqDiff, reduceCtorEq, Nat.reduceAdd, Nat.reduceLeDiff, Nat.reduceSub, Nat.reduceMul, List.reduceReplicate, Int.reduceEq, Int.reduceLT, Int.reduceLE, Int.reduceAdd, Int.reduceSub, Int.reduceMul, Nat.reduceLT, Int.reduceToNat]; first | done | (with_reducible rfl))); (case h2 => (first | exact c1 | exact c2 | exact c3 | exact c4 | exact cw)); (case h3 => simp -implicitDefEqProofs (maxSteps := 2000000) only [m4_1, m4_2, m4_3, m4_4, m4_5, m4_6, m4_7, m4_8, m4_9, m4_10, m4_11, m4_12, m4_13, m4_14, m4_15, m4_16, m4_17, m4_18, m4_19, m4_20, m4_21, m4_22, m4_23, m4_24, m4_r, m4_b, m4, w0, w1, w2, w3, lW, tW, nW, h1, h2, h3, lA, tA, xA, sA, lB, tB, xB, sB, n1, n2, bl_scal, bl_pur, wk, act, asV, ↓reduceIte, Nat.reduceEqDiff, reduceCtorEq, Nat.reduceAdd, Nat.reduceLeDiff, Nat.reduceSub, Nat.reduceMul, List.reduceReplicate, Int.reduceEq, Int.reduceLT, Int.reduceLE, Int.reduceAdd, Int.reduceSub, Int.reduceMul, Nat.reduceLT, Int.reduceToNat])))
  · have e3 : tokE t1 = 11 := if_neg hc
    rw [e3] at c1
    by_cases hd : okC t2 = true
    · have e4 : tokE t2 = 0 := if_pos hd
      rw [e4] at c2
      rw [rC hd] at c5
      rw [rD hd] at c6
      repeat' (first | simp -implicitDefEqProofs (maxSteps := 2000000) only [m4_1, m4_2, m4_3, m4_4, m4_5, m4_6, m4_7, m4_8, m4_9, m4_10, m4_11, m4_12, m4_13, m4_14, m4_15, m4_16, m4_17, m4_18, m4_19, m4_20, m4_21, m4_22, m4_23, m4_24, m4_r, m4_b, m4, w0, w1, w2, w3, lW, tW, nW, h1, h2, h3, lA, tA, xA, sA, lB, tB, xB, sB,  bl_scal, bl_pur, wk, act, asV, ↓reduceIte, Nat.reduceEqDiff, reduceCtorEq, Nat.reduceAdd, Nat.reduceLeDiff, Nat.reduceSub, Nat.reduceMul, List.reduceReplicate, Int.reduceEq, Int.reduceLT, Int.reduceLE, Int.reduceAdd, Int.reduceSub, Int.reduceMul, Nat.reduceLT, Int.reduceToNat] | ((first | ((with_reducible refine CallL.gate ?_); apply CallL.of) | ((with_reducible refine CallpL.gate ?_); apply CallpL.of) | ((with_reducible refine CallP.gate ?_); apply CallP.of) | ((with_reducible refine CallpP.gate ?_); apply CallpP.of)); (case h1 => (simp -implicitDefEqProofs (maxSteps := 2000000) only [m4_1, m4_2, m4_3, m4_4, m4_5, m4_6, m4_7, m4_8, m4_9, m4_10, m4_11, m4_12, m4_13, m4_14, m4_15, m4_16, m4_17, m4_18, m4_19, m4_20, m4_21, m4_22, m4_23, m4_24, m4_r, m4_b, m4, w0, w1, w2, w3, lW, tW, nW, h1, h2, h3, lA, tA, xA, sA, lB, tB, xB, sB,  bl_scal, bl_pur, wk, act, asV, ↓reduceIte, Nat.reduceEqDiff, reduceCtorEq, Nat.reduceAdd, Nat.reduceLeDiff, Nat.reduceSub, Nat.reduceMul, List.reduceReplicate, Int.reduceEq, Int.reduceLT, Int.reduceLE, Int.reduceAdd, Int.reduceSub, Int.reduceMul, Nat.reduceLT, Int.reduceToNat]; first | done | (with_reducible rfl))); (case h2 => (first | exact c1 | exact c2 | exact c5 | exact c6 | exact cm | exact cw)); (case h3 => simp -implicitDefEqProofs (maxSteps := 2000000) only [m4_1, m4_2, m4_3, m4_4, m4_5, m4_6, m4_7, m4_8, m4_9, m4_10, m4_11, m4_12, m4_13, m4_14, m4_15, m4_16, m4_17, m4_18, m4_19, m4_20, m4_21, m4_22, m4_23, m4_24, m4_r, m4_b, m4, w0, w1, w2, w3, lW, tW, nW, h1, h2, h3, lA, tA, xA, sA, lB, tB, xB, sB,  bl_scal, bl_pur, wk, act, asV, ↓reduceIte, Nat.reduceEqDiff, reduceCtorEq, Nat.reduceAdd, Nat.reduceLeDiff, Nat.reduceSub, Nat.reduceMul, List.reduceReplicate, Int.reduceEq, Int.reduceLT, Int.reduceLE, Int.reduceAdd, Int.reduceSub, Int.reduceMul, Nat.reduceLT, Int.reduceToNat])))
    · have e4 : tokE t2 = 11 := if_neg hd
      rw [e4] at c2
      repeat' (first | simp -implicitDefEqProofs (maxSteps := 2000000) only [m4_1, m4_2, m4_3, m4_4, m4_5, m4_6, m4_7, m4_8, m4_9, m4_10, m4_11, m4_12, m4_13, m4_14, m4_15, m4_16, m4_17, m4_18, m4_19, m4_20, m4_21, m4_22, m4_23, m4_24, m4_r, m4_b, m4, w0, w1, w2, w3, lW, tW, nW, h1, h2, h3, lA, tA, xA, sA, lB, tB, xB, sB,  bl_scal, bl_pur, wk, act, asV, ↓reduceIte, Nat.reduceEqDiff, reduceCtorEq, Nat.reduceAdd, Nat.reduceLeDiff, Nat.reduceSub, Nat.reduceMul, List.reduceReplicate, Int.reduceEq, Int.reduceLT, Int.reduceLE, Int.reduceAdd, Int.reduceSub, Int.reduceMul, Nat.reduceLT, Int.reduceToNat] | ((first | ((with_reducible refine CallL.gate ?_); apply CallL.of) | ((with_reducible refine CallpL.gate ?_); apply CallpL.of) | ((with_reducible refine CallP.gate ?_); apply CallP.of) | ((with_reducible refine CallpP.gate ?_); apply CallpP.of)); (case h1 => (simp -implicitDefEqProofs (maxSteps := 2000000) only [m4_1, m4_2, m4_3, m4_4, m4_5, m4_6, m4_7, m4_8, m4_9, m4_10, m4_11, m4_12, m4_13, m4_14, m4_15, m4_16, m4_17, m4_18, m4_19, m4_20, m4_21, m4_22, m4_23, m4_24, m4_r, m4_b, m4, w0, w1, w2, w3, lW, tW, nW, h1, h2, h3, lA, tA, xA, sA, lB, tB, xB, sB,  bl_scal, bl_pur, wk, act, asV, ↓reduceIte, Nat.reduceEqDiff, reduceCtorEq, Nat.reduceAdd, Nat.reduceLeDiff, Nat.reduceSub, Nat.reduceMul, List.reduceReplicate, Int.reduceEq, Int.reduceLT, Int.reduceLE, Int.reduceAdd, Int.reduceSub, Int.reduceMul, Nat.reduceLT, Int.reduceToNat]; first | done | (with_reducible rfl))); (case h2 => (first | exact c1 | exact c2 | exact cw)); (case h3 => simp -implicitDefEqProofs (maxSteps := 2000000) only [m4_1, m4_2, m4_3, m4_4, m4_5, m4_6, m4_7, m4_8, m4_9, m4_10, m4_11, m4_12, m4_13, m4_14, m4_15, m4_16, m4_17, m4_18, m4_19, m4_20, m4_21, m4_22, m4_23, m4_24, m4_r, m4_b, m4, w0, w1, w2, w3, lW, tW, nW, h1, h2, h3, lA, tA, xA, sA, lB, tB, xB, sB,  bl_scal, bl_pur, wk, act, asV, ↓reduceIte, Nat.reduceEqDiff, reduceCtorEq, Nat.reduceAdd, Nat.reduceLeDiff, Nat.reduceSub, Nat.reduceMul, List.reduceReplicate, Int.reduceEq, Int.reduceLT, Int.reduceLE, Int.reduceAdd, Int.reduceSub, Int.reduceMul, Nat.reduceLT, Int.reduceToNat])))
end Go.Proofs.YtkphojcmjffccaaDoor
