/- The law CapsTell. -/
import Derived.Test.YtkphojcmjffccaaDoorY4
import Derived.Test.YtkphojcmjffccaaDoorE31
import Derived.Test.YtkphojcmjffccaaDoorM15
set_option linter.unusedVariables false
set_option linter.unusedSimpArgs false
set_option linter.unusedSectionVars false
set_option maxRecDepth 100000
set_option maxHeartbeats 8000000
namespace Go.Proofs.YtkphojcmjffccaaDoor
open Go.RowKit

theorem own_ok (k : List UInt8) (hk : k.length ≤ 2 ^ 39) (place : Int) (gen tick : Nat) : RC Tryd.prog 11 [.agg (wardC .plain k place gen tick)] [.agg (wardC .plain k place gen tick)] := by
  refine RC.of_wp c11 rfl ?_
  have tk := take_bl k
  have lk : (bl k).length = k.length := bl_length k
  have rk : roomy k.length 1 = true := roomyB (by omega)
  simp only [wardC]
  simp -implicitDefEqProofs (maxSteps := 2000000) only [m11_1, m11_r, m11_b, m11, tk, lk, rk, bl_pur, wk, act, asV, ↓reduceIte, Nat.reduceEqDiff, reduceCtorEq, Nat.reduceAdd, Nat.reduceLeDiff, Nat.reduceSub, Nat.reduceMul, List.reduceReplicate, Int.reduceEq, Int.reduceLT, Int.reduceLE, Int.reduceAdd, Int.reduceSub, Int.reduceMul, Nat.reduceLT, Int.reduceToNat]
theorem mintT_ok {k : List UInt8} {t : Tok} (ht : t.Ok) : (mintT k t).Ok := by
  unfold mintT
  split
  · exact by obtain ⟨a, b, c, _⟩ := ht; exact ⟨a, b, c, macB_length _ _⟩
  · exact zT_ok
theorem capsTell (k : List UInt8) (place : Int) (gen tick : Nat) (t : Tok) (ht : t.Ok) (name : List UInt8) (right : Int) (hk : k.length < 2 ^ 63) (hn : name.length < 2 ^ 63) :
    RC Tryd.prog 3 [.agg (wardC .plain k place gen tick), .agg (tkC t), .agg [.str name, .int .i64 right]] [.bool true] := by
  refine RC.of_wp c3 rfl ?_
  have cw := wakesC_ok
  have lT : (tkC t).length = 37 := tk_len ht.tag
  have tT := tk_take ht.tag
  have xT := tk_drop ht.tag
  have sT := tk_scal t
  have t1 := tk1 t
  have t5 : List.take 5 (tkC t) = clC t := rfl
  have w0 : List.take 1 (wardC .plain k place gen tick) = [.sl .plain k.length (bl k)] := rfl
  have lW : (wardC .plain k place gen tick).length = 4 := rfl
  have tW : List.take 4 (wardC .plain k place gen tick) = wardC .plain k place gen tick := rfl
  have sC : (clC t).all IV.scal = true := rfl
  have boxW : IV.boxable (.agg (wardC .plain k place gen tick)) = true := rfl
  have nW : ∀ s : St, s.snap (.agg (wardC .plain k place gen tick)) = some (.agg (wardC .plain k place gen tick)) := fun s => rfl
  obtain ⟨W, hW⟩ : ∃ W, W = wardC .plain k place gen tick := ⟨_, rfl⟩
  by_cases h1 : (200 : Int) < (k.length : Nat)
  · rw [← hW] at w0 lW tW ⊢
    repeat' (first | simp -implicitDefEqProofs (maxSteps := 2000000) only [m3_1, m3_2, m3_3, m3_4, m3_5, m3_6, m3_7, m3_r, m3_b, m3, lT, tT, xT, sT, t1, w0, lW, tW, h1, wk, act, asV, ↓reduceIte, Nat.reduceEqDiff, reduceCtorEq, Nat.reduceAdd, Nat.reduceLeDiff, Nat.reduceSub, Nat.reduceMul, List.reduceReplicate, Int.reduceEq, Int.reduceLT, Int.reduceLE, Int.reduceAdd, Int.reduceSub, Int.reduceMul, Nat.reduceLT, Int.reduceToNat] | ((first | ((with_reducible refine CallL.gate ?_); apply CallL.of) | ((with_reducible refine CallpL.gate ?_); apply CallpL.of) | ((with_reducible refine CallP.gate ?_); apply CallP.of) | ((with_reducible refine CallpP.gate ?_); apply CallpP.of)); (case h1 => (simp -implicitDefEqProofs (maxSteps := 2000000) only [m3_1, m3_2, m3_3, m3_4, m3_5, m3_6, m3_7, m3_r, m3_b, m3, lT, tT, xT, sT, t1, w0, lW, tW, h1, wk, act, asV, ↓reduceIte, Nat.reduceEqDiff, reduceCtorEq, Nat.reduceAdd, Nat.reduceLeDiff, Nat.reduceSub, Nat.reduceMul, List.reduceReplicate, Int.reduceEq, Int.reduceLT, Int.reduceLE, Int.reduceAdd, Int.reduceSub, Int.reduceMul, Nat.reduceLT, Int.reduceToNat]; first | done | (with_reducible rfl))); (case h2 => (first | exact cw)); (case h3 => simp -implicitDefEqProofs (maxSteps := 2000000) only [m3_1, m3_2, m3_3, m3_4, m3_5, m3_6, m3_7, m3_r, m3_b, m3, lT, tT, xT, sT, t1, w0, lW, tW, h1, wk, act, asV, ↓reduceIte, Nat.reduceEqDiff, reduceCtorEq, Nat.reduceAdd, Nat.reduceLeDiff, Nat.reduceSub, Nat.reduceMul, List.reduceReplicate, Int.reduceEq, Int.reduceLT, Int.reduceLE, Int.reduceAdd, Int.reduceSub, Int.reduceMul, Nat.reduceLT, Int.reduceToNat])))
  by_cases h2 : (100 : Int) < (t.name.length : Nat)
  · rw [← hW] at w0 lW tW ⊢
    repeat' (first | simp -implicitDefEqProofs (maxSteps := 2000000) only [m3_1, m3_2, m3_3, m3_4, m3_5, m3_6, m3_7, m3_r, m3_b, m3, lT, tT, xT, sT, t1, w0, lW, tW, h1, h2, wk, act, asV, ↓reduceIte, Nat.reduceEqDiff, reduceCtorEq, Nat.reduceAdd, Nat.reduceLeDiff, Nat.reduceSub, Nat.reduceMul, List.reduceReplicate, Int.reduceEq, Int.reduceLT, Int.reduceLE, Int.reduceAdd, Int.reduceSub, Int.reduceMul, Nat.reduceLT, Int.reduceToNat] | ((first | ((with_reducible refine CallL.gate ?_); apply CallL.of) | ((with_reducible refine CallpL.gate ?_); apply CallpL.of) | ((with_reducible refine CallP.gate ?_); apply CallP.of) | ((with_reducible refine CallpP.gate ?_); apply CallpP.of)); (case h1 => (simp -implicitDefEqProofs (maxSteps := 2000000) only [m3_1, m3_2, m3_3, m3_4, m3_5, m3_6, m3_7, m3_r, m3_b, m3, lT, tT, xT, sT, t1, w0, lW, tW, h1, h2, wk, act, asV, ↓reduceIte, Nat.reduceEqDiff, reduceCtorEq, Nat.reduceAdd, Nat.reduceLeDiff, Nat.reduceSub, Nat.reduceMul, List.reduceReplicate, Int.reduceEq, Int.reduceLT, Int.reduceLE, Int.reduceAdd, Int.reduceSub, Int.reduceMul, Nat.reduceLT, Int.reduceToNat]; first | done | (with_reducible rfl))); (case h2 => (first | exact cw)); (case h3 => simp -implicitDefEqProofs (maxSteps := 2000000) only [m3_1, m3_2, m3_3, m3_4, m3_5, m3_6, m3_7, m3_r, m3_b, m3, lT, tT, xT, sT, t1, w0, lW, tW, h1, h2, wk, act, asV, ↓reduceIte, Nat.reduceEqDiff, reduceCtorEq, Nat.reduceAdd, Nat.reduceLeDiff, Nat.reduceSub, Nat.reduceMul, List.reduceReplicate, Int.reduceEq, Int.reduceLT, Int.reduceLE, Int.reduceAdd, Int.reduceSub, Int.reduceMul, Nat.reduceLT, Int.reduceToNat])))
  by_cases h3 : (100 : Int) < (name.length : Nat)
  · rw [← hW] at w0 lW tW ⊢
    repeat' (first | simp -implicitDefEqProofs (maxSteps := 2000000) only [m3_1, m3_2, m3_3, m3_4, m3_5, m3_6, m3_7, m3_r, m3_b, m3, lT, tT, xT, sT, t1, w0, lW, tW, h1, h2, h3, wk, act, asV, ↓reduceIte, Nat.reduceEqDiff, reduceCtorEq, Nat.reduceAdd, Nat.reduceLeDiff, Nat.reduceSub, Nat.reduceMul, List.reduceReplicate, Int.reduceEq, Int.reduceLT, Int.reduceLE, Int.reduceAdd, Int.reduceSub, Int.reduceMul, Nat.reduceLT, Int.reduceToNat] | ((first | ((with_reducible refine CallL.gate ?_); apply CallL.of) | ((with_reducible refine CallpL.gate ?_); apply CallpL.of) | ((with_reducible refine CallP.gate ?_); apply CallP.of) | ((with_reducible refine CallpP.gate ?_); apply CallpP.of)); (case h1 => (simp -implicitDefEqProofs (maxSteps := 2000000) only [m3_1, m3_2, m3_3, m3_4, m3_5, m3_6, m3_7, m3_r, m3_b, m3, lT, tT, xT, sT, t1, w0, lW, tW, h1, h2, h3, wk, act, asV, ↓reduceIte, Nat.reduceEqDiff, reduceCtorEq, Nat.reduceAdd, Nat.reduceLeDiff, Nat.reduceSub, Nat.reduceMul, List.reduceReplicate, Int.reduceEq, Int.reduceLT, Int.reduceLE, Int.reduceAdd, Int.reduceSub, Int.reduceMul, Nat.reduceLT, Int.reduceToNat]; first | done | (with_reducible rfl))); (case h2 => (first | exact cw)); (case h3 => simp -implicitDefEqProofs (maxSteps := 2000000) only [m3_1, m3_2, m3_3, m3_4, m3_5, m3_6, m3_7, m3_r, m3_b, m3, lT, tT, xT, sT, t1, w0, lW, tW, h1, h2, h3, wk, act, asV, ↓reduceIte, Nat.reduceEqDiff, reduceCtorEq, Nat.reduceAdd, Nat.reduceLeDiff, Nat.reduceSub, Nat.reduceMul, List.reduceReplicate, Int.reduceEq, Int.reduceLT, Int.reduceLE, Int.reduceAdd, Int.reduceSub, Int.reduceMul, Nat.reduceLT, Int.reduceToNat])))
  have hk39 : k.length ≤ 2 ^ 39 := by omega
  have c1 := mint_ok .plain (by decide) k hk39 t ht
  have c2 := mintR_ok .plain (by decide) k hk39 t ht
  have c3 := check_ok .plain (by decide) k hk39 place gen tick t ht name right
  have c4 := checkR_ok .plain (by decide) k hk39 place gen tick t ht name right
  have c5 := check_ok .plain (by decide) k hk39 place gen tick (mintT k t) (mintT_ok ht) name right
  have c6 := checkR_ok .plain (by decide) k hk39 place gen tick (mintT k t) (mintT_ok ht) name right
  have c7 := own_ok k hk39 place gen tick
  have lA : (tkC (mintT k t)).length = 37 := tk_len (mintT_ok ht).tag
  have tA := tk_take (mintT_ok (k := k) ht).tag
  have xA := tk_drop (mintT_ok (k := k) ht).tag
  have sA := tk_scal (mintT k t)
  have qA := eqL_tk (mintT_ok (k := k) ht).tag (mintT_ok (k := k) ht).tag
  rw [decide_eq_true rfl] at qA
  have fA := fitR_tk (mintT_ok (k := k) ht).tag
  obtain ⟨e1, he1⟩ : ∃ e, e = checkE k place gen tick t name right := ⟨_, rfl⟩
  obtain ⟨e2, he2⟩ : ∃ e, e = checkE k place gen tick (mintT k t) name right := ⟨_, rfl⟩
  rw [← he1] at c3 c4
  rw [← he2] at c5 c6
  have sW : ∀ {p : IV → Bool}, (∀ n cs, p (.sl .plain n cs) = true) → (∀ k i, p (.int k i) = true) → W.all p = true := fun h1 h2 => by rw [hW]; simp [wardC, h1, h2]
  obtain ⟨E, hE⟩ : ∃ e, e = tokE t := ⟨_, rfl⟩
  obtain ⟨A, hA⟩ : ∃ A, A = tkC (mintT k t) := ⟨_, rfl⟩
  obtain ⟨T, hT⟩ : ∃ A, A = tkC t := ⟨_, rfl⟩
  obtain ⟨C, hC⟩ : ∃ A, A = clC t := ⟨_, rfl⟩
  have lk : (bl k).length = k.length := bl_length k
  have rk : roomy k.length 1 = true := roomyB (by omega)
  rw [← hW] at w0 lW tW nW c3 c4 c5 c6 c7 ⊢
  rw [← hT] at lT tT xT sT t1 t5 c3 c4 ⊢
  rw [← hA] at c1 c2 c5 c6 lA tA xA sA qA fA
  rw [← hC] at c1 c2 t5 sC
  rw [← hE] at c1 c2
  have tk := take_bl k
  simp -implicitDefEqProofs (maxSteps := 2000000) only [m3_1, m3_2, m3_3, m3_4, m3_5, m3_6, m3_7, m3_r, m3_b, m3, lT, tT, xT, sT, t1, w0, lW, tW, h1, h2, h3, wk, act, asV, ↓reduceIte, Nat.reduceEqDiff, reduceCtorEq, Nat.reduceAdd, Nat.reduceLeDiff, Nat.reduceSub, Nat.reduceMul, List.reduceReplicate, Int.reduceEq, Int.reduceLT, Int.reduceLE, Int.reduceAdd, Int.reduceSub, Int.reduceMul, Nat.reduceLT, Int.reduceToNat]
  obtain ⟨Inv, hInv⟩ : ∃ Inv : (Nat → Bool) → St → Prop, Inv = fun (L : Nat → Bool) (s : St) => ∃ v3 v4 v5, s.t 3 = .ptr 3 0 v3 ∧ s.h 3 = ⟨v3, true, true, false, W⟩ ∧ s.t 4 = .ptr 4 0 v4 ∧ s.h 4 = ⟨v4, true, true, false, T⟩ ∧ s.t 5 = .ptr 5 0 v5 ∧ s.h 5 = ⟨v5, true, true, false, [.str name, .int .i64 right]⟩ ∧ (L 0 = true → s.t 30 = .sl .lit 0 []) ∧ (L 1 = true → s.t 31 = .ptr 3 0 v3) ∧ (L 2 = true → s.t 32 = .sl .plain k.length (bl k)) ∧ (L 3 = true → s.t 33 = .sl .plain k.length (bl k)) ∧ (L 4 = true → s.t 34 = .ptr 4 0 v4) ∧ (L 5 = true → s.t 35 = .agg C) ∧ (L 6 = true → s.t 36 = .tup [.agg A, .int .i64 E]) ∧ (L 7 = true → s.t 29 = .tup [.agg A, .int .i64 E]) ∧ (L 8 = true → s.t 37 = .agg A) ∧ (L 9 = true → s.t 38 = .int .i64 E) ∧ (L 10 = true → ∃ v c, s.t 7 = .ptr 7 0 v ∧ s.h 7 = ⟨v, true, true, false, c⟩ ∧ c.length = 37 ∧ (L 11 = true → c = A)) ∧ (L 12 = true → s.t 8 = .int .i64 E) ∧ (L 11 = true → L 10 = true) := ⟨_, rfl⟩
  refine Wp_drxI Inv ?_ ?_ ?_
  · rw [hInv]
    exact ⟨_, _, _, by simp -implicitDefEqProofs (maxSteps := 2000000) only [wk, act, asV, ↓reduceIte, Nat.reduceEqDiff, reduceCtorEq, Nat.reduceAdd, Nat.reduceLeDiff, Nat.reduceSub, Nat.reduceMul, List.reduceReplicate, Int.reduceEq, Int.reduceLT, Int.reduceLE, Int.reduceAdd, Int.reduceSub, Int.reduceMul, Nat.reduceLT, Int.reduceToNat]; first | done | rfl, by simp -implicitDefEqProofs (maxSteps := 2000000) only [wk, act, asV, ↓reduceIte, Nat.reduceEqDiff, reduceCtorEq, Nat.reduceAdd, Nat.reduceLeDiff, Nat.reduceSub, Nat.reduceMul, List.reduceReplicate, Int.reduceEq, Int.reduceLT, Int.reduceLE, Int.reduceAdd, Int.reduceSub, Int.reduceMul, Nat.reduceLT, Int.reduceToNat]; first | done | rfl, by simp -implicitDefEqProofs (maxSteps := 2000000) only [wk, act, asV, ↓reduceIte, Nat.reduceEqDiff, reduceCtorEq, Nat.reduceAdd, Nat.reduceLeDiff, Nat.reduceSub, Nat.reduceMul, List.reduceReplicate, Int.reduceEq, Int.reduceLT, Int.reduceLE, Int.reduceAdd, Int.reduceSub, Int.reduceMul, Nat.reduceLT, Int.reduceToNat]; first | done | rfl, by simp -implicitDefEqProofs (maxSteps := 2000000) only [wk, act, asV, ↓reduceIte, Nat.reduceEqDiff, reduceCtorEq, Nat.reduceAdd, Nat.reduceLeDiff, Nat.reduceSub, Nat.reduceMul, List.reduceReplicate, Int.reduceEq, Int.reduceLT, Int.reduceLE, Int.reduceAdd, Int.reduceSub, Int.reduceMul, Nat.reduceLT, Int.reduceToNat]; first | done | rfl, by simp -implicitDefEqProofs (maxSteps := 2000000) only [wk, act, asV, ↓reduceIte, Nat.reduceEqDiff, reduceCtorEq, Nat.reduceAdd, Nat.reduceLeDiff, Nat.reduceSub, Nat.reduceMul, List.reduceReplicate, Int.reduceEq, Int.reduceLT, Int.reduceLE, Int.reduceAdd, Int.reduceSub, Int.reduceMul, Nat.reduceLT, Int.reduceToNat]; first | done | rfl, by simp -implicitDefEqProofs (maxSteps := 2000000) only [wk, act, asV, ↓reduceIte, Nat.reduceEqDiff, reduceCtorEq, Nat.reduceAdd, Nat.reduceLeDiff, Nat.reduceSub, Nat.reduceMul, List.reduceReplicate, Int.reduceEq, Int.reduceLT, Int.reduceLE, Int.reduceAdd, Int.reduceSub, Int.reduceMul, Nat.reduceLT, Int.reduceToNat]; first | done | rfl, fun h => absurd (h : false = true) (by decide), fun h => absurd (h : false = true) (by decide), fun h => absurd (h : false = true) (by decide), fun h => absurd (h : false = true) (by decide), fun h => absurd (h : false = true) (by decide), fun h => absurd (h : false = true) (by decide), fun h => absurd (h : false = true) (by decide), fun h => absurd (h : false = true) (by decide), fun h => absurd (h : false = true) (by decide), fun h => absurd (h : false = true) (by decide), fun h => absurd (h : false = true) (by decide), fun h => absurd (h : false = true) (by decide), fun h => absurd (h : false = true) (by decide)⟩
  · refine stepsX_cons ?_ (stepsX_cons ?_ (stepsX_cons ?_ (stepsX_cons ?_ (stepsX_cons ?_ (stepsX_cons ?_ (stepsX_cons ?_ (stepsX_cons ?_ (stepsX_cons ?_ (stepsX_cons ?_ (stepsX_cons ?_ (stepsX_cons ?_ (stepsX_cons ?_ (stepsX_nil)))))))))))))
    · intro L s hL hp hI
      rw [hInv] at hI
      obtain ⟨v3, v4, v5, k3, kh3, k4, kh4, k5, kh5, f0, f1, f2, f3, f4, f5, f6, f7, f8, f9, f10, f12, g11⟩ := hI
      simp -implicitDefEqProofs (maxSteps := 2000000) only [k3, kh3, k4, kh4, wk, act, asV, ↓reduceIte, Nat.reduceEqDiff, reduceCtorEq, Nat.reduceAdd, Nat.reduceLeDiff, Nat.reduceSub, Nat.reduceMul, List.reduceReplicate, Int.reduceEq, Int.reduceLT, Int.reduceLE, Int.reduceAdd, Int.reduceSub, Int.reduceMul, Nat.reduceLT, Int.reduceToNat]
      rw [hInv]
      exact ⟨v3, v4, v5, k3, kh3, k4, kh4, k5, kh5, fun _ => rfl, f1, f2, f3, f4, f5, f6, f7, f8, f9, f10, f12, g11⟩
    · intro L s hL hp hI
      rw [hInv] at hI
      obtain ⟨v3, v4, v5, k3, kh3, k4, kh4, k5, kh5, f0, f1, f2, f3, f4, f5, f6, f7, f8, f9, f10, f12, g11⟩ := hI
      simp -implicitDefEqProofs (maxSteps := 2000000) only [k3, kh3, k4, kh4, wk, act, asV, ↓reduceIte, Nat.reduceEqDiff, reduceCtorEq, Nat.reduceAdd, Nat.reduceLeDiff, Nat.reduceSub, Nat.reduceMul, List.reduceReplicate, Int.reduceEq, Int.reduceLT, Int.reduceLE, Int.reduceAdd, Int.reduceSub, Int.reduceMul, Nat.reduceLT, Int.reduceToNat]
      rw [hInv]
      exact ⟨v3, v4, v5, k3, kh3, k4, kh4, k5, kh5, f0, fun _ => rfl, f2, f3, f4, f5, f6, f7, f8, f9, f10, f12, g11⟩
    · intro L s hL hp hI
      rw [hInv] at hI
      obtain ⟨v3, v4, v5, k3, kh3, k4, kh4, k5, kh5, f0, f1, f2, f3, f4, f5, f6, f7, f8, f9, f10, f12, g11⟩ := hI
      have p1 := f1 (hp 1 (by simp))
      simp -implicitDefEqProofs (maxSteps := 2000000) only [k3, kh3, k4, kh4, p1, lW, w0, wk, act, asV, ↓reduceIte, Nat.reduceEqDiff, reduceCtorEq, Nat.reduceAdd, Nat.reduceLeDiff, Nat.reduceSub, Nat.reduceMul, List.reduceReplicate, Int.reduceEq, Int.reduceLT, Int.reduceLE, Int.reduceAdd, Int.reduceSub, Int.reduceMul, Nat.reduceLT, Int.reduceToNat]
      rw [hInv]
      exact ⟨v3, v4, v5, k3, kh3, k4, kh4, k5, kh5, f0, f1, fun _ => rfl, f3, f4, f5, f6, f7, f8, f9, f10, f12, g11⟩
    · intro L s hL hp hI
      rw [hInv] at hI
      obtain ⟨v3, v4, v5, k3, kh3, k4, kh4, k5, kh5, f0, f1, f2, f3, f4, f5, f6, f7, f8, f9, f10, f12, g11⟩ := hI
      have p0 := f0 (hp 0 (by simp))
      have p2 := f2 (hp 2 (by simp))
      simp -implicitDefEqProofs (maxSteps := 2000000) only [k3, kh3, k4, kh4, p0, p2, rk, lk, tk, wk, act, asV, ↓reduceIte, Nat.reduceEqDiff, reduceCtorEq, Nat.reduceAdd, Nat.reduceLeDiff, Nat.reduceSub, Nat.reduceMul, List.reduceReplicate, Int.reduceEq, Int.reduceLT, Int.reduceLE, Int.reduceAdd, Int.reduceSub, Int.reduceMul, Nat.reduceLT, Int.reduceToNat]
      rw [hInv]
      exact ⟨v3, v4, v5, k3, kh3, k4, kh4, k5, kh5, f0, f1, f2, fun _ => rfl, f4, f5, f6, f7, f8, f9, f10, f12, g11⟩
    · intro L s hL hp hI
      rw [hInv] at hI
      obtain ⟨v3, v4, v5, k3, kh3, k4, kh4, k5, kh5, f0, f1, f2, f3, f4, f5, f6, f7, f8, f9, f10, f12, g11⟩ := hI
      simp -implicitDefEqProofs (maxSteps := 2000000) only [k3, kh3, k4, kh4, wk, act, asV, ↓reduceIte, Nat.reduceEqDiff, reduceCtorEq, Nat.reduceAdd, Nat.reduceLeDiff, Nat.reduceSub, Nat.reduceMul, List.reduceReplicate, Int.reduceEq, Int.reduceLT, Int.reduceLE, Int.reduceAdd, Int.reduceSub, Int.reduceMul, Nat.reduceLT, Int.reduceToNat]
      rw [hInv]
      exact ⟨v3, v4, v5, k3, kh3, k4, kh4, k5, kh5, f0, f1, f2, f3, fun _ => rfl, f5, f6, f7, f8, f9, f10, f12, g11⟩
    · intro L s hL hp hI
      rw [hInv] at hI
      obtain ⟨v3, v4, v5, k3, kh3, k4, kh4, k5, kh5, f0, f1, f2, f3, f4, f5, f6, f7, f8, f9, f10, f12, g11⟩ := hI
      have p4 := f4 (hp 4 (by simp))
      simp -implicitDefEqProofs (maxSteps := 2000000) only [k3, kh3, k4, kh4, p4, lT, t5, wk, act, asV, ↓reduceIte, Nat.reduceEqDiff, reduceCtorEq, Nat.reduceAdd, Nat.reduceLeDiff, Nat.reduceSub, Nat.reduceMul, List.reduceReplicate, Int.reduceEq, Int.reduceLT, Int.reduceLE, Int.reduceAdd, Int.reduceSub, Int.reduceMul, Nat.reduceLT, Int.reduceToNat]
      rw [hInv]
      exact ⟨v3, v4, v5, k3, kh3, k4, kh4, k5, kh5, f0, f1, f2, f3, f4, fun _ => rfl, f6, f7, f8, f9, f10, f12, g11⟩
    · intro L s hL hp hI
      rw [hInv] at hI
      obtain ⟨v3, v4, v5, k3, kh3, k4, kh4, k5, kh5, f0, f1, f2, f3, f4, f5, f6, f7, f8, f9, f10, f12, g11⟩ := hI
      have p3 := f3 (hp 3 (by simp))
      have p5 := f5 (hp 5 (by simp))
      repeat' (first | simp -implicitDefEqProofs (maxSteps := 2000000) only [k3, kh3, k4, kh4, p3, p5, sC, sA, wk, act, asV, ↓reduceIte, Nat.reduceEqDiff, reduceCtorEq, Nat.reduceAdd, Nat.reduceLeDiff, Nat.reduceSub, Nat.reduceMul, List.reduceReplicate, Int.reduceEq, Int.reduceLT, Int.reduceLE, Int.reduceAdd, Int.reduceSub, Int.reduceMul, Nat.reduceLT, Int.reduceToNat] | ((first | ((with_reducible refine CallL.gate ?_); apply CallL.of) | ((with_reducible refine CallpL.gate ?_); apply CallpL.of) | ((with_reducible refine CallP.gate ?_); apply CallP.of) | ((with_reducible refine CallpP.gate ?_); apply CallpP.of)); (case h1 => (simp -implicitDefEqProofs (maxSteps := 2000000) only [k3, kh3, k4, kh4, p3, p5, sC, sA, wk, act, asV, ↓reduceIte, Nat.reduceEqDiff, reduceCtorEq, Nat.reduceAdd, Nat.reduceLeDiff, Nat.reduceSub, Nat.reduceMul, List.reduceReplicate, Int.reduceEq, Int.reduceLT, Int.reduceLE, Int.reduceAdd, Int.reduceSub, Int.reduceMul, Nat.reduceLT, Int.reduceToNat]; first | done | (with_reducible rfl))); (case h2 => (first | exact c1)); (case h3 => simp -implicitDefEqProofs (maxSteps := 2000000) only [k3, kh3, k4, kh4, p3, p5, sC, sA, wk, act, asV, ↓reduceIte, Nat.reduceEqDiff, reduceCtorEq, Nat.reduceAdd, Nat.reduceLeDiff, Nat.reduceSub, Nat.reduceMul, List.reduceReplicate, Int.reduceEq, Int.reduceLT, Int.reduceLE, Int.reduceAdd, Int.reduceSub, Int.reduceMul, Nat.reduceLT, Int.reduceToNat])))
      rw [hInv]
      exact ⟨v3, v4, v5, k3, kh3, k4, kh4, k5, kh5, f0, f1, f2, f3, f4, f5, fun _ => rfl, f7, f8, f9, f10, f12, g11⟩
    · intro L s hL hp hI
      rw [hInv] at hI
      obtain ⟨v3, v4, v5, k3, kh3, k4, kh4, k5, kh5, f0, f1, f2, f3, f4, f5, f6, f7, f8, f9, f10, f12, g11⟩ := hI
      have p6 := f6 (hp 6 (by simp))
      simp -implicitDefEqProofs (maxSteps := 2000000) only [k3, kh3, k4, kh4, p6, wk, act, asV, ↓reduceIte, Nat.reduceEqDiff, reduceCtorEq, Nat.reduceAdd, Nat.reduceLeDiff, Nat.reduceSub, Nat.reduceMul, List.reduceReplicate, Int.reduceEq, Int.reduceLT, Int.reduceLE, Int.reduceAdd, Int.reduceSub, Int.reduceMul, Nat.reduceLT, Int.reduceToNat]
      rw [hInv]
      exact ⟨v3, v4, v5, k3, kh3, k4, kh4, k5, kh5, f0, f1, f2, f3, f4, f5, f6, fun _ => rfl, f8, f9, f10, f12, g11⟩
    · intro L s hL hp hI
      rw [hInv] at hI
      obtain ⟨v3, v4, v5, k3, kh3, k4, kh4, k5, kh5, f0, f1, f2, f3, f4, f5, f6, f7, f8, f9, f10, f12, g11⟩ := hI
      have p7 := f7 (hp 7 (by simp))
      simp -implicitDefEqProofs (maxSteps := 2000000) only [k3, kh3, k4, kh4, p7, wk, act, asV, ↓reduceIte, Nat.reduceEqDiff, reduceCtorEq, Nat.reduceAdd, Nat.reduceLeDiff, Nat.reduceSub, Nat.reduceMul, List.reduceReplicate, Int.reduceEq, Int.reduceLT, Int.reduceLE, Int.reduceAdd, Int.reduceSub, Int.reduceMul, Nat.reduceLT, Int.reduceToNat]
      rw [hInv]
      exact ⟨v3, v4, v5, k3, kh3, k4, kh4, k5, kh5, f0, f1, f2, f3, f4, f5, f6, f7, fun _ => rfl, f9, f10, f12, g11⟩
    · intro L s hL hp hI
      rw [hInv] at hI
      obtain ⟨v3, v4, v5, k3, kh3, k4, kh4, k5, kh5, f0, f1, f2, f3, f4, f5, f6, f7, f8, f9, f10, f12, g11⟩ := hI
      have p7 := f7 (hp 7 (by simp))
      simp -implicitDefEqProofs (maxSteps := 2000000) only [k3, kh3, k4, kh4, p7, wk, act, asV, ↓reduceIte, Nat.reduceEqDiff, reduceCtorEq, Nat.reduceAdd, Nat.reduceLeDiff, Nat.reduceSub, Nat.reduceMul, List.reduceReplicate, Int.reduceEq, Int.reduceLT, Int.reduceLE, Int.reduceAdd, Int.reduceSub, Int.reduceMul, Nat.reduceLT, Int.reduceToNat]
      rw [hInv]
      exact ⟨v3, v4, v5, k3, kh3, k4, kh4, k5, kh5, f0, f1, f2, f3, f4, f5, f6, f7, f8, fun _ => rfl, f10, f12, g11⟩
    · intro L s hL hp hI
      rw [hInv] at hI
      obtain ⟨v3, v4, v5, k3, kh3, k4, kh4, k5, kh5, f0, f1, f2, f3, f4, f5, f6, f7, f8, f9, f10, f12, g11⟩ := hI
      simp -implicitDefEqProofs (maxSteps := 2000000) only [k3, kh3, k4, kh4, wk, act, asV, ↓reduceIte, Nat.reduceEqDiff, reduceCtorEq, Nat.reduceAdd, Nat.reduceLeDiff, Nat.reduceSub, Nat.reduceMul, List.reduceReplicate, Int.reduceEq, Int.reduceLT, Int.reduceLE, Int.reduceAdd, Int.reduceSub, Int.reduceMul, Nat.reduceLT, Int.reduceToNat]
      rw [hInv]
      exact ⟨v3, v4, v5, k3, kh3, k4, kh4, k5, kh5, f0, f1, f2, f3, f4, f5, f6, f7, f8, f9, fun _ => ⟨_, _, rfl, rfl, rfl, fun h => absurd (g11 h) (by rw [hL]; decide)⟩, f12, fun _ => rfl⟩
    · intro L s hL hp hI
      rw [hInv] at hI
      obtain ⟨v3, v4, v5, k3, kh3, k4, kh4, k5, kh5, f0, f1, f2, f3, f4, f5, f6, f7, f8, f9, f10, f12, g11⟩ := hI
      have p8 := f8 (hp 8 (by simp))
      have p := hp 10 (by simp)
      obtain ⟨va, ca, q4, qh4, ql, _⟩ := f10 p
      have xc : List.drop 37 ca = [] := List.drop_of_length_le (by omega)
      simp -implicitDefEqProofs (maxSteps := 2000000) only [k3, kh3, k4, kh4, p8, q4, qh4, ql, xc, lA, wk, act, asV, ↓reduceIte, Nat.reduceEqDiff, reduceCtorEq, Nat.reduceAdd, Nat.reduceLeDiff, Nat.reduceSub, Nat.reduceMul, List.reduceReplicate, Int.reduceEq, Int.reduceLT, Int.reduceLE, Int.reduceAdd, Int.reduceSub, Int.reduceMul, Nat.reduceLT, Int.reduceToNat]
      rw [hInv]
      exact ⟨v3, v4, v5, k3, kh3, k4, kh4, k5, kh5, f0, f1, f2, f3, f4, f5, f6, f7, f8, f9, fun _ => ⟨va, A, q4, rfl, lA, fun _ => rfl⟩, f12, fun _ => p⟩
    · intro L s hL hp hI
      rw [hInv] at hI
      obtain ⟨v3, v4, v5, k3, kh3, k4, kh4, k5, kh5, f0, f1, f2, f3, f4, f5, f6, f7, f8, f9, f10, f12, g11⟩ := hI
      have p9 := f9 (hp 9 (by simp))
      simp -implicitDefEqProofs (maxSteps := 2000000) only [k3, kh3, k4, kh4, p9, wk, act, asV, ↓reduceIte, Nat.reduceEqDiff, reduceCtorEq, Nat.reduceAdd, Nat.reduceLeDiff, Nat.reduceSub, Nat.reduceMul, List.reduceReplicate, Int.reduceEq, Int.reduceLT, Int.reduceLE, Int.reduceAdd, Int.reduceSub, Int.reduceMul, Nat.reduceLT, Int.reduceToNat]
      rw [hInv]
      exact ⟨v3, v4, v5, k3, kh3, k4, kh4, k5, kh5, f0, f1, f2, f3, f4, f5, f6, f7, f8, f9, f10, fun _ => rfl, g11⟩
  · intro s hI
    rw [hInv] at hI
    obtain ⟨v3, v4, v5, k3, kh3, k4, kh4, k5, kh5, f0, f1, f2, f3, f4, f5, f6, f7, f8, f9, f10, f12, g11⟩ := hI
    obtain ⟨w10, c10_, q10, qh10, _, e10⟩ := f10 (by decide)
    rw [e10 (by decide)] at qh10
    have f12 := f12 (by decide)
    repeat' (first | simp -implicitDefEqProofs (maxSteps := 2000000) only [k3, kh3, k4, kh4, k5, kh5, q10, qh10, f12, w0, t5, sC, lT, tT, xT, sT, t1, lA, tA, xA, sA, qA, fA, lW, tW, nW, sW, bl_scal, bl_pur, wk, act, asV, ↓reduceIte, Nat.reduceEqDiff, reduceCtorEq, Nat.reduceAdd, Nat.reduceLeDiff, Nat.reduceSub, Nat.reduceMul, List.reduceReplicate, Int.reduceEq, Int.reduceLT, Int.reduceLE, Int.reduceAdd, Int.reduceSub, Int.reduceMul, Nat.reduceLT, Int.reduceToNat] | ((first | ((with_reducible refine CallL.gate ?_); apply CallL.of) | ((with_reducible refine CallpL.gate ?_); apply CallpL.of) | ((with_reducible refine CallP.gate ?_); apply CallP.of) | ((with_reducible refine CallpP.gate ?_); apply CallpP.of)); (case h1 => (simp -implicitDefEqProofs (maxSteps := 2000000) only [k3, kh3, k4, kh4, k5, kh5, q10, qh10, f12, w0, t5, sC, lT, tT, xT, sT, t1, lA, tA, xA, sA, qA, fA, lW, tW, nW, sW, bl_scal, bl_pur, wk, act, asV, ↓reduceIte, Nat.reduceEqDiff, reduceCtorEq, Nat.reduceAdd, Nat.reduceLeDiff, Nat.reduceSub, Nat.reduceMul, List.reduceReplicate, Int.reduceEq, Int.reduceLT, Int.reduceLE, Int.reduceAdd, Int.reduceSub, Int.reduceMul, Nat.reduceLT, Int.reduceToNat]; first | done | (with_reducible rfl))); (case h2 => (first | exact c2 | exact c3 | exact c4 | exact c5 | exact c6 | exact c7 | exact cw)); (case h3 => simp -implicitDefEqProofs (maxSteps := 2000000) only [k3, kh3, k4, kh4, k5, kh5, q10, qh10, f12, w0, t5, sC, lT, tT, xT, sT, t1, lA, tA, xA, sA, qA, fA, lW, tW, nW, sW, bl_scal, bl_pur, wk, act, asV, ↓reduceIte, Nat.reduceEqDiff, reduceCtorEq, Nat.reduceAdd, Nat.reduceLeDiff, Nat.reduceSub, Nat.reduceMul, List.reduceReplicate, Int.reduceEq, Int.reduceLT, Int.reduceLE, Int.reduceAdd, Int.reduceSub, Int.reduceMul, Nat.reduceLT, Int.reduceToNat])))
end Go.Proofs.YtkphojcmjffccaaDoor
