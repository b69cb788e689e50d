/- The law AuditSwaps. -/
import Derived.Test.YtkphojcmjffccaaW10
import Derived.Test.YtkphojcmjffccaaE31
import Derived.Test.YtkphojcmjffccaaM16
set_option linter.unusedVariables false
set_option linter.unusedSimpArgs false
set_option linter.unusedSectionVars false
set_option maxRecDepth 100000
set_option maxHeartbeats 8000000
namespace Go.Proofs.Ytkphojcmjffccaa
open Go.RowKit

def sR (i : Nat) (x : Sd) : Rp := ⟨(i : Nat), (modN x.r.e 256 : Nat), .full, []⟩
theorem sR_good (i : Nat) (hi : i < 1000) (x : Sd) : recE (sR i x).id (sR i x).e = 0 := by
  have h2 := modN_lt x.r.e (n := 256) (by decide)
  exact recE_small (by simp only [sR]; omega)
def swaps (xs : List Sd) : List En := xs.foldl (fun es x => es ++ [newE es x.asked (sR es.length x)]) []
theorem swaps_snoc (xs : List Sd) (x : Sd) : swaps (xs ++ [x]) = swaps xs ++ [newE (swaps xs) x.asked (sR (swaps xs).length x)] := by simp [swaps]
theorem swaps_facts : ∀ (n : Nat) (xs : List Sd), xs.length = n → n ≤ 999 → (swaps xs).length = n ∧ (∀ e ∈ swaps xs, e.Ok ∧ recE e.id e.e = 0) ∧ verG y32 (swaps xs) 0 = -1
  | 0, xs, h, _ => by
    obtain rfl := List.eq_nil_of_length_eq_zero h
    exact ⟨rfl, by simp [swaps], rfl⟩
  | n + 1, xs, h, hn => by
    rcases List.eq_nil_or_concat xs with rfl | ⟨A, x, rfl⟩
    · simp at h
    rw [List.concat_eq_append] at h ⊢
    obtain ⟨h1, h2, h3⟩ := swaps_facts n A (by simpa using h) (by omega)
    have hg := sR_good (swaps A).length (by omega) x
    rw [swaps_snoc]
    refine ⟨by simp [h1], ?_, verG_add h3 _ _ hg⟩
    intro e he
    rcases List.mem_append.1 he with he | he
    · exact h2 e he
    · obtain rfl := List.mem_singleton.1 he
      exact ⟨newE_ok _ _ _, hg⟩

theorem s8_tail {s : St} {n k ver : Nat} {A C : List En} {x y : En} (hl : (A ++ x :: y :: C).length = n) (hn : n ≤ 30) (hk : A.length = k) (hes : ∀ e ∈ A ++ x :: y :: C, e.Ok) (hbad : ∀ ys, verG y32 (A ++ y :: ys) 0 = (k : Int))
    (k7 : s.t 7 = .row 5009 0 n 66 ver) (kh7 : s.h 5009 = ⟨ver, true, true, true, enL (A ++ x :: y :: C)⟩) (k8 : s.t 8 = .int .i64 (k : Nat)) :
    Wp (RCs Try.prog) m8_19 (Post [.tmp 4] [.bool true]) s := by
  have hyi := hes y (by simp)
  have hxi := hes x (by simp)
  have hA := fun e (h : e ∈ A) => hes e (by simp [h])
  have hC := fun e (h : e ∈ C) => hes e (by simp [h])
  have lA := enL_length hA
  have lX := enC_length hxi
  have lY := enC_length hyi
  rw [hk] at lA
  have lE := enL_length hes
  rw [hl] at lE
  have hnk : C.length = n - (k + 2) := by rw [← hl, ← hk]; simp; omega
  have hkn : k + 2 ≤ n := by rw [← hl, ← hk]; simp
  have eV : enL (A ++ x :: y :: C) = enL A ++ (enC x ++ (enC y ++ enL C)) := by rw [enL_append]; simp [enL]
  have t1 : List.take (k * 66) (enL (A ++ x :: y :: C)) = enL A := by rw [eV, ← lA, List.take_left]
  have d1 : List.drop ((k + 1) * 66) (enL (A ++ x :: y :: C)) = enC y ++ enL C := by
    rw [eV, show (k + 1) * 66 = k * 66 + 66 by omega, ← List.drop_drop, ← lA, List.drop_left, ← lX, List.drop_left]
  have wkk : IntKind.i64.wrap (((k : Nat) : Int) + 1) = ((k + 1 : Nat) : Int) := by rw [IntKind.wrap_i64]; omega
  have kx : k ≤ n := by omega
  have kx1 : k + 1 ≤ n := by omega
  have r1 : roomy k 80 = true := roomy80 (by omega)
  obtain ⟨V, hV⟩ : ∃ V, V = enL (A ++ x :: y :: C) := ⟨_, rfl⟩
  rw [← hV] at kh7 lE t1 d1
  simp -implicitDefEqProofs (maxSteps := 2000000) only [m8_19, m8_18, m8_17, m8_16, m8_15, m8_14, wk, act, asV, ↓reduceIte, Nat.reduceEqDiff, reduceCtorEq, Nat.reduceAdd, Nat.reduceLeDiff, Nat.reduceSub, Nat.reduceMul, List.reduceReplicate, Int.reduceEq, Int.reduceLT, Int.reduceLE, Int.reduceAdd, Int.reduceSub, Int.reduceMul, Nat.reduceLT, Int.reduceToNat]
  refine Wp_dapR ?_
  simp -implicitDefEqProofs (maxSteps := 2000000) only [k7, k8, kh7, wkk, kx, kx1, lE, t1, d1, r1, lA, wk, act, asV, ↓reduceIte, Nat.reduceEqDiff, reduceCtorEq, Nat.reduceAdd, Nat.reduceLeDiff, Nat.reduceSub, Nat.reduceMul, List.reduceReplicate, Int.reduceEq, Int.reduceLT, Int.reduceLE, Int.reduceAdd, Int.reduceSub, Int.reduceMul, Nat.reduceLT, Int.reduceToNat]
  have lD : (enC y ++ enL C).length = (n - (k + 1)) * 66 := by rw [List.length_append, lY, enL_length hC, hnk]; omega
  have tD : List.take ((n - (k + 1)) * 66) (enC y ++ enL C) = enC y ++ enL C := List.take_of_length_le (by omega)
  have pA := enL_pur A
  have r2 : roomy (k + (n - (k + 1))) 80 = true := roomy80 (by omega)
  have p1 : 0 < n - (k + 1) := by omega
  refine DapA.of [] (by simp -implicitDefEqProofs (maxSteps := 2000000) only [wk, act, asV, ↓reduceIte, Nat.reduceEqDiff, reduceCtorEq, Nat.reduceAdd, Nat.reduceLeDiff, Nat.reduceSub, Nat.reduceMul, List.reduceReplicate, Int.reduceEq, Int.reduceLT, Int.reduceLE, Int.reduceAdd, Int.reduceSub, Int.reduceMul, Nat.reduceLT, Int.reduceToNat]) (by simp -implicitDefEqProofs (maxSteps := 2000000) only [kh7, d1, lD, tD, lA, r2, p1, lE, wk, act, asV, ↓reduceIte, Nat.reduceEqDiff, reduceCtorEq, Nat.reduceAdd, Nat.reduceLeDiff, Nat.reduceSub, Nat.reduceMul, List.reduceReplicate, Int.reduceEq, Int.reduceLT, Int.reduceLE, Int.reduceAdd, Int.reduceSub, Int.reduceMul, Nat.reduceLT, Int.reduceToNat]; rfl) ⟨fun y hy => absurd hy (by simp), fun x hx => absurd hx (by simp [dsts])⟩ (fun y hy => absurd hy (by simp)) ?_
  simp -implicitDefEqProofs (maxSteps := 2000000) only [wk, act, asV, ↓reduceIte, Nat.reduceEqDiff, reduceCtorEq, Nat.reduceAdd, Nat.reduceLeDiff, Nat.reduceSub, Nat.reduceMul, List.reduceReplicate, Int.reduceEq, Int.reduceLT, Int.reduceLE, Int.reduceAdd, Int.reduceSub, Int.reduceMul, Nat.reduceLT, Int.reduceToNat]
  obtain ⟨w, hw⟩ : ∃ w, w = (s.h 114).ver + 1 := ⟨_, rfl⟩
  have ky : List.take 66 (List.drop ((k + 1) * 66) V) = enC y := by rw [d1, ← lY, List.take_left]
  have kx2 : List.take 66 (List.drop (k * 66) V) = enC x := by rw [hV, eV, ← lA, List.drop_left, ← lX, List.take_left]
  have kb1 : (k + 1) * 66 + 66 ≤ n * 66 := by omega
  have kb0 : k * 66 + 66 ≤ n * 66 := by omega
  have hk0 : ((k : Nat) : Int) < n := by omega
  have hk1 : ((k + 1 : Nat) : Int) < n := by omega
  obtain ⟨W1, hW1⟩ : ∃ W1, W1 = enL A ++ (enC y ++ (enC y ++ enL C)) := ⟨_, rfl⟩
  obtain ⟨W2, hW2⟩ : ∃ W2, W2 = enL A ++ (enC y ++ (enC x ++ enL C)) := ⟨_, rfl⟩
  have w1 : List.take (k * 66) V ++ enC y ++ List.drop (k * 66 + 66) V = W1 := by
    rw [t1, show k * 66 + 66 = (k + 1) * 66 by omega, d1, hW1, List.append_assoc]
  have w2 : List.take ((k + 1) * 66) W1 ++ enC x ++ List.drop ((k + 1) * 66 + 66) W1 = W2 := by
    have lP : (enL A ++ enC y).length = (k + 1) * 66 := by rw [List.length_append, lA, lY]; omega
    rw [hW1, hW2, ← List.append_assoc, ← lP, List.take_left, ← List.drop_drop, List.drop_left, ← lY, List.drop_left]
    simp
  have sX := enC_scal x
  have sY := enC_scal y
  have xp := enC_pur x
  have yp := enC_pur y
  have lW1 : W1.length = n * 66 := by rw [hW1]; simp only [List.length_append, lA, lY, enL_length hC, hnk]; omega
  obtain ⟨Inv, hInv⟩ : ∃ Inv : (Nat → Bool) → St → Prop, Inv = fun (L : Nat → Bool) (s : St) => s.t 7 = .row 5009 0 n 66 ver ∧ s.t 8 = .int .i64 (k : Nat) ∧ s.t 12 = .row 114 0 (k + (n - (k + 1))) 66 w ∧ s.h 114 = ⟨w, true, true, true, enL A ++ (enC y ++ enL C)⟩ ∧ s.h 5009 = ⟨ver, true, true, true, cond (L 17) W2 (cond (L 15) W1 V)⟩ ∧ (L 0 = true → s.t 115 = .row 5009 0 n 66 ver) ∧ (L 1 = true → s.t 116 = .int .i64 (k : Nat)) ∧ (L 2 = true → s.t 117 = .row 5009 0 n 66 ver) ∧ (L 3 = true → s.t 118 = .int .i64 (k : Nat)) ∧ (L 4 = true → s.t 119 = .int .i64 ((k + 1 : Nat) : Int)) ∧ (L 5 = true → s.t 120 = .row 5009 0 n 66 ver) ∧ (L 6 = true → s.t 121 = .int .i64 (k : Nat)) ∧ (L 7 = true → s.t 122 = .int .i64 ((k + 1 : Nat) : Int)) ∧ (L 8 = true → s.t 123 = .ptr 5009 ((k + 1) * 66) ver) ∧ (L 9 = true → s.t 124 = .agg (enC y)) ∧ (L 10 = true → s.t 125 = .row 5009 0 n 66 ver) ∧ (L 11 = true → s.t 126 = .int .i64 (k : Nat)) ∧ (L 12 = true → s.t 127 = .ptr 5009 (k * 66) ver) ∧ (L 13 = true → s.t 128 = .agg (enC x)) ∧ (L 14 = true → s.t 129 = .ptr 5009 (k * 66) ver) ∧ (L 16 = true → s.t 130 = .ptr 5009 ((k + 1) * 66) ver) ∧ (L 15 = true → L 9 = true ∧ L 13 = true) ∧ (L 17 = true → L 15 = true ∧ L 16 = true) := ⟨_, rfl⟩
  refine Wp_drxI Inv ?_ ?_ ?_
  · rw [hInv]
    exact ⟨by simp -implicitDefEqProofs (maxSteps := 2000000) only [k7, k8, kh7, hw, wk, act, asV, ↓reduceIte, Nat.reduceEqDiff, reduceCtorEq, Nat.reduceAdd, Nat.reduceLeDiff, Nat.reduceSub, Nat.reduceMul, List.reduceReplicate, Int.reduceEq, Int.reduceLT, Int.reduceLE, Int.reduceAdd, Int.reduceSub, Int.reduceMul, Nat.reduceLT, Int.reduceToNat]; first | done | rfl, by simp -implicitDefEqProofs (maxSteps := 2000000) only [k7, k8, kh7, hw, wk, act, asV, ↓reduceIte, Nat.reduceEqDiff, reduceCtorEq, Nat.reduceAdd, Nat.reduceLeDiff, Nat.reduceSub, Nat.reduceMul, List.reduceReplicate, Int.reduceEq, Int.reduceLT, Int.reduceLE, Int.reduceAdd, Int.reduceSub, Int.reduceMul, Nat.reduceLT, Int.reduceToNat]; first | done | rfl, by simp -implicitDefEqProofs (maxSteps := 2000000) only [k7, k8, kh7, hw, wk, act, asV, ↓reduceIte, Nat.reduceEqDiff, reduceCtorEq, Nat.reduceAdd, Nat.reduceLeDiff, Nat.reduceSub, Nat.reduceMul, List.reduceReplicate, Int.reduceEq, Int.reduceLT, Int.reduceLE, Int.reduceAdd, Int.reduceSub, Int.reduceMul, Nat.reduceLT, Int.reduceToNat]; first | done | rfl, by simp -implicitDefEqProofs (maxSteps := 2000000) only [k7, k8, kh7, hw, wk, act, asV, ↓reduceIte, Nat.reduceEqDiff, reduceCtorEq, Nat.reduceAdd, Nat.reduceLeDiff, Nat.reduceSub, Nat.reduceMul, List.reduceReplicate, Int.reduceEq, Int.reduceLT, Int.reduceLE, Int.reduceAdd, Int.reduceSub, Int.reduceMul, Nat.reduceLT, Int.reduceToNat]; first | done | rfl, by simp -implicitDefEqProofs (maxSteps := 2000000) only [k7, k8, kh7, hw, wk, act, asV, ↓reduceIte, Nat.reduceEqDiff, reduceCtorEq, Nat.reduceAdd, Nat.reduceLeDiff, Nat.reduceSub, Nat.reduceMul, List.reduceReplicate, Int.reduceEq, Int.reduceLT, Int.reduceLE, Int.reduceAdd, Int.reduceSub, Int.reduceMul, Nat.reduceLT, Int.reduceToNat]; first | done | rfl, fun h => absurd (h : false = true) (by decide), fun h => absurd (h : false = true) (by decide), fun h => absurd (h : false = true) (by decide), fun h => absurd (h : false = true) (by decide), fun h => absurd (h : false = true) (by decide), fun h => absurd (h : false = true) (by decide), fun h => absurd (h : false = true) (by decide), fun h => absurd (h : false = true) (by decide), fun h => absurd (h : false = true) (by decide), fun h => absurd (h : false = true) (by decide), fun h => absurd (h : false = true) (by decide), fun h => absurd (h : false = true) (by decide), fun h => absurd (h : false = true) (by decide), fun h => absurd (h : false = true) (by decide), fun h => absurd (h : false = true) (by decide), fun h => absurd (h : false = true) (by decide), fun h => absurd (h : false = true) (by decide), fun h => absurd (h : false = true) (by decide)⟩
  · refine stepsX_cons ?_ (stepsX_cons ?_ (stepsX_cons ?_ (stepsX_cons ?_ (stepsX_cons ?_ (stepsX_cons ?_ (stepsX_cons ?_ (stepsX_cons ?_ (stepsX_cons ?_ (stepsX_cons ?_ (stepsX_cons ?_ (stepsX_cons ?_ (stepsX_cons ?_ (stepsX_cons ?_ (stepsX_cons ?_ (stepsX_cons ?_ (stepsX_cons ?_ (stepsX_cons ?_ (stepsX_nil))))))))))))))))))
    · intro L s hL hp hI
      rw [hInv] at hI
      obtain ⟨k7, k8, k12, kO, kM, f0, f1, f2, f3, f4, f5, f6, f7, f8, f9, f10, f11, f12, f13, f14, f16, g15, g17⟩ := hI
      simp -implicitDefEqProofs (maxSteps := 2000000) only [k7, wk, act, asV, ↓reduceIte, Nat.reduceEqDiff, reduceCtorEq, Nat.reduceAdd, Nat.reduceLeDiff, Nat.reduceSub, Nat.reduceMul, List.reduceReplicate, Int.reduceEq, Int.reduceLT, Int.reduceLE, Int.reduceAdd, Int.reduceSub, Int.reduceMul, Nat.reduceLT, Int.reduceToNat]
      rw [hInv]
      exact ⟨k7, k8, k12, kO, kM, fun _ => rfl, f1, f2, f3, f4, f5, f6, f7, f8, f9, f10, f11, f12, f13, f14, f16, g15, g17⟩
    · intro L s hL hp hI
      rw [hInv] at hI
      obtain ⟨k7, k8, k12, kO, kM, f0, f1, f2, f3, f4, f5, f6, f7, f8, f9, f10, f11, f12, f13, f14, f16, g15, g17⟩ := hI
      simp -implicitDefEqProofs (maxSteps := 2000000) only [k8, wk, act, asV, ↓reduceIte, Nat.reduceEqDiff, reduceCtorEq, Nat.reduceAdd, Nat.reduceLeDiff, Nat.reduceSub, Nat.reduceMul, List.reduceReplicate, Int.reduceEq, Int.reduceLT, Int.reduceLE, Int.reduceAdd, Int.reduceSub, Int.reduceMul, Nat.reduceLT, Int.reduceToNat]
      rw [hInv]
      exact ⟨k7, k8, k12, kO, kM, f0, fun _ => rfl, f2, f3, f4, f5, f6, f7, f8, f9, f10, f11, f12, f13, f14, f16, g15, g17⟩
    · intro L s hL hp hI
      rw [hInv] at hI
      obtain ⟨k7, k8, k12, kO, kM, f0, f1, f2, f3, f4, f5, f6, f7, f8, f9, f10, f11, f12, f13, f14, f16, g15, g17⟩ := hI
      simp -implicitDefEqProofs (maxSteps := 2000000) only [k7, wk, act, asV, ↓reduceIte, Nat.reduceEqDiff, reduceCtorEq, Nat.reduceAdd, Nat.reduceLeDiff, Nat.reduceSub, Nat.reduceMul, List.reduceReplicate, Int.reduceEq, Int.reduceLT, Int.reduceLE, Int.reduceAdd, Int.reduceSub, Int.reduceMul, Nat.reduceLT, Int.reduceToNat]
      rw [hInv]
      exact ⟨k7, k8, k12, kO, kM, f0, f1, fun _ => rfl, f3, f4, f5, f6, f7, f8, f9, f10, f11, f12, f13, f14, f16, g15, g17⟩
    · intro L s hL hp hI
      rw [hInv] at hI
      obtain ⟨k7, k8, k12, kO, kM, f0, f1, f2, f3, f4, f5, f6, f7, f8, f9, f10, f11, f12, f13, f14, f16, g15, g17⟩ := hI
      simp -implicitDefEqProofs (maxSteps := 2000000) only [k8, wk, act, asV, ↓reduceIte, Nat.reduceEqDiff, reduceCtorEq, Nat.reduceAdd, Nat.reduceLeDiff, Nat.reduceSub, Nat.reduceMul, List.reduceReplicate, Int.reduceEq, Int.reduceLT, Int.reduceLE, Int.reduceAdd, Int.reduceSub, Int.reduceMul, Nat.reduceLT, Int.reduceToNat]
      rw [hInv]
      exact ⟨k7, k8, k12, kO, kM, f0, f1, f2, fun _ => rfl, f4, f5, f6, f7, f8, f9, f10, f11, f12, f13, f14, f16, g15, g17⟩
    · intro L s hL hp hI
      rw [hInv] at hI
      obtain ⟨k7, k8, k12, kO, kM, f0, f1, f2, f3, f4, f5, f6, f7, f8, f9, f10, f11, f12, f13, f14, f16, g15, g17⟩ := hI
      have p3 := f3 (hp 3 (by simp))
      simp -implicitDefEqProofs (maxSteps := 2000000) only [p3, wkk, wk, act, asV, ↓reduceIte, Nat.reduceEqDiff, reduceCtorEq, Nat.reduceAdd, Nat.reduceLeDiff, Nat.reduceSub, Nat.reduceMul, List.reduceReplicate, Int.reduceEq, Int.reduceLT, Int.reduceLE, Int.reduceAdd, Int.reduceSub, Int.reduceMul, Nat.reduceLT, Int.reduceToNat]
      rw [hInv]
      exact ⟨k7, k8, k12, kO, kM, f0, f1, f2, f3, fun _ => rfl, f5, f6, f7, f8, f9, f10, f11, f12, f13, f14, f16, g15, g17⟩
    · intro L s hL hp hI
      rw [hInv] at hI
      obtain ⟨k7, k8, k12, kO, kM, f0, f1, f2, f3, f4, f5, f6, f7, f8, f9, f10, f11, f12, f13, f14, f16, g15, g17⟩ := hI
      simp -implicitDefEqProofs (maxSteps := 2000000) only [k7, wk, act, asV, ↓reduceIte, Nat.reduceEqDiff, reduceCtorEq, Nat.reduceAdd, Nat.reduceLeDiff, Nat.reduceSub, Nat.reduceMul, List.reduceReplicate, Int.reduceEq, Int.reduceLT, Int.reduceLE, Int.reduceAdd, Int.reduceSub, Int.reduceMul, Nat.reduceLT, Int.reduceToNat]
      rw [hInv]
      exact ⟨k7, k8, k12, kO, kM, f0, f1, f2, f3, f4, fun _ => rfl, f6, f7, f8, f9, f10, f11, f12, f13, f14, f16, g15, g17⟩
    · intro L s hL hp hI
      rw [hInv] at hI
      obtain ⟨k7, k8, k12, kO, kM, f0, f1, f2, f3, f4, f5, f6, f7, f8, f9, f10, f11, f12, f13, f14, f16, g15, g17⟩ := hI
      simp -implicitDefEqProofs (maxSteps := 2000000) only [k8, wk, act, asV, ↓reduceIte, Nat.reduceEqDiff, reduceCtorEq, Nat.reduceAdd, Nat.reduceLeDiff, Nat.reduceSub, Nat.reduceMul, List.reduceReplicate, Int.reduceEq, Int.reduceLT, Int.reduceLE, Int.reduceAdd, Int.reduceSub, Int.reduceMul, Nat.reduceLT, Int.reduceToNat]
      rw [hInv]
      exact ⟨k7, k8, k12, kO, kM, f0, f1, f2, f3, f4, f5, fun _ => rfl, f7, f8, f9, f10, f11, f12, f13, f14, f16, g15, g17⟩
    · intro L s hL hp hI
      rw [hInv] at hI
      obtain ⟨k7, k8, k12, kO, kM, f0, f1, f2, f3, f4, f5, f6, f7, f8, f9, f10, f11, f12, f13, f14, f16, g15, g17⟩ := hI
      have p6 := f6 (hp 6 (by simp))
      simp -implicitDefEqProofs (maxSteps := 2000000) only [p6, wkk, wk, act, asV, ↓reduceIte, Nat.reduceEqDiff, reduceCtorEq, Nat.reduceAdd, Nat.reduceLeDiff, Nat.reduceSub, Nat.reduceMul, List.reduceReplicate, Int.reduceEq, Int.reduceLT, Int.reduceLE, Int.reduceAdd, Int.reduceSub, Int.reduceMul, Nat.reduceLT, Int.reduceToNat]
      rw [hInv]
      exact ⟨k7, k8, k12, kO, kM, f0, f1, f2, f3, f4, f5, f6, fun _ => rfl, f8, f9, f10, f11, f12, f13, f14, f16, g15, g17⟩
    · intro L s hL hp hI
      rw [hInv] at hI
      obtain ⟨k7, k8, k12, kO, kM, f0, f1, f2, f3, f4, f5, f6, f7, f8, f9, f10, f11, f12, f13, f14, f16, g15, g17⟩ := hI
      have p5 := f5 (hp 5 (by simp))
      have p7 := f7 (hp 7 (by simp))
      simp -implicitDefEqProofs (maxSteps := 2000000) only [p5, p7, kM, hk1, wk, act, asV, ↓reduceIte, Nat.reduceEqDiff, reduceCtorEq, Nat.reduceAdd, Nat.reduceLeDiff, Nat.reduceSub, Nat.reduceMul, List.reduceReplicate, Int.reduceEq, Int.reduceLT, Int.reduceLE, Int.reduceAdd, Int.reduceSub, Int.reduceMul, Nat.reduceLT, Int.reduceToNat]
      rw [hInv]
      exact ⟨k7, k8, k12, kO, kM, f0, f1, f2, f3, f4, f5, f6, f7, fun _ => rfl, f9, f10, f11, f12, f13, f14, f16, g15, g17⟩
    · intro L s hL hp hI
      rw [hInv] at hI
      obtain ⟨k7, k8, k12, kO, kM, f0, f1, f2, f3, f4, f5, f6, f7, f8, f9, f10, f11, f12, f13, f14, f16, g15, g17⟩ := hI
      have p8 := f8 (hp 8 (by simp))
      have l15 : L 15 = false := Bool.eq_false_iff.2 fun hh => absurd (g15 hh).1 (by rw [hL]; decide)
      have l17 : L 17 = false := Bool.eq_false_iff.2 fun hh => absurd (g17 hh).1 (by rw [l15]; decide)
      have kM' := kM
      rw [l17, l15] at kM'
      simp -implicitDefEqProofs (maxSteps := 2000000) only [p8, kM', cond_false, lE, ky, kb1, wk, act, asV, ↓reduceIte, Nat.reduceEqDiff, reduceCtorEq, Nat.reduceAdd, Nat.reduceLeDiff, Nat.reduceSub, Nat.reduceMul, List.reduceReplicate, Int.reduceEq, Int.reduceLT, Int.reduceLE, Int.reduceAdd, Int.reduceSub, Int.reduceMul, Nat.reduceLT, Int.reduceToNat]
      rw [hInv]
      exact ⟨k7, k8, k12, kO, kM, f0, f1, f2, f3, f4, f5, f6, f7, f8, fun _ => rfl, f10, f11, f12, f13, f14, f16, fun h => ⟨rfl, (g15 h).2⟩, g17⟩
    · intro L s hL hp hI
      rw [hInv] at hI
      obtain ⟨k7, k8, k12, kO, kM, f0, f1, f2, f3, f4, f5, f6, f7, f8, f9, f10, f11, f12, f13, f14, f16, g15, g17⟩ := hI
      simp -implicitDefEqProofs (maxSteps := 2000000) only [k7, wk, act, asV, ↓reduceIte, Nat.reduceEqDiff, reduceCtorEq, Nat.reduceAdd, Nat.reduceLeDiff, Nat.reduceSub, Nat.reduceMul, List.reduceReplicate, Int.reduceEq, Int.reduceLT, Int.reduceLE, Int.reduceAdd, Int.reduceSub, Int.reduceMul, Nat.reduceLT, Int.reduceToNat]
      rw [hInv]
      exact ⟨k7, k8, k12, kO, kM, f0, f1, f2, f3, f4, f5, f6, f7, f8, f9, fun _ => rfl, f11, f12, f13, f14, f16, g15, g17⟩
    · intro L s hL hp hI
      rw [hInv] at hI
      obtain ⟨k7, k8, k12, kO, kM, f0, f1, f2, f3, f4, f5, f6, f7, f8, f9, f10, f11, f12, f13, f14, f16, g15, g17⟩ := hI
      simp -implicitDefEqProofs (maxSteps := 2000000) only [k8, wk, act, asV, ↓reduceIte, Nat.reduceEqDiff, reduceCtorEq, Nat.reduceAdd, Nat.reduceLeDiff, Nat.reduceSub, Nat.reduceMul, List.reduceReplicate, Int.reduceEq, Int.reduceLT, Int.reduceLE, Int.reduceAdd, Int.reduceSub, Int.reduceMul, Nat.reduceLT, Int.reduceToNat]
      rw [hInv]
      exact ⟨k7, k8, k12, kO, kM, f0, f1, f2, f3, f4, f5, f6, f7, f8, f9, f10, fun _ => rfl, f12, f13, f14, f16, g15, g17⟩
    · intro L s hL hp hI
      rw [hInv] at hI
      obtain ⟨k7, k8, k12, kO, kM, f0, f1, f2, f3, f4, f5, f6, f7, f8, f9, f10, f11, f12, f13, f14, f16, g15, g17⟩ := hI
      have p10 := f10 (hp 10 (by simp))
      have p11 := f11 (hp 11 (by simp))
      simp -implicitDefEqProofs (maxSteps := 2000000) only [p10, p11, kM, hk0, wk, act, asV, ↓reduceIte, Nat.reduceEqDiff, reduceCtorEq, Nat.reduceAdd, Nat.reduceLeDiff, Nat.reduceSub, Nat.reduceMul, List.reduceReplicate, Int.reduceEq, Int.reduceLT, Int.reduceLE, Int.reduceAdd, Int.reduceSub, Int.reduceMul, Nat.reduceLT, Int.reduceToNat]
      rw [hInv]
      exact ⟨k7, k8, k12, kO, kM, f0, f1, f2, f3, f4, f5, f6, f7, f8, f9, f10, f11, fun _ => rfl, f13, f14, f16, g15, g17⟩
    · intro L s hL hp hI
      rw [hInv] at hI
      obtain ⟨k7, k8, k12, kO, kM, f0, f1, f2, f3, f4, f5, f6, f7, f8, f9, f10, f11, f12, f13, f14, f16, g15, g17⟩ := hI
      have p12 := f12 (hp 12 (by simp))
      have l15 : L 15 = false := Bool.eq_false_iff.2 fun hh => absurd (g15 hh).2 (by rw [hL]; decide)
      have l17 : L 17 = false := Bool.eq_false_iff.2 fun hh => absurd (g17 hh).1 (by rw [l15]; decide)
      have kM' := kM
      rw [l17, l15] at kM'
      simp -implicitDefEqProofs (maxSteps := 2000000) only [p12, kM', cond_false, lE, kx2, kb0, wk, act, asV, ↓reduceIte, Nat.reduceEqDiff, reduceCtorEq, Nat.reduceAdd, Nat.reduceLeDiff, Nat.reduceSub, Nat.reduceMul, List.reduceReplicate, Int.reduceEq, Int.reduceLT, Int.reduceLE, Int.reduceAdd, Int.reduceSub, Int.reduceMul, Nat.reduceLT, Int.reduceToNat]
      rw [hInv]
      exact ⟨k7, k8, k12, kO, kM, f0, f1, f2, f3, f4, f5, f6, f7, f8, f9, f10, f11, f12, fun _ => rfl, f14, f16, fun h => ⟨(g15 h).1, rfl⟩, g17⟩
    · intro L s hL hp hI
      rw [hInv] at hI
      obtain ⟨k7, k8, k12, kO, kM, f0, f1, f2, f3, f4, f5, f6, f7, f8, f9, f10, f11, f12, f13, f14, f16, g15, g17⟩ := hI
      have p0 := f0 (hp 0 (by simp))
      have p1 := f1 (hp 1 (by simp))
      simp -implicitDefEqProofs (maxSteps := 2000000) only [p0, p1, kM, hk0, wk, act, asV, ↓reduceIte, Nat.reduceEqDiff, reduceCtorEq, Nat.reduceAdd, Nat.reduceLeDiff, Nat.reduceSub, Nat.reduceMul, List.reduceReplicate, Int.reduceEq, Int.reduceLT, Int.reduceLE, Int.reduceAdd, Int.reduceSub, Int.reduceMul, Nat.reduceLT, Int.reduceToNat]
      rw [hInv]
      exact ⟨k7, k8, k12, kO, kM, f0, f1, f2, f3, f4, f5, f6, f7, f8, f9, f10, f11, f12, f13, fun _ => rfl, f16, g15, g17⟩
    · intro L s hL hp hI
      rw [hInv] at hI
      obtain ⟨k7, k8, k12, kO, kM, f0, f1, f2, f3, f4, f5, f6, f7, f8, f9, f10, f11, f12, f13, f14, f16, g15, g17⟩ := hI
      have p14 := f14 (hp 14 (by simp))
      have p9 := f9 (hp 9 (by simp))
      have l17 : L 17 = false := Bool.eq_false_iff.2 fun hh => absurd (g17 hh).1 (by rw [hL]; decide)
      have kM' := kM
      rw [l17, hL] at kM'
      simp -implicitDefEqProofs (maxSteps := 2000000) only [p14, p9, kM', cond_false, lE, lY, sY, kb0, w1, yp, wk, act, asV, ↓reduceIte, Nat.reduceEqDiff, reduceCtorEq, Nat.reduceAdd, Nat.reduceLeDiff, Nat.reduceSub, Nat.reduceMul, List.reduceReplicate, Int.reduceEq, Int.reduceLT, Int.reduceLE, Int.reduceAdd, Int.reduceSub, Int.reduceMul, Nat.reduceLT, Int.reduceToNat]
      rw [hInv]
      exact ⟨k7, k8, k12, kO, by rw [show updL L 15 17 = false from l17]; rfl, f0, f1, f2, f3, f4, f5, f6, f7, f8, f9, f10, f11, f12, f13, f14, f16, fun _ => ⟨hp 9 (by simp), hp 13 (by simp)⟩, fun h => ⟨rfl, (g17 h).2⟩⟩
    · intro L s hL hp hI
      rw [hInv] at hI
      obtain ⟨k7, k8, k12, kO, kM, f0, f1, f2, f3, f4, f5, f6, f7, f8, f9, f10, f11, f12, f13, f14, f16, g15, g17⟩ := hI
      have p2 := f2 (hp 2 (by simp))
      have p4 := f4 (hp 4 (by simp))
      simp -implicitDefEqProofs (maxSteps := 2000000) only [p2, p4, kM, hk1, wk, act, asV, ↓reduceIte, Nat.reduceEqDiff, reduceCtorEq, Nat.reduceAdd, Nat.reduceLeDiff, Nat.reduceSub, Nat.reduceMul, List.reduceReplicate, Int.reduceEq, Int.reduceLT, Int.reduceLE, Int.reduceAdd, Int.reduceSub, Int.reduceMul, Nat.reduceLT, Int.reduceToNat]
      rw [hInv]
      exact ⟨k7, k8, k12, kO, kM, f0, f1, f2, f3, f4, f5, f6, f7, f8, f9, f10, f11, f12, f13, f14, fun _ => rfl, g15, fun h => ⟨(g17 h).1, rfl⟩⟩
    · intro L s hL hp hI
      rw [hInv] at hI
      obtain ⟨k7, k8, k12, kO, kM, f0, f1, f2, f3, f4, f5, f6, f7, f8, f9, f10, f11, f12, f13, f14, f16, g15, g17⟩ := hI
      have p16 := f16 (hp 16 (by simp))
      have p13 := f13 (hp 13 (by simp))
      have kM' := kM
      rw [hL, hp 15 (by simp)] at kM'
      simp -implicitDefEqProofs (maxSteps := 2000000) only [p16, p13, kM', cond_false, cond_true, lW1, lX, sX, kb1, w2, xp, wk, act, asV, ↓reduceIte, Nat.reduceEqDiff, reduceCtorEq, Nat.reduceAdd, Nat.reduceLeDiff, Nat.reduceSub, Nat.reduceMul, List.reduceReplicate, Int.reduceEq, Int.reduceLT, Int.reduceLE, Int.reduceAdd, Int.reduceSub, Int.reduceMul, Nat.reduceLT, Int.reduceToNat]
      rw [hInv]
      exact ⟨k7, k8, k12, kO, rfl, f0, f1, f2, f3, f4, f5, f6, f7, f8, f9, f10, f11, f12, f13, f14, f16, g15, fun _ => ⟨hp 15 (by simp), hp 16 (by simp)⟩⟩
  · intro s hI
    rw [hInv] at hI
    obtain ⟨k7, k8, k12, kO, kM, f0, f1, f2, f3, f4, f5, f6, f7, f8, f9, f10, f11, f12, f13, f14, f16, g15, g17⟩ := hI
    clear f0 f1 f2 f3 f4 f5 f6 f7 f8 f9 f10 f11 f12 f13 f14 f16 g15 g17
    have kM' : s.h 5009 = ⟨ver, true, true, true, W2⟩ := kM
    clear kM hInv Inv
    have o1 : ∀ e ∈ A ++ y :: x :: C, e.Ok := fun e h => hes e (by simp at h ⊢; rcases h with h | h | h | h <;> simp [h])
    have o2 : ∀ e ∈ A ++ y :: C, e.Ok := fun e h => hes e (by simp at h ⊢; rcases h with h | h | h <;> simp [h])
    have n1 : (A ++ y :: x :: C).length = n := by rw [← hl]; simp
    have n2 : (A ++ y :: C).length = k + (n - (k + 1)) := by rw [← hl, ← hk]; simp; omega
    have e1 : W2 = enL (A ++ y :: x :: C) := by rw [hW2, enL_append]; simp [enL]
    have e2 : enL A ++ (enC y ++ enL C) = enL (A ++ y :: C) := by rw [enL_append]; simp [enL]
    have c1 := verify_ok .plain (A ++ y :: x :: C) o1 (by omega)
    have c2 := verify_ok .plain (A ++ y :: C) o2 (by omega)
    have l1 := enL_length o1
    have l2 := enL_length o2
    have t1 := enL_take _ o1
    have t2 := enL_take _ o2
    have p1 := enL_pur (A ++ y :: x :: C)
    have p2 := enL_pur (A ++ y :: C)
    rw [hbad, n1, ← e1] at c1
    rw [hbad, n2, ← e2] at c2
    rw [n1, ← e1] at l1 t1
    rw [n2, ← e2] at l2 t2
    rw [← e1] at p1
    rw [← e2] at p2
    obtain ⟨W3, hW3⟩ : ∃ W3, W3 = enL A ++ (enC y ++ enL C) := ⟨_, rfl⟩
    rw [← hW3] at c2 l2 t2 p2 kO
    repeat' (first | simp -implicitDefEqProofs (maxSteps := 2000000) only [m8_17, m8_16, m8_15, m8_14, k7, k8, k12, kO, kM', l1, l2, t1, t2, p1, p2, wk, act, asV, ↓reduceIte, Nat.reduceEqDiff, reduceCtorEq, Nat.reduceAdd, Nat.reduceLeDiff, Nat.reduceSub, Nat.reduceMul, List.reduceReplicate, Int.reduceEq, Int.reduceLT, Int.reduceLE, Int.reduceAdd, Int.reduceSub, Int.reduceMul, Nat.reduceLT, Int.reduceToNat] | ((first | ((with_reducible refine CallL.gate ?_); apply CallL.of) | ((with_reducible refine CallpL.gate ?_); apply CallpL.of) | ((with_reducible refine CallP.gate ?_); apply CallP.of) | ((with_reducible refine CallpP.gate ?_); apply CallpP.of)); (case h1 => (simp -implicitDefEqProofs (maxSteps := 2000000) only [m8_17, m8_16, m8_15, m8_14, k7, k8, k12, kO, kM', l1, l2, t1, t2, p1, p2, wk, act, asV, ↓reduceIte, Nat.reduceEqDiff, reduceCtorEq, Nat.reduceAdd, Nat.reduceLeDiff, Nat.reduceSub, Nat.reduceMul, List.reduceReplicate, Int.reduceEq, Int.reduceLT, Int.reduceLE, Int.reduceAdd, Int.reduceSub, Int.reduceMul, Nat.reduceLT, Int.reduceToNat]; first | done | (with_reducible rfl))); (case h2 => (first | exact c1 | exact c2 | exact wakesA_ok)); (case h3 => simp -implicitDefEqProofs (maxSteps := 2000000) only [m8_17, m8_16, m8_15, m8_14, k7, k8, k12, kO, kM', l1, l2, t1, t2, p1, p2, wk, act, asV, ↓reduceIte, Nat.reduceEqDiff, reduceCtorEq, Nat.reduceAdd, Nat.reduceLeDiff, Nat.reduceSub, Nat.reduceMul, List.reduceReplicate, Int.reduceEq, Int.reduceLT, Int.reduceLE, Int.reduceAdd, Int.reduceSub, Int.reduceMul, Nat.reduceLT, Int.reduceToNat])))
theorem s8_mid {s : St} {n k v9 ver : Nat} {A C : List En} {x y : En} (hl : (A ++ x :: y :: C).length = n) (hn : n ≤ 30) (hk : A.length = k) (hes : ∀ e ∈ A ++ x :: y :: C, e.Ok) (hr : recE y.id y.e = 0) (hbad : ¬ okAt (lastE A) y → ∀ ys, verG y32 (A ++ y :: ys) 0 = (k : Int))
    (k7 : s.t 7 = .row 5009 0 n 66 ver) (kh7 : s.h 5009 = ⟨ver, true, true, true, enL (A ++ x :: y :: C)⟩) (k8 : s.t 8 = .int .i64 (k : Nat)) (k9 : s.t 9 = .ptr 9 0 v9) (kh9 : s.h 9 = ⟨v9, true, true, false, bl (lastE A)⟩) :
    Wp (RCs Try.prog) m8_22 (Post [.tmp 4] [.bool true]) s := by
  have hyi := hes y (by simp)
  have hxi := hes x (by simp)
  have eV : enL (A ++ x :: y :: C) = (enL A ++ enC x) ++ (enC y ++ enL C) := by rw [enL_append]; simp [enL]
  have hA := fun e (h : e ∈ A) => hes e (by simp [h])
  have lA := enL_length hA
  have lX := enC_length hxi
  rw [hk] at lA
  have lP : (enL A ++ enC x).length = (k + 1) * 66 := by rw [List.length_append, lA, lX]; omega
  have hk' : ((k + 1 : Nat) : Int) < n := by rw [← hl, ← hk]; simp; omega
  have wkk : IntKind.i64.wrap (((k : Nat) : Int) + 1) = ((k + 1 : Nat) : Int) := by rw [IntKind.wrap_i64]; omega
  have lE := enL_length hes
  have pE := enL_pur (A ++ x :: y :: C)
  rw [hl] at lE
  have w8 : ∀ j, List.drop ((k + 1) * 66 + j) (enL (A ++ x :: y :: C)) = List.drop j (enC y ++ enL C) := fun j => by
    rw [eV, List.drop_append, List.drop_of_length_le (by omega), List.nil_append, lP]; congr 1; omega
  obtain ⟨p1, p2, p3, p4, _⟩ := en_takesA hyi (enL C)
  have p1' : List.take 32 (List.drop ((k + 1) * 66) (enL (A ++ x :: y :: C))) = bl y.asked := by have := w8 0; rw [Nat.add_zero] at this; rw [this]; exact p1
  have p2' : List.take 1 (List.drop ((k + 1) * 66 + 32) (enL (A ++ x :: y :: C))) = [.int .i64 y.id] := by rw [w8, p2]
  have p3' : List.take 1 (List.drop ((k + 1) * 66 + 33) (enL (A ++ x :: y :: C))) = [.int .i64 y.e] := by rw [w8, p3]
  have p4' : List.take 32 (List.drop ((k + 1) * 66 + 34) (enL (A ++ x :: y :: C))) = bl y.link := by rw [w8, p4]
  have hA32 := lastE_len hA
  obtain ⟨h, hh⟩ : ∃ h, h = lastE A := ⟨_, rfl⟩
  rw [← hh] at hA32 kh9 hbad
  have kb1 : (k + 1) * 66 + 32 ≤ n * 66 := by omega
  have kb2 : (k + 1) * 66 + 32 + 1 ≤ n * 66 := by omega
  have kb3 : (k + 1) * 66 + 33 + 1 ≤ n * 66 := by omega
  have kb4 : (k + 1) * 66 + 34 + 32 ≤ n * 66 := by omega
  have c1 := record_ok y.asked hyi.a (rpE y.id y.e) (fun h => by cases h)
  have rl := recR_le y.asked hyi.a y.id y.e
  have c2 := step_ok .full (by decide) h [(.plain, recR y.asked y.id y.e)] hA32 (by simp) (by rw [one_part]; omega)
  have ep : pl [(Fl.plain, recR y.asked y.id y.e)] = [.sl .plain (recR y.asked y.id y.e).length (bl (recR y.asked y.id y.e))] := rfl
  rw [one_part, ep, List.length_cons, List.length_nil] at c2
  have dl : (shaB (h ++ recR y.asked y.id y.e)).length = 32 := digest_length _
  have q1 := eqL_by (shaB (h ++ recR y.asked y.id y.e)) y.link (by rw [dl, hyi.l])
  have q2 := fitR_by dl
  have hlh : (bl h).length = 32 := by rw [bl_length, hA32]
  have th : List.take 32 (bl h) = bl h := List.take_of_length_le (by omega)
  have hbad' : ¬ (shaB (h ++ recR y.asked y.id y.e) = y.link) → ∀ ys, verG y32 (A ++ y :: ys) 0 = (k : Int) := fun hne => hbad (fun ho => hne ho.2)
  obtain ⟨G, hG⟩ : ∃ G, G = shaB (h ++ recR y.asked y.id y.e) := ⟨_, rfl⟩
  rw [← hG] at c2 dl q1 q2 hbad'
  have e0 : (rpE y.id y.e).id = y.id := rfl
  have e1 : (rpE y.id y.e).e = y.e := rfl
  rw [e0, e1, hr] at c1
  obtain ⟨R, hR⟩ : ∃ R, R = recR y.asked y.id y.e := ⟨_, rfl⟩
  rw [← hR] at c1 c2
  have tR := take_bl R
  have hlR : (bl R).length = R.length := bl_length R
  simp only [rc, rpE, List.length_nil, bl_nil] at c1
  obtain ⟨V, hV⟩ : ∃ V, V = enL (A ++ x :: y :: C) := ⟨_, rfl⟩
  have kh7' := kh7
  rw [← hV] at p1' p2' p3' p4' kh7' lE pE
  by_cases hq : G = y.link
  · rw [decide_eq_true hq] at q1
    repeat' (first | simp -implicitDefEqProofs (maxSteps := 2000000) only [m8_11, m8_12, m8_13, m8_20, m8_21, m8_22, k7, k8, k9, kh7', kh9, hk', wkk, p1', p2', p3', p4', kb1, kb2, kb3, kb4, lE, pE, q1, q2, hlh, th, tR, hlR, bl_scal, bl_pur, wk, act, asV, ↓reduceIte, Nat.reduceEqDiff, reduceCtorEq, Nat.reduceAdd, Nat.reduceLeDiff, Nat.reduceSub, Nat.reduceMul, List.reduceReplicate, Int.reduceEq, Int.reduceLT, Int.reduceLE, Int.reduceAdd, Int.reduceSub, Int.reduceMul, Nat.reduceLT, Int.reduceToNat] | ((first | ((with_reducible refine CallL.gate ?_); apply CallL.of) | ((with_reducible refine CallpL.gate ?_); apply CallpL.of) | ((with_reducible refine CallP.gate ?_); apply CallP.of) | ((with_reducible refine CallpP.gate ?_); apply CallpP.of)); (case h1 => (simp -implicitDefEqProofs (maxSteps := 2000000) only [m8_11, m8_12, m8_13, m8_20, m8_21, m8_22, k7, k8, k9, kh7', kh9, hk', wkk, p1', p2', p3', p4', kb1, kb2, kb3, kb4, lE, pE, q1, q2, hlh, th, tR, hlR, bl_scal, bl_pur, wk, act, asV, ↓reduceIte, Nat.reduceEqDiff, reduceCtorEq, Nat.reduceAdd, Nat.reduceLeDiff, Nat.reduceSub, Nat.reduceMul, List.reduceReplicate, Int.reduceEq, Int.reduceLT, Int.reduceLE, Int.reduceAdd, Int.reduceSub, Int.reduceMul, Nat.reduceLT, Int.reduceToNat]; first | done | (with_reducible rfl))); (case h2 => (first | exact c1 | exact c2 | exact wakesA_ok)); (case h3 => simp -implicitDefEqProofs (maxSteps := 2000000) only [m8_11, m8_12, m8_13, m8_20, m8_21, m8_22, k7, k8, k9, kh7', kh9, hk', wkk, p1', p2', p3', p4', kb1, kb2, kb3, kb4, lE, pE, q1, q2, hlh, th, tR, hlR, bl_scal, bl_pur, wk, act, asV, ↓reduceIte, Nat.reduceEqDiff, reduceCtorEq, Nat.reduceAdd, Nat.reduceLeDiff, Nat.reduceSub, Nat.reduceMul, List.reduceReplicate, Int.reduceEq, Int.reduceLT, Int.reduceLE, Int.reduceAdd, Int.reduceSub, Int.reduceMul, Nat.reduceLT, Int.reduceToNat])))
  · rw [decide_eq_false hq] at q1
    repeat' (first | simp -implicitDefEqProofs (maxSteps := 2000000) only [m8_11, m8_12, m8_13, m8_20, m8_21, m8_22, k7, k8, k9, kh7', kh9, hk', wkk, p1', p2', p3', p4', kb1, kb2, kb3, kb4, lE, pE, q1, q2, hlh, th, tR, hlR, bl_scal, bl_pur, wk, act, asV, ↓reduceIte, Nat.reduceEqDiff, reduceCtorEq, Nat.reduceAdd, Nat.reduceLeDiff, Nat.reduceSub, Nat.reduceMul, List.reduceReplicate, Int.reduceEq, Int.reduceLT, Int.reduceLE, Int.reduceAdd, Int.reduceSub, Int.reduceMul, Nat.reduceLT, Int.reduceToNat] | ((first | ((with_reducible refine CallL.gate ?_); apply CallL.of) | ((with_reducible refine CallpL.gate ?_); apply CallpL.of) | ((with_reducible refine CallP.gate ?_); apply CallP.of) | ((with_reducible refine CallpP.gate ?_); apply CallpP.of)); (case h1 => (simp -implicitDefEqProofs (maxSteps := 2000000) only [m8_11, m8_12, m8_13, m8_20, m8_21, m8_22, k7, k8, k9, kh7', kh9, hk', wkk, p1', p2', p3', p4', kb1, kb2, kb3, kb4, lE, pE, q1, q2, hlh, th, tR, hlR, bl_scal, bl_pur, wk, act, asV, ↓reduceIte, Nat.reduceEqDiff, reduceCtorEq, Nat.reduceAdd, Nat.reduceLeDiff, Nat.reduceSub, Nat.reduceMul, List.reduceReplicate, Int.reduceEq, Int.reduceLT, Int.reduceLE, Int.reduceAdd, Int.reduceSub, Int.reduceMul, Nat.reduceLT, Int.reduceToNat]; first | done | (with_reducible rfl))); (case h2 => (first | exact c1 | exact c2 | exact wakesA_ok)); (case h3 => simp -implicitDefEqProofs (maxSteps := 2000000) only [m8_11, m8_12, m8_13, m8_20, m8_21, m8_22, k7, k8, k9, kh7', kh9, hk', wkk, p1', p2', p3', p4', kb1, kb2, kb3, kb4, lE, pE, q1, q2, hlh, th, tR, hlR, bl_scal, bl_pur, wk, act, asV, ↓reduceIte, Nat.reduceEqDiff, reduceCtorEq, Nat.reduceAdd, Nat.reduceLeDiff, Nat.reduceSub, Nat.reduceMul, List.reduceReplicate, Int.reduceEq, Int.reduceLT, Int.reduceLE, Int.reduceAdd, Int.reduceSub, Int.reduceMul, Nat.reduceLT, Int.reduceToNat])))
    exact s8_tail (ver := ver) hl hn hk hes (hbad' hq) (by simp -implicitDefEqProofs (maxSteps := 2000000) only [k7, wk, act, asV, ↓reduceIte, Nat.reduceEqDiff, reduceCtorEq, Nat.reduceAdd, Nat.reduceLeDiff, Nat.reduceSub, Nat.reduceMul, List.reduceReplicate, Int.reduceEq, Int.reduceLT, Int.reduceLE, Int.reduceAdd, Int.reduceSub, Int.reduceMul, Nat.reduceLT, Int.reduceToNat]) (by simp -implicitDefEqProofs (maxSteps := 2000000) only [kh7, wk, act, asV, ↓reduceIte, Nat.reduceEqDiff, reduceCtorEq, Nat.reduceAdd, Nat.reduceLeDiff, Nat.reduceSub, Nat.reduceMul, List.reduceReplicate, Int.reduceEq, Int.reduceLT, Int.reduceLE, Int.reduceAdd, Int.reduceSub, Int.reduceMul, Nat.reduceLT, Int.reduceToNat]) (by simp -implicitDefEqProofs (maxSteps := 2000000) only [k8, wk, act, asV, ↓reduceIte, Nat.reduceEqDiff, reduceCtorEq, Nat.reduceAdd, Nat.reduceLeDiff, Nat.reduceSub, Nat.reduceMul, List.reduceReplicate, Int.reduceEq, Int.reduceLT, Int.reduceLE, Int.reduceAdd, Int.reduceSub, Int.reduceMul, Nat.reduceLT, Int.reduceToNat])

theorem auditSwaps (xs : List Sd) (hx : ∀ x ∈ xs, x.Ok) (hn : xs.length < 2 ^ 63) (n0 : UInt8) : RC Try.prog 8 [.sl .plain xs.length (sdL xs), .int .u8 (n0.toNat : Nat)] [.bool true] := by
  refine RC.of_wp c8 rfl ?_
  have c0 := fairS_ok .plain xs hn (fun x h => (hx x h).f)
  by_cases hf : fairS xs = false
  · rw [hf] at c0
    repeat' (first | simp -implicitDefEqProofs (maxSteps := 2000000) only [m8_1, m8_2, m8_3, m8_4, m8_5, m8_6, m8_7, m8_8, m8_9, m8_10, m8_11, m8_12, m8_13, m8_14, m8_15, m8_16, m8_17, m8_18, m8_19, m8_20, m8_21, m8_22, m8_23, m8_24, m8_25, m8_26, m8_27, m8_28, m8_29, m8_30, m8_r, m8_b, m8, wk, act, asV, ↓reduceIte, Nat.reduceEqDiff, reduceCtorEq, Nat.reduceAdd, Nat.reduceLeDiff, Nat.reduceSub, Nat.reduceMul, List.reduceReplicate, Int.reduceEq, Int.reduceLT, Int.reduceLE, Int.reduceAdd, Int.reduceSub, Int.reduceMul, Nat.reduceLT, Int.reduceToNat] | ((first | ((with_reducible refine CallL.gate ?_); apply CallL.of) | ((with_reducible refine CallpL.gate ?_); apply CallpL.of) | ((with_reducible refine CallP.gate ?_); apply CallP.of) | ((with_reducible refine CallpP.gate ?_); apply CallpP.of)); (case h1 => (simp -implicitDefEqProofs (maxSteps := 2000000) only [m8_1, m8_2, m8_3, m8_4, m8_5, m8_6, m8_7, m8_8, m8_9, m8_10, m8_11, m8_12, m8_13, m8_14, m8_15, m8_16, m8_17, m8_18, m8_19, m8_20, m8_21, m8_22, m8_23, m8_24, m8_25, m8_26, m8_27, m8_28, m8_29, m8_30, m8_r, m8_b, m8, wk, act, asV, ↓reduceIte, Nat.reduceEqDiff, reduceCtorEq, Nat.reduceAdd, Nat.reduceLeDiff, Nat.reduceSub, Nat.reduceMul, List.reduceReplicate, Int.reduceEq, Int.reduceLT, Int.reduceLE, Int.reduceAdd, Int.reduceSub, Int.reduceMul, Nat.reduceLT, Int.reduceToNat]; first | done | (with_reducible rfl))); (case h2 => (first | exact c0 | exact wakesA_ok)); (case h3 => simp -implicitDefEqProofs (maxSteps := 2000000) only [m8_1, m8_2, m8_3, m8_4, m8_5, m8_6, m8_7, m8_8, m8_9, m8_10, m8_11, m8_12, m8_13, m8_14, m8_15, m8_16, m8_17, m8_18, m8_19, m8_20, m8_21, m8_22, m8_23, m8_24, m8_25, m8_26, m8_27, m8_28, m8_29, m8_30, m8_r, m8_b, m8, wk, act, asV, ↓reduceIte, Nat.reduceEqDiff, reduceCtorEq, Nat.reduceAdd, Nat.reduceLeDiff, Nat.reduceSub, Nat.reduceMul, List.reduceReplicate, Int.reduceEq, Int.reduceLT, Int.reduceLE, Int.reduceAdd, Int.reduceSub, Int.reduceMul, Nat.reduceLT, Int.reduceToNat])))
  have hf' : fairS xs = true := by simpa using hf
  obtain ⟨f30, fmem⟩ := fairS_of hf'
  rw [hf'] at c0
  by_cases h0 : ((xs.length : Nat) : Int) < 2
  · repeat' (first | simp -implicitDefEqProofs (maxSteps := 2000000) only [m8_1, m8_2, m8_3, m8_4, m8_5, m8_6, m8_7, m8_8, m8_9, m8_10, m8_11, m8_12, m8_13, m8_14, m8_15, m8_16, m8_17, m8_18, m8_19, m8_20, m8_21, m8_22, m8_23, m8_24, m8_25, m8_26, m8_27, m8_28, m8_29, m8_30, m8_r, m8_b, m8, h0, wk, act, asV, ↓reduceIte, Nat.reduceEqDiff, reduceCtorEq, Nat.reduceAdd, Nat.reduceLeDiff, Nat.reduceSub, Nat.reduceMul, List.reduceReplicate, Int.reduceEq, Int.reduceLT, Int.reduceLE, Int.reduceAdd, Int.reduceSub, Int.reduceMul, Nat.reduceLT, Int.reduceToNat] | ((first | ((with_reducible refine CallL.gate ?_); apply CallL.of) | ((with_reducible refine CallpL.gate ?_); apply CallpL.of) | ((with_reducible refine CallP.gate ?_); apply CallP.of) | ((with_reducible refine CallpP.gate ?_); apply CallpP.of)); (case h1 => (simp -implicitDefEqProofs (maxSteps := 2000000) only [m8_1, m8_2, m8_3, m8_4, m8_5, m8_6, m8_7, m8_8, m8_9, m8_10, m8_11, m8_12, m8_13, m8_14, m8_15, m8_16, m8_17, m8_18, m8_19, m8_20, m8_21, m8_22, m8_23, m8_24, m8_25, m8_26, m8_27, m8_28, m8_29, m8_30, m8_r, m8_b, m8, h0, wk, act, asV, ↓reduceIte, Nat.reduceEqDiff, reduceCtorEq, Nat.reduceAdd, Nat.reduceLeDiff, Nat.reduceSub, Nat.reduceMul, List.reduceReplicate, Int.reduceEq, Int.reduceLT, Int.reduceLE, Int.reduceAdd, Int.reduceSub, Int.reduceMul, Nat.reduceLT, Int.reduceToNat]; first | done | (with_reducible rfl))); (case h2 => (first | exact c0 | exact wakesA_ok)); (case h3 => simp -implicitDefEqProofs (maxSteps := 2000000) only [m8_1, m8_2, m8_3, m8_4, m8_5, m8_6, m8_7, m8_8, m8_9, m8_10, m8_11, m8_12, m8_13, m8_14, m8_15, m8_16, m8_17, m8_18, m8_19, m8_20, m8_21, m8_22, m8_23, m8_24, m8_25, m8_26, m8_27, m8_28, m8_29, m8_30, m8_r, m8_b, m8, h0, wk, act, asV, ↓reduceIte, Nat.reduceEqDiff, reduceCtorEq, Nat.reduceAdd, Nat.reduceLeDiff, Nat.reduceSub, Nat.reduceMul, List.reduceReplicate, Int.reduceEq, Int.reduceLT, Int.reduceLE, Int.reduceAdd, Int.reduceSub, Int.reduceMul, Nat.reduceLT, Int.reduceToNat])))
  have y6 := y32_cells
  repeat' (first | simp -implicitDefEqProofs (maxSteps := 2000000) only [m8, m8_r, m8_b, m8_1, m8_2, m8_3, m8_4, m8_5, m8_6, m8_7, m8_8, m8_9, m8_10, m8_11, m8_23, m8_24, m8_25, m8_26, m8_27, m8_28, m8_29, m8_30, h0, y6, wk, act, asV, ↓reduceIte, Nat.reduceEqDiff, reduceCtorEq, Nat.reduceAdd, Nat.reduceLeDiff, Nat.reduceSub, Nat.reduceMul, List.reduceReplicate, Int.reduceEq, Int.reduceLT, Int.reduceLE, Int.reduceAdd, Int.reduceSub, Int.reduceMul, Nat.reduceLT, Int.reduceToNat] | ((first | ((with_reducible refine CallL.gate ?_); apply CallL.of) | ((with_reducible refine CallpL.gate ?_); apply CallpL.of) | ((with_reducible refine CallP.gate ?_); apply CallP.of) | ((with_reducible refine CallpP.gate ?_); apply CallpP.of)); (case h1 => (simp -implicitDefEqProofs (maxSteps := 2000000) only [m8, m8_r, m8_b, m8_1, m8_2, m8_3, m8_4, m8_5, m8_6, m8_7, m8_8, m8_9, m8_10, m8_11, m8_23, m8_24, m8_25, m8_26, m8_27, m8_28, m8_29, m8_30, h0, y6, wk, act, asV, ↓reduceIte, Nat.reduceEqDiff, reduceCtorEq, Nat.reduceAdd, Nat.reduceLeDiff, Nat.reduceSub, Nat.reduceMul, List.reduceReplicate, Int.reduceEq, Int.reduceLT, Int.reduceLE, Int.reduceAdd, Int.reduceSub, Int.reduceMul, Nat.reduceLT, Int.reduceToNat]; first | done | (with_reducible rfl))); (case h2 => (first | exact c0)); (case h3 => simp -implicitDefEqProofs (maxSteps := 2000000) only [m8, m8_r, m8_b, m8_1, m8_2, m8_3, m8_4, m8_5, m8_6, m8_7, m8_8, m8_9, m8_10, m8_11, m8_23, m8_24, m8_25, m8_26, m8_27, m8_28, m8_29, m8_30, h0, y6, wk, act, asV, ↓reduceIte, Nat.reduceEqDiff, reduceCtorEq, Nat.reduceAdd, Nat.reduceLeDiff, Nat.reduceSub, Nat.reduceMul, List.reduceReplicate, Int.reduceEq, Int.reduceLT, Int.reduceLE, Int.reduceAdd, Int.reduceSub, Int.reduceMul, Nat.reduceLT, Int.reduceToNat])))
  refine Wp_loop (fun m s => ∃ i, i ≤ xs.length ∧ m = xs.length - i ∧ s.t 0 = .sl .plain xs.length (sdL xs) ∧ s.t 1 = .int .u8 (n0.toNat : Nat) ∧ s.t 6 = .int .i64 (i : Nat) ∧ ∃ v5, s.t 5 = .ptr 23 0 v5 ∧ ObjE 23 v5 1041 s.h (swaps (xs.take i))) xs.length ⟨0, by omega, rfl, rfl, rfl, rfl, _, rfl, _, rfl, .inl ⟨rfl, rfl⟩⟩ ?_
  rintro m s ⟨i, hi, rfl, k0, k1, k6, v5, k5, ko⟩
  by_cases hil : i < xs.length
  · have hil' : (i : Int) < xs.length := by omega
    have eX := sdL_drop hil
    have lL := sdL_length xs
    have hxi := hx _ (List.getElem_mem hil)
    have hfi := fmem _ (List.getElem_mem hil)
    obtain ⟨t1, t2, t3⟩ := swaps_facts i (xs.take i) (by rw [List.length_take]; omega) (by omega)
    have et : swaps (xs.take (i + 1)) = swaps (xs.take i) ++ [newE (swaps (xs.take i)) xs[i].asked (sR i xs[i])] := by
      rw [List.take_succ_eq_append_getElem hil, swaps_snoc, t1]
    obtain ⟨x, hxx⟩ : ∃ x, x = xs[i] := ⟨_, rfl⟩
    rw [← hxx] at hxi hfi eX et
    obtain ⟨es, hes⟩ : ∃ es, es = swaps (xs.take i) := ⟨_, rfl⟩
    rw [← hes] at t1 t2 t3 ko et
    have eX0 : List.drop (i * 4) (sdL xs) = .sl .plain x.asked.length (bl x.asked) :: .int .i64 x.r.id :: .int .i64 x.r.e :: .sl x.r.f x.r.d.length (bl x.r.d) :: List.drop ((i + 1) * 4) (sdL xs) := by rw [eX]; simp [sdC, rc]
    have dK : ∀ j, List.drop (i * 4 + j) (sdL xs) = List.drop j (.sl .plain x.asked.length (bl x.asked) :: .int .i64 x.r.id :: .int .i64 x.r.e :: .sl x.r.f x.r.d.length (bl x.r.d) :: List.drop ((i + 1) * 4) (sdL xs)) := fun j => by
      rw [← List.drop_drop, eX0]
    have e1 : List.drop (i * 4 + 1 + 1) (sdL xs) = .int .i64 x.r.e :: .sl x.r.f x.r.d.length (bl x.r.d) :: List.drop ((i + 1) * 4) (sdL xs) := dK 2
    have b1 : i * 4 + 1 ≤ xs.length * 4 := by omega
    have b3 : i * 4 + 1 + 1 + 1 ≤ xs.length * 4 := by omega
    have wi : IntKind.i64.wrap (((i : Nat) : Int) + 1) = ((i + 1 : Nat) : Int) := by rw [IntKind.wrap_i64]; omega
    have c2 := mod_ok x.r.e (n := 256) (by decide) (by decide)
    have ca := fun {H : Nat → Blk} {hv : Nat} (o : ObjE 23 hv 1041 H es) => add_ok (h := 23) (by decide) (fun e h => (t2 e h).1) (by omega) .plain x.asked (by omega) (sR i x) (by simp [sR]) o
    rw [sR_good i (by omega) x] at ca
    repeat' (first | simp -implicitDefEqProofs (maxSteps := 2000000) only [k0, k1, k5, k6, hil', eX0, e1, b1, b3, lL, wk, act, asV, ↓reduceIte, Nat.reduceEqDiff, reduceCtorEq, Nat.reduceAdd, Nat.reduceLeDiff, Nat.reduceSub, Nat.reduceMul, List.reduceReplicate, Int.reduceEq, Int.reduceLT, Int.reduceLE, Int.reduceAdd, Int.reduceSub, Int.reduceMul, Nat.reduceLT, Int.reduceToNat] | ((first | ((with_reducible refine CallL.gate ?_); apply CallL.of) | ((with_reducible refine CallpL.gate ?_); apply CallpL.of) | ((with_reducible refine CallP.gate ?_); apply CallP.of) | ((with_reducible refine CallpP.gate ?_); apply CallpP.of)); (case h1 => (simp -implicitDefEqProofs (maxSteps := 2000000) only [k0, k1, k5, k6, hil', eX0, e1, b1, b3, lL, wk, act, asV, ↓reduceIte, Nat.reduceEqDiff, reduceCtorEq, Nat.reduceAdd, Nat.reduceLeDiff, Nat.reduceSub, Nat.reduceMul, List.reduceReplicate, Int.reduceEq, Int.reduceLT, Int.reduceLE, Int.reduceAdd, Int.reduceSub, Int.reduceMul, Nat.reduceLT, Int.reduceToNat]; first | done | (with_reducible rfl))); (case h2 => (first | exact c2)); (case h3 => simp -implicitDefEqProofs (maxSteps := 2000000) only [k0, k1, k5, k6, hil', eX0, e1, b1, b3, lL, wk, act, asV, ↓reduceIte, Nat.reduceEqDiff, reduceCtorEq, Nat.reduceAdd, Nat.reduceLeDiff, Nat.reduceSub, Nat.reduceMul, List.reduceReplicate, Int.reduceEq, Int.reduceLT, Int.reduceLE, Int.reduceAdd, Int.reduceSub, Int.reduceMul, Nat.reduceLT, Int.reduceToNat])))
    refine CallnL.of (by simp -implicitDefEqProofs (maxSteps := 2000000) only [wk, act, asV, ↓reduceIte, Nat.reduceEqDiff, reduceCtorEq, Nat.reduceAdd, Nat.reduceLeDiff, Nat.reduceSub, Nat.reduceMul, List.reduceReplicate, Int.reduceEq, Int.reduceLT, Int.reduceLE, Int.reduceAdd, Int.reduceSub, Int.reduceMul, Nat.reduceLT, Int.reduceToNat]; first | done | rfl) (ca (ObjE_fr ko (by simp -implicitDefEqProofs (maxSteps := 2000000) only [wk, act, asV, ↓reduceIte, Nat.reduceEqDiff, reduceCtorEq, Nat.reduceAdd, Nat.reduceLeDiff, Nat.reduceSub, Nat.reduceMul, List.reduceReplicate, Int.reduceEq, Int.reduceLT, Int.reduceLE, Int.reduceAdd, Int.reduceSub, Int.reduceMul, Nat.reduceLT, Int.reduceToNat]; first | done | rfl) (by simp -implicitDefEqProofs (maxSteps := 2000000) only [wk, act, asV, ↓reduceIte, Nat.reduceEqDiff, reduceCtorEq, Nat.reduceAdd, Nat.reduceLeDiff, Nat.reduceSub, Nat.reduceMul, List.reduceReplicate, Int.reduceEq, Int.reduceLT, Int.reduceLE, Int.reduceAdd, Int.reduceSub, Int.reduceMul, Nat.reduceLT, Int.reduceToNat]; first | done | rfl))) ?_
    rintro _ h1 ⟨rfl, o1, fr1⟩
    rw [addE, if_pos (sR_good i (by omega) x), ← et] at o1
    simp -implicitDefEqProofs (maxSteps := 2000000) only [k0, k1, k5, k6, wi, wk, act, asV, ↓reduceIte, Nat.reduceEqDiff, reduceCtorEq, Nat.reduceAdd, Nat.reduceLeDiff, Nat.reduceSub, Nat.reduceMul, List.reduceReplicate, Int.reduceEq, Int.reduceLT, Int.reduceLE, Int.reduceAdd, Int.reduceSub, Int.reduceMul, Nat.reduceLT, Int.reduceToNat]
    refine ⟨xs.length - (i + 1), by omega, i + 1, by omega, rfl, rfl, v5, rfl, o1⟩
  · obtain rfl : i = xs.length := by omega
    have hil' : ¬ ((xs.length : Nat) : Int) < xs.length := by omega
    rw [List.take_length] at ko
    obtain ⟨t1, t2, t3⟩ := swaps_facts xs.length xs rfl (by omega)
    have hes := fun e h => (t2 e h).1
    obtain ⟨es, hee⟩ : ∃ es, es = swaps xs := ⟨_, rfl⟩
    rw [← hee] at t1 t2 t3 hes ko
    simp -implicitDefEqProofs (maxSteps := 2000000) only [k0, k1, k5, k6, hil', wk, act, asV, ↓reduceIte, Nat.reduceEqDiff, reduceCtorEq, Nat.reduceAdd, Nat.reduceLeDiff, Nat.reduceSub, Nat.reduceMul, List.reduceReplicate, Int.reduceEq, Int.reduceLT, Int.reduceLE, Int.reduceAdd, Int.reduceSub, Int.reduceMul, Nat.reduceLT, Int.reduceToNat]
    refine CallnL.of (by simp -implicitDefEqProofs (maxSteps := 2000000) only [wk, act, asV, ↓reduceIte, Nat.reduceEqDiff, reduceCtorEq, Nat.reduceAdd, Nat.reduceLeDiff, Nat.reduceSub, Nat.reduceMul, List.reduceReplicate, Int.reduceEq, Int.reduceLT, Int.reduceLE, Int.reduceAdd, Int.reduceSub, Int.reduceMul, Nat.reduceLT, Int.reduceToNat]; first | done | rfl) (entries_ok (h := 23) (by decide) hes (by omega) (ObjE_fr ko (by simp -implicitDefEqProofs (maxSteps := 2000000) only [wk, act, asV, ↓reduceIte, Nat.reduceEqDiff, reduceCtorEq, Nat.reduceAdd, Nat.reduceLeDiff, Nat.reduceSub, Nat.reduceMul, List.reduceReplicate, Int.reduceEq, Int.reduceLT, Int.reduceLE, Int.reduceAdd, Int.reduceSub, Int.reduceMul, Nat.reduceLT, Int.reduceToNat]; first | done | rfl) (by simp -implicitDefEqProofs (maxSteps := 2000000) only [wk, act, asV, ↓reduceIte, Nat.reduceEqDiff, reduceCtorEq, Nat.reduceAdd, Nat.reduceLeDiff, Nat.reduceSub, Nat.reduceMul, List.reduceReplicate, Int.reduceEq, Int.reduceLT, Int.reduceLE, Int.reduceAdd, Int.reduceSub, Int.reduceMul, Nat.reduceLT, Int.reduceToNat]; first | done | rfl))) ?_
    rintro _ h4 ⟨ver, rfl, hM, fr4⟩
    have lE := enL_length hes
    rw [t1] at lE
    have w0 : IntKind.i64.wrap ((n0.toNat : Nat) : Int) = (n0.toNat : Nat) := by rw [IntKind.wrap_i64]; have := n0.toNat_lt; omega
    have wl : IntKind.i64.wrap (((xs.length : Nat) : Int) - 1) = ((xs.length - 1 : Nat) : Int) := by rw [IntKind.wrap_i64]; omega
    have hl0 : ¬ ((xs.length - 1 : Nat) : Int) = 0 := by omega
    have u0 : ((n0.toNat : Nat) : Int).tmod ((xs.length - 1 : Nat) : Int) = ((n0.toNat % (xs.length - 1) : Nat) : Int) := rfl
    have hk : n0.toNat % (xs.length - 1) < xs.length - 1 := Nat.mod_lt _ (by omega)
    obtain ⟨k, hkk⟩ : ∃ k, k = n0.toNat % (xs.length - 1) := ⟨_, rfl⟩
    rw [← hkk] at u0 hk
    repeat' (first | simp -implicitDefEqProofs (maxSteps := 2000000) only [k0, k1, k5, k6, t1, hM, lE, w0, wl, hl0, u0, wk, act, asV, ↓reduceIte, Nat.reduceEqDiff, reduceCtorEq, Nat.reduceAdd, Nat.reduceLeDiff, Nat.reduceSub, Nat.reduceMul, List.reduceReplicate, Int.reduceEq, Int.reduceLT, Int.reduceLE, Int.reduceAdd, Int.reduceSub, Int.reduceMul, Nat.reduceLT, Int.reduceToNat] | ((first | ((with_reducible refine CallL.gate ?_); apply CallL.of) | ((with_reducible refine CallpL.gate ?_); apply CallpL.of) | ((with_reducible refine CallP.gate ?_); apply CallP.of) | ((with_reducible refine CallpP.gate ?_); apply CallpP.of)); (case h1 => (simp -implicitDefEqProofs (maxSteps := 2000000) only [k0, k1, k5, k6, t1, hM, lE, w0, wl, hl0, u0, wk, act, asV, ↓reduceIte, Nat.reduceEqDiff, reduceCtorEq, Nat.reduceAdd, Nat.reduceLeDiff, Nat.reduceSub, Nat.reduceMul, List.reduceReplicate, Int.reduceEq, Int.reduceLT, Int.reduceLE, Int.reduceAdd, Int.reduceSub, Int.reduceMul, Nat.reduceLT, Int.reduceToNat]; first | done | (with_reducible rfl))); (case h2 => (first | exact c0)); (case h3 => simp -implicitDefEqProofs (maxSteps := 2000000) only [k0, k1, k5, k6, t1, hM, lE, w0, wl, hl0, u0, wk, act, asV, ↓reduceIte, Nat.reduceEqDiff, reduceCtorEq, Nat.reduceAdd, Nat.reduceLeDiff, Nat.reduceSub, Nat.reduceMul, List.reduceReplicate, Int.reduceEq, Int.reduceLT, Int.reduceLE, Int.reduceAdd, Int.reduceSub, Int.reduceMul, Nat.reduceLT, Int.reduceToNat])))
    have hk1 : k + 1 < es.length := by omega
    have hk0 : k < es.length := by omega
    have kt : (es.take k).length = k := by rw [List.length_take]; omega
    have hest : ∀ e ∈ es.take k, e.Ok := fun e h => hes e (List.mem_of_mem_take h)
    have eA : es = es.take k ++ es[k] :: es[k + 1] :: es.drop (k + 2) := by
      rw [List.getElem_cons_drop hk1, List.getElem_cons_drop hk0, List.take_append_drop]
    have m1 : (es.take k ++ es[k] :: es[k + 1] :: es.drop (k + 2)).length = xs.length := by rw [← eA, t1]
    have m2 : ∀ e ∈ es.take k ++ es[k] :: es[k + 1] :: es.drop (k + 2), e.Ok := by rw [← eA]; exact hes
    have m3 : h4 5009 = ⟨ver, true, true, true, enL (es.take k ++ es[k] :: es[k + 1] :: es.drop (k + 2))⟩ := by rw [← eA]; exact hM
    have m4 := (t2 _ (List.getElem_mem hk1)).2
    have m5 : ¬ okAt (lastE (es.take k)) es[k + 1] → ∀ ys, verG y32 (es.take k ++ es[k + 1] :: ys) 0 = (k : Int) := fun hno ys => verG_at t3 (by omega) _ hno
    rcases Nat.eq_zero_or_pos k with hk0 | hk0
    · have p0 : ¬ (0 : Int) < k := by omega
      have z0 : lastE (es.take k) = y32 := by rw [hk0]; rfl
      simp -implicitDefEqProofs (maxSteps := 2000000) only [p0, wk, act, asV, ↓reduceIte, Nat.reduceEqDiff, reduceCtorEq, Nat.reduceAdd, Nat.reduceLeDiff, Nat.reduceSub, Nat.reduceMul, List.reduceReplicate, Int.reduceEq, Int.reduceLT, Int.reduceLE, Int.reduceAdd, Int.reduceSub, Int.reduceMul, Nat.reduceLT, Int.reduceToNat]
      exact s8_mid (v9 := (h4 9).ver + 1) (ver := ver) m1 (by omega) kt m2 m4 m5 (by simp -implicitDefEqProofs (maxSteps := 2000000) only [wk, act, asV, ↓reduceIte, Nat.reduceEqDiff, reduceCtorEq, Nat.reduceAdd, Nat.reduceLeDiff, Nat.reduceSub, Nat.reduceMul, List.reduceReplicate, Int.reduceEq, Int.reduceLT, Int.reduceLE, Int.reduceAdd, Int.reduceSub, Int.reduceMul, Nat.reduceLT, Int.reduceToNat]) (by simp -implicitDefEqProofs (maxSteps := 2000000) only [m3, wk, act, asV, ↓reduceIte, Nat.reduceEqDiff, reduceCtorEq, Nat.reduceAdd, Nat.reduceLeDiff, Nat.reduceSub, Nat.reduceMul, List.reduceReplicate, Int.reduceEq, Int.reduceLT, Int.reduceLE, Int.reduceAdd, Int.reduceSub, Int.reduceMul, Nat.reduceLT, Int.reduceToNat]) (by simp -implicitDefEqProofs (maxSteps := 2000000) only [wk, act, asV, ↓reduceIte, Nat.reduceEqDiff, reduceCtorEq, Nat.reduceAdd, Nat.reduceLeDiff, Nat.reduceSub, Nat.reduceMul, List.reduceReplicate, Int.reduceEq, Int.reduceLT, Int.reduceLE, Int.reduceAdd, Int.reduceSub, Int.reduceMul, Nat.reduceLT, Int.reduceToNat]) (by simp -implicitDefEqProofs (maxSteps := 2000000) only [wk, act, asV, ↓reduceIte, Nat.reduceEqDiff, reduceCtorEq, Nat.reduceAdd, Nat.reduceLeDiff, Nat.reduceSub, Nat.reduceMul, List.reduceReplicate, Int.reduceEq, Int.reduceLT, Int.reduceLE, Int.reduceAdd, Int.reduceSub, Int.reduceMul, Nat.reduceLT, Int.reduceToNat]) (by simp -implicitDefEqProofs (maxSteps := 2000000) only [z0, wk, act, asV, ↓reduceIte, Nat.reduceEqDiff, reduceCtorEq, Nat.reduceAdd, Nat.reduceLeDiff, Nat.reduceSub, Nat.reduceMul, List.reduceReplicate, Int.reduceEq, Int.reduceLT, Int.reduceLE, Int.reduceAdd, Int.reduceSub, Int.reduceMul, Nat.reduceLT, Int.reduceToNat])
    · have p0 : (0 : Int) < k := by omega
      have w1 : IntKind.i64.wrap ((k : Nat) - 1 : Int) = ((k - 1 : Nat) : Int) := by rw [IntKind.wrap_i64]; omega
      have p1 : ((k - 1 : Nat) : Int) < xs.length := by omega
      have hk1 : k - 1 < es.length := by omega
      have eX := enL_drop hes hk1
      rw [show k - 1 + 1 = k by omega] at eX
      have ex := hes _ (List.getElem_mem hk1)
      obtain ⟨q1, q2, q3, q4, _⟩ := en_takesA ex (List.drop (k * 66) (enL es))
      have lk := lastE_take hk1
      rw [show k - 1 + 1 = k by omega] at lk
      have q5 : List.take 32 (List.drop ((k - 1) * 66 + 34) (enL es)) = bl (lastE (es.take k)) := by
        rw [← List.drop_drop, eX, q4, lk]
      have q6 : (k - 1) * 66 + 34 + 32 ≤ xs.length * 66 := by omega
      have ll : (bl (lastE (es.take k))).length = 32 := by rw [bl_length, lastE_len hest]
      have ly : (bl y32).length = 32 := rfl
      have dy : List.drop 32 (bl y32) = [] := rfl
      simp -implicitDefEqProofs (maxSteps := 2000000) only [p0, w1, p1, q5, q6, lE, hM, ll, ly, dy, wk, act, asV, ↓reduceIte, Nat.reduceEqDiff, reduceCtorEq, Nat.reduceAdd, Nat.reduceLeDiff, Nat.reduceSub, Nat.reduceMul, List.reduceReplicate, Int.reduceEq, Int.reduceLT, Int.reduceLE, Int.reduceAdd, Int.reduceSub, Int.reduceMul, Nat.reduceLT, Int.reduceToNat]
      exact s8_mid (v9 := (h4 9).ver + 1) (ver := ver) m1 (by omega) kt m2 m4 m5 (by simp -implicitDefEqProofs (maxSteps := 2000000) only [wk, act, asV, ↓reduceIte, Nat.reduceEqDiff, reduceCtorEq, Nat.reduceAdd, Nat.reduceLeDiff, Nat.reduceSub, Nat.reduceMul, List.reduceReplicate, Int.reduceEq, Int.reduceLT, Int.reduceLE, Int.reduceAdd, Int.reduceSub, Int.reduceMul, Nat.reduceLT, Int.reduceToNat]) (by simp -implicitDefEqProofs (maxSteps := 2000000) only [m3, wk, act, asV, ↓reduceIte, Nat.reduceEqDiff, reduceCtorEq, Nat.reduceAdd, Nat.reduceLeDiff, Nat.reduceSub, Nat.reduceMul, List.reduceReplicate, Int.reduceEq, Int.reduceLT, Int.reduceLE, Int.reduceAdd, Int.reduceSub, Int.reduceMul, Nat.reduceLT, Int.reduceToNat]) (by simp -implicitDefEqProofs (maxSteps := 2000000) only [wk, act, asV, ↓reduceIte, Nat.reduceEqDiff, reduceCtorEq, Nat.reduceAdd, Nat.reduceLeDiff, Nat.reduceSub, Nat.reduceMul, List.reduceReplicate, Int.reduceEq, Int.reduceLT, Int.reduceLE, Int.reduceAdd, Int.reduceSub, Int.reduceMul, Nat.reduceLT, Int.reduceToNat]) (by simp -implicitDefEqProofs (maxSteps := 2000000) only [wk, act, asV, ↓reduceIte, Nat.reduceEqDiff, reduceCtorEq, Nat.reduceAdd, Nat.reduceLeDiff, Nat.reduceSub, Nat.reduceMul, List.reduceReplicate, Int.reduceEq, Int.reduceLT, Int.reduceLE, Int.reduceAdd, Int.reduceSub, Int.reduceMul, Nat.reduceLT, Int.reduceToNat]) (by simp -implicitDefEqProofs (maxSteps := 2000000) only [wk, act, asV, ↓reduceIte, Nat.reduceEqDiff, reduceCtorEq, Nat.reduceAdd, Nat.reduceLeDiff, Nat.reduceSub, Nat.reduceMul, List.reduceReplicate, Int.reduceEq, Int.reduceLT, Int.reduceLE, Int.reduceAdd, Int.reduceSub, Int.reduceMul, Nat.reduceLT, Int.reduceToNat])
end Go.Proofs.Ytkphojcmjffccaa
