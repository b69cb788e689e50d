/- The laws AuditVerifies and AuditNone. -/
import Derived.Test.YtkphojcmjffccaaW6
import Derived.Test.YtkphojcmjffccaaE31
import Derived.Test.YtkphojcmjffccaaM16
set_option linter.unusedVariables false
set_option linter.unusedSimpArgs false
set_option linter.unusedSectionVars false
set_option maxRecDepth 100000
set_option maxHeartbeats 8000000
namespace Go.Proofs.Ytkphojcmjffccaa
open Go.RowKit

theorem placed_en {D G : List IV} (lD : D.length = 32) (lG : G.length = 32) (i e : IV) (Z : List IV) (hZ : Z.length = 66) : placed Z [(0, D), (32, [i]), (33, [e]), (34, G)] = some (D ++ (i :: e :: G)) := by
  have e0 : Z = [] ++ Z := rfl
  rw [e0, pl_step [] Z (show ([] : List IV).length = 0 from rfl) (by omega), List.nil_append, pl_step D _ lD (by rw [List.length_drop]; simp; omega), pl_step (D ++ [_]) _ (by simp [lD]) (by simp [lD, hZ]), pl_step (D ++ [_] ++ [_]) _ (by simp [lD]) (by simp [lD, lG, hZ])]
  simp [placed, lD, lG, hZ]
theorem own_ok (f : Fl) (xs : List En) (hx : ∀ x ∈ xs, x.Ok) (hn : xs.length ≤ 2 ^ 30) : RC Try.prog 22 [.sl f xs.length (enL xs)] [ownE xs] := by
  refine RC.of_wp c22 rfl ?_
  simp -implicitDefEqProofs (maxSteps := 2000000) only [m22_1, m22_2, m22_3, m22_4, m22_5, m22_6, m22_r, m22_b, m22, wk, act, asV, ↓reduceIte, Nat.reduceEqDiff, reduceCtorEq, Nat.reduceAdd, Nat.reduceLeDiff, Nat.reduceSub, Nat.reduceMul, List.reduceReplicate, Int.reduceEq, Int.reduceLT, Int.reduceLE, Int.reduceAdd, Int.reduceSub, Int.reduceMul, Nat.reduceLT, Int.reduceToNat]
  refine Wp_loop (fun m s => ∃ i, i ≤ xs.length ∧ m = xs.length - i ∧ s.t 0 = .sl f xs.length (enL xs) ∧ s.t 4 = .int .i64 (i : Nat) ∧ ((i = 0 ∧ s.t 3 = .sl .full 0 []) ∨ (0 < i ∧ ∃ ver, s.t 3 = .row 34 0 i 66 ver ∧ s.h 34 = ⟨ver, true, true, true, enL (xs.take i)⟩))) xs.length ⟨0, by omega, rfl, rfl, rfl, .inl ⟨rfl, rfl⟩⟩ ?_
  rintro m s ⟨i, hi, rfl, k0, k4, k3⟩
  by_cases hil : i < xs.length
  · have hil' : (i : Int) < xs.length := by omega
    have hxi := hx _ (List.getElem_mem hil)
    obtain ⟨x, hxx⟩ : ∃ x, x = xs[i] := ⟨_, rfl⟩
    rw [← hxx] at hxi
    have eX := enL_drop hx hil
    rw [← hxx] at eX
    have lL := enL_length hx
    obtain ⟨p1, p2, p3, p4, n1, n2, n3, n4⟩ := en_takesA hxi (List.drop ((i + 1) * 66) (enL xs))
    have l66 : 66 ≤ (enC x ++ List.drop ((i + 1) * 66) (enL xs)).length := by rw [List.length_append, enC_length hxi]; omega
    obtain ⟨V, hV⟩ : ∃ V, V = enC x ++ List.drop ((i + 1) * 66) (enL xs) := ⟨_, rfl⟩
    rw [← hV] at eX p1 p2 p3 p4 n1 n2 n3 n4 l66
    have la : (bl x.asked).length = 32 := by rw [bl_length, hxi.a]
    have ll : (bl x.link).length = 32 := by rw [bl_length, hxi.l]
    have hpl := fun Z hZ => placed_en la ll (.int .i64 x.id) (.int .i64 x.e) Z hZ
    have hz : bl x.asked ++ (.int .i64 x.id :: .int .i64 x.e :: bl x.link) = enC x := rfl
    rw [hz] at hpl
    have lz := enC_length hxi
    have sz := enC_scal x
    have wi : IntKind.i64.wrap (((i : Nat) : Int) + 1) = ((i + 1 : Nat) : Int) := by rw [IntKind.wrap_i64]; omega
    have r1 : roomy 1 80 = true := by decide
    have r2 : roomy (i + 1) 80 = true := roomy80 (by omega)
    have et : enL (xs.take (i + 1)) = enL (xs.take i) ++ enC x := by
      rw [List.take_succ_eq_append_getElem hil, enL_append, ← hxx]; simp [enL]
    have lt : (enL (xs.take i)).length = i * 66 := by
      rw [enL_length (fun y hy => hx y (List.mem_of_mem_take hy)), List.length_take]; congr 1; omega
    rcases k3 with ⟨hi0, k3⟩ | ⟨hi0, ver, k3, kh⟩
    · simp -implicitDefEqProofs (maxSteps := 2000000) only [k0, k4, k3, hil', eX, lL, p1, p2, p3, p4, n1, n2, n3, n4, l66, la, ll, hpl, lz, sz, wi, r1, bl_scal, wk, act, asV, ↓reduceIte, Nat.reduceEqDiff, reduceCtorEq, Nat.reduceAdd, Nat.reduceLeDiff, Nat.reduceSub, Nat.reduceMul, List.reduceReplicate, Int.reduceEq, Int.reduceLT, Int.reduceLE, Int.reduceAdd, Int.reduceSub, Int.reduceMul, Nat.reduceLT, Int.reduceToNat]
      subst hi0
      refine ⟨xs.length - (0 + 1), by omega, 0 + 1, by omega, rfl, rfl, by omega, ?_⟩
      rw [et]
      exact ⟨_, rfl, rfl⟩
    · simp -implicitDefEqProofs (maxSteps := 2000000) only [k0, k4, k3, kh, hil', eX, lL, p1, p2, p3, p4, n1, n2, n3, n4, l66, la, ll, hpl, lz, sz, wi, r2, lt, bl_scal, wk, act, asV, ↓reduceIte, Nat.reduceEqDiff, reduceCtorEq, Nat.reduceAdd, Nat.reduceLeDiff, Nat.reduceSub, Nat.reduceMul, List.reduceReplicate, Int.reduceEq, Int.reduceLT, Int.reduceLE, Int.reduceAdd, Int.reduceSub, Int.reduceMul, Nat.reduceLT, Int.reduceToNat]
      refine ⟨xs.length - (i + 1), by omega, i + 1, by omega, rfl, rfl, by omega, ?_⟩
      rw [et]
      exact ⟨_, rfl, rfl⟩
  · obtain rfl : i = xs.length := by omega
    have hil' : ¬ ((xs.length : Nat) : Int) < xs.length := by omega
    rw [List.take_length] at k3
    rcases k3 with ⟨hi0, k3⟩ | ⟨hi0, ver, k3, kh⟩
    · have h0 : xs = [] := List.eq_nil_of_length_eq_zero hi0
      rw [show ownE xs = .sl .full 0 [] from if_pos h0]
      simp -implicitDefEqProofs (maxSteps := 2000000) only [k0, k4, k3, hil', wk, act, asV, ↓reduceIte, Nat.reduceEqDiff, reduceCtorEq, Nat.reduceAdd, Nat.reduceLeDiff, Nat.reduceSub, Nat.reduceMul, List.reduceReplicate, Int.reduceEq, Int.reduceLT, Int.reduceLE, Int.reduceAdd, Int.reduceSub, Int.reduceMul, Nat.reduceLT, Int.reduceToNat]
    · have h0 : ¬ xs = [] := fun e => by rw [e] at hi0; simp at hi0
      have ht := enL_take xs hx
      rw [show ownE xs = .own xs.length 66 (enL xs) from if_neg h0]
      simp -implicitDefEqProofs (maxSteps := 2000000) only [k0, k4, k3, kh, hil', ht, wk, act, asV, ↓reduceIte, Nat.reduceEqDiff, reduceCtorEq, Nat.reduceAdd, Nat.reduceLeDiff, Nat.reduceSub, Nat.reduceMul, List.reduceReplicate, Int.reduceEq, Int.reduceLT, Int.reduceLE, Int.reduceAdd, Int.reduceSub, Int.reduceMul, Nat.reduceLT, Int.reduceToNat]
structure Sd where
  asked : List UInt8
  r : Rp
structure Sd.Ok (x : Sd) : Prop where
  a : x.asked.length < 2 ^ 63
  d : x.r.d.length < 2 ^ 63
  f : x.r.f = .plain
def sdC (x : Sd) : List IV := .sl .plain x.asked.length (bl x.asked) :: rc x.r
def sdL (xs : List Sd) : List IV := xs.flatMap sdC
theorem sdL_length (xs : List Sd) : (sdL xs).length = xs.length * 4 := by
  induction xs with
  | nil => rfl
  | cons x xs ih => simp only [sdL, List.flatMap_cons, List.length_append, List.length_cons] at ih ⊢; rw [ih]; simp [sdC, rc]; omega
theorem sdL_drop : ∀ {xs : List Sd} {i : Nat} (h : i < xs.length), (sdL xs).drop (i * 4) = sdC xs[i] ++ (sdL xs).drop ((i + 1) * 4)
  | x :: xs, 0, h => by simp [sdL, sdC, rc]
  | x :: xs, i + 1, h => by
    have := sdL_drop (xs := xs) (i := i) (by simpa using h)
    simp only [List.getElem_cons_succ]
    rw [show (i + 1) * 4 = 4 + i * 4 by omega, show (i + 1 + 1) * 4 = 4 + (i + 1) * 4 by omega, ← List.drop_drop, ← List.drop_drop]
    exact this
def fairS (xs : List Sd) : Bool := xs.all (fun x => decide (x.asked.length ≤ 300) && decide (x.r.d.length ≤ 600)) && decide (xs.length ≤ 30)
theorem fairS_ok (f : Fl) (xs : List Sd) (hn : xs.length < 2 ^ 63) (hp : ∀ x ∈ xs, x.r.f = .plain) : RC Try.prog 9 [.sl f xs.length (sdL xs)] [.bool (fairS xs)] := by
  refine RC.of_wp c9 rfl ?_
  simp -implicitDefEqProofs (maxSteps := 2000000) only [m9_1, m9_2, m9_3, m9_4, m9_5, m9_6, m9_r, m9_b, m9, wk, act, asV, ↓reduceIte, Nat.reduceEqDiff, reduceCtorEq, Nat.reduceAdd, Nat.reduceLeDiff, Nat.reduceSub, Nat.reduceMul, List.reduceReplicate, Int.reduceEq, Int.reduceLT, Int.reduceLE, Int.reduceAdd, Int.reduceSub, Int.reduceMul, Nat.reduceLT, Int.reduceToNat]
  refine Wp_loop (fun m s => ∃ i, i ≤ xs.length ∧ m = xs.length - i ∧ s.t 0 = .sl f xs.length (sdL xs) ∧ s.t 3 = .int .i64 (i : Nat) ∧ (xs.take i).all (fun x => decide (x.asked.length ≤ 300) && decide (x.r.d.length ≤ 600)) = true) xs.length ⟨0, by omega, rfl, rfl, rfl, rfl⟩ ?_
  rintro m s ⟨i, hi, rfl, k0, k3, hall⟩
  by_cases hil : i < xs.length
  · have hil' : (i : Int) < xs.length := by omega
    have eX := sdL_drop hil
    have lL := sdL_length xs
    have wi : IntKind.i64.wrap (((i : Nat) : Int) + 1) = ((i + 1 : Nat) : Int) := by rw [IntKind.wrap_i64]; omega
    have hfl := hp _ (List.getElem_mem hil)
    have l4 : 4 ≤ (sdC xs[i] ++ List.drop ((i + 1) * 4) (sdL xs)).length := by simp [sdC, rc]
    have no : ¬ (xs[i].asked.length ≤ 300 ∧ xs[i].r.d.length ≤ 600) → fairS xs = false := fun h => by
      unfold fairS
      rw [Bool.and_eq_false_iff]
      refine .inl (Bool.eq_false_iff.2 fun hh => h ?_)
      have := List.all_eq_true.1 hh _ (List.getElem_mem hil)
      simpa using this
    by_cases b1 : (300 : Int) < (xs[i].asked.length : Nat)
    · rw [no (fun h => by omega)]
      simp -implicitDefEqProofs (maxSteps := 2000000) only [k0, k3, hil', eX, lL, sdC, rc, b1, wk, act, asV, ↓reduceIte, Nat.reduceEqDiff, reduceCtorEq, Nat.reduceAdd, Nat.reduceLeDiff, Nat.reduceSub, Nat.reduceMul, List.reduceReplicate, Int.reduceEq, Int.reduceLT, Int.reduceLE, Int.reduceAdd, Int.reduceSub, Int.reduceMul, Nat.reduceLT, Int.reduceToNat]
    · by_cases b2 : (600 : Int) < (xs[i].r.d.length : Nat)
      · rw [no (fun h => by omega)]
        simp -implicitDefEqProofs (maxSteps := 2000000) only [k0, k3, hil', eX, lL, sdC, rc, b1, b2, wk, act, asV, ↓reduceIte, Nat.reduceEqDiff, reduceCtorEq, Nat.reduceAdd, Nat.reduceLeDiff, Nat.reduceSub, Nat.reduceMul, List.reduceReplicate, Int.reduceEq, Int.reduceLT, Int.reduceLE, Int.reduceAdd, Int.reduceSub, Int.reduceMul, Nat.reduceLT, Int.reduceToNat]
      · simp -implicitDefEqProofs (maxSteps := 2000000) only [k0, k3, hil', eX, lL, sdC, rc, b1, b2, wi, wk, act, asV, ↓reduceIte, Nat.reduceEqDiff, reduceCtorEq, Nat.reduceAdd, Nat.reduceLeDiff, Nat.reduceSub, Nat.reduceMul, List.reduceReplicate, Int.reduceEq, Int.reduceLT, Int.reduceLE, Int.reduceAdd, Int.reduceSub, Int.reduceMul, Nat.reduceLT, Int.reduceToNat]
        refine ⟨xs.length - (i + 1), by omega, i + 1, by omega, rfl, rfl, ?_⟩
        rw [List.take_succ_eq_append_getElem hil, List.all_append, hall]
        simp; omega
  · obtain rfl : i = xs.length := by omega
    have hil' : ¬ ((xs.length : Nat) : Int) < xs.length := by omega
    rw [List.take_length] at hall
    have e : fairS xs = decide ((xs.length : Int) ≤ 30) := by
      unfold fairS
      rw [hall, Bool.true_and]
      congr 1; apply propext; omega
    rw [e]
    simp -implicitDefEqProofs (maxSteps := 2000000) only [k0, k3, hil', wk, act, asV, ↓reduceIte, Nat.reduceEqDiff, reduceCtorEq, Nat.reduceAdd, Nat.reduceLeDiff, Nat.reduceSub, Nat.reduceMul, List.reduceReplicate, Int.reduceEq, Int.reduceLT, Int.reduceLE, Int.reduceAdd, Int.reduceSub, Int.reduceMul, Nat.reduceLT, Int.reduceToNat]
end Go.Proofs.Ytkphojcmjffccaa
