/- Volumes: numbers held against numbers; whether they are few and short. -/
import Derived.Test.YtmblapgoimegkaaDoorE31
import Derived.Test.YtmblapgoimegkaaDoorM6
set_option linter.unusedVariables false
set_option linter.unusedSimpArgs false
set_option maxRecDepth 100000
set_option maxHeartbeats 4000000
namespace Go.Proofs.YtmblapgoimegkaaDoor
open Go.RowKit


theorem ints_ok (f f' : Fl) (xs ys : List Int) (hx : xs.length < 2 ^ 63) : RC Tryd.prog 53 [.sl f xs.length (il xs), .sl f' ys.length (il ys)] [.bool (decide (xs = ys))] := by
  refine RC.of_wp c53 rfl ?_
  simp -implicitDefEqProofs (maxSteps := 2000000) only [m53_1, m53_2, m53_3, m53_4, m53_5, m53_6, m53_7, m53_r, m53_b, m53, wk, act, asV, ↓reduceIte, Nat.reduceEqDiff, reduceCtorEq, Nat.reduceAdd, Nat.reduceLeDiff, Nat.reduceSub, Nat.reduceMul, List.reduceReplicate, Int.reduceEq, Int.reduceLT, Int.reduceLE, Int.reduceAdd, Int.reduceSub, Int.reduceMul, Nat.reduceLT, Int.reduceToNat]
  by_cases hl : xs.length = ys.length
  · simp -implicitDefEqProofs (maxSteps := 2000000) only [hl, wk, act, asV, ↓reduceIte, Nat.reduceEqDiff, reduceCtorEq, Nat.reduceAdd, Nat.reduceLeDiff, Nat.reduceSub, Nat.reduceMul, List.reduceReplicate, Int.reduceEq, Int.reduceLT, Int.reduceLE, Int.reduceAdd, Int.reduceSub, Int.reduceMul, Nat.reduceLT, Int.reduceToNat]
    refine Wp_loop (fun k s => ∃ i, i ≤ ys.length ∧ k = ys.length - i ∧ s.t 0 = .sl f ys.length (il xs) ∧ s.t 1 = .sl f' ys.length (il ys) ∧ s.t 5 = .int .i64 i ∧ xs.take i = ys.take i) ys.length ⟨0, by omega, rfl, rfl, rfl, rfl, rfl⟩ ?_
    rintro k s ⟨i, hi, rfl, h0, h1, h5, ht⟩
    simp -implicitDefEqProofs (maxSteps := 2000000) only [h0, h1, h5, wk, act, asV, ↓reduceIte, Nat.reduceEqDiff, reduceCtorEq, Nat.reduceAdd, Nat.reduceLeDiff, Nat.reduceSub, Nat.reduceMul, List.reduceReplicate, Int.reduceEq, Int.reduceLT, Int.reduceLE, Int.reduceAdd, Int.reduceSub, Int.reduceMul, Nat.reduceLT, Int.reduceToNat]
    by_cases hlt : i < ys.length
    · have hltx : i < xs.length := by omega
      simp -implicitDefEqProofs (maxSteps := 2000000) only [Int.ofNat_lt, hlt, hl, h0, h1, h5, drop_il hlt, drop_il hltx, wk, act, asV, ↓reduceIte, Nat.reduceEqDiff, reduceCtorEq, Nat.reduceAdd, Nat.reduceLeDiff, Nat.reduceSub, Nat.reduceMul, List.reduceReplicate, Int.reduceEq, Int.reduceLT, Int.reduceLE, Int.reduceAdd, Int.reduceSub, Int.reduceMul, Nat.reduceLT, Int.reduceToNat]
      by_cases he : xs[i] = ys[i]
      · simp -implicitDefEqProofs (maxSteps := 2000000) only [he, hl, wrap_nat (show i < 2 ^ 63 - 1 by omega), wk, act, asV, ↓reduceIte, Nat.reduceEqDiff, reduceCtorEq, Nat.reduceAdd, Nat.reduceLeDiff, Nat.reduceSub, Nat.reduceMul, List.reduceReplicate, Int.reduceEq, Int.reduceLT, Int.reduceLE, Int.reduceAdd, Int.reduceSub, Int.reduceMul, Nat.reduceLT, Int.reduceToNat]
        refine ⟨ys.length - (i + 1), by omega, i + 1, by omega, rfl, rfl, ?_⟩
        rw [List.take_succ_eq_append_getElem hlt, List.take_succ_eq_append_getElem hltx, ht, he]
      · have : xs ≠ ys := fun e => he (by simp [e])
        simp -implicitDefEqProofs (maxSteps := 2000000) only [he, hl, this, wk, act, asV, ↓reduceIte, Nat.reduceEqDiff, reduceCtorEq, Nat.reduceAdd, Nat.reduceLeDiff, Nat.reduceSub, Nat.reduceMul, List.reduceReplicate, Int.reduceEq, Int.reduceLT, Int.reduceLE, Int.reduceAdd, Int.reduceSub, Int.reduceMul, Nat.reduceLT, Int.reduceToNat]
    · have hi' : i = ys.length := by omega
      have : xs = ys := by
        subst hi'
        rw [List.take_of_length_le (by omega), List.take_of_length_le (by omega)] at ht
        exact ht
      simp -implicitDefEqProofs (maxSteps := 2000000) only [Int.ofNat_lt, hlt, this, wk, act, asV, ↓reduceIte, Nat.reduceEqDiff, reduceCtorEq, Nat.reduceAdd, Nat.reduceLeDiff, Nat.reduceSub, Nat.reduceMul, List.reduceReplicate, Int.reduceEq, Int.reduceLT, Int.reduceLE, Int.reduceAdd, Int.reduceSub, Int.reduceMul, Nat.reduceLT, Int.reduceToNat]
  · have hne : ¬ ((xs.length : Int) = ys.length) := by omega
    have hne' : xs ≠ ys := fun e => hl (by rw [e])
    simp -implicitDefEqProofs (maxSteps := 2000000) only [hne, hne', wk, act, asV, ↓reduceIte, Nat.reduceEqDiff, reduceCtorEq, Nat.reduceAdd, Nat.reduceLeDiff, Nat.reduceSub, Nat.reduceMul, List.reduceReplicate, Int.reduceEq, Int.reduceLT, Int.reduceLE, Int.reduceAdd, Int.reduceSub, Int.reduceMul, Nat.reduceLT, Int.reduceToNat]

/-! ### volumes -/
structure Vol where
  name : List UInt8
  blocks : List Int
  deriving DecidableEq
def vl (vs : List Vol) : List IV := vs.flatMap fun v => [.str v.name, .sl .plain v.blocks.length (il v.blocks)]
theorem vl_length (vs : List Vol) : (vl vs).length = vs.length * 2 := by
  induction vs with
  | nil => rfl
  | cons v vs ih => simp only [vl, List.flatMap_cons, List.length_append, List.length_cons, List.length_nil] at ih ⊢; omega
theorem vl_append (vs ws : List Vol) : vl (vs ++ ws) = vl vs ++ vl ws := by simp [vl]
theorem drop_vl : ∀ {vs : List Vol} {i : Nat} (h : i < vs.length), (vl vs).drop (i * 2) = .str vs[i].name :: .sl .plain vs[i].blocks.length (il vs[i].blocks) :: (vl vs).drop ((i + 1) * 2)
  | v :: vs, 0, h => by simp [vl]
  | v :: vs, i + 1, h => by
    have := drop_vl (vs := vs) (i := i) (by simpa using h)
    have e : ∀ j, (vl (v :: vs)).drop ((j + 1) * 2) = (vl vs).drop (j * 2) := fun j => by
      rw [show (j + 1) * 2 = 2 + j * 2 by omega]
      simp [vl, ← List.drop_drop]
    rw [e, e, this]
    simp

/-- few, and short -/
def vOk (v : Vol) : Bool := decide (v.name.length ≤ 100) && decide (v.blocks.length ≤ 50)
def fair (vs : List Vol) : Bool := vs.all vOk && decide (vs.length ≤ 20)

theorem fair_ok (f : Fl) (vs : List Vol) (hb : vs.length < 2 ^ 63) : RC Tryd.prog 32 [.sl f vs.length (vl vs)] [.bool (fair vs)] := by
  refine RC.of_wp c32 rfl ?_
  simp -implicitDefEqProofs (maxSteps := 2000000) only [m32_1, m32_2, m32_3, m32_4, m32_5, m32_6, m32_r, m32_b, m32, wk, act, asV, ↓reduceIte, Nat.reduceEqDiff, reduceCtorEq, Nat.reduceAdd, Nat.reduceLeDiff, Nat.reduceSub, Nat.reduceMul, List.reduceReplicate, Int.reduceEq, Int.reduceLT, Int.reduceLE, Int.reduceAdd, Int.reduceSub, Int.reduceMul, Nat.reduceLT, Int.reduceToNat]
  refine Wp_loop (fun k s => ∃ i, i ≤ vs.length ∧ k = vs.length - i ∧ s.t 0 = .sl f vs.length (vl vs) ∧ s.t 3 = .int .i64 i ∧ (vs.take i).all vOk = true) vs.length ⟨0, by omega, rfl, rfl, rfl, rfl⟩ ?_
  rintro k s ⟨i, hi, rfl, h0, h3, ht⟩
  simp -implicitDefEqProofs (maxSteps := 2000000) only [h0, h3, wk, act, asV, ↓reduceIte, Nat.reduceEqDiff, reduceCtorEq, Nat.reduceAdd, Nat.reduceLeDiff, Nat.reduceSub, Nat.reduceMul, List.reduceReplicate, Int.reduceEq, Int.reduceLT, Int.reduceLE, Int.reduceAdd, Int.reduceSub, Int.reduceMul, Nat.reduceLT, Int.reduceToNat]
  by_cases hlt : i < vs.length
  · have h2 : (0 : Nat) < 2 := by omega
    by_cases hn : 100 < vs[i].name.length
    · have hno : fair vs = false := by
        have : vs.all vOk = false := by
          rw [List.all_eq_false]
          exact ⟨vs[i], List.getElem_mem hlt, by simp [vOk]; omega⟩
        simp [fair, this]
      have hn' : (100 : Int) < vs[i].name.length := by omega
      simp -implicitDefEqProofs (maxSteps := 2000000) only [Int.ofNat_lt, hlt, h0, h3, h2, vl_length, drop_vl hlt, hn', hno, wk, act, asV, ↓reduceIte, Nat.reduceEqDiff, reduceCtorEq, Nat.reduceAdd, Nat.reduceLeDiff, Nat.reduceSub, Nat.reduceMul, List.reduceReplicate, Int.reduceEq, Int.reduceLT, Int.reduceLE, Int.reduceAdd, Int.reduceSub, Int.reduceMul, Nat.reduceLT, Int.reduceToNat]
    · have hn' : ¬ (100 : Int) < vs[i].name.length := by omega
      by_cases hb2 : 50 < vs[i].blocks.length
      · have hno : fair vs = false := by
          have : vs.all vOk = false := by
            rw [List.all_eq_false]
            exact ⟨vs[i], List.getElem_mem hlt, by simp [vOk]; omega⟩
          simp [fair, this]
        have hb2' : (50 : Int) < vs[i].blocks.length := by omega
        simp -implicitDefEqProofs (maxSteps := 2000000) only [Int.ofNat_lt, hlt, h0, h3, h2, vl_length, drop_vl hlt, hn', hb2', hno, wk, act, asV, ↓reduceIte, Nat.reduceEqDiff, reduceCtorEq, Nat.reduceAdd, Nat.reduceLeDiff, Nat.reduceSub, Nat.reduceMul, List.reduceReplicate, Int.reduceEq, Int.reduceLT, Int.reduceLE, Int.reduceAdd, Int.reduceSub, Int.reduceMul, Nat.reduceLT, Int.reduceToNat]
      · have hb2' : ¬ (50 : Int) < vs[i].blocks.length := by omega
        simp -implicitDefEqProofs (maxSteps := 2000000) only [Int.ofNat_lt, hlt, h0, h3, h2, vl_length, drop_vl hlt, hn', hb2', wrap_nat (show i < 2 ^ 63 - 1 by omega), wk, act, asV, ↓reduceIte, Nat.reduceEqDiff, reduceCtorEq, Nat.reduceAdd, Nat.reduceLeDiff, Nat.reduceSub, Nat.reduceMul, List.reduceReplicate, Int.reduceEq, Int.reduceLT, Int.reduceLE, Int.reduceAdd, Int.reduceSub, Int.reduceMul, Nat.reduceLT, Int.reduceToNat]
        refine ⟨vs.length - (i + 1), by omega, i + 1, by omega, rfl, rfl, ?_⟩
        rw [List.take_succ_eq_append_getElem hlt, List.all_append, ht]
        simp [vOk]
        omega
  · have hi' : i = vs.length := by omega
    have hall : vs.all vOk = true := by
      subst hi'
      rwa [List.take_of_length_le (Nat.le_refl _)] at ht
    have hf : fair vs = decide ((vs.length : Int) ≤ 20) := by
      simp only [fair, hall, Bool.true_and]
      congr 1
      apply propext
      omega
    simp -implicitDefEqProofs (maxSteps := 2000000) only [Int.ofNat_lt, hlt, h0, hf, wk, act, asV, ↓reduceIte, Nat.reduceEqDiff, reduceCtorEq, Nat.reduceAdd, Nat.reduceLeDiff, Nat.reduceSub, Nat.reduceMul, List.reduceReplicate, Int.reduceEq, Int.reduceLT, Int.reduceLE, Int.reduceAdd, Int.reduceSub, Int.reduceMul, Nat.reduceLT, Int.reduceToNat]
end Go.Proofs.YtmblapgoimegkaaDoor
