/- Names: the law NamesPads. -/
import Derived.Test.YtmblapgoimegkaaDoorN4
set_option linter.unusedVariables false
set_option linter.unusedSimpArgs false
set_option maxRecDepth 100000
set_option maxHeartbeats 8000000
namespace Go.Proofs.YtmblapgoimegkaaDoor
open Go.RowKit

def stepP3 (q : Bool × Bool × Nat) (b : UInt8) : Bool × Bool × Nat := if b = 0 then (q.1, true, q.2.2) else ((q.1 && !q.2.1) && low b, q.2.1, q.2.2 + 1)
def walkP (l : List UInt8) : Bool × Bool × Nat := l.foldl stepP3 (true, false, 0)
theorem walkP_snoc (l : List UInt8) (b : UInt8) : walkP (l ++ [b]) = stepP3 (walkP l) b := by simp [walkP]
theorem walkP_le (l : List UInt8) : (walkP l).2.2 ≤ l.length := by
  have : ∀ (l : List UInt8) (q : Bool × Bool × Nat), (l.foldl stepP3 q).2.2 ≤ q.2.2 + l.length := by
    intro l
    induction l with
    | nil => intro q; simp
    | cons b l ih =>
      intro q
      have h := ih (stepP3 q b)
      have h2 : (stepP3 q b).2.2 ≤ q.2.2 + 1 := by unfold stepP3; split <;> simp
      simp only [List.foldl_cons, List.length_cons]
      omega
  simpa [walkP] using this l (true, false, 0)
theorem walkP_cut {b : List UInt8} (hb : b.length = 4) : cutO b = (walkP b).1 ∧ (cutO b = true → (cutS b).length = (walkP b).2.2) ∧ (cutO b = false → cutS b = []) := by
  refine ⟨?_, ?_, ?_⟩
  · match b, hb with
    | [b0, b1, b2, b3], _ =>
      have hl0 : low 0 = false := by decide
      by_cases h3 : b3 = 0 <;> by_cases h2 : b2 = 0 <;> by_cases h1 : b1 = 0 <;> by_cases h0 : b0 = 0 <;>
        simp [cutO, cutN, trimR, isZ, goodN, walkP, stepP3, h0, h1, h2, h3, hl0] <;>
        (cases low b0 <;> cases low b1 <;> cases low b2 <;> cases low b3 <;> simp)
  · match b, hb with
    | [b0, b1, b2, b3], _ =>
      have hl0 : low 0 = false := by decide
      by_cases h3 : b3 = 0 <;> by_cases h2 : b2 = 0 <;> by_cases h1 : b1 = 0 <;> by_cases h0 : b0 = 0 <;>
        simp [cutO, cutS, cutN, trimR, isZ, goodN, walkP, stepP3, h0, h1, h2, h3, hl0] <;>
        (cases low b0 <;> cases low b1 <;> cases low b2 <;> cases low b3 <;> simp)
  · unfold cutO cutS
    cases cutN b <;> simp

theorem namesPads (b : List UInt8) (hb : b.length = 4) : RC Tryd.prog 6 [.agg (bl b)] [.bool true] := by
  refine RC.of_wp c6 rfl ?_
  simp -implicitDefEqProofs (maxSteps := 2000000) only [m6_1, m6_2, m6_3, m6_4, m6_5, m6_6, m6_7, m6_8, m6_9, m6_10, m6_11, m6_12, m6_r, m6_b, m6, wk, act, asV, ↓reduceIte, Nat.reduceEqDiff, reduceCtorEq, Nat.reduceAdd, Nat.reduceLeDiff, Nat.reduceSub, Nat.reduceMul, List.reduceReplicate, Int.reduceEq, Int.reduceLT, Int.reduceLE, Int.reduceAdd, Int.reduceSub, Int.reduceMul, Nat.reduceLT, Int.reduceToNat]
  refine Wp_loop (fun j st => ∃ i, i ≤ 4 ∧ j = 4 - i ∧ st.t 6 = .int .i64 (i : Nat) ∧ (∃ ver, st.t 1 = .ptr 1 0 ver ∧ st.h 1 = ⟨ver, true, true, false, bl b⟩) ∧ st.t 3 = .bool (walkP (b.take i)).1 ∧ st.t 4 = .bool (walkP (b.take i)).2.1 ∧ st.t 5 = .int .i64 ((walkP (b.take i)).2.2 : Nat)) 4 ⟨0, by omega, rfl, by simp -implicitDefEqProofs (maxSteps := 2000000) only [wk, act, asV, ↓reduceIte, Nat.reduceEqDiff, reduceCtorEq, Nat.reduceAdd, Nat.reduceLeDiff, Nat.reduceSub, Nat.reduceMul, List.reduceReplicate, Int.reduceEq, Int.reduceLT, Int.reduceLE, Int.reduceAdd, Int.reduceSub, Int.reduceMul, Nat.reduceLT, Int.reduceToNat], ⟨_, by simp -implicitDefEqProofs (maxSteps := 2000000) only [wk, act, asV, ↓reduceIte, Nat.reduceEqDiff, reduceCtorEq, Nat.reduceAdd, Nat.reduceLeDiff, Nat.reduceSub, Nat.reduceMul, List.reduceReplicate, Int.reduceEq, Int.reduceLT, Int.reduceLE, Int.reduceAdd, Int.reduceSub, Int.reduceMul, Nat.reduceLT, Int.reduceToNat]; first | done | rfl, by simp -implicitDefEqProofs (maxSteps := 2000000) only [wk, act, asV, ↓reduceIte, Nat.reduceEqDiff, reduceCtorEq, Nat.reduceAdd, Nat.reduceLeDiff, Nat.reduceSub, Nat.reduceMul, List.reduceReplicate, Int.reduceEq, Int.reduceLT, Int.reduceLE, Int.reduceAdd, Int.reduceSub, Int.reduceMul, Nat.reduceLT, Int.reduceToNat]; first | done | rfl⟩, by simp -implicitDefEqProofs (maxSteps := 2000000) only [walkP, List.foldl_nil, wk, act, asV, ↓reduceIte, Nat.reduceEqDiff, reduceCtorEq, Nat.reduceAdd, Nat.reduceLeDiff, Nat.reduceSub, Nat.reduceMul, List.reduceReplicate, Int.reduceEq, Int.reduceLT, Int.reduceLE, Int.reduceAdd, Int.reduceSub, Int.reduceMul, Nat.reduceLT, Int.reduceToNat], by simp -implicitDefEqProofs (maxSteps := 2000000) only [walkP, List.foldl_nil, wk, act, asV, ↓reduceIte, Nat.reduceEqDiff, reduceCtorEq, Nat.reduceAdd, Nat.reduceLeDiff, Nat.reduceSub, Nat.reduceMul, List.reduceReplicate, Int.reduceEq, Int.reduceLT, Int.reduceLE, Int.reduceAdd, Int.reduceSub, Int.reduceMul, Nat.reduceLT, Int.reduceToNat], by simp -implicitDefEqProofs (maxSteps := 2000000) only [walkP, List.foldl_nil, wk, act, asV, ↓reduceIte, Nat.reduceEqDiff, reduceCtorEq, Nat.reduceAdd, Nat.reduceLeDiff, Nat.reduceSub, Nat.reduceMul, List.reduceReplicate, Int.reduceEq, Int.reduceLT, Int.reduceLE, Int.reduceAdd, Int.reduceSub, Int.reduceMul, Nat.reduceLT, Int.reduceToNat]⟩ ?_
  rintro j st ⟨i, hi, rfl, g6, ⟨ver, g1, gh⟩, g3, g4, g5⟩
  by_cases hi4 : i < 4
  · have hi4' : (i : Int) < 4 := by omega
    have hi3 : i ≤ 3 := by omega
    have hib : i < b.length := by omega
    have hdr := drop_bl hib
    have hw := wrap_nat (show i < 2 ^ 63 - 1 by omega)
    have hsn : walkP (b.take (i + 1)) = stepP3 (walkP (b.take i)) b[i] := by rw [List.take_succ_eq_append_getElem hib, walkP_snoc]
    have hle := walkP_le (b.take i)
    rw [List.length_take] at hle
    obtain ⟨q, hq⟩ : ∃ q, q = walkP (b.take i) := ⟨_, rfl⟩
    rw [← hq] at g3 g4 g5 hsn hle
    obtain ⟨r, e, n⟩ := q
    simp only at g3 g4 g5 hle
    have hwn := wrap_nat (show n < 2 ^ 63 - 1 by omega)
    by_cases hz : b[i] = 0
    · have hz' : ((b[i].toNat : Nat) : Int) = 0 := by rw [hz]; rfl
      have hst : stepP3 (r, e, n) b[i] = (r, true, n) := by unfold stepP3; rw [if_pos hz]
      rw [hst] at hsn
      simp -implicitDefEqProofs (maxSteps := 2000000) only [g1, g3, g4, g5, g6, gh, hi4', hi3, hdr, hz', hb, bl_length, hw, wk, act, asV, ↓reduceIte, Nat.reduceEqDiff, reduceCtorEq, Nat.reduceAdd, Nat.reduceLeDiff, Nat.reduceSub, Nat.reduceMul, List.reduceReplicate, Int.reduceEq, Int.reduceLT, Int.reduceLE, Int.reduceAdd, Int.reduceSub, Int.reduceMul, Nat.reduceLT, Int.reduceToNat]
      exact ⟨4 - (i + 1), by omega, i + 1, by omega, rfl, rfl, ⟨_, rfl, rfl⟩, by rw [hsn], by rw [hsn], by rw [hsn]⟩
    · have hz' : ¬ ((b[i].toNat : Nat) : Int) = 0 := by intro e; exact hz (UInt8.toNat_inj.1 (by simpa using e))
      have hst : stepP3 (r, e, n) b[i] = ((r && !e) && low b[i], e, n + 1) := by unfold stepP3; rw [if_neg hz]
      rw [hst] at hsn
      by_cases ha : (97 : Int) ≤ (b[i].toNat : Int)
      · have hlo : low b[i] = decide ((b[i].toNat : Int) ≤ 122) := by
          unfold low
          rw [decide_eq_true (show 97 ≤ b[i].toNat by omega), Bool.true_and]
          by_cases h : b[i].toNat ≤ 122
          · rw [decide_eq_true h, decide_eq_true (by omega)]
          · rw [decide_eq_false h, decide_eq_false (by omega)]
        rw [hlo] at hsn
        cases r <;> cases e <;> (
          simp -implicitDefEqProofs (maxSteps := 2000000) only [g1, g3, g4, g5, g6, gh, hi4', hi3, hdr, hz', hb, bl_length, hw, hwn, ha, wk, act, asV, ↓reduceIte, Nat.reduceEqDiff, reduceCtorEq, Nat.reduceAdd, Nat.reduceLeDiff, Nat.reduceSub, Nat.reduceMul, List.reduceReplicate, Int.reduceEq, Int.reduceLT, Int.reduceLE, Int.reduceAdd, Int.reduceSub, Int.reduceMul, Nat.reduceLT, Int.reduceToNat]
          exact ⟨4 - (i + 1), by omega, i + 1, by omega, rfl, rfl, ⟨_, rfl, rfl⟩, by rw [hsn]; rfl, by rw [hsn], by rw [hsn]⟩)
      · have hlo : low b[i] = false := by
          unfold low
          rw [decide_eq_false (show ¬ 97 ≤ b[i].toNat by omega), Bool.false_and]
        rw [hlo] at hsn
        cases r <;> cases e <;> (
          simp -implicitDefEqProofs (maxSteps := 2000000) only [g1, g3, g4, g5, g6, gh, hi4', hi3, hdr, hz', hb, bl_length, hw, hwn, ha, wk, act, asV, ↓reduceIte, Nat.reduceEqDiff, reduceCtorEq, Nat.reduceAdd, Nat.reduceLeDiff, Nat.reduceSub, Nat.reduceMul, List.reduceReplicate, Int.reduceEq, Int.reduceLT, Int.reduceLE, Int.reduceAdd, Int.reduceSub, Int.reduceMul, Nat.reduceLT, Int.reduceToNat]
          exact ⟨4 - (i + 1), by omega, i + 1, by omega, rfl, rfl, ⟨_, rfl, rfl⟩, by rw [hsn]; rfl, by rw [hsn], by rw [hsn]⟩)
  · have hie : i = 4 := by omega
    subst hie
    have htf : b.take 4 = b := List.take_of_length_le (by omega)
    rw [htf] at g3 g4 g5
    have g6' : st.t 6 = .int .i64 4 := g6
    obtain ⟨w1, w2, w3⟩ := walkP_cut hb
    rw [← w1] at g3
    have c1 := cut_ok b hb
    have hbb : ∀ x : Bool, (x == x) = true := by intro x; cases x <;> rfl
    cases hcn : cutN b with
    | none =>
      have e1 : cutS b = [] := by unfold cutS; rw [hcn]; rfl
      have e2 : cutO b = false := by unfold cutO; rw [hcn]; rfl
      rw [e1, e2] at c1
      rw [e2] at g3
      repeat' (first | simp -implicitDefEqProofs (maxSteps := 2000000) only [g1, g3, g4, g5, g6', gh, bl_take4 hb, bl_length, hb, bl_scal, hbb, wk, act, asV, ↓reduceIte, Nat.reduceEqDiff, reduceCtorEq, Nat.reduceAdd, Nat.reduceLeDiff, Nat.reduceSub, Nat.reduceMul, List.reduceReplicate, Int.reduceEq, Int.reduceLT, Int.reduceLE, Int.reduceAdd, Int.reduceSub, Int.reduceMul, Nat.reduceLT, Int.reduceToNat] | ((with_reducible refine CallL.gate ?_); refine CallL.of (by simp -implicitDefEqProofs (maxSteps := 2000000) only [g1, g3, g4, g5, g6', gh, bl_take4 hb, bl_length, hb, bl_scal, hbb, wk, act, asV, ↓reduceIte, Nat.reduceEqDiff, reduceCtorEq, Nat.reduceAdd, Nat.reduceLeDiff, Nat.reduceSub, Nat.reduceMul, List.reduceReplicate, Int.reduceEq, Int.reduceLT, Int.reduceLE, Int.reduceAdd, Int.reduceSub, Int.reduceMul, Nat.reduceLT, Int.reduceToNat]; first | done | (with_reducible rfl)) (by first | exact c1 | exact wakesN_ok) (by simp -implicitDefEqProofs (maxSteps := 2000000) only [g1, g3, g4, g5, g6', gh, bl_take4 hb, bl_length, hb, bl_scal, hbb, wk, act, asV, ↓reduceIte, Nat.reduceEqDiff, reduceCtorEq, Nat.reduceAdd, Nat.reduceLeDiff, Nat.reduceSub, Nat.reduceMul, List.reduceReplicate, Int.reduceEq, Int.reduceLT, Int.reduceLE, Int.reduceAdd, Int.reduceSub, Int.reduceMul, Nat.reduceLT, Int.reduceToNat]) ?_) | ((with_reducible refine CallpL.gate ?_); refine CallpL.of (by simp -implicitDefEqProofs (maxSteps := 2000000) only [g1, g3, g4, g5, g6', gh, bl_take4 hb, bl_length, hb, bl_scal, hbb, wk, act, asV, ↓reduceIte, Nat.reduceEqDiff, reduceCtorEq, Nat.reduceAdd, Nat.reduceLeDiff, Nat.reduceSub, Nat.reduceMul, List.reduceReplicate, Int.reduceEq, Int.reduceLT, Int.reduceLE, Int.reduceAdd, Int.reduceSub, Int.reduceMul, Nat.reduceLT, Int.reduceToNat]; first | done | (with_reducible rfl)) (by first | exact c1 | exact wakesN_ok) (by simp -implicitDefEqProofs (maxSteps := 2000000) only [g1, g3, g4, g5, g6', gh, bl_take4 hb, bl_length, hb, bl_scal, hbb, wk, act, asV, ↓reduceIte, Nat.reduceEqDiff, reduceCtorEq, Nat.reduceAdd, Nat.reduceLeDiff, Nat.reduceSub, Nat.reduceMul, List.reduceReplicate, Int.reduceEq, Int.reduceLT, Int.reduceLE, Int.reduceAdd, Int.reduceSub, Int.reduceMul, Nat.reduceLT, Int.reduceToNat]) ?_) | ((with_reducible refine CallP.gate ?_); refine CallP.of (by simp -implicitDefEqProofs (maxSteps := 2000000) only [g1, g3, g4, g5, g6', gh, bl_take4 hb, bl_length, hb, bl_scal, hbb, wk, act, asV, ↓reduceIte, Nat.reduceEqDiff, reduceCtorEq, Nat.reduceAdd, Nat.reduceLeDiff, Nat.reduceSub, Nat.reduceMul, List.reduceReplicate, Int.reduceEq, Int.reduceLT, Int.reduceLE, Int.reduceAdd, Int.reduceSub, Int.reduceMul, Nat.reduceLT, Int.reduceToNat]; first | done | (with_reducible rfl)) (by first | exact c1 | exact wakesN_ok) (by simp -implicitDefEqProofs (maxSteps := 2000000) only [g1, g3, g4, g5, g6', gh, bl_take4 hb, bl_length, hb, bl_scal, hbb, wk, act, asV, ↓reduceIte, Nat.reduceEqDiff, reduceCtorEq, Nat.reduceAdd, Nat.reduceLeDiff, Nat.reduceSub, Nat.reduceMul, List.reduceReplicate, Int.reduceEq, Int.reduceLT, Int.reduceLE, Int.reduceAdd, Int.reduceSub, Int.reduceMul, Nat.reduceLT, Int.reduceToNat]) ?_) | ((with_reducible refine CallpP.gate ?_); refine CallpP.of (by simp -implicitDefEqProofs (maxSteps := 2000000) only [g1, g3, g4, g5, g6', gh, bl_take4 hb, bl_length, hb, bl_scal, hbb, wk, act, asV, ↓reduceIte, Nat.reduceEqDiff, reduceCtorEq, Nat.reduceAdd, Nat.reduceLeDiff, Nat.reduceSub, Nat.reduceMul, List.reduceReplicate, Int.reduceEq, Int.reduceLT, Int.reduceLE, Int.reduceAdd, Int.reduceSub, Int.reduceMul, Nat.reduceLT, Int.reduceToNat]; first | done | (with_reducible rfl)) (by first | exact c1 | exact wakesN_ok) (by simp -implicitDefEqProofs (maxSteps := 2000000) only [g1, g3, g4, g5, g6', gh, bl_take4 hb, bl_length, hb, bl_scal, hbb, wk, act, asV, ↓reduceIte, Nat.reduceEqDiff, reduceCtorEq, Nat.reduceAdd, Nat.reduceLeDiff, Nat.reduceSub, Nat.reduceMul, List.reduceReplicate, Int.reduceEq, Int.reduceLT, Int.reduceLE, Int.reduceAdd, Int.reduceSub, Int.reduceMul, Nat.reduceLT, Int.reduceToNat]) ?_))
    | some s =>
      have e1 : cutS b = s := by unfold cutS; rw [hcn]; rfl
      have e2 : cutO b = true := by unfold cutO; rw [hcn]; rfl
      have w2' := w2 e2
      rw [e1] at w2'
      rw [e1, e2] at c1
      rw [e2] at g3
      rw [← w2'] at g5
      obtain ⟨hp, hsg, hsl⟩ := cutN_some hb hcn
      have c3 := pad_ok s (by omega)
      rw [hp] at c3
      have hq := eqL_bl b b rfl
      rw [decide_eq_true rfl] at hq
      have hf := fitR_bl hb
      repeat' (first | simp -implicitDefEqProofs (maxSteps := 2000000) only [g1, g3, g4, g5, g6', gh, bl_take4 hb, bl_length, hb, bl_scal, hbb, hq, hf, wk, act, asV, ↓reduceIte, Nat.reduceEqDiff, reduceCtorEq, Nat.reduceAdd, Nat.reduceLeDiff, Nat.reduceSub, Nat.reduceMul, List.reduceReplicate, Int.reduceEq, Int.reduceLT, Int.reduceLE, Int.reduceAdd, Int.reduceSub, Int.reduceMul, Nat.reduceLT, Int.reduceToNat] | ((with_reducible refine CallL.gate ?_); refine CallL.of (by simp -implicitDefEqProofs (maxSteps := 2000000) only [g1, g3, g4, g5, g6', gh, bl_take4 hb, bl_length, hb, bl_scal, hbb, hq, hf, wk, act, asV, ↓reduceIte, Nat.reduceEqDiff, reduceCtorEq, Nat.reduceAdd, Nat.reduceLeDiff, Nat.reduceSub, Nat.reduceMul, List.reduceReplicate, Int.reduceEq, Int.reduceLT, Int.reduceLE, Int.reduceAdd, Int.reduceSub, Int.reduceMul, Nat.reduceLT, Int.reduceToNat]; first | done | (with_reducible rfl)) (by first | exact c1 | exact c3 | exact wakesN_ok) (by simp -implicitDefEqProofs (maxSteps := 2000000) only [g1, g3, g4, g5, g6', gh, bl_take4 hb, bl_length, hb, bl_scal, hbb, hq, hf, wk, act, asV, ↓reduceIte, Nat.reduceEqDiff, reduceCtorEq, Nat.reduceAdd, Nat.reduceLeDiff, Nat.reduceSub, Nat.reduceMul, List.reduceReplicate, Int.reduceEq, Int.reduceLT, Int.reduceLE, Int.reduceAdd, Int.reduceSub, Int.reduceMul, Nat.reduceLT, Int.reduceToNat]) ?_) | ((with_reducible refine CallpL.gate ?_); refine CallpL.of (by simp -implicitDefEqProofs (maxSteps := 2000000) only [g1, g3, g4, g5, g6', gh, bl_take4 hb, bl_length, hb, bl_scal, hbb, hq, hf, wk, act, asV, ↓reduceIte, Nat.reduceEqDiff, reduceCtorEq, Nat.reduceAdd, Nat.reduceLeDiff, Nat.reduceSub, Nat.reduceMul, List.reduceReplicate, Int.reduceEq, Int.reduceLT, Int.reduceLE, Int.reduceAdd, Int.reduceSub, Int.reduceMul, Nat.reduceLT, Int.reduceToNat]; first | done | (with_reducible rfl)) (by first | exact c1 | exact c3 | exact wakesN_ok) (by simp -implicitDefEqProofs (maxSteps := 2000000) only [g1, g3, g4, g5, g6', gh, bl_take4 hb, bl_length, hb, bl_scal, hbb, hq, hf, wk, act, asV, ↓reduceIte, Nat.reduceEqDiff, reduceCtorEq, Nat.reduceAdd, Nat.reduceLeDiff, Nat.reduceSub, Nat.reduceMul, List.reduceReplicate, Int.reduceEq, Int.reduceLT, Int.reduceLE, Int.reduceAdd, Int.reduceSub, Int.reduceMul, Nat.reduceLT, Int.reduceToNat]) ?_) | ((with_reducible refine CallP.gate ?_); refine CallP.of (by simp -implicitDefEqProofs (maxSteps := 2000000) only [g1, g3, g4, g5, g6', gh, bl_take4 hb, bl_length, hb, bl_scal, hbb, hq, hf, wk, act, asV, ↓reduceIte, Nat.reduceEqDiff, reduceCtorEq, Nat.reduceAdd, Nat.reduceLeDiff, Nat.reduceSub, Nat.reduceMul, List.reduceReplicate, Int.reduceEq, Int.reduceLT, Int.reduceLE, Int.reduceAdd, Int.reduceSub, Int.reduceMul, Nat.reduceLT, Int.reduceToNat]; first | done | (with_reducible rfl)) (by first | exact c1 | exact c3 | exact wakesN_ok) (by simp -implicitDefEqProofs (maxSteps := 2000000) only [g1, g3, g4, g5, g6', gh, bl_take4 hb, bl_length, hb, bl_scal, hbb, hq, hf, wk, act, asV, ↓reduceIte, Nat.reduceEqDiff, reduceCtorEq, Nat.reduceAdd, Nat.reduceLeDiff, Nat.reduceSub, Nat.reduceMul, List.reduceReplicate, Int.reduceEq, Int.reduceLT, Int.reduceLE, Int.reduceAdd, Int.reduceSub, Int.reduceMul, Nat.reduceLT, Int.reduceToNat]) ?_) | ((with_reducible refine CallpP.gate ?_); refine CallpP.of (by simp -implicitDefEqProofs (maxSteps := 2000000) only [g1, g3, g4, g5, g6', gh, bl_take4 hb, bl_length, hb, bl_scal, hbb, hq, hf, wk, act, asV, ↓reduceIte, Nat.reduceEqDiff, reduceCtorEq, Nat.reduceAdd, Nat.reduceLeDiff, Nat.reduceSub, Nat.reduceMul, List.reduceReplicate, Int.reduceEq, Int.reduceLT, Int.reduceLE, Int.reduceAdd, Int.reduceSub, Int.reduceMul, Nat.reduceLT, Int.reduceToNat]; first | done | (with_reducible rfl)) (by first | exact c1 | exact c3 | exact wakesN_ok) (by simp -implicitDefEqProofs (maxSteps := 2000000) only [g1, g3, g4, g5, g6', gh, bl_take4 hb, bl_length, hb, bl_scal, hbb, hq, hf, wk, act, asV, ↓reduceIte, Nat.reduceEqDiff, reduceCtorEq, Nat.reduceAdd, Nat.reduceLeDiff, Nat.reduceSub, Nat.reduceMul, List.reduceReplicate, Int.reduceEq, Int.reduceLT, Int.reduceLE, Int.reduceAdd, Int.reduceSub, Int.reduceMul, Nat.reduceLT, Int.reduceToNat]) ?_))
end Go.Proofs.YtmblapgoimegkaaDoor
