/- Of the table: which volume has a name. -/
import Derived.Test.YtmblapgoimegkaaDoorE31
import Derived.Test.YtmblapgoimegkaaDoorM6
import Derived.Test.YtmblapgoimegkaaDoorV1
set_option linter.unusedVariables false
set_option linter.unusedSimpArgs false
set_option maxRecDepth 100000
set_option maxHeartbeats 4000000
namespace Go.Proofs.YtmblapgoimegkaaDoor
open Go.RowKit

def isV (nm : List UInt8) (v : Vol) : Bool := decide (v.name = nm)
/-- which one has the name; -1: none -/
def findV (nm : List UInt8) (vs : List Vol) : Int := if vs.findIdx (isV nm) < vs.length then (vs.findIdx (isV nm) : Nat) else -1
theorem findV_at {nm : List UInt8} {vs : List Vol} {i : Nat} (h : i < vs.length) (hi : isV nm vs[i] = true) (hn : ∀ j, j < i → ∀ (hj : j < vs.length), isV nm vs[j] = false) : findV nm vs = (i : Nat) := by
  have : vs.findIdx (isV nm) = i := by
    rw [List.findIdx_eq h]
    exact ⟨hi, fun j hj => hn j hj (by omega)⟩
  unfold findV
  rw [this, if_pos h]
theorem findV_no {nm : List UInt8} {vs : List Vol} (h : ∀ v ∈ vs, isV nm v = false) : findV nm vs = -1 := by
  have : vs.findIdx (isV nm) = vs.length := List.findIdx_eq_length.2 h
  unfold findV
  rw [this, if_neg (Nat.lt_irrefl _)]
/-- none of the first i -/
def noneTo (nm : List UInt8) (vs : List Vol) (i : Nat) : Prop := ∀ j, j < i → ∀ (hj : j < vs.length), isV nm vs[j] = false
theorem noneTo_succ {nm : List UInt8} {vs : List Vol} {i : Nat} (h : noneTo nm vs i) (hi : i < vs.length) (hn : isV nm vs[i] = false) : noneTo nm vs (i + 1) := by
  intro j hj hjl
  rcases Nat.lt_succ_iff_lt_or_eq.1 hj with h' | rfl
  · exact h j h' hjl
  · exact hn
theorem noneTo_all {nm : List UInt8} {vs : List Vol} (h : noneTo nm vs vs.length) : findV nm vs = -1 := by
  refine findV_no fun v hv => ?_
  obtain ⟨i, hi, rfl⟩ := List.mem_iff_getElem.1 hv
  exact h i hi hi

theorem find1_ok (nm n : List UInt8) (k : Nat) (bs : List Int) : RC Tryd.prog 55 [.agg [.str n, .sl .plain k (il bs)], .addr [.str nm]] [.bool (decide (n = nm))] := by
  refine RC.of_wp c55 rfl ?_
  simp -implicitDefEqProofs (maxSteps := 2000000) only [m55_1, m55_r, m55_b, m55, wk, act, asV, ↓reduceIte, Nat.reduceEqDiff, reduceCtorEq, Nat.reduceAdd, Nat.reduceLeDiff, Nat.reduceSub, Nat.reduceMul, List.reduceReplicate, Int.reduceEq, Int.reduceLT, Int.reduceLE, Int.reduceAdd, Int.reduceSub, Int.reduceMul, Nat.reduceLT, Int.reduceToNat]

theorem indexV_ok (f : Fl) (hf : f ≠ .lit) (nm : List UInt8) (vs : List Vol) (hl : vs.length < 2 ^ 63) : RC Tryd.prog 54 [.sl f vs.length (vl vs), .clo 55 [.addr [.str nm]]] [.int .i64 (findV nm vs)] := by
  refine RC.of_wp c54 rfl ?_
  simp -implicitDefEqProofs (maxSteps := 2000000) only [m54_1, m54_2, m54_3, m54_4, m54_5, m54_6, m54_7, m54_8, m54_r, m54_b, m54, wk, act, asV, ↓reduceIte, Nat.reduceEqDiff, reduceCtorEq, Nat.reduceAdd, Nat.reduceLeDiff, Nat.reduceSub, Nat.reduceMul, List.reduceReplicate, Int.reduceEq, Int.reduceLT, Int.reduceLE, Int.reduceAdd, Int.reduceSub, Int.reduceMul, Nat.reduceLT, Int.reduceToNat]
  refine Wp_loop (fun k s => ∃ i, i ≤ vs.length ∧ k = vs.length - i ∧ s.t 0 = .sl f vs.length (vl vs) ∧ s.t 1 = .clo 55 [.addr [.str nm]] ∧ s.t 7 = .int .i64 vs.length ∧ s.t 8 = .int .i64 (i : Nat) ∧ noneTo nm vs i) vs.length ⟨0, by omega, rfl, rfl, rfl, rfl, rfl, fun j h => absurd h (Nat.not_lt_zero j)⟩ ?_
  rintro k s ⟨i, hi, rfl, h0, h1, h7, h8, hn⟩
  by_cases hil : i < vs.length
  · have hil' : (i : Int) < vs.length := by omega
    have h2 : (0 : Nat) < 2 := by omega
    simp -implicitDefEqProofs (maxSteps := 2000000) only [h0, h1, h7, h8, hil', hil, h2, drop_vl hil, vl_length, wk, act, asV, ↓reduceIte, Nat.reduceEqDiff, reduceCtorEq, Nat.reduceAdd, Nat.reduceLeDiff, Nat.reduceSub, Nat.reduceMul, List.reduceReplicate, Int.reduceEq, Int.reduceLT, Int.reduceLE, Int.reduceAdd, Int.reduceSub, Int.reduceMul, Nat.reduceLT, Int.reduceToNat]
    refine CalliL.of (by simp -implicitDefEqProofs (maxSteps := 2000000) only [h1, St.callee, St.snapPL, St.snapP, wk, act, asV, ↓reduceIte, Nat.reduceEqDiff, reduceCtorEq, Nat.reduceAdd, Nat.reduceLeDiff, Nat.reduceSub, Nat.reduceMul, List.reduceReplicate, Int.reduceEq, Int.reduceLT, Int.reduceLE, Int.reduceAdd, Int.reduceSub, Int.reduceMul, Nat.reduceLT, Int.reduceToNat]; first | done | (with_reducible rfl)) (by simp -implicitDefEqProofs (maxSteps := 2000000) only [wk, act, asV, ↓reduceIte, Nat.reduceEqDiff, reduceCtorEq, Nat.reduceAdd, Nat.reduceLeDiff, Nat.reduceSub, Nat.reduceMul, List.reduceReplicate, Int.reduceEq, Int.reduceLT, Int.reduceLE, Int.reduceAdd, Int.reduceSub, Int.reduceMul, Nat.reduceLT, Int.reduceToNat]; first | done | (with_reducible rfl)) (find1_ok nm vs[i].name vs[i].blocks.length vs[i].blocks) (by simp -implicitDefEqProofs (maxSteps := 2000000) only [wk, act, asV, ↓reduceIte, Nat.reduceEqDiff, reduceCtorEq, Nat.reduceAdd, Nat.reduceLeDiff, Nat.reduceSub, Nat.reduceMul, List.reduceReplicate, Int.reduceEq, Int.reduceLT, Int.reduceLE, Int.reduceAdd, Int.reduceSub, Int.reduceMul, Nat.reduceLT, Int.reduceToNat]) ?_
    by_cases hb : vs[i].name = nm
    · rw [findV_at hil (by simp [isV, hb]) hn]
      simp -implicitDefEqProofs (maxSteps := 2000000) only [hb, h0, h1, h7, h8, wk, act, asV, ↓reduceIte, Nat.reduceEqDiff, reduceCtorEq, Nat.reduceAdd, Nat.reduceLeDiff, Nat.reduceSub, Nat.reduceMul, List.reduceReplicate, Int.reduceEq, Int.reduceLT, Int.reduceLE, Int.reduceAdd, Int.reduceSub, Int.reduceMul, Nat.reduceLT, Int.reduceToNat]
    · have hn' := noneTo_succ hn hil (by simp [isV, hb])
      simp -implicitDefEqProofs (maxSteps := 2000000) only [hb, h0, h1, h7, h8, wrap_nat (show i < 2 ^ 63 - 1 by omega), wk, act, asV, ↓reduceIte, Nat.reduceEqDiff, reduceCtorEq, Nat.reduceAdd, Nat.reduceLeDiff, Nat.reduceSub, Nat.reduceMul, List.reduceReplicate, Int.reduceEq, Int.reduceLT, Int.reduceLE, Int.reduceAdd, Int.reduceSub, Int.reduceMul, Nat.reduceLT, Int.reduceToNat]
      exact ⟨vs.length - (i + 1), by omega, i + 1, by omega, rfl, rfl, hn'⟩
  · have hil' : ¬ (i : Int) < vs.length := by omega
    have hie : i = vs.length := by omega
    rw [hie] at hn
    rw [noneTo_all hn]
    simp -implicitDefEqProofs (maxSteps := 2000000) only [h0, h1, h7, h8, hil', wk, act, asV, ↓reduceIte, Nat.reduceEqDiff, reduceCtorEq, Nat.reduceAdd, Nat.reduceLeDiff, Nat.reduceSub, Nat.reduceMul, List.reduceReplicate, Int.reduceEq, Int.reduceLT, Int.reduceLE, Int.reduceAdd, Int.reduceSub, Int.reduceMul, Nat.reduceLT, Int.reduceToNat]

theorem find_ok (f : Fl) (hf : f ≠ .lit) (nm : List UInt8) (vs : List Vol) (hl : vs.length < 2 ^ 63) : RC Tryd.prog 42 [.str nm, .sl f vs.length (vl vs)] [.int .i64 (findV nm vs)] := by
  refine RC.of_wp c42 rfl ?_
  have c := indexV_ok f hf nm vs hl
  cases f with
  | lit => exact absurd rfl hf
  | _ => repeat' (first | simp -implicitDefEqProofs (maxSteps := 2000000) only [m42_1, m42_r, m42_b, m42, St.snapPL, St.snapP, List.mapM_cons, List.mapM_nil, Option.bind_eq_bind, Option.bind_some, Option.pure_def, wk, act, asV, ↓reduceIte, Nat.reduceEqDiff, reduceCtorEq, Nat.reduceAdd, Nat.reduceLeDiff, Nat.reduceSub, Nat.reduceMul, List.reduceReplicate, Int.reduceEq, Int.reduceLT, Int.reduceLE, Int.reduceAdd, Int.reduceSub, Int.reduceMul, Nat.reduceLT, Int.reduceToNat] | ((with_reducible refine CallL.gate ?_); refine CallL.of (by simp -implicitDefEqProofs (maxSteps := 2000000) only [m42_1, m42_r, m42_b, m42, St.snapPL, St.snapP, List.mapM_cons, List.mapM_nil, Option.bind_eq_bind, Option.bind_some, Option.pure_def, wk, act, asV, ↓reduceIte, Nat.reduceEqDiff, reduceCtorEq, Nat.reduceAdd, Nat.reduceLeDiff, Nat.reduceSub, Nat.reduceMul, List.reduceReplicate, Int.reduceEq, Int.reduceLT, Int.reduceLE, Int.reduceAdd, Int.reduceSub, Int.reduceMul, Nat.reduceLT, Int.reduceToNat]; first | done | (with_reducible rfl)) (by first | exact c) (by simp -implicitDefEqProofs (maxSteps := 2000000) only [m42_1, m42_r, m42_b, m42, St.snapPL, St.snapP, List.mapM_cons, List.mapM_nil, Option.bind_eq_bind, Option.bind_some, Option.pure_def, wk, act, asV, ↓reduceIte, Nat.reduceEqDiff, reduceCtorEq, Nat.reduceAdd, Nat.reduceLeDiff, Nat.reduceSub, Nat.reduceMul, List.reduceReplicate, Int.reduceEq, Int.reduceLT, Int.reduceLE, Int.reduceAdd, Int.reduceSub, Int.reduceMul, Nat.reduceLT, Int.reduceToNat]) ?_) | ((with_reducible refine CallP.gate ?_); refine CallP.of (by simp -implicitDefEqProofs (maxSteps := 2000000) only [m42_1, m42_r, m42_b, m42, St.snapPL, St.snapP, List.mapM_cons, List.mapM_nil, Option.bind_eq_bind, Option.bind_some, Option.pure_def, wk, act, asV, ↓reduceIte, Nat.reduceEqDiff, reduceCtorEq, Nat.reduceAdd, Nat.reduceLeDiff, Nat.reduceSub, Nat.reduceMul, List.reduceReplicate, Int.reduceEq, Int.reduceLT, Int.reduceLE, Int.reduceAdd, Int.reduceSub, Int.reduceMul, Nat.reduceLT, Int.reduceToNat]; first | done | (with_reducible rfl)) (by first | exact c) (by simp -implicitDefEqProofs (maxSteps := 2000000) only [m42_1, m42_r, m42_b, m42, St.snapPL, St.snapP, List.mapM_cons, List.mapM_nil, Option.bind_eq_bind, Option.bind_some, Option.pure_def, wk, act, asV, ↓reduceIte, Nat.reduceEqDiff, reduceCtorEq, Nat.reduceAdd, Nat.reduceLeDiff, Nat.reduceSub, Nat.reduceMul, List.reduceReplicate, Int.reduceEq, Int.reduceLT, Int.reduceLE, Int.reduceAdd, Int.reduceSub, Int.reduceMul, Nat.reduceLT, Int.reduceToNat]) ?_))

theorem rfind_ok (f : Fl) (nm : List UInt8) (vs : List Vol) (hl : vs.length < 2 ^ 63) : RC Tryd.prog 43 [.str nm, .sl f vs.length (vl vs)] [.int .i64 (findV nm vs)] := by
  refine RC.of_wp c43 rfl ?_
  simp -implicitDefEqProofs (maxSteps := 2000000) only [m43_1, m43_2, m43_3, m43_4, m43_5, m43_6, m43_r, m43_b, m43, wk, act, asV, ↓reduceIte, Nat.reduceEqDiff, reduceCtorEq, Nat.reduceAdd, Nat.reduceLeDiff, Nat.reduceSub, Nat.reduceMul, List.reduceReplicate, Int.reduceEq, Int.reduceLT, Int.reduceLE, Int.reduceAdd, Int.reduceSub, Int.reduceMul, Nat.reduceLT, Int.reduceToNat]
  refine Wp_loop (fun k s => ∃ i, i ≤ vs.length ∧ k = vs.length - i ∧ s.t 0 = .str nm ∧ s.t 1 = .sl f vs.length (vl vs) ∧ s.t 5 = .int .i64 (i : Nat) ∧ noneTo nm vs i) vs.length ⟨0, by omega, rfl, rfl, rfl, rfl, fun j h => absurd h (Nat.not_lt_zero j)⟩ ?_
  rintro k s ⟨i, hi, rfl, h0, h1, h5, hn⟩
  by_cases hil : i < vs.length
  · have hil' : (i : Int) < vs.length := by omega
    have h2 : (0 : Nat) < 2 := by omega
    by_cases hb : vs[i].name = nm
    · rw [findV_at hil (by simp [isV, hb]) hn]
      simp -implicitDefEqProofs (maxSteps := 2000000) only [hb, h0, h1, h5, hil', hil, h2, drop_vl hil, vl_length, wk, act, asV, ↓reduceIte, Nat.reduceEqDiff, reduceCtorEq, Nat.reduceAdd, Nat.reduceLeDiff, Nat.reduceSub, Nat.reduceMul, List.reduceReplicate, Int.reduceEq, Int.reduceLT, Int.reduceLE, Int.reduceAdd, Int.reduceSub, Int.reduceMul, Nat.reduceLT, Int.reduceToNat]
    · have hn' := noneTo_succ hn hil (by simp [isV, hb])
      simp -implicitDefEqProofs (maxSteps := 2000000) only [hb, h0, h1, h5, hil', hil, h2, drop_vl hil, vl_length, wrap_nat (show i < 2 ^ 63 - 1 by omega), wk, act, asV, ↓reduceIte, Nat.reduceEqDiff, reduceCtorEq, Nat.reduceAdd, Nat.reduceLeDiff, Nat.reduceSub, Nat.reduceMul, List.reduceReplicate, Int.reduceEq, Int.reduceLT, Int.reduceLE, Int.reduceAdd, Int.reduceSub, Int.reduceMul, Nat.reduceLT, Int.reduceToNat]
      exact ⟨vs.length - (i + 1), by omega, i + 1, by omega, rfl, rfl, hn'⟩
  · have hil' : ¬ (i : Int) < vs.length := by omega
    have hie : i = vs.length := by omega
    rw [hie] at hn
    rw [noneTo_all hn]
    simp -implicitDefEqProofs (maxSteps := 2000000) only [h0, h1, h5, hil', wk, act, asV, ↓reduceIte, Nat.reduceEqDiff, reduceCtorEq, Nat.reduceAdd, Nat.reduceLeDiff, Nat.reduceSub, Nat.reduceMul, List.reduceReplicate, Int.reduceEq, Int.reduceLT, Int.reduceLE, Int.reduceAdd, Int.reduceSub, Int.reduceMul, Nat.reduceLT, Int.reduceToNat]
end Go.Proofs.YtmblapgoimegkaaDoor
