/- The hash of parts, by the reference: joined. -/
import Derived.Test.YtlbilkldjhhopaaS10
import Derived.Test.YtlbilkldjhhopaaE31
import Derived.Test.YtlbilkldjhhopaaM7
set_option linter.unusedSectionVars false
set_option linter.unusedVariables false
set_option linter.unusedSimpArgs false
set_option maxRecDepth 100000
set_option maxHeartbeats 8000000
namespace Go.Proofs.Ytlbilkldjhhopaa
open Go.RowKit

def rowJ (s : St) (k : Nat) (a : Nat) (W : List UInt8) : Prop := (k = 0 ∧ s.t 3 = .sl .full 0 []) ∨ (0 < k ∧ ∃ ver, s.t 3 = .row a 0 W.length 1 ver ∧ s.h a = ⟨ver, true, true, true, bl W⟩)
theorem joined_le (ps : List (Fl × List UInt8)) (i : Nat) : (joined (ps.take i)).length ≤ (joined ps).length := by
  have : joined ps = joined (ps.take i) ++ joined (ps.drop i) := by
    unfold joined; rw [← List.flatten_append, ← List.map_append, List.take_append_drop]
  rw [this, List.length_append]; omega
theorem sumR_join (f : Fl) (ps : List (Fl × List UInt8)) (hn : ps.length < 2 ^ 63) (hl : (joined ps).length ≤ 2 ^ 40) (Q : Ex → St → Prop) (s1 : St)
    (q1 : ∀ s2 : St, s2.t 2 = s1.t 2 → s2.h 2 = s1.h 2 → rowJ s2 ps.length 21 (joined ps) → Q (.exit 0) s2)
    (k0 : s1.t 0 = .sl f ps.length (pl ps)) (k4 : s1.t 4 = .int .i64 0) (k3 : s1.t 3 = .sl .full 0 []) :
    Wp (RCs Try.prog) (.loop m19_2) Q s1 := by
  refine Wp_loop (fun m s => ∃ i, i ≤ ps.length ∧ m = ps.length - i ∧ s.t 0 = .sl f ps.length (pl ps) ∧ s.t 2 = s1.t 2 ∧ s.h 2 = s1.h 2 ∧ s.t 4 = .int .i64 i ∧ rowJ s i 21 (joined (ps.take i))) ps.length ⟨0, by omega, rfl, k0, rfl, rfl, k4, .inl ⟨rfl, k3⟩⟩ ?_
  clear k0 k4 k3
  rintro m s ⟨i, hi, rfl, k0, k2, kh2, k4, kr⟩
  by_cases hil : i < ps.length
  · have hil' : (i : Int) < ps.length := by omega
    have ej : joined (ps.take (i + 1)) = joined (ps.take i) ++ ps[i].2 := by rw [List.take_succ_eq_append_getElem hil, joined_snoc]
    have hle := joined_le ps (i + 1)
    rw [ej, List.length_append] at hle
    have eb : bl (joined (ps.take (i + 1))) = bl (joined (ps.take i)) ++ bl ps[i].2 := by rw [ej, bl_append]
    have hlen : (joined (ps.take (i + 1))).length = (joined (ps.take i)).length + ps[i].2.length := by rw [ej, List.length_append]
    obtain ⟨W, hW⟩ : ∃ W, W = joined (ps.take i) := ⟨_, rfl⟩
    rw [← hW] at kr hle eb hlen
    have hr1 : roomy ps[i].2.length 1 = true := roomyB (by omega)
    have hr2 : roomy (W.length + ps[i].2.length) 1 = true := roomyB (by omega)
    rcases kr with ⟨hi0, k3⟩ | ⟨hi0, ver, k3, kh⟩
    · have hW0 : W = [] := by rw [hW, hi0]; rfl
      rw [hW0] at eb hlen
      simp only [List.length_nil, Nat.zero_add] at hlen
      have eb' : bl (joined (ps.take (i + 1))) = bl ps[i].2 := eb
      simp -implicitDefEqProofs (maxSteps := 2000000) only [k0, k2, kh2, k4, k3, hil', hil, drop_pl hil, pl_length, bl_length, hr1, m19_1, m19_2, m19_3, m19_4, m19_5, m19_6, m19_7, m19_8, m19_9, m19_10, m19_11, m19_12, m19_13, m19_14, m19_15, m19_16, m19_17, m19_18, m19_19, m19_20, m19_21, m19_r, m19_b, m19, wrap_nat (show i < 2 ^ 63 - 1 by omega), wk, act, asV, ↓reduceIte, Nat.reduceEqDiff, reduceCtorEq, Nat.reduceAdd, Nat.reduceLeDiff, Nat.reduceSub, Nat.reduceMul, List.reduceReplicate, Int.reduceEq, Int.reduceLT, Int.reduceLE, Int.reduceAdd, Int.reduceSub, Int.reduceMul, Nat.reduceLT, Int.reduceToNat]
      exact ⟨ps.length - (i + 1), by omega, i + 1, by omega, rfl, rfl, .inr ⟨by omega, _, by rw [hlen]; rfl, by rw [eb']; rfl⟩⟩
    · simp -implicitDefEqProofs (maxSteps := 2000000) only [k0, k2, kh2, k4, k3, kh, hil', hil, drop_pl hil, pl_length, bl_length, hr2, m19_1, m19_2, m19_3, m19_4, m19_5, m19_6, m19_7, m19_8, m19_9, m19_10, m19_11, m19_12, m19_13, m19_14, m19_15, m19_16, m19_17, m19_18, m19_19, m19_20, m19_21, m19_r, m19_b, m19, wrap_nat (show i < 2 ^ 63 - 1 by omega), wk, act, asV, ↓reduceIte, Nat.reduceEqDiff, reduceCtorEq, Nat.reduceAdd, Nat.reduceLeDiff, Nat.reduceSub, Nat.reduceMul, List.reduceReplicate, Int.reduceEq, Int.reduceLT, Int.reduceLE, Int.reduceAdd, Int.reduceSub, Int.reduceMul, Nat.reduceLT, Int.reduceToNat]
      exact ⟨ps.length - (i + 1), by omega, i + 1, by omega, rfl, rfl, .inr ⟨by omega, _, by rw [hlen]; rfl, by rw [eb]; rfl⟩⟩
  · have hie : i = ps.length := by omega
    have hil' : ¬ (i : Int) < ps.length := by omega
    rw [hie, List.take_length] at kr
    simp -implicitDefEqProofs (maxSteps := 2000000) only [k0, k4, hil', m19_1, m19_2, m19_3, m19_4, m19_5, m19_6, m19_7, m19_8, m19_9, m19_10, m19_11, m19_12, m19_13, m19_14, m19_15, m19_16, m19_17, m19_18, m19_19, m19_20, m19_21, m19_r, m19_b, m19, wk, act, asV, ↓reduceIte, Nat.reduceEqDiff, reduceCtorEq, Nat.reduceAdd, Nat.reduceLeDiff, Nat.reduceSub, Nat.reduceMul, List.reduceReplicate, Int.reduceEq, Int.reduceLT, Int.reduceLE, Int.reduceAdd, Int.reduceSub, Int.reduceMul, Nat.reduceLT, Int.reduceToNat]
    refine q1 _ (by simp -implicitDefEqProofs (maxSteps := 2000000) only [k2, wk, act, asV, ↓reduceIte, Nat.reduceEqDiff, reduceCtorEq, Nat.reduceAdd, Nat.reduceLeDiff, Nat.reduceSub, Nat.reduceMul, List.reduceReplicate, Int.reduceEq, Int.reduceLT, Int.reduceLE, Int.reduceAdd, Int.reduceSub, Int.reduceMul, Nat.reduceLT, Int.reduceToNat]) (by simp -implicitDefEqProofs (maxSteps := 2000000) only [kh2, wk, act, asV, ↓reduceIte, Nat.reduceEqDiff, reduceCtorEq, Nat.reduceAdd, Nat.reduceLeDiff, Nat.reduceSub, Nat.reduceMul, List.reduceReplicate, Int.reduceEq, Int.reduceLT, Int.reduceLE, Int.reduceAdd, Int.reduceSub, Int.reduceMul, Nat.reduceLT, Int.reduceToNat]) ?_
    rcases kr with ⟨hi0, k3⟩ | ⟨hi0, ver, k3, kh⟩
    · exact .inl ⟨hi0, by simp -implicitDefEqProofs (maxSteps := 2000000) only [k3, wk, act, asV, ↓reduceIte, Nat.reduceEqDiff, reduceCtorEq, Nat.reduceAdd, Nat.reduceLeDiff, Nat.reduceSub, Nat.reduceMul, List.reduceReplicate, Int.reduceEq, Int.reduceLT, Int.reduceLE, Int.reduceAdd, Int.reduceSub, Int.reduceMul, Nat.reduceLT, Int.reduceToNat]⟩
    · exact .inr ⟨hi0, ver, by simp -implicitDefEqProofs (maxSteps := 2000000) only [k3, wk, act, asV, ↓reduceIte, Nat.reduceEqDiff, reduceCtorEq, Nat.reduceAdd, Nat.reduceLeDiff, Nat.reduceSub, Nat.reduceMul, List.reduceReplicate, Int.reduceEq, Int.reduceLT, Int.reduceLE, Int.reduceAdd, Int.reduceSub, Int.reduceMul, Nat.reduceLT, Int.reduceToNat], by simp -implicitDefEqProofs (maxSteps := 2000000) only [kh, wk, act, asV, ↓reduceIte, Nat.reduceEqDiff, reduceCtorEq, Nat.reduceAdd, Nat.reduceLeDiff, Nat.reduceSub, Nat.reduceMul, List.reduceReplicate, Int.reduceEq, Int.reduceLT, Int.reduceLE, Int.reduceAdd, Int.reduceSub, Int.reduceMul, Nat.reduceLT, Int.reduceToNat]⟩
end Go.Proofs.Ytlbilkldjhhopaa
