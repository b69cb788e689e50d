/- The tags' step. -/
import Derived.Test.YtlbilkldjhhopaaZ10
import Derived.Test.YtlbilkldjhhopaaI9
import Derived.Test.YtlbilkldjhhopaaS18
import Derived.Test.YtlbilkldjhhopaaS13
import Derived.Test.YtlbilkldjhhopaaE31
import Derived.Test.YtlbilkldjhhopaaM8
set_option linter.unusedVariables false
set_option linter.unusedSimpArgs false
set_option linter.unusedSectionVars false
set_option maxRecDepth 100000
set_option maxHeartbeats 4000000
namespace Go.Proofs.Ytlbilkldjhhopaa
open Go.RowKit

theorem ins_at {H : Nat → Blk} {hx n ver : Nat} {f : Fl} {x : IV} {cs : List IV} (hH : H hx = ⟨ver, true, true, true, cs⟩) (hc : cs.length = n) (hn : n < 2 ^ 36) :
    IC Try.prog 45 H [.row hx 0 n 1 ver, .int .i64 0, .sl f 1 [x]] (fun r h' => r = [.row hx 0 (n + 1) 1 (ver + 2)] ∧ h' = upd H hx ⟨ver + 2, true, true, true, x :: cs⟩) := by
  have h := ins_ok (H := H) (hx := hx) (off := 0) (n := n) (f := f) (x := x) (by rw [hH]) (by rw [hH]) (by rw [hH]) (by rw [hH]; simpa using hc.symm) hn
  have e : (H hx).ver = ver := by rw [hH]
  rw [e] at h
  refine ⟨h.1, fun o w0 w φ us G L a b c d => Calls.mono (h.2 o w0 w φ us G L a b c d) ?_⟩
  rintro e w' ⟨rv, he, φ', h', r, us', ⟨q1, q2⟩, rest⟩
  refine ⟨rv, he, φ', h', r, us', ⟨by rw [q1, hH], ?_⟩, rest⟩
  rw [q2]
  funext y
  simp only [upd, insBlk, hH, List.drop_zero]
  split <;> rfl
theorem pl_pur (ps : List (Fl × List UInt8)) : IV.purL (pl ps) = true := by
  induction ps with
  | nil => rfl
  | cons p ps ih => simpa [pl, IV.purL, IV.pur, bl_pur] using ih
theorem roomyP {n : Nat} (h : n ≤ 2 ^ 36) : roomy n 24 = true := by simp [roomy]; omega
theorem cloneP_ok (f : Fl) (ps : List (Fl × List UInt8)) (hl : ps.length ≤ 2 ^ 36) : RC Try.prog 46 [.sl f ps.length (pl ps)] [.own ps.length 1 (pl ps)] := by
  refine RC.of_wpW c46 rfl ?_
  have hr := roomyP hl
  have hp1 := pl_pur ps
  cases ps with
  | nil =>
    have hr0 : roomy 0 24 = true := by decide
    simp -implicitDefEqProofs (maxSteps := 2000000) only [m46_1, m46_2, m46_3, m46_r, m46_b, m46, pl, hr0, wk, act, asV, ↓reduceIte, Nat.reduceEqDiff, reduceCtorEq, Nat.reduceAdd, Nat.reduceLeDiff, Nat.reduceSub, Nat.reduceMul, List.reduceReplicate, Int.reduceEq, Int.reduceLT, Int.reduceLE, Int.reduceAdd, Int.reduceSub, Int.reduceMul, Nat.reduceLT, Int.reduceToNat]
    constructor
    · exact PostW.mk (r' := [.sl .full 0 []]) (by simp -implicitDefEqProofs (maxSteps := 2000000) only [wk, act, asV, ↓reduceIte, Nat.reduceEqDiff, reduceCtorEq, Nat.reduceAdd, Nat.reduceLeDiff, Nat.reduceSub, Nat.reduceMul, List.reduceReplicate, Int.reduceEq, Int.reduceLT, Int.reduceLE, Int.reduceAdd, Int.reduceSub, Int.reduceMul, Nat.reduceLT, Int.reduceToNat]) (.cons (.inr ⟨rfl, 1, rfl⟩) .nil) (by decide) (by decide)
    · exact PostW.mk (r' := [.own 0 1 []]) (by simp -implicitDefEqProofs (maxSteps := 2000000) only [wk, act, asV, ↓reduceIte, Nat.reduceEqDiff, reduceCtorEq, Nat.reduceAdd, Nat.reduceLeDiff, Nat.reduceSub, Nat.reduceMul, List.reduceReplicate, Int.reduceEq, Int.reduceLT, Int.reduceLE, Int.reduceAdd, Int.reduceSub, Int.reduceMul, Nat.reduceLT, Int.reduceToNat]) (.cons (.inl rfl) .nil) (by decide) (by decide)
  | cons x xs =>
    have hp : 0 < xs.length + 1 := by omega
    rw [List.length_cons] at hr
    have hlp : (pl (x :: xs)).length = xs.length + 1 := by simp [pl]
    have htk : List.take (xs.length + 1) (pl (x :: xs)) = pl (x :: xs) := List.take_of_length_le (by omega)
    simp -implicitDefEqProofs (maxSteps := 2000000) only [m46_1, m46_2, m46_3, m46_r, m46_b, m46, hlp, hr, hp, hp1, wk, act, asV, ↓reduceIte, Nat.reduceEqDiff, reduceCtorEq, Nat.reduceAdd, Nat.reduceLeDiff, Nat.reduceSub, Nat.reduceMul, List.reduceReplicate, Int.reduceEq, Int.reduceLT, Int.reduceLE, Int.reduceAdd, Int.reduceSub, Int.reduceMul, Nat.reduceLT, Int.reduceToNat]
    exact PostW.mk (r' := [.own (xs.length + 1) 1 (pl (x :: xs))]) (by simp -implicitDefEqProofs (maxSteps := 2000000) only [htk, wk, act, asV, ↓reduceIte, Nat.reduceEqDiff, reduceCtorEq, Nat.reduceAdd, Nat.reduceLeDiff, Nat.reduceSub, Nat.reduceMul, List.reduceReplicate, Int.reduceEq, Int.reduceLT, Int.reduceLE, Int.reduceAdd, Int.reduceSub, Int.reduceMul, Nat.reduceLT, Int.reduceToNat]) (.cons (.inl rfl) .nil) (Nat.le_refl 1) (Nat.le_refl 1)
end Go.Proofs.Ytlbilkldjhhopaa

/-! A tag's step. -/
set_option linter.unusedVariables false
set_option linter.unusedSimpArgs false
set_option linter.unusedSectionVars false
set_option maxRecDepth 100000
set_option maxHeartbeats 4000000
namespace Go.Proofs.Ytlbilkldjhhopaa
open Go.RowKit

theorem step_ok (f : Fl) (hf : ¬ f = .lit) (h : List UInt8) (ps : List (Fl × List UInt8)) (hh : h.length = 32) (hn : ps.length ≤ 2 ^ 30) (hl : (joined ps).length ≤ 2 ^ 39) : RC Try.prog 36 [.agg (bl h), .sl f ps.length (pl ps)] [.agg (bl (shaB (h ++ joined ps)))] := by
  refine RC.of_wp c36 rfl ?_
  have cc := cloneP_ok f ps (by omega)
  have cs := sum_ok .plain (by decide) ((.plain, h) :: ps) (by simp; omega) (by simp only [joined, List.map_cons, List.flatten_cons, List.length_append]; simp only [joined] at hl; omega)
  have ej : joined ((Fl.plain, h) :: ps) = h ++ joined ps := by simp [joined]
  have ep : pl ((Fl.plain, h) :: ps) = .sl .plain 32 (bl h) :: pl ps := by rw [pl, List.map_cons, hh]; rfl
  rw [ej, ep, List.length_cons] at cs
  have tp := pl_take ps
  have hlp := pl_length ps
  have hp1 := pl_pur ps
  have hpb := bl_pur h
  have tb : List.take 32 (bl h) = bl h := List.take_of_length_le (by rw [bl_length]; omega)
  have hlb : (bl h).length = 32 := by rw [bl_length, hh]
  have hx := bl_scal h
  have dl : (shaB (h ++ joined ps)).length = 32 := digest_length _
  obtain ⟨G, hG⟩ : ∃ G, G = shaB (h ++ joined ps) := ⟨_, rfl⟩
  rw [← hG] at cs dl ⊢
  have x1 : List.take 32 (bl G) = bl G := List.take_of_length_le (by rw [bl_length, dl]; exact Nat.le_refl _)
  have x2 : List.drop 32 (bl G) = [] := List.drop_of_length_le (by rw [bl_length, dl]; exact Nat.le_refl _)
  have x3 : (bl G).length = 32 := by rw [bl_length, dl]
  repeat' (first | simp -implicitDefEqProofs (maxSteps := 2000000) only [m36_1, m36_r, m36_b, m36, hf, tp, hlp, hp1, hpb, tb, hlb, hx, wk, act, asV, ↓reduceIte, Nat.reduceEqDiff, reduceCtorEq, Nat.reduceAdd, Nat.reduceLeDiff, Nat.reduceSub, Nat.reduceMul, List.reduceReplicate, Int.reduceEq, Int.reduceLT, Int.reduceLE, Int.reduceAdd, Int.reduceSub, Int.reduceMul, Nat.reduceLT, Int.reduceToNat] | ((with_reducible refine CallL.gate ?_); refine CallL.of (by simp -implicitDefEqProofs (maxSteps := 2000000) only [m36_1, m36_r, m36_b, m36, hf, tp, hlp, hp1, hpb, tb, hlb, hx, wk, act, asV, ↓reduceIte, Nat.reduceEqDiff, reduceCtorEq, Nat.reduceAdd, Nat.reduceLeDiff, Nat.reduceSub, Nat.reduceMul, List.reduceReplicate, Int.reduceEq, Int.reduceLT, Int.reduceLE, Int.reduceAdd, Int.reduceSub, Int.reduceMul, Nat.reduceLT, Int.reduceToNat]; first | done | (with_reducible rfl)) (by first | exact cc) (by simp -implicitDefEqProofs (maxSteps := 2000000) only [m36_1, m36_r, m36_b, m36, hf, tp, hlp, hp1, hpb, tb, hlb, hx, wk, act, asV, ↓reduceIte, Nat.reduceEqDiff, reduceCtorEq, Nat.reduceAdd, Nat.reduceLeDiff, Nat.reduceSub, Nat.reduceMul, List.reduceReplicate, Int.reduceEq, Int.reduceLT, Int.reduceLE, Int.reduceAdd, Int.reduceSub, Int.reduceMul, Nat.reduceLT, Int.reduceToNat]) ?_) | ((with_reducible refine CallpL.gate ?_); refine CallpL.of (by simp -implicitDefEqProofs (maxSteps := 2000000) only [m36_1, m36_r, m36_b, m36, hf, tp, hlp, hp1, hpb, tb, hlb, hx, wk, act, asV, ↓reduceIte, Nat.reduceEqDiff, reduceCtorEq, Nat.reduceAdd, Nat.reduceLeDiff, Nat.reduceSub, Nat.reduceMul, List.reduceReplicate, Int.reduceEq, Int.reduceLT, Int.reduceLE, Int.reduceAdd, Int.reduceSub, Int.reduceMul, Nat.reduceLT, Int.reduceToNat]; first | done | (with_reducible rfl)) (by first | exact cc) (by simp -implicitDefEqProofs (maxSteps := 2000000) only [m36_1, m36_r, m36_b, m36, hf, tp, hlp, hp1, hpb, tb, hlb, hx, wk, act, asV, ↓reduceIte, Nat.reduceEqDiff, reduceCtorEq, Nat.reduceAdd, Nat.reduceLeDiff, Nat.reduceSub, Nat.reduceMul, List.reduceReplicate, Int.reduceEq, Int.reduceLT, Int.reduceLE, Int.reduceAdd, Int.reduceSub, Int.reduceMul, Nat.reduceLT, Int.reduceToNat]) ?_) | ((with_reducible refine CallP.gate ?_); refine CallP.of (by simp -implicitDefEqProofs (maxSteps := 2000000) only [m36_1, m36_r, m36_b, m36, hf, tp, hlp, hp1, hpb, tb, hlb, hx, wk, act, asV, ↓reduceIte, Nat.reduceEqDiff, reduceCtorEq, Nat.reduceAdd, Nat.reduceLeDiff, Nat.reduceSub, Nat.reduceMul, List.reduceReplicate, Int.reduceEq, Int.reduceLT, Int.reduceLE, Int.reduceAdd, Int.reduceSub, Int.reduceMul, Nat.reduceLT, Int.reduceToNat]; first | done | (with_reducible rfl)) (by first | exact cc) (by simp -implicitDefEqProofs (maxSteps := 2000000) only [m36_1, m36_r, m36_b, m36, hf, tp, hlp, hp1, hpb, tb, hlb, hx, wk, act, asV, ↓reduceIte, Nat.reduceEqDiff, reduceCtorEq, Nat.reduceAdd, Nat.reduceLeDiff, Nat.reduceSub, Nat.reduceMul, List.reduceReplicate, Int.reduceEq, Int.reduceLT, Int.reduceLE, Int.reduceAdd, Int.reduceSub, Int.reduceMul, Nat.reduceLT, Int.reduceToNat]) ?_) | ((with_reducible refine CallpP.gate ?_); refine CallpP.of (by simp -implicitDefEqProofs (maxSteps := 2000000) only [m36_1, m36_r, m36_b, m36, hf, tp, hlp, hp1, hpb, tb, hlb, hx, wk, act, asV, ↓reduceIte, Nat.reduceEqDiff, reduceCtorEq, Nat.reduceAdd, Nat.reduceLeDiff, Nat.reduceSub, Nat.reduceMul, List.reduceReplicate, Int.reduceEq, Int.reduceLT, Int.reduceLE, Int.reduceAdd, Int.reduceSub, Int.reduceMul, Nat.reduceLT, Int.reduceToNat]; first | done | (with_reducible rfl)) (by first | exact cc) (by simp -implicitDefEqProofs (maxSteps := 2000000) only [m36_1, m36_r, m36_b, m36, hf, tp, hlp, hp1, hpb, tb, hlb, hx, wk, act, asV, ↓reduceIte, Nat.reduceEqDiff, reduceCtorEq, Nat.reduceAdd, Nat.reduceLeDiff, Nat.reduceSub, Nat.reduceMul, List.reduceReplicate, Int.reduceEq, Int.reduceLT, Int.reduceLE, Int.reduceAdd, Int.reduceSub, Int.reduceMul, Nat.reduceLT, Int.reduceToNat]) ?_))
  refine CallnL.of (by simp -implicitDefEqProofs (maxSteps := 2000000) only [wk, act, asV, ↓reduceIte, Nat.reduceEqDiff, reduceCtorEq, Nat.reduceAdd, Nat.reduceLeDiff, Nat.reduceSub, Nat.reduceMul, List.reduceReplicate, Int.reduceEq, Int.reduceLT, Int.reduceLE, Int.reduceAdd, Int.reduceSub, Int.reduceMul, Nat.reduceLT, Int.reduceToNat]; first | done | rfl) (ins_at (hx := 6) (cs := pl ps) (by simp -implicitDefEqProofs (maxSteps := 2000000) only [wk, act, asV, ↓reduceIte, Nat.reduceEqDiff, reduceCtorEq, Nat.reduceAdd, Nat.reduceLeDiff, Nat.reduceSub, Nat.reduceMul, List.reduceReplicate, Int.reduceEq, Int.reduceLT, Int.reduceLE, Int.reduceAdd, Int.reduceSub, Int.reduceMul, Nat.reduceLT, Int.reduceToNat]; first | done | rfl) hlp (by omega)) ?_
  rintro r h' ⟨rfl, rfl⟩
  repeat' (first | simp -implicitDefEqProofs (maxSteps := 2000000) only [tp, hlp, hp1, hpb, tb, hlb, hx, x1, x2, x3, bl_scal, wk, act, asV, ↓reduceIte, Nat.reduceEqDiff, reduceCtorEq, Nat.reduceAdd, Nat.reduceLeDiff, Nat.reduceSub, Nat.reduceMul, List.reduceReplicate, Int.reduceEq, Int.reduceLT, Int.reduceLE, Int.reduceAdd, Int.reduceSub, Int.reduceMul, Nat.reduceLT, Int.reduceToNat] | ((with_reducible refine CallL.gate ?_); refine CallL.of (by simp -implicitDefEqProofs (maxSteps := 2000000) only [tp, hlp, hp1, hpb, tb, hlb, hx, x1, x2, x3, bl_scal, wk, act, asV, ↓reduceIte, Nat.reduceEqDiff, reduceCtorEq, Nat.reduceAdd, Nat.reduceLeDiff, Nat.reduceSub, Nat.reduceMul, List.reduceReplicate, Int.reduceEq, Int.reduceLT, Int.reduceLE, Int.reduceAdd, Int.reduceSub, Int.reduceMul, Nat.reduceLT, Int.reduceToNat]; first | done | (with_reducible rfl)) (by first | exact cs) (by simp -implicitDefEqProofs (maxSteps := 2000000) only [tp, hlp, hp1, hpb, tb, hlb, hx, x1, x2, x3, bl_scal, wk, act, asV, ↓reduceIte, Nat.reduceEqDiff, reduceCtorEq, Nat.reduceAdd, Nat.reduceLeDiff, Nat.reduceSub, Nat.reduceMul, List.reduceReplicate, Int.reduceEq, Int.reduceLT, Int.reduceLE, Int.reduceAdd, Int.reduceSub, Int.reduceMul, Nat.reduceLT, Int.reduceToNat]) ?_) | ((with_reducible refine CallpL.gate ?_); refine CallpL.of (by simp -implicitDefEqProofs (maxSteps := 2000000) only [tp, hlp, hp1, hpb, tb, hlb, hx, x1, x2, x3, bl_scal, wk, act, asV, ↓reduceIte, Nat.reduceEqDiff, reduceCtorEq, Nat.reduceAdd, Nat.reduceLeDiff, Nat.reduceSub, Nat.reduceMul, List.reduceReplicate, Int.reduceEq, Int.reduceLT, Int.reduceLE, Int.reduceAdd, Int.reduceSub, Int.reduceMul, Nat.reduceLT, Int.reduceToNat]; first | done | (with_reducible rfl)) (by first | exact cs) (by simp -implicitDefEqProofs (maxSteps := 2000000) only [tp, hlp, hp1, hpb, tb, hlb, hx, x1, x2, x3, bl_scal, wk, act, asV, ↓reduceIte, Nat.reduceEqDiff, reduceCtorEq, Nat.reduceAdd, Nat.reduceLeDiff, Nat.reduceSub, Nat.reduceMul, List.reduceReplicate, Int.reduceEq, Int.reduceLT, Int.reduceLE, Int.reduceAdd, Int.reduceSub, Int.reduceMul, Nat.reduceLT, Int.reduceToNat]) ?_) | ((with_reducible refine CallP.gate ?_); refine CallP.of (by simp -implicitDefEqProofs (maxSteps := 2000000) only [tp, hlp, hp1, hpb, tb, hlb, hx, x1, x2, x3, bl_scal, wk, act, asV, ↓reduceIte, Nat.reduceEqDiff, reduceCtorEq, Nat.reduceAdd, Nat.reduceLeDiff, Nat.reduceSub, Nat.reduceMul, List.reduceReplicate, Int.reduceEq, Int.reduceLT, Int.reduceLE, Int.reduceAdd, Int.reduceSub, Int.reduceMul, Nat.reduceLT, Int.reduceToNat]; first | done | (with_reducible rfl)) (by first | exact cs) (by simp -implicitDefEqProofs (maxSteps := 2000000) only [tp, hlp, hp1, hpb, tb, hlb, hx, x1, x2, x3, bl_scal, wk, act, asV, ↓reduceIte, Nat.reduceEqDiff, reduceCtorEq, Nat.reduceAdd, Nat.reduceLeDiff, Nat.reduceSub, Nat.reduceMul, List.reduceReplicate, Int.reduceEq, Int.reduceLT, Int.reduceLE, Int.reduceAdd, Int.reduceSub, Int.reduceMul, Nat.reduceLT, Int.reduceToNat]) ?_) | ((with_reducible refine CallpP.gate ?_); refine CallpP.of (by simp -implicitDefEqProofs (maxSteps := 2000000) only [tp, hlp, hp1, hpb, tb, hlb, hx, x1, x2, x3, bl_scal, wk, act, asV, ↓reduceIte, Nat.reduceEqDiff, reduceCtorEq, Nat.reduceAdd, Nat.reduceLeDiff, Nat.reduceSub, Nat.reduceMul, List.reduceReplicate, Int.reduceEq, Int.reduceLT, Int.reduceLE, Int.reduceAdd, Int.reduceSub, Int.reduceMul, Nat.reduceLT, Int.reduceToNat]; first | done | (with_reducible rfl)) (by first | exact cs) (by simp -implicitDefEqProofs (maxSteps := 2000000) only [tp, hlp, hp1, hpb, tb, hlb, hx, x1, x2, x3, bl_scal, wk, act, asV, ↓reduceIte, Nat.reduceEqDiff, reduceCtorEq, Nat.reduceAdd, Nat.reduceLeDiff, Nat.reduceSub, Nat.reduceMul, List.reduceReplicate, Int.reduceEq, Int.reduceLT, Int.reduceLE, Int.reduceAdd, Int.reduceSub, Int.reduceMul, Nat.reduceLT, Int.reduceToNat]) ?_))
end Go.Proofs.Ytlbilkldjhhopaa

/-! The reference's step; whether bytes are alike. -/
set_option linter.unusedVariables false
set_option linter.unusedSimpArgs false
set_option linter.unusedSectionVars false
set_option maxRecDepth 100000
set_option maxHeartbeats 4000000
namespace Go.Proofs.Ytlbilkldjhhopaa
open Go.RowKit

theorem stepR_ok (f : Fl) (hf : ¬ f = .lit) (h : List UInt8) (ps : List (Fl × List UInt8)) (hh : h.length = 32) (hn : ps.length ≤ 2 ^ 30) (hl : (joined ps).length ≤ 2 ^ 39) : RC Try.prog 37 [.agg (bl h), .sl f ps.length (pl ps)] [.agg (bl (shaB (h ++ joined ps)))] := by
  refine RC.of_wp c37 rfl ?_
  have cs := sumR_ok .plain ((.plain, h) :: ps) (by simp; omega) (by simp only [joined, List.map_cons, List.flatten_cons, List.length_append]; simp only [joined] at hl; omega)
  have ej : joined ((Fl.plain, h) :: ps) = h ++ joined ps := by simp [joined]
  have ep : pl ((Fl.plain, h) :: ps) = .sl .plain 32 (bl h) :: pl ps := by rw [pl, List.map_cons, hh]; rfl
  rw [ej, ep, List.length_cons] at cs
  have tp := pl_take ps
  have hlp := pl_length ps
  have hp1 := pl_pur ps
  have hpb := bl_pur h
  have tb : List.take 32 (bl h) = bl h := List.take_of_length_le (by rw [bl_length]; omega)
  have hlb : (bl h).length = 32 := by rw [bl_length, hh]
  have hx := bl_scal h
  have dl : (shaB (h ++ joined ps)).length = 32 := digest_length _
  obtain ⟨G, hG⟩ : ∃ G, G = shaB (h ++ joined ps) := ⟨_, rfl⟩
  rw [← hG] at cs dl ⊢
  have x1 : List.take 32 (bl G) = bl G := List.take_of_length_le (by rw [bl_length, dl]; exact Nat.le_refl _)
  have x2 : List.drop 32 (bl G) = [] := List.drop_of_length_le (by rw [bl_length, dl]; exact Nat.le_refl _)
  have x3 : (bl G).length = 32 := by rw [bl_length, dl]
  have r1 : roomy 32 1 = true := by decide
  have r2 : roomy (ps.length + 1) 24 = true := roomyP (by omega)
  have e1 : 1 + ps.length = ps.length + 1 := Nat.add_comm _ _
  have t2 : List.take (ps.length + 1) (IV.sl Fl.plain 32 (bl h) :: pl ps) = IV.sl Fl.plain 32 (bl h) :: pl ps := by rw [List.take_succ_cons, tp]
  repeat' (first | simp -implicitDefEqProofs (maxSteps := 2000000) only [m37_1, m37_r, m37_b, m37, hf, tp, hlp, hp1, hpb, tb, hlb, hx, x1, x2, x3, bl_scal, r1, r2, e1, t2, wk, act, asV, ↓reduceIte, Nat.reduceEqDiff, reduceCtorEq, Nat.reduceAdd, Nat.reduceLeDiff, Nat.reduceSub, Nat.reduceMul, List.reduceReplicate, Int.reduceEq, Int.reduceLT, Int.reduceLE, Int.reduceAdd, Int.reduceSub, Int.reduceMul, Nat.reduceLT, Int.reduceToNat] | ((with_reducible refine CallL.gate ?_); refine CallL.of (by simp -implicitDefEqProofs (maxSteps := 2000000) only [m37_1, m37_r, m37_b, m37, hf, tp, hlp, hp1, hpb, tb, hlb, hx, x1, x2, x3, bl_scal, r1, r2, e1, t2, wk, act, asV, ↓reduceIte, Nat.reduceEqDiff, reduceCtorEq, Nat.reduceAdd, Nat.reduceLeDiff, Nat.reduceSub, Nat.reduceMul, List.reduceReplicate, Int.reduceEq, Int.reduceLT, Int.reduceLE, Int.reduceAdd, Int.reduceSub, Int.reduceMul, Nat.reduceLT, Int.reduceToNat]; first | done | (with_reducible rfl)) (by first | exact cs) (by simp -implicitDefEqProofs (maxSteps := 2000000) only [m37_1, m37_r, m37_b, m37, hf, tp, hlp, hp1, hpb, tb, hlb, hx, x1, x2, x3, bl_scal, r1, r2, e1, t2, wk, act, asV, ↓reduceIte, Nat.reduceEqDiff, reduceCtorEq, Nat.reduceAdd, Nat.reduceLeDiff, Nat.reduceSub, Nat.reduceMul, List.reduceReplicate, Int.reduceEq, Int.reduceLT, Int.reduceLE, Int.reduceAdd, Int.reduceSub, Int.reduceMul, Nat.reduceLT, Int.reduceToNat]) ?_) | ((with_reducible refine CallpL.gate ?_); refine CallpL.of (by simp -implicitDefEqProofs (maxSteps := 2000000) only [m37_1, m37_r, m37_b, m37, hf, tp, hlp, hp1, hpb, tb, hlb, hx, x1, x2, x3, bl_scal, r1, r2, e1, t2, wk, act, asV, ↓reduceIte, Nat.reduceEqDiff, reduceCtorEq, Nat.reduceAdd, Nat.reduceLeDiff, Nat.reduceSub, Nat.reduceMul, List.reduceReplicate, Int.reduceEq, Int.reduceLT, Int.reduceLE, Int.reduceAdd, Int.reduceSub, Int.reduceMul, Nat.reduceLT, Int.reduceToNat]; first | done | (with_reducible rfl)) (by first | exact cs) (by simp -implicitDefEqProofs (maxSteps := 2000000) only [m37_1, m37_r, m37_b, m37, hf, tp, hlp, hp1, hpb, tb, hlb, hx, x1, x2, x3, bl_scal, r1, r2, e1, t2, wk, act, asV, ↓reduceIte, Nat.reduceEqDiff, reduceCtorEq, Nat.reduceAdd, Nat.reduceLeDiff, Nat.reduceSub, Nat.reduceMul, List.reduceReplicate, Int.reduceEq, Int.reduceLT, Int.reduceLE, Int.reduceAdd, Int.reduceSub, Int.reduceMul, Nat.reduceLT, Int.reduceToNat]) ?_) | ((with_reducible refine CallP.gate ?_); refine CallP.of (by simp -implicitDefEqProofs (maxSteps := 2000000) only [m37_1, m37_r, m37_b, m37, hf, tp, hlp, hp1, hpb, tb, hlb, hx, x1, x2, x3, bl_scal, r1, r2, e1, t2, wk, act, asV, ↓reduceIte, Nat.reduceEqDiff, reduceCtorEq, Nat.reduceAdd, Nat.reduceLeDiff, Nat.reduceSub, Nat.reduceMul, List.reduceReplicate, Int.reduceEq, Int.reduceLT, Int.reduceLE, Int.reduceAdd, Int.reduceSub, Int.reduceMul, Nat.reduceLT, Int.reduceToNat]; first | done | (with_reducible rfl)) (by first | exact cs) (by simp -implicitDefEqProofs (maxSteps := 2000000) only [m37_1, m37_r, m37_b, m37, hf, tp, hlp, hp1, hpb, tb, hlb, hx, x1, x2, x3, bl_scal, r1, r2, e1, t2, wk, act, asV, ↓reduceIte, Nat.reduceEqDiff, reduceCtorEq, Nat.reduceAdd, Nat.reduceLeDiff, Nat.reduceSub, Nat.reduceMul, List.reduceReplicate, Int.reduceEq, Int.reduceLT, Int.reduceLE, Int.reduceAdd, Int.reduceSub, Int.reduceMul, Nat.reduceLT, Int.reduceToNat]) ?_) | ((with_reducible refine CallpP.gate ?_); refine CallpP.of (by simp -implicitDefEqProofs (maxSteps := 2000000) only [m37_1, m37_r, m37_b, m37, hf, tp, hlp, hp1, hpb, tb, hlb, hx, x1, x2, x3, bl_scal, r1, r2, e1, t2, wk, act, asV, ↓reduceIte, Nat.reduceEqDiff, reduceCtorEq, Nat.reduceAdd, Nat.reduceLeDiff, Nat.reduceSub, Nat.reduceMul, List.reduceReplicate, Int.reduceEq, Int.reduceLT, Int.reduceLE, Int.reduceAdd, Int.reduceSub, Int.reduceMul, Nat.reduceLT, Int.reduceToNat]; first | done | (with_reducible rfl)) (by first | exact cs) (by simp -implicitDefEqProofs (maxSteps := 2000000) only [m37_1, m37_r, m37_b, m37, hf, tp, hlp, hp1, hpb, tb, hlb, hx, x1, x2, x3, bl_scal, r1, r2, e1, t2, wk, act, asV, ↓reduceIte, Nat.reduceEqDiff, reduceCtorEq, Nat.reduceAdd, Nat.reduceLeDiff, Nat.reduceSub, Nat.reduceMul, List.reduceReplicate, Int.reduceEq, Int.reduceLT, Int.reduceLE, Int.reduceAdd, Int.reduceSub, Int.reduceMul, Nat.reduceLT, Int.reduceToNat]) ?_))
end Go.Proofs.Ytlbilkldjhhopaa
