/- slices.Insert at the head of parts; parts of their own. -/
import Derived.Test.YtkphojcmjffccaaDoorM8
import Derived.Test.YtkphojcmjffccaaDoorI9
import Derived.Test.YtkphojcmjffccaaDoorS13
import Derived.Test.YtkphojcmjffccaaDoorE31
set_option linter.unusedVariables false
set_option linter.unusedSimpArgs false
set_option linter.unusedSectionVars false
set_option maxRecDepth 100000
set_option maxHeartbeats 4000000
namespace Go.Proofs.YtkphojcmjffccaaDoor
open Go.RowKit

theorem ins_at {H : Nat → Blk} {hx n ver : Nat} {f : Fl} {x : IV} {cs : List IV} (hH : H hx = ⟨ver, true, true, true, cs⟩) (hc : cs.length = n) (hn : n < 2 ^ 36) :
    IC Tryd.prog 25 H [.row hx 0 n 1 ver, .int .i64 0, .sl f 1 [x]] (fun r h' => r = [.row hx 0 (n + 1) 1 (ver + 2)] ∧ h' = upd H hx ⟨ver + 2, true, true, true, x :: cs⟩) := by
  have h := ins_ok (H := H) (hx := hx) (off := 0) (n := n) (f := f) (x := x) (by rw [hH]) (by rw [hH]) (by rw [hH]) (by rw [hH]; simpa using hc.symm) hn
  have e : (H hx).ver = ver := by rw [hH]
  rw [e] at h
  refine ⟨h.1, fun o w0 w φ us G L a b c d => Calls.mono (h.2 o w0 w φ us G L a b c d) ?_⟩
  rintro e w' ⟨rv, he, φ', h', r, us', ⟨q1, q2⟩, rest⟩
  refine ⟨rv, he, φ', h', r, us', ⟨by rw [q1, hH], ?_⟩, rest⟩
  rw [q2]
  funext y
  simp only [upd, insBlk, hH, List.drop_zero]
  split <;> rfl
theorem pl_pur (ps : List (Fl × List UInt8)) : IV.purL (pl ps) = true := by
  induction ps with
  | nil => rfl
  | cons p ps ih => simpa [pl, IV.purL, IV.pur, bl_pur] using ih
theorem roomyP {n : Nat} (h : n ≤ 2 ^ 36) : roomy n 24 = true := by simp [roomy]; omega
theorem cloneP_ok (f : Fl) (ps : List (Fl × List UInt8)) (hl : ps.length ≤ 2 ^ 36) : RC Tryd.prog 26 [.sl f ps.length (pl ps)] [.own ps.length 1 (pl ps)] := by
  refine RC.of_wpW c26 rfl ?_
  have hr := roomyP hl
  have hp1 := pl_pur ps
  cases ps with
  | nil =>
    have hr0 : roomy 0 24 = true := by decide
    simp -implicitDefEqProofs (maxSteps := 2000000) only [m26_1, m26_2, m26_3, m26_r, m26_b, m26, pl, hr0, wk, act, asV, ↓reduceIte, Nat.reduceEqDiff, reduceCtorEq, Nat.reduceAdd, Nat.reduceLeDiff, Nat.reduceSub, Nat.reduceMul, List.reduceReplicate, Int.reduceEq, Int.reduceLT, Int.reduceLE, Int.reduceAdd, Int.reduceSub, Int.reduceMul, Nat.reduceLT, Int.reduceToNat]
    constructor
    · exact PostW.mk (r' := [.sl .full 0 []]) (by simp -implicitDefEqProofs (maxSteps := 2000000) only [wk, act, asV, ↓reduceIte, Nat.reduceEqDiff, reduceCtorEq, Nat.reduceAdd, Nat.reduceLeDiff, Nat.reduceSub, Nat.reduceMul, List.reduceReplicate, Int.reduceEq, Int.reduceLT, Int.reduceLE, Int.reduceAdd, Int.reduceSub, Int.reduceMul, Nat.reduceLT, Int.reduceToNat]) (.cons (.inr ⟨rfl, 1, rfl⟩) .nil) (by decide) (by decide)
    · exact PostW.mk (r' := [.own 0 1 []]) (by simp -implicitDefEqProofs (maxSteps := 2000000) only [wk, act, asV, ↓reduceIte, Nat.reduceEqDiff, reduceCtorEq, Nat.reduceAdd, Nat.reduceLeDiff, Nat.reduceSub, Nat.reduceMul, List.reduceReplicate, Int.reduceEq, Int.reduceLT, Int.reduceLE, Int.reduceAdd, Int.reduceSub, Int.reduceMul, Nat.reduceLT, Int.reduceToNat]) (.cons (.inl rfl) .nil) (by decide) (by decide)
  | cons x xs =>
    have hp : 0 < xs.length + 1 := by omega
    rw [List.length_cons] at hr
    have hlp : (pl (x :: xs)).length = xs.length + 1 := by simp [pl]
    have htk : List.take (xs.length + 1) (pl (x :: xs)) = pl (x :: xs) := List.take_of_length_le (by omega)
    simp -implicitDefEqProofs (maxSteps := 2000000) only [m26_1, m26_2, m26_3, m26_r, m26_b, m26, hlp, hr, hp, hp1, wk, act, asV, ↓reduceIte, Nat.reduceEqDiff, reduceCtorEq, Nat.reduceAdd, Nat.reduceLeDiff, Nat.reduceSub, Nat.reduceMul, List.reduceReplicate, Int.reduceEq, Int.reduceLT, Int.reduceLE, Int.reduceAdd, Int.reduceSub, Int.reduceMul, Nat.reduceLT, Int.reduceToNat]
    exact PostW.mk (r' := [.own (xs.length + 1) 1 (pl (x :: xs))]) (by simp -implicitDefEqProofs (maxSteps := 2000000) only [htk, wk, act, asV, ↓reduceIte, Nat.reduceEqDiff, reduceCtorEq, Nat.reduceAdd, Nat.reduceLeDiff, Nat.reduceSub, Nat.reduceMul, List.reduceReplicate, Int.reduceEq, Int.reduceLT, Int.reduceLE, Int.reduceAdd, Int.reduceSub, Int.reduceMul, Nat.reduceLT, Int.reduceToNat]) (.cons (.inl rfl) .nil) (Nat.le_refl 1) (Nat.le_refl 1)
end Go.Proofs.YtkphojcmjffccaaDoor

