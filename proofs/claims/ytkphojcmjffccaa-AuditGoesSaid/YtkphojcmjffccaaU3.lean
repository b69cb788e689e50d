/- Bytes that are held against each other, all of a row. -/
import Derived.Test.YtkphojcmjffccaaK0
import Derived.Test.YtkphojcmjffccaaS10
import Derived.Test.YtkphojcmjffccaaE31
import Derived.Test.YtkphojcmjffccaaProg
import Derived.Test.YtkphojcmjffccaaZ10
import Derived.Test.YtkphojcmjffccaaI9
set_option linter.unusedVariables false
set_option linter.unusedSimpArgs false
set_option linter.unusedSectionVars false
set_option maxRecDepth 100000
namespace Go.Proofs.Ytkphojcmjffccaa
open Go.RowKit

theorem pl_take (ps : List (Fl × List UInt8)) : List.take ps.length (pl ps) = pl ps := List.take_of_length_le (by rw [pl_length]; exact Nat.le_refl _)
theorem eqL_by : ∀ (x y : List UInt8), x.length = y.length → eqL (bl x) (bl y) = some (decide (x = y))
  | [], [], _ => rfl
  | a :: x, b :: y, h => by
    have ih := eqL_by x y (by simpa using h)
    have hab : (((a.toNat : Nat) : Int) = (b.toNat : Nat)) = (a = b) := by
      apply propext
      constructor
      · intro e; exact UInt8.toNat_inj.1 (by omega)
      · rintro rfl; rfl
    simp only [bl, List.map_cons, eqL, eqC, if_true, hab] at ih ⊢
    rw [ih]
    by_cases h1 : a = b <;> by_cases h2 : x = y <;> simp [h1, h2]
  | [], b :: y, h => by simp at h
  | a :: x, [], h => by simp at h
theorem fitR_by {x : List UInt8} {n : Nat} (h : x.length = n) : fitR [(n, .i)] (bl x) = true := by
  subst h
  have e1 : List.take x.length (bl x) = bl x := take_bl x
  have e2 : List.drop x.length (bl x) = [] := List.drop_of_length_le (by rw [bl_length]; exact Nat.le_refl _)
  simp only [fitR, e1, e2, bl_length, Nat.le_refl, decide_true, Bool.true_and, List.isEmpty_nil, Bool.and_true]
  simp [bl, CK.fit]

theorem one_part (p : List UInt8) : joined [(Fl.plain, p)] = p := by simp [joined]
end Go.Proofs.Ytkphojcmjffccaa
/- The hash of parts, by the reference: joined. -/
set_option linter.unusedSectionVars false
set_option linter.unusedVariables false
set_option linter.unusedSimpArgs false
set_option maxRecDepth 100000
set_option maxHeartbeats 8000000
namespace Go.Proofs.Ytkphojcmjffccaa
open Go.RowKit

end Go.Proofs.Ytkphojcmjffccaa

/-! The hash of parts, by the reference: 64 bytes by 64. -/
set_option linter.unusedSectionVars false
set_option linter.unusedVariables false
set_option linter.unusedSimpArgs false
set_option maxRecDepth 100000
set_option maxHeartbeats 8000000
namespace Go.Proofs.Ytkphojcmjffccaa
open Go.RowKit

end Go.Proofs.Ytkphojcmjffccaa

/-! The hash of parts, by the reference. -/
set_option linter.unusedSectionVars false
set_option linter.unusedVariables false
set_option linter.unusedSimpArgs false
set_option maxRecDepth 100000
set_option maxHeartbeats 8000000
namespace Go.Proofs.Ytkphojcmjffccaa
open Go.RowKit

end Go.Proofs.Ytkphojcmjffccaa
/- The loaded functions as texts of the ideal machine (written by a program of ours), and that they are the loaded ones. -/
set_option linter.unusedVariables false
namespace Go.Proofs.Ytkphojcmjffccaa
open Go.RowKit

/- slices.Clone[[][]byte,[]byte] -/
def m32_1 : MCode :=
 (.cond (.tmp 4)
  (.seq
   (.reg
    [MI.op (some 2) (.mov (.c (.sl .full 0 []))) none])
   .ret)
  .skip)
def m32_2 : MCode :=
 (.seq
  (.reg
   [MI.op (some 5) (.bsl 0 1 [(.sl .full 0 [])] []) none,
    MI.op (some 6) (.mov (.tmp 0)) none,
    MI.op (some 7) (.app 1 24 (.tmp 5) (.tmp 6)) none,
    MI.op (some 2) (.mov (.tmp 7)) none])
  .ret)
def m32_3 : MCode :=
 (.seq
  (.seq
   (.reg
    [MI.op (some 3) (.mov (.tmp 0)) none,
     MI.op (some 4) (.nilS false (.tmp 3)) none])
  m32_1)
  m32_2)
def m32_r : List MRes := [.tmp 2]
def m32_b : MCode :=
 (.seq
  (.reg
   [MI.op (some 2) (.mov (.c (.sl .full 0 []))) none])
  m32_3)
def m32 : MFunc := ⟨1, 8, m32_r, m32_b⟩
theorem c32 : compF Try.prog 32 m32 = some m32 := by kernel_rfl

/- tollhouse/tag.Step -/
def m24_1 : MCode :=
 (.seq
  (.drw
   [MI.op (some 5) (.mov (.tmp 1)) none,
    MI.op (some 6) (.call 32 [(.tmp 5)]) none,
    MI.op (some 7) (.slArr 32 1 (.tmp 2) none none none) none,
    MI.op (some 8) (.bsl 1 1 [(.sl .full 0 [])] [(0, 1, (.tmp 7))]) none]
   [MI.op (some 9) (.calln 31 [(.tmp 6), (.c (.int .i64 0)), (.tmp 8)]) none,
    MI.op (some 10) (.call 25 [(.tmp 9)]) none,
    MI.op none (.store 32 (.tmp 4) (.tmp 10)) none])
  .ret)
def m24_r : List MRes := [.cell 4 true 32]
def m24_b : MCode :=
 (.seq
  (.reg
   [MI.op (some 2) (.box (.tmp 0)) none,
    MI.op (some 4) (.alloc (List.replicate 32 (.int .u8 0))) none,
    MI.frz 2])
  m24_1)
def m24 : MFunc := ⟨2, 11, m24_r, m24_b⟩
theorem c24 : compF Try.prog 24 m24 = some m24 := by kernel_rfl

/- tollhouse/tollhouseref03.Step -/
end Go.Proofs.Ytkphojcmjffccaa
/- slices.Insert at the head of parts; parts of their own. -/
set_option linter.unusedVariables false
set_option linter.unusedSimpArgs false
set_option linter.unusedSectionVars false
set_option maxRecDepth 100000
set_option maxHeartbeats 4000000
namespace Go.Proofs.Ytkphojcmjffccaa
open Go.RowKit

theorem ins_at {H : Nat → Blk} {hx n ver : Nat} {f : Fl} {x : IV} {cs : List IV} (hH : H hx = ⟨ver, true, true, true, cs⟩) (hc : cs.length = n) (hn : n < 2 ^ 36) :
    IC Try.prog 31 H [.row hx 0 n 1 ver, .int .i64 0, .sl f 1 [x]] (fun r h' => r = [.row hx 0 (n + 1) 1 (ver + 2)] ∧ h' = upd H hx ⟨ver + 2, true, true, true, x :: cs⟩) := by
  have h := ins_ok (H := H) (hx := hx) (off := 0) (n := n) (f := f) (x := x) (by rw [hH]) (by rw [hH]) (by rw [hH]) (by rw [hH]; simpa using hc.symm) hn
  have e : (H hx).ver = ver := by rw [hH]
  rw [e] at h
  refine ⟨h.1, fun o w0 w φ us G L a b c d => Calls.mono (h.2 o w0 w φ us G L a b c d) ?_⟩
  rintro e w' ⟨rv, he, φ', h', r, us', ⟨q1, q2⟩, rest⟩
  refine ⟨rv, he, φ', h', r, us', ⟨by rw [q1, hH], ?_⟩, rest⟩
  rw [q2]
  funext y
  simp only [upd, insBlk, hH, List.drop_zero]
  split <;> rfl
theorem pl_pur (ps : List (Fl × List UInt8)) : IV.purL (pl ps) = true := by
  induction ps with
  | nil => rfl
  | cons p ps ih => simpa [pl, IV.purL, IV.pur, bl_pur] using ih
theorem roomyP {n : Nat} (h : n ≤ 2 ^ 36) : roomy n 24 = true := by simp [roomy]; omega
theorem cloneP_ok (f : Fl) (ps : List (Fl × List UInt8)) (hl : ps.length ≤ 2 ^ 36) : RC Try.prog 32 [.sl f ps.length (pl ps)] [.own ps.length 1 (pl ps)] := by
  refine RC.of_wpW c32 rfl ?_
  have hr := roomyP hl
  have hp1 := pl_pur ps
  cases ps with
  | nil =>
    have hr0 : roomy 0 24 = true := by decide
    simp -implicitDefEqProofs (maxSteps := 2000000) only [m32_1, m32_2, m32_3, m32_r, m32_b, m32, pl, hr0, wk, act, asV, ↓reduceIte, Nat.reduceEqDiff, reduceCtorEq, Nat.reduceAdd, Nat.reduceLeDiff, Nat.reduceSub, Nat.reduceMul, List.reduceReplicate, Int.reduceEq, Int.reduceLT, Int.reduceLE, Int.reduceAdd, Int.reduceSub, Int.reduceMul, Nat.reduceLT, Int.reduceToNat]
    constructor
    · exact PostW.mk (r' := [.sl .full 0 []]) (by simp -implicitDefEqProofs (maxSteps := 2000000) only [wk, act, asV, ↓reduceIte, Nat.reduceEqDiff, reduceCtorEq, Nat.reduceAdd, Nat.reduceLeDiff, Nat.reduceSub, Nat.reduceMul, List.reduceReplicate, Int.reduceEq, Int.reduceLT, Int.reduceLE, Int.reduceAdd, Int.reduceSub, Int.reduceMul, Nat.reduceLT, Int.reduceToNat]) (.cons (.inr ⟨rfl, 1, rfl⟩) .nil) (by decide) (by decide)
    · exact PostW.mk (r' := [.own 0 1 []]) (by simp -implicitDefEqProofs (maxSteps := 2000000) only [wk, act, asV, ↓reduceIte, Nat.reduceEqDiff, reduceCtorEq, Nat.reduceAdd, Nat.reduceLeDiff, Nat.reduceSub, Nat.reduceMul, List.reduceReplicate, Int.reduceEq, Int.reduceLT, Int.reduceLE, Int.reduceAdd, Int.reduceSub, Int.reduceMul, Nat.reduceLT, Int.reduceToNat]) (.cons (.inl rfl) .nil) (by decide) (by decide)
  | cons x xs =>
    have hp : 0 < xs.length + 1 := by omega
    rw [List.length_cons] at hr
    have hlp : (pl (x :: xs)).length = xs.length + 1 := by simp [pl]
    have htk : List.take (xs.length + 1) (pl (x :: xs)) = pl (x :: xs) := List.take_of_length_le (by omega)
    simp -implicitDefEqProofs (maxSteps := 2000000) only [m32_1, m32_2, m32_3, m32_r, m32_b, m32, hlp, hr, hp, hp1, wk, act, asV, ↓reduceIte, Nat.reduceEqDiff, reduceCtorEq, Nat.reduceAdd, Nat.reduceLeDiff, Nat.reduceSub, Nat.reduceMul, List.reduceReplicate, Int.reduceEq, Int.reduceLT, Int.reduceLE, Int.reduceAdd, Int.reduceSub, Int.reduceMul, Nat.reduceLT, Int.reduceToNat]
    exact PostW.mk (r' := [.own (xs.length + 1) 1 (pl (x :: xs))]) (by simp -implicitDefEqProofs (maxSteps := 2000000) only [htk, wk, act, asV, ↓reduceIte, Nat.reduceEqDiff, reduceCtorEq, Nat.reduceAdd, Nat.reduceLeDiff, Nat.reduceSub, Nat.reduceMul, List.reduceReplicate, Int.reduceEq, Int.reduceLT, Int.reduceLE, Int.reduceAdd, Int.reduceSub, Int.reduceMul, Nat.reduceLT, Int.reduceToNat]) (.cons (.inl rfl) .nil) (Nat.le_refl 1) (Nat.le_refl 1)
end Go.Proofs.Ytkphojcmjffccaa

/- A tag's step. -/
set_option linter.unusedVariables false
set_option linter.unusedSimpArgs false
set_option linter.unusedSectionVars false
set_option maxRecDepth 100000
set_option maxHeartbeats 4000000
namespace Go.Proofs.Ytkphojcmjffccaa
open Go.RowKit

theorem step_ok (f : Fl) (hf : ¬ f = .lit) (h : List UInt8) (ps : List (Fl × List UInt8)) (hh : h.length = 32) (hn : ps.length ≤ 2 ^ 30) (hl : (joined ps).length ≤ 2 ^ 39) : RC Try.prog 24 [.agg (bl h), .sl f ps.length (pl ps)] [.agg (bl (shaB (h ++ joined ps)))] := by
  refine RC.of_wp c24 rfl ?_
  have cc := cloneP_ok f ps (by omega)
  have cs := sum_ok .plain (by decide) ((.plain, h) :: ps) (by simp; omega) (by simp only [joined, List.map_cons, List.flatten_cons, List.length_append]; simp only [joined] at hl; omega)
  have ej : joined ((Fl.plain, h) :: ps) = h ++ joined ps := by simp [joined]
  have ep : pl ((Fl.plain, h) :: ps) = .sl .plain 32 (bl h) :: pl ps := by rw [pl, List.map_cons, hh]; rfl
  rw [ej, ep, List.length_cons] at cs
  have tp := pl_take ps
  have hlp := pl_length ps
  have hp1 := pl_pur ps
  have hpb := bl_pur h
  have tb : List.take 32 (bl h) = bl h := List.take_of_length_le (by rw [bl_length]; omega)
  have hlb : (bl h).length = 32 := by rw [bl_length, hh]
  have hx := bl_scal h
  have dl : (shaB (h ++ joined ps)).length = 32 := digest_length _
  obtain ⟨G, hG⟩ : ∃ G, G = shaB (h ++ joined ps) := ⟨_, rfl⟩
  rw [← hG] at cs dl ⊢
  have x1 : List.take 32 (bl G) = bl G := List.take_of_length_le (by rw [bl_length, dl]; exact Nat.le_refl _)
  have x2 : List.drop 32 (bl G) = [] := List.drop_of_length_le (by rw [bl_length, dl]; exact Nat.le_refl _)
  have x3 : (bl G).length = 32 := by rw [bl_length, dl]
  repeat' (first | simp -implicitDefEqProofs (maxSteps := 2000000) only [m24_1, m24_r, m24_b, m24, hf, tp, hlp, hp1, hpb, tb, hlb, hx, wk, act, asV, ↓reduceIte, Nat.reduceEqDiff, reduceCtorEq, Nat.reduceAdd, Nat.reduceLeDiff, Nat.reduceSub, Nat.reduceMul, List.reduceReplicate, Int.reduceEq, Int.reduceLT, Int.reduceLE, Int.reduceAdd, Int.reduceSub, Int.reduceMul, Nat.reduceLT, Int.reduceToNat] | ((first | ((with_reducible refine CallL.gate ?_); apply CallL.of) | ((with_reducible refine CallP.gate ?_); apply CallP.of)); (case h1 => (simp -implicitDefEqProofs (maxSteps := 2000000) only [m24_1, m24_r, m24_b, m24, hf, tp, hlp, hp1, hpb, tb, hlb, hx, wk, act, asV, ↓reduceIte, Nat.reduceEqDiff, reduceCtorEq, Nat.reduceAdd, Nat.reduceLeDiff, Nat.reduceSub, Nat.reduceMul, List.reduceReplicate, Int.reduceEq, Int.reduceLT, Int.reduceLE, Int.reduceAdd, Int.reduceSub, Int.reduceMul, Nat.reduceLT, Int.reduceToNat]; first | done | (with_reducible rfl))); (case h2 => (first | exact cc)); (case h3 => simp -implicitDefEqProofs (maxSteps := 2000000) only [m24_1, m24_r, m24_b, m24, hf, tp, hlp, hp1, hpb, tb, hlb, hx, wk, act, asV, ↓reduceIte, Nat.reduceEqDiff, reduceCtorEq, Nat.reduceAdd, Nat.reduceLeDiff, Nat.reduceSub, Nat.reduceMul, List.reduceReplicate, Int.reduceEq, Int.reduceLT, Int.reduceLE, Int.reduceAdd, Int.reduceSub, Int.reduceMul, Nat.reduceLT, Int.reduceToNat])))
  refine CallnL.of (by simp -implicitDefEqProofs (maxSteps := 2000000) only [wk, act, asV, ↓reduceIte, Nat.reduceEqDiff, reduceCtorEq, Nat.reduceAdd, Nat.reduceLeDiff, Nat.reduceSub, Nat.reduceMul, List.reduceReplicate, Int.reduceEq, Int.reduceLT, Int.reduceLE, Int.reduceAdd, Int.reduceSub, Int.reduceMul, Nat.reduceLT, Int.reduceToNat]; first | done | rfl) (ins_at (hx := 6) (cs := pl ps) (by simp -implicitDefEqProofs (maxSteps := 2000000) only [wk, act, asV, ↓reduceIte, Nat.reduceEqDiff, reduceCtorEq, Nat.reduceAdd, Nat.reduceLeDiff, Nat.reduceSub, Nat.reduceMul, List.reduceReplicate, Int.reduceEq, Int.reduceLT, Int.reduceLE, Int.reduceAdd, Int.reduceSub, Int.reduceMul, Nat.reduceLT, Int.reduceToNat]; first | done | rfl) hlp (by omega)) ?_
  rintro r h' ⟨rfl, rfl⟩
  repeat' (first | simp -implicitDefEqProofs (maxSteps := 2000000) only [tp, hlp, hp1, hpb, tb, hlb, hx, x1, x2, x3, bl_scal, wk, act, asV, ↓reduceIte, Nat.reduceEqDiff, reduceCtorEq, Nat.reduceAdd, Nat.reduceLeDiff, Nat.reduceSub, Nat.reduceMul, List.reduceReplicate, Int.reduceEq, Int.reduceLT, Int.reduceLE, Int.reduceAdd, Int.reduceSub, Int.reduceMul, Nat.reduceLT, Int.reduceToNat] | ((first | ((with_reducible refine CallL.gate ?_); apply CallL.of) | ((with_reducible refine CallP.gate ?_); apply CallP.of)); (case h1 => (simp -implicitDefEqProofs (maxSteps := 2000000) only [tp, hlp, hp1, hpb, tb, hlb, hx, x1, x2, x3, bl_scal, wk, act, asV, ↓reduceIte, Nat.reduceEqDiff, reduceCtorEq, Nat.reduceAdd, Nat.reduceLeDiff, Nat.reduceSub, Nat.reduceMul, List.reduceReplicate, Int.reduceEq, Int.reduceLT, Int.reduceLE, Int.reduceAdd, Int.reduceSub, Int.reduceMul, Nat.reduceLT, Int.reduceToNat]; first | done | (with_reducible rfl))); (case h2 => (first | exact cs)); (case h3 => simp -implicitDefEqProofs (maxSteps := 2000000) only [tp, hlp, hp1, hpb, tb, hlb, hx, x1, x2, x3, bl_scal, wk, act, asV, ↓reduceIte, Nat.reduceEqDiff, reduceCtorEq, Nat.reduceAdd, Nat.reduceLeDiff, Nat.reduceSub, Nat.reduceMul, List.reduceReplicate, Int.reduceEq, Int.reduceLT, Int.reduceLE, Int.reduceAdd, Int.reduceSub, Int.reduceMul, Nat.reduceLT, Int.reduceToNat])))
end Go.Proofs.Ytkphojcmjffccaa

/-! The reference's step; whether bytes are alike. -/
set_option linter.unusedVariables false
set_option linter.unusedSimpArgs false
set_option linter.unusedSectionVars false
set_option maxRecDepth 100000
set_option maxHeartbeats 4000000
namespace Go.Proofs.Ytkphojcmjffccaa
open Go.RowKit

end Go.Proofs.Ytkphojcmjffccaa
