/- Of the queue: the reference's methods; regions of open order without effects. -/
import Derived.Test.YtilbipknodpmmaaDoorW6
import Derived.Test.YtilbipknodpmmaaDoorE31
import Derived.Test.YtilbipknodpmmaaDoorM21
set_option linter.unusedVariables false
set_option linter.unusedSimpArgs false
set_option linter.unusedSectionVars false
set_option maxRecDepth 100000
set_option maxHeartbeats 8000000
namespace Go.Proofs.YtilbipknodpmmaaDoor
open Go.RowKit

structure PInv (b n : Nat) (vv : Nat → IV) (t0 : Nat → IV) (h0 : Nat → Blk) (L : Nat → Bool) (s : St) : Prop where
  h : s.h = h0
  t : ∀ k, k < b ∨ b + n ≤ k → s.t k = t0 k
  v : ∀ i, i < n → L i = true → s.t (b + i) = vv i
theorem PInv.step {b n i d : Nat} {vv t0 : Nat → IV} {h0 : Nat → Blk} {L : Nat → Bool} {s : St} {v : IV} (hI : PInv b n vv t0 h0 L s) (hi : i < n) (hd : d = b + i) (hv : v = vv i) : PInv b n vv t0 h0 (updL L i) ⟨Go.Proofs.YtilbipknodpmmaaDoor.upd s.t d v, s.h⟩ := by
  subst hd
  refine ⟨hI.h, fun k hk => ?_, fun j hj hl => ?_⟩
  · show (if k = b + i then v else s.t k) = t0 k
    rw [if_neg (by omega)]
    exact hI.t k hk
  · show (if b + j = b + i then v else s.t (b + j)) = vv j
    by_cases hji : j = i
    · subst hji; rw [if_pos rfl]; exact hv
    · rw [if_neg (by omega)]
      refine hI.v j hj ?_
      unfold updL at hl
      rwa [if_neg hji] at hl

@[reducible] def offR : Off := ⟨5000⟩
@[reducible] def offP : Off := ⟨5006⟩
@[reducible] def offC : Off := ⟨7000⟩
theorem homR {d : Nat} : @hom offR d = 5000 + d := rfl
theorem homP {d : Nat} : @hom offP d = 5006 + d := rfl
theorem homC {d : Nat} : @hom offC d = 7000 + d := rfl
theorem own_it (x : It) (hx : x.Ok) : RC Tryd.prog 31 [.agg (itC x)] [.agg (itC x)] := by
  refine RC.of_wp c31 rfl ?_
  obtain ⟨p0, p1, p2, p3, p4, p5⟩ := itC_parts hx
  have sx := itC_scal x
  have t0 : List.take 36 (itC x) = itC x := List.take_of_length_le (by omega)
  have ld : (bl x.data).length = 32 := by rw [bl_length, hx.d]
  have td : List.take 32 (bl x.data) = bl x.data := List.take_of_length_le (by omega)
  have e : IV.int .i64 x.id :: .int .i64 x.kind :: .str x.name :: .int .i64 x.n :: bl x.data = itC x := rfl
  have xd : List.drop 32 (bl x.data) = [] := List.drop_of_length_le (by omega)
  have pl : placed [IV.int .i64 0, IV.int .i64 0, IV.str [], IV.int .i64 0, IV.int .u8 0, IV.int .u8 0, IV.int .u8 0, IV.int .u8 0, IV.int .u8 0, IV.int .u8 0, IV.int .u8 0, IV.int .u8 0, IV.int .u8 0, IV.int .u8 0, IV.int .u8 0, IV.int .u8 0, IV.int .u8 0, IV.int .u8 0, IV.int .u8 0, IV.int .u8 0, IV.int .u8 0, IV.int .u8 0, IV.int .u8 0, IV.int .u8 0, IV.int .u8 0, IV.int .u8 0, IV.int .u8 0, IV.int .u8 0, IV.int .u8 0, IV.int .u8 0, IV.int .u8 0, IV.int .u8 0, IV.int .u8 0, IV.int .u8 0, IV.int .u8 0, IV.int .u8 0] [(0, [.int .i64 x.id]), (1, [.int .i64 x.kind]), (2, [.str x.name]), (3, [.int .i64 x.n]), (4, bl x.data)] = some (itC x) := by
    have e0 : ([IV.int .i64 0, IV.int .i64 0, IV.str [], IV.int .i64 0, IV.int .u8 0, IV.int .u8 0, IV.int .u8 0, IV.int .u8 0, IV.int .u8 0, IV.int .u8 0, IV.int .u8 0, IV.int .u8 0, IV.int .u8 0, IV.int .u8 0, IV.int .u8 0, IV.int .u8 0, IV.int .u8 0, IV.int .u8 0, IV.int .u8 0, IV.int .u8 0, IV.int .u8 0, IV.int .u8 0, IV.int .u8 0, IV.int .u8 0, IV.int .u8 0, IV.int .u8 0, IV.int .u8 0, IV.int .u8 0, IV.int .u8 0, IV.int .u8 0, IV.int .u8 0, IV.int .u8 0, IV.int .u8 0, IV.int .u8 0, IV.int .u8 0, IV.int .u8 0] : List IV) = IV.int .i64 0 :: .int .i64 0 :: .str [] :: .int .i64 0 :: bl (zs 32) := rfl
    have l32 : (bl (zs 32)).length = 32 := rfl
    rw [e0]
    simp only [placed, List.length_cons, List.length_nil, List.take_succ_cons, List.take_zero, List.drop_succ_cons, List.drop_zero, List.nil_append, List.cons_append, l32, Nat.reduceAdd, Nat.reduceLeDiff, if_true, ld]
    rw [← e]
    simp [l32, List.drop_eq_nil_of_le]
  simp -implicitDefEqProofs (maxSteps := 2000000) only [m31_1, m31_r, m31_b, m31, p0, p1, p2, p3, p4, p5, sx, t0, ld, td, pl, wk, act, asV, ↓reduceIte, Nat.reduceEqDiff, reduceCtorEq, Nat.reduceAdd, Nat.reduceLeDiff, Nat.reduceSub, Nat.reduceMul, List.reduceReplicate, Int.reduceEq, Int.reduceLT, Int.reduceLE, Int.reduceAdd, Int.reduceSub, Int.reduceMul, Nat.reduceLT, Int.reduceToNat]
theorem radd_ok {h hv : Nat} {H : Nat → Blk} {xs ys : List It} {w : IV} (hh : h < 1000) (hx : ∀ x ∈ xs, x.Ok) (h4 : xs.length ≤ 4) (hy : ∀ x ∈ ys, x.Ok) (hn : ys.length < 2 ^ 20) (hw : ArgQ H w ys) (ho : ObjQ h hv 5022 H xs) :
    IC Tryd.prog 33 H [.ptr h 0 hv, w] (fun r h' => r = [.int .i64 (qE xs ys)] ∧ ObjQ h hv 5022 h' (qL xs ys) ∧ ∀ y, y ≠ h → (y < 5000 ∨ 6000 ≤ y) → h' y = H y) := by
  refine @IC.of_wp offR Tryd.prog 33 m33 m33 c33 H [.ptr h 0 hv, w] _ rfl ?_
  have hr : ObjQ h hv 5022 H xs := ho
  obtain ⟨v, hH, hheld⟩ := ho
  have n3 : ¬ (h = 5022) := by omega
  have n4 : ¬ (5022 = h) := by omega
  have n7 : ¬ (h = 5020) := by omega
  have n8 : ¬ (5020 = h) := by omega
  have lx := itL_length hx
  have ly := itL_length hy
  have ty := itL_take ys hy
  have hsum : IntKind.i64.wrap ((xs.length : Int) + (ys.length : Int)) = ((xs.length + ys.length : Nat) : Int) := by rw [IntKind.wrap_i64]; omega
  rcases hw with ⟨f, rfl⟩ | ⟨y, vy, rw', hy1, rfl, hyb⟩
  · by_cases hlt : 4 < xs.length + ys.length
    · have e1 : qE xs ys = 19 := if_pos hlt
      have e2 : qL xs ys = xs := if_pos hlt
      have hlt' : (4 : Int) < ((xs.length + ys.length : Nat) : Int) := by omega
      rw [e1, e2]
      rcases hheld with ⟨rfl, rfl⟩ | ⟨off, ver, cs, rfl, hx', hcs, hoff⟩
      · have hs0 : IntKind.i64.wrap (0 + (ys.length : Int)) = ((ys.length : Nat) : Int) := by rw [IntKind.wrap_i64]; omega
        have hs1 : IntKind.i64.wrap ((ys.length : Nat) : Int) = ((ys.length : Nat) : Int) := by rw [IntKind.wrap_i64]; omega
        have hlt3 : (4 : Int) < ys.length := by simpa using hlt'
        simp -implicitDefEqProofs (maxSteps := 2000000) only [m33_1, m33_2, m33_3, m33_r, m33_b, m33, homR, hH, hs0, hs1, hlt3, Int.zero_add, wk, act, asV, ↓reduceIte, Nat.reduceEqDiff, reduceCtorEq, Nat.reduceAdd, Nat.reduceLeDiff, Nat.reduceSub, Nat.reduceMul, List.reduceReplicate, Int.reduceEq, Int.reduceLT, Int.reduceLE, Int.reduceAdd, Int.reduceSub, Int.reduceMul, Nat.reduceLT, Int.reduceToNat]
        exact PostI.mk (by simp -implicitDefEqProofs (maxSteps := 2000000) only [wk, act, asV, ↓reduceIte, Nat.reduceEqDiff, reduceCtorEq, Nat.reduceAdd, Nat.reduceLeDiff, Nat.reduceSub, Nat.reduceMul, List.reduceReplicate, Int.reduceEq, Int.reduceLT, Int.reduceLE, Int.reduceAdd, Int.reduceSub, Int.reduceMul, Nat.reduceLT, Int.reduceToNat]; first | done | (with_reducible rfl)) ⟨by rfl, hr, fun y y1 y2 => by simp -implicitDefEqProofs (maxSteps := 2000000) only [wk, act, asV, ↓reduceIte, Nat.reduceEqDiff, reduceCtorEq, Nat.reduceAdd, Nat.reduceLeDiff, Nat.reduceSub, Nat.reduceMul, List.reduceReplicate, Int.reduceEq, Int.reduceLT, Int.reduceLE, Int.reduceAdd, Int.reduceSub, Int.reduceMul, Nat.reduceLT, Int.reduceToNat]⟩
      · simp -implicitDefEqProofs (maxSteps := 2000000) only [m33_1, m33_2, m33_3, m33_r, m33_b, m33, homR, hH, hx', n3, n4, n7, n8, hsum, hlt', wk, act, asV, ↓reduceIte, Nat.reduceEqDiff, reduceCtorEq, Nat.reduceAdd, Nat.reduceLeDiff, Nat.reduceSub, Nat.reduceMul, List.reduceReplicate, Int.reduceEq, Int.reduceLT, Int.reduceLE, Int.reduceAdd, Int.reduceSub, Int.reduceMul, Nat.reduceLT, Int.reduceToNat]
        exact PostI.mk (by simp -implicitDefEqProofs (maxSteps := 2000000) only [wk, act, asV, ↓reduceIte, Nat.reduceEqDiff, reduceCtorEq, Nat.reduceAdd, Nat.reduceLeDiff, Nat.reduceSub, Nat.reduceMul, List.reduceReplicate, Int.reduceEq, Int.reduceLT, Int.reduceLE, Int.reduceAdd, Int.reduceSub, Int.reduceMul, Nat.reduceLT, Int.reduceToNat]; first | done | (with_reducible rfl)) ⟨by rfl, hr, fun y y1 y2 => by simp -implicitDefEqProofs (maxSteps := 2000000) only [wk, act, asV, ↓reduceIte, Nat.reduceEqDiff, reduceCtorEq, Nat.reduceAdd, Nat.reduceLeDiff, Nat.reduceSub, Nat.reduceMul, List.reduceReplicate, Int.reduceEq, Int.reduceLT, Int.reduceLE, Int.reduceAdd, Int.reduceSub, Int.reduceMul, Nat.reduceLT, Int.reduceToNat]⟩
    · have e1 : qE xs ys = 0 := if_neg hlt
      have e2 : qL xs ys = xs ++ ys := if_neg hlt
      have hlt' : ¬ (4 : Int) < ((xs.length + ys.length : Nat) : Int) := by omega
      have hroom : roomy (xs.length + ys.length) 72 = true := roomy72 (by omega)
      have hroom1 : roomy xs.length 72 = true := roomy72 (by omega)
      have r0 : roomy 0 72 = true := by decide
      rw [e1, e2]
      rcases hheld with ⟨rfl, rfl⟩ | ⟨off, ver, cs, rfl, hx', hcs, hoff⟩
      · have hs0 : IntKind.i64.wrap (0 + (ys.length : Int)) = ((ys.length : Nat) : Int) := by rw [IntKind.wrap_i64]; omega
        have hs1 : IntKind.i64.wrap ((ys.length : Nat) : Int) = ((ys.length : Nat) : Int) := by rw [IntKind.wrap_i64]; omega
        have hlt3 : ¬ (4 : Int) < ys.length := by simpa using hlt'
        have hroom2 : roomy ys.length 72 = true := by simpa using hroom
        simp -implicitDefEqProofs (maxSteps := 2000000) only [m33_1, m33_2, m33_3, m33_r, m33_b, m33, homR, hH, n3, n4, n7, n8, hs0, hs1, hlt3, hroom2, r0, lx, ly, ty, Int.zero_add, wk, act, asV, ↓reduceIte, Nat.reduceEqDiff, reduceCtorEq, Nat.reduceAdd, Nat.reduceLeDiff, Nat.reduceSub, Nat.reduceMul, List.reduceReplicate, Int.reduceEq, Int.reduceLT, Int.reduceLE, Int.reduceAdd, Int.reduceSub, Int.reduceMul, Nat.reduceLT, Int.reduceToNat]
        exact PostI.mk (by simp -implicitDefEqProofs (maxSteps := 2000000) only [wk, act, asV, ↓reduceIte, Nat.reduceEqDiff, reduceCtorEq, Nat.reduceAdd, Nat.reduceLeDiff, Nat.reduceSub, Nat.reduceMul, List.reduceReplicate, Int.reduceEq, Int.reduceLT, Int.reduceLE, Int.reduceAdd, Int.reduceSub, Int.reduceMul, Nat.reduceLT, Int.reduceToNat]; first | done | (with_reducible rfl)) ⟨by rfl, ⟨_, by simp -implicitDefEqProofs (maxSteps := 2000000) only [n3, n4, n7, n8, wk, act, asV, ↓reduceIte, Nat.reduceEqDiff, reduceCtorEq, Nat.reduceAdd, Nat.reduceLeDiff, Nat.reduceSub, Nat.reduceMul, List.reduceReplicate, Int.reduceEq, Int.reduceLT, Int.reduceLE, Int.reduceAdd, Int.reduceSub, Int.reduceMul, Nat.reduceLT, Int.reduceToNat]; first | done | rfl, .inr ⟨0, _, itL ([] ++ ys), by rfl, by simp -implicitDefEqProofs (maxSteps := 2000000) only [n3, n4, n7, n8, wk, act, asV, ↓reduceIte, Nat.reduceEqDiff, reduceCtorEq, Nat.reduceAdd, Nat.reduceLeDiff, Nat.reduceSub, Nat.reduceMul, List.reduceReplicate, Int.reduceEq, Int.reduceLT, Int.reduceLE, Int.reduceAdd, Int.reduceSub, Int.reduceMul, Nat.reduceLT, Int.reduceToNat]; first | done | rfl, rfl, by rw [List.nil_append, ly]; omega⟩⟩, fun y y1 y2 => by
          have y3 : ∀ k, 5000 ≤ k → k < 6000 → (y = k) = False := fun k _ _ => by simp; omega
          simp -implicitDefEqProofs (maxSteps := 2000000) only [y1, y3, wk, act, asV, ↓reduceIte, Nat.reduceEqDiff, reduceCtorEq, Nat.reduceAdd, Nat.reduceLeDiff, Nat.reduceSub, Nat.reduceMul, List.reduceReplicate, Int.reduceEq, Int.reduceLT, Int.reduceLE, Int.reduceAdd, Int.reduceSub, Int.reduceMul, Nat.reduceLT, Int.reduceToNat]⟩
      · have tc : List.take (xs.length * 36) (List.drop off cs) = itL xs := by rw [hcs]; exact itL_take xs hx
        have hcc : itL xs ++ itL ys = itL (xs ++ ys) := by rw [itL_append]
        simp -implicitDefEqProofs (maxSteps := 2000000) only [m33_1, m33_2, m33_3, m33_r, m33_b, m33, homR, hH, hx', n3, n4, n7, n8, hsum, hlt', hroom, hroom1, tc, hcc, lx, ly, ty, wk, act, asV, ↓reduceIte, Nat.reduceEqDiff, reduceCtorEq, Nat.reduceAdd, Nat.reduceLeDiff, Nat.reduceSub, Nat.reduceMul, List.reduceReplicate, Int.reduceEq, Int.reduceLT, Int.reduceLE, Int.reduceAdd, Int.reduceSub, Int.reduceMul, Nat.reduceLT, Int.reduceToNat]
        exact PostI.mk (by simp -implicitDefEqProofs (maxSteps := 2000000) only [wk, act, asV, ↓reduceIte, Nat.reduceEqDiff, reduceCtorEq, Nat.reduceAdd, Nat.reduceLeDiff, Nat.reduceSub, Nat.reduceMul, List.reduceReplicate, Int.reduceEq, Int.reduceLT, Int.reduceLE, Int.reduceAdd, Int.reduceSub, Int.reduceMul, Nat.reduceLT, Int.reduceToNat]; first | done | (with_reducible rfl)) ⟨by rfl, ⟨_, by simp -implicitDefEqProofs (maxSteps := 2000000) only [n3, n4, n7, n8, wk, act, asV, ↓reduceIte, Nat.reduceEqDiff, reduceCtorEq, Nat.reduceAdd, Nat.reduceLeDiff, Nat.reduceSub, Nat.reduceMul, List.reduceReplicate, Int.reduceEq, Int.reduceLT, Int.reduceLE, Int.reduceAdd, Int.reduceSub, Int.reduceMul, Nat.reduceLT, Int.reduceToNat]; first | done | rfl, .inr ⟨0, _, itL (xs ++ ys), by rw [List.length_append], by simp -implicitDefEqProofs (maxSteps := 2000000) only [n3, n4, n7, n8, wk, act, asV, ↓reduceIte, Nat.reduceEqDiff, reduceCtorEq, Nat.reduceAdd, Nat.reduceLeDiff, Nat.reduceSub, Nat.reduceMul, List.reduceReplicate, Int.reduceEq, Int.reduceLT, Int.reduceLE, Int.reduceAdd, Int.reduceSub, Int.reduceMul, Nat.reduceLT, Int.reduceToNat]; first | done | rfl, rfl, by rw [itL_append, List.length_append, List.length_append, lx, ly]; omega⟩⟩, fun y y1 y2 => by
          have y3 : ∀ k, 5000 ≤ k → k < 6000 → (y = k) = False := fun k _ _ => by simp; omega
          simp -implicitDefEqProofs (maxSteps := 2000000) only [y1, y3, wk, act, asV, ↓reduceIte, Nat.reduceEqDiff, reduceCtorEq, Nat.reduceAdd, Nat.reduceLeDiff, Nat.reduceSub, Nat.reduceMul, List.reduceReplicate, Int.reduceEq, Int.reduceLT, Int.reduceLE, Int.reduceAdd, Int.reduceSub, Int.reduceMul, Nat.reduceLT, Int.reduceToNat]⟩
  · have n5 : ¬ (y = 5022) := by omega
    have n6 : ¬ (5022 = y) := by omega
    have n9 : ¬ (y = 5020) := by omega
    have n10 : ¬ (5020 = y) := by omega
    by_cases hlt : 4 < xs.length + ys.length
    · have e1 : qE xs ys = 19 := if_pos hlt
      have e2 : qL xs ys = xs := if_pos hlt
      have hlt' : (4 : Int) < ((xs.length + ys.length : Nat) : Int) := by omega
      rw [e1, e2]
      rcases hheld with ⟨rfl, rfl⟩ | ⟨off, ver, cs, rfl, hx', hcs, hoff⟩
      · have hs0 : IntKind.i64.wrap (0 + (ys.length : Int)) = ((ys.length : Nat) : Int) := by rw [IntKind.wrap_i64]; omega
        have hs1 : IntKind.i64.wrap ((ys.length : Nat) : Int) = ((ys.length : Nat) : Int) := by rw [IntKind.wrap_i64]; omega
        have hlt3 : (4 : Int) < ys.length := by simpa using hlt'
        simp -implicitDefEqProofs (maxSteps := 2000000) only [m33_1, m33_2, m33_3, m33_r, m33_b, m33, homR, hH, hyb, hs0, hs1, hlt3, Int.zero_add, wk, act, asV, ↓reduceIte, Nat.reduceEqDiff, reduceCtorEq, Nat.reduceAdd, Nat.reduceLeDiff, Nat.reduceSub, Nat.reduceMul, List.reduceReplicate, Int.reduceEq, Int.reduceLT, Int.reduceLE, Int.reduceAdd, Int.reduceSub, Int.reduceMul, Nat.reduceLT, Int.reduceToNat]
        exact PostI.mk (by simp -implicitDefEqProofs (maxSteps := 2000000) only [wk, act, asV, ↓reduceIte, Nat.reduceEqDiff, reduceCtorEq, Nat.reduceAdd, Nat.reduceLeDiff, Nat.reduceSub, Nat.reduceMul, List.reduceReplicate, Int.reduceEq, Int.reduceLT, Int.reduceLE, Int.reduceAdd, Int.reduceSub, Int.reduceMul, Nat.reduceLT, Int.reduceToNat]; first | done | (with_reducible rfl)) ⟨by rfl, hr, fun y y1 y2 => by simp -implicitDefEqProofs (maxSteps := 2000000) only [wk, act, asV, ↓reduceIte, Nat.reduceEqDiff, reduceCtorEq, Nat.reduceAdd, Nat.reduceLeDiff, Nat.reduceSub, Nat.reduceMul, List.reduceReplicate, Int.reduceEq, Int.reduceLT, Int.reduceLE, Int.reduceAdd, Int.reduceSub, Int.reduceMul, Nat.reduceLT, Int.reduceToNat]⟩
      · simp -implicitDefEqProofs (maxSteps := 2000000) only [m33_1, m33_2, m33_3, m33_r, m33_b, m33, homR, hH, hx', hyb, n3, n4, n7, n8, n5, n6, n9, n10, hsum, hlt', wk, act, asV, ↓reduceIte, Nat.reduceEqDiff, reduceCtorEq, Nat.reduceAdd, Nat.reduceLeDiff, Nat.reduceSub, Nat.reduceMul, List.reduceReplicate, Int.reduceEq, Int.reduceLT, Int.reduceLE, Int.reduceAdd, Int.reduceSub, Int.reduceMul, Nat.reduceLT, Int.reduceToNat]
        exact PostI.mk (by simp -implicitDefEqProofs (maxSteps := 2000000) only [wk, act, asV, ↓reduceIte, Nat.reduceEqDiff, reduceCtorEq, Nat.reduceAdd, Nat.reduceLeDiff, Nat.reduceSub, Nat.reduceMul, List.reduceReplicate, Int.reduceEq, Int.reduceLT, Int.reduceLE, Int.reduceAdd, Int.reduceSub, Int.reduceMul, Nat.reduceLT, Int.reduceToNat]; first | done | (with_reducible rfl)) ⟨by rfl, hr, fun y y1 y2 => by simp -implicitDefEqProofs (maxSteps := 2000000) only [wk, act, asV, ↓reduceIte, Nat.reduceEqDiff, reduceCtorEq, Nat.reduceAdd, Nat.reduceLeDiff, Nat.reduceSub, Nat.reduceMul, List.reduceReplicate, Int.reduceEq, Int.reduceLT, Int.reduceLE, Int.reduceAdd, Int.reduceSub, Int.reduceMul, Nat.reduceLT, Int.reduceToNat]⟩
    · have e1 : qE xs ys = 0 := if_neg hlt
      have e2 : qL xs ys = xs ++ ys := if_neg hlt
      have hlt' : ¬ (4 : Int) < ((xs.length + ys.length : Nat) : Int) := by omega
      have hroom : roomy (xs.length + ys.length) 72 = true := roomy72 (by omega)
      have hroom1 : roomy xs.length 72 = true := roomy72 (by omega)
      have r0 : roomy 0 72 = true := by decide
      rw [e1, e2]
      rcases hheld with ⟨rfl, rfl⟩ | ⟨off, ver, cs, rfl, hx', hcs, hoff⟩
      · have hs0 : IntKind.i64.wrap (0 + (ys.length : Int)) = ((ys.length : Nat) : Int) := by rw [IntKind.wrap_i64]; omega
        have hs1 : IntKind.i64.wrap ((ys.length : Nat) : Int) = ((ys.length : Nat) : Int) := by rw [IntKind.wrap_i64]; omega
        have hlt3 : ¬ (4 : Int) < ys.length := by simpa using hlt'
        have hroom2 : roomy ys.length 72 = true := by simpa using hroom
        simp -implicitDefEqProofs (maxSteps := 2000000) only [m33_1, m33_2, m33_3, m33_r, m33_b, m33, homR, hH, hyb, n3, n4, n7, n8, n5, n6, n9, n10, hs0, hs1, hlt3, hroom2, r0, lx, ly, ty, Int.zero_add, wk, act, asV, ↓reduceIte, Nat.reduceEqDiff, reduceCtorEq, Nat.reduceAdd, Nat.reduceLeDiff, Nat.reduceSub, Nat.reduceMul, List.reduceReplicate, Int.reduceEq, Int.reduceLT, Int.reduceLE, Int.reduceAdd, Int.reduceSub, Int.reduceMul, Nat.reduceLT, Int.reduceToNat]
        exact PostI.mk (by simp -implicitDefEqProofs (maxSteps := 2000000) only [wk, act, asV, ↓reduceIte, Nat.reduceEqDiff, reduceCtorEq, Nat.reduceAdd, Nat.reduceLeDiff, Nat.reduceSub, Nat.reduceMul, List.reduceReplicate, Int.reduceEq, Int.reduceLT, Int.reduceLE, Int.reduceAdd, Int.reduceSub, Int.reduceMul, Nat.reduceLT, Int.reduceToNat]; first | done | (with_reducible rfl)) ⟨by rfl, ⟨_, by simp -implicitDefEqProofs (maxSteps := 2000000) only [n3, n4, n7, n8, n5, n6, n9, n10, wk, act, asV, ↓reduceIte, Nat.reduceEqDiff, reduceCtorEq, Nat.reduceAdd, Nat.reduceLeDiff, Nat.reduceSub, Nat.reduceMul, List.reduceReplicate, Int.reduceEq, Int.reduceLT, Int.reduceLE, Int.reduceAdd, Int.reduceSub, Int.reduceMul, Nat.reduceLT, Int.reduceToNat]; first | done | rfl, .inr ⟨0, _, itL ([] ++ ys), by rfl, by simp -implicitDefEqProofs (maxSteps := 2000000) only [n3, n4, n7, n8, n5, n6, n9, n10, wk, act, asV, ↓reduceIte, Nat.reduceEqDiff, reduceCtorEq, Nat.reduceAdd, Nat.reduceLeDiff, Nat.reduceSub, Nat.reduceMul, List.reduceReplicate, Int.reduceEq, Int.reduceLT, Int.reduceLE, Int.reduceAdd, Int.reduceSub, Int.reduceMul, Nat.reduceLT, Int.reduceToNat]; first | done | rfl, rfl, by rw [List.nil_append, ly]; omega⟩⟩, fun y y1 y2 => by
          have y3 : ∀ k, 5000 ≤ k → k < 6000 → (y = k) = False := fun k _ _ => by simp; omega
          simp -implicitDefEqProofs (maxSteps := 2000000) only [y1, y3, wk, act, asV, ↓reduceIte, Nat.reduceEqDiff, reduceCtorEq, Nat.reduceAdd, Nat.reduceLeDiff, Nat.reduceSub, Nat.reduceMul, List.reduceReplicate, Int.reduceEq, Int.reduceLT, Int.reduceLE, Int.reduceAdd, Int.reduceSub, Int.reduceMul, Nat.reduceLT, Int.reduceToNat]⟩
      · have tc : List.take (xs.length * 36) (List.drop off cs) = itL xs := by rw [hcs]; exact itL_take xs hx
        have hcc : itL xs ++ itL ys = itL (xs ++ ys) := by rw [itL_append]
        simp -implicitDefEqProofs (maxSteps := 2000000) only [m33_1, m33_2, m33_3, m33_r, m33_b, m33, homR, hH, hx', hyb, n3, n4, n7, n8, n5, n6, n9, n10, hsum, hlt', hroom, hroom1, tc, hcc, lx, ly, ty, wk, act, asV, ↓reduceIte, Nat.reduceEqDiff, reduceCtorEq, Nat.reduceAdd, Nat.reduceLeDiff, Nat.reduceSub, Nat.reduceMul, List.reduceReplicate, Int.reduceEq, Int.reduceLT, Int.reduceLE, Int.reduceAdd, Int.reduceSub, Int.reduceMul, Nat.reduceLT, Int.reduceToNat]
        exact PostI.mk (by simp -implicitDefEqProofs (maxSteps := 2000000) only [wk, act, asV, ↓reduceIte, Nat.reduceEqDiff, reduceCtorEq, Nat.reduceAdd, Nat.reduceLeDiff, Nat.reduceSub, Nat.reduceMul, List.reduceReplicate, Int.reduceEq, Int.reduceLT, Int.reduceLE, Int.reduceAdd, Int.reduceSub, Int.reduceMul, Nat.reduceLT, Int.reduceToNat]; first | done | (with_reducible rfl)) ⟨by rfl, ⟨_, by simp -implicitDefEqProofs (maxSteps := 2000000) only [n3, n4, n7, n8, n5, n6, n9, n10, wk, act, asV, ↓reduceIte, Nat.reduceEqDiff, reduceCtorEq, Nat.reduceAdd, Nat.reduceLeDiff, Nat.reduceSub, Nat.reduceMul, List.reduceReplicate, Int.reduceEq, Int.reduceLT, Int.reduceLE, Int.reduceAdd, Int.reduceSub, Int.reduceMul, Nat.reduceLT, Int.reduceToNat]; first | done | rfl, .inr ⟨0, _, itL (xs ++ ys), by rw [List.length_append], by simp -implicitDefEqProofs (maxSteps := 2000000) only [n3, n4, n7, n8, n5, n6, n9, n10, wk, act, asV, ↓reduceIte, Nat.reduceEqDiff, reduceCtorEq, Nat.reduceAdd, Nat.reduceLeDiff, Nat.reduceSub, Nat.reduceMul, List.reduceReplicate, Int.reduceEq, Int.reduceLT, Int.reduceLE, Int.reduceAdd, Int.reduceSub, Int.reduceMul, Nat.reduceLT, Int.reduceToNat]; first | done | rfl, rfl, by rw [itL_append, List.length_append, List.length_append, lx, ly]; omega⟩⟩, fun y y1 y2 => by
          have y3 : ∀ k, 5000 ≤ k → k < 6000 → (y = k) = False := fun k _ _ => by simp; omega
          simp -implicitDefEqProofs (maxSteps := 2000000) only [y1, y3, wk, act, asV, ↓reduceIte, Nat.reduceEqDiff, reduceCtorEq, Nat.reduceAdd, Nat.reduceLeDiff, Nat.reduceSub, Nat.reduceMul, List.reduceReplicate, Int.reduceEq, Int.reduceLT, Int.reduceLE, Int.reduceAdd, Int.reduceSub, Int.reduceMul, Nat.reduceLT, Int.reduceToNat]⟩

theorem rpop_ok {h hv : Nat} {H : Nat → Blk} {xs : List It} (hh : h < 1000) (hx : ∀ x ∈ xs, x.Ok) (hn : xs.length ≤ 2 ^ 29) (ho : ObjQ h hv 5022 H xs) :
    IC Tryd.prog 35 H [.ptr h 0 hv] (fun r h' => r = [.bool (!xs.isEmpty)] ∧ ObjQ h hv 5022 h' xs.tail ∧ ∀ y, y ≠ h → (y < 5000 ∨ 6000 ≤ y) → h' y = H y) := by
  refine @IC.of_wp offP Tryd.prog 35 m35 m35 c35 H [.ptr h 0 hv] _ rfl ?_
  have hr : ObjQ h hv 5022 H xs := ho
  obtain ⟨v, hH, hheld⟩ := ho
  have n3 : ¬ (h = 5022) := by omega
  have n4 : ¬ (5022 = h) := by omega
  cases xs with
  | nil =>
    rcases hheld with ⟨_, rfl⟩ | ⟨off, ver, cs, rfl, hx', hcs, hoff⟩
    · simp -implicitDefEqProofs (maxSteps := 2000000) only [m35_1, m35_2, m35_3, m35_r, m35_b, m35, homP, hH, wk, act, asV, ↓reduceIte, Nat.reduceEqDiff, reduceCtorEq, Nat.reduceAdd, Nat.reduceLeDiff, Nat.reduceSub, Nat.reduceMul, List.reduceReplicate, Int.reduceEq, Int.reduceLT, Int.reduceLE, Int.reduceAdd, Int.reduceSub, Int.reduceMul, Nat.reduceLT, Int.reduceToNat]
      exact PostI.mk (by simp -implicitDefEqProofs (maxSteps := 2000000) only [wk, act, asV, ↓reduceIte, Nat.reduceEqDiff, reduceCtorEq, Nat.reduceAdd, Nat.reduceLeDiff, Nat.reduceSub, Nat.reduceMul, List.reduceReplicate, Int.reduceEq, Int.reduceLT, Int.reduceLE, Int.reduceAdd, Int.reduceSub, Int.reduceMul, Nat.reduceLT, Int.reduceToNat]; first | done | (with_reducible rfl)) ⟨by rfl, hr, fun y y1 y2 => by simp -implicitDefEqProofs (maxSteps := 2000000) only [wk, act, asV, ↓reduceIte, Nat.reduceEqDiff, reduceCtorEq, Nat.reduceAdd, Nat.reduceLeDiff, Nat.reduceSub, Nat.reduceMul, List.reduceReplicate, Int.reduceEq, Int.reduceLT, Int.reduceLE, Int.reduceAdd, Int.reduceSub, Int.reduceMul, Nat.reduceLT, Int.reduceToNat]⟩
    · simp -implicitDefEqProofs (maxSteps := 2000000) only [m35_1, m35_2, m35_3, m35_r, m35_b, m35, homP, hH, hx', n3, n4, List.length_nil, Int.natCast_zero, wk, act, asV, ↓reduceIte, Nat.reduceEqDiff, reduceCtorEq, Nat.reduceAdd, Nat.reduceLeDiff, Nat.reduceSub, Nat.reduceMul, List.reduceReplicate, Int.reduceEq, Int.reduceLT, Int.reduceLE, Int.reduceAdd, Int.reduceSub, Int.reduceMul, Nat.reduceLT, Int.reduceToNat]
      exact PostI.mk (by simp -implicitDefEqProofs (maxSteps := 2000000) only [wk, act, asV, ↓reduceIte, Nat.reduceEqDiff, reduceCtorEq, Nat.reduceAdd, Nat.reduceLeDiff, Nat.reduceSub, Nat.reduceMul, List.reduceReplicate, Int.reduceEq, Int.reduceLT, Int.reduceLE, Int.reduceAdd, Int.reduceSub, Int.reduceMul, Nat.reduceLT, Int.reduceToNat]; first | done | (with_reducible rfl)) ⟨by rfl, hr, fun y y1 y2 => by simp -implicitDefEqProofs (maxSteps := 2000000) only [wk, act, asV, ↓reduceIte, Nat.reduceEqDiff, reduceCtorEq, Nat.reduceAdd, Nat.reduceLeDiff, Nat.reduceSub, Nat.reduceMul, List.reduceReplicate, Int.reduceEq, Int.reduceLT, Int.reduceLE, Int.reduceAdd, Int.reduceSub, Int.reduceMul, Nat.reduceLT, Int.reduceToNat]⟩
  | cons a t =>
    rcases hheld with ⟨hn, _⟩ | ⟨off, ver, cs, rfl, hx', hcs, hoff⟩
    · cases hn
    have p1 : ¬ ((t.length + 1 : Nat) : Int) = 0 := by omega
    have p3 : 1 ≤ t.length + 1 := by omega
    have ha := itC_length (hx a (by simp))
    have hxt : ∀ x ∈ t, x.Ok := fun x h => hx x (by simp [h])
    have hcs2 : List.drop (off + 36) cs = itL t := by
      rw [← List.drop_drop, hcs]
      simp only [itL, List.flatMap_cons]
      rw [← ha, List.drop_left]
    have tc : List.take (t.length * 36) (List.drop (off + 36) cs) = itL t := by rw [hcs2]; exact itL_take t hxt
    have lt := itL_length hxt
    have r1 : roomy t.length 72 = true := roomy72 (by simp at hn; omega)
    simp -implicitDefEqProofs (maxSteps := 2000000) only [m35_1, m35_2, m35_3, m35_r, m35_b, m35, homP, hH, hx', n3, n4, p1, p3, tc, r1, List.length_cons, Nat.add_sub_cancel, Int.toNat_one, wk, act, asV, ↓reduceIte, Nat.reduceEqDiff, reduceCtorEq, Nat.reduceAdd, Nat.reduceLeDiff, Nat.reduceSub, Nat.reduceMul, List.reduceReplicate, Int.reduceEq, Int.reduceLT, Int.reduceLE, Int.reduceAdd, Int.reduceSub, Int.reduceMul, Nat.reduceLT, Int.reduceToNat]
    exact PostI.mk (by simp -implicitDefEqProofs (maxSteps := 2000000) only [wk, act, asV, ↓reduceIte, Nat.reduceEqDiff, reduceCtorEq, Nat.reduceAdd, Nat.reduceLeDiff, Nat.reduceSub, Nat.reduceMul, List.reduceReplicate, Int.reduceEq, Int.reduceLT, Int.reduceLE, Int.reduceAdd, Int.reduceSub, Int.reduceMul, Nat.reduceLT, Int.reduceToNat]; first | done | (with_reducible rfl)) ⟨by rfl, ⟨_, by simp -implicitDefEqProofs (maxSteps := 2000000) only [n3, n4, wk, act, asV, ↓reduceIte, Nat.reduceEqDiff, reduceCtorEq, Nat.reduceAdd, Nat.reduceLeDiff, Nat.reduceSub, Nat.reduceMul, List.reduceReplicate, Int.reduceEq, Int.reduceLT, Int.reduceLE, Int.reduceAdd, Int.reduceSub, Int.reduceMul, Nat.reduceLT, Int.reduceToNat]; first | done | rfl, .inr ⟨0, _, itL t, by rfl, by simp -implicitDefEqProofs (maxSteps := 2000000) only [n3, n4, wk, act, asV, ↓reduceIte, Nat.reduceEqDiff, reduceCtorEq, Nat.reduceAdd, Nat.reduceLeDiff, Nat.reduceSub, Nat.reduceMul, List.reduceReplicate, Int.reduceEq, Int.reduceLT, Int.reduceLE, Int.reduceAdd, Int.reduceSub, Int.reduceMul, Nat.reduceLT, Int.reduceToNat]; first | done | rfl, rfl, by rw [lt]; simp⟩⟩, fun y y1 y2 => by
      have y3 : ∀ k, 5000 ≤ k → k < 6000 → (y = k) = False := fun k _ _ => by simp; omega
      simp -implicitDefEqProofs (maxSteps := 2000000) only [y1, y3, wk, act, asV, ↓reduceIte, Nat.reduceEqDiff, reduceCtorEq, Nat.reduceAdd, Nat.reduceLeDiff, Nat.reduceSub, Nat.reduceMul, List.reduceReplicate, Int.reduceEq, Int.reduceLT, Int.reduceLE, Int.reduceAdd, Int.reduceSub, Int.reduceMul, Nat.reduceLT, Int.reduceToNat]⟩
end Go.Proofs.YtilbipknodpmmaaDoor
