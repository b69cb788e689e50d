/- Of the audit: a log's last digest, and its entries. -/
import Derived.Test.YtkphojcmjffccaaW3
import Derived.Test.YtkphojcmjffccaaE31
import Derived.Test.YtkphojcmjffccaaM16
set_option linter.unusedVariables false
set_option linter.unusedSimpArgs false
set_option linter.unusedSectionVars false
set_option maxRecDepth 100000
set_option maxHeartbeats 8000000
namespace Go.Proofs.Ytkphojcmjffccaa
open Go.RowKit

@[reducible] def offA : Off := ⟨1000⟩
@[reducible] def offB : Off := ⟨2000⟩
@[reducible] def offC : Off := ⟨3000⟩
@[reducible] def offD : Off := ⟨4000⟩
@[reducible] def offE : Off := ⟨5000⟩
theorem homA {d : Nat} : @hom offA d = 1000 + d := rfl
theorem homB {d : Nat} : @hom offB d = 2000 + d := rfl
theorem homC {d : Nat} : @hom offC d = 3000 + d := rfl
theorem homD {d : Nat} : @hom offD d = 4000 + d := rfl
theorem homE {d : Nat} : @hom offE d = 5000 + d := rfl
/-- what a log's cell holds: none, or a row at home x -/
def HeldE (x : Nat) (H : Nat → Blk) (v : IV) (xs : List En) : Prop :=
  (xs = [] ∧ v = .sl .full 0 []) ∨ (0 < xs.length ∧ ∃ ver, v = .row x 0 xs.length 66 ver ∧ H x = ⟨ver, true, true, true, enL xs⟩)
def ObjE (h hv x : Nat) (H : Nat → Blk) (xs : List En) : Prop := ∃ v, H h = ⟨hv, true, true, false, [v]⟩ ∧ HeldE x H v xs
def lastE (xs : List En) : List UInt8 := match xs.getLast? with | some x => x.link | none => y32
theorem lastE_len {xs : List En} (hx : ∀ x ∈ xs, x.Ok) : (lastE xs).length = 32 := by
  unfold lastE
  split
  · rename_i x hl
    exact (hx x (List.mem_of_getLast? hl)).l
  · rfl
theorem lastE_at {xs : List En} (hx : ∀ x ∈ xs, x.Ok) (hp : 0 < xs.length) : List.take 32 (List.drop ((xs.length - 1) * 66 + 34) (enL xs)) = bl (lastE xs) ∧ (xs.length - 1) * 66 + 34 + 32 ≤ (enL xs).length := by
  have hi : xs.length - 1 < xs.length := by omega
  have e := enL_drop hx hi
  have lL := enL_length hx
  have hl : xs.getLast? = some xs[xs.length - 1] := by rw [List.getLast?_eq_getElem?, List.getElem?_eq_getElem hi]
  obtain ⟨_, _, _, p4, _⟩ := en_takesA (hx _ (List.getElem_mem hi)) (List.drop ((xs.length - 1 + 1) * 66) (enL xs))
  refine ⟨?_, by omega⟩
  rw [← List.drop_drop, e, p4, lastE, hl]

theorem last_ok {h hv : Nat} {H : Nat → Blk} {xs : List En} (hh : h < 1000) (hx : ∀ x ∈ xs, x.Ok) (hn : xs.length < 2 ^ 62) (ho : ObjE h hv 1041 H xs) :
    IC Try.prog 13 H [.ptr h 0 hv] (fun r h' => r = [.agg (bl (lastE xs))] ∧ ∀ y, (y < 2000 ∨ 3000 ≤ y) → h' y = H y) := by
  refine @IC.of_wp offB Try.prog 13 m13 m13 c13 H [.ptr h 0 hv] _ rfl ?_
  obtain ⟨v, hH, hheld⟩ := ho
  have n1 : ¬ (h = 2002) := by omega
  have n2 : ¬ (2002 = h) := by omega
  have hne : ∀ k, 1000 ≤ k → (h = k) = False := fun k hk => by simp; omega
  have hne' : ∀ k, 1000 ≤ k → (k = h) = False := fun k hk => by simp; omega
  have lz := lastE_len hx
  rcases hheld with ⟨rfl, rfl⟩ | ⟨hp, ver, rfl, hrow⟩
  · have y6 := y32_cells
    have ly : (bl y32).length = 32 := rfl
    have ty : List.take 32 (bl y32) = bl y32 := rfl
    have xy : List.drop 32 (bl y32) = [] := rfl
    have e : lastE [] = y32 := rfl
    rw [e]
    simp -implicitDefEqProofs (maxSteps := 2000000) only [m13_1, m13_2, m13_3, m13_4, m13_r, m13_b, m13, homB, hH, n1, n2, y6, ly, ty, xy, placed, wk, act, asV, ↓reduceIte, Nat.reduceEqDiff, reduceCtorEq, Nat.reduceAdd, Nat.reduceLeDiff, Nat.reduceSub, Nat.reduceMul, List.reduceReplicate, Int.reduceEq, Int.reduceLT, Int.reduceLE, Int.reduceAdd, Int.reduceSub, Int.reduceMul, Nat.reduceLT, Int.reduceToNat]
    refine PostI.mk (by simp -implicitDefEqProofs (maxSteps := 2000000) only [St.raws, St.raw, hH, n1, n2, ly, ty, xy, wk, act, asV, ↓reduceIte, Nat.reduceEqDiff, reduceCtorEq, Nat.reduceAdd, Nat.reduceLeDiff, Nat.reduceSub, Nat.reduceMul, List.reduceReplicate, Int.reduceEq, Int.reduceLT, Int.reduceLE, Int.reduceAdd, Int.reduceSub, Int.reduceMul, Nat.reduceLT, Int.reduceToNat]; first | done | (with_reducible rfl)) ⟨by rfl, fun y y1 => by
      have y2 : ∀ k, 2000 ≤ k → k < 3000 → (y = k) = False := fun k _ _ => by simp; omega
      simp -implicitDefEqProofs (maxSteps := 2000000) only [y2, wk, act, asV, ↓reduceIte, Nat.reduceEqDiff, reduceCtorEq, Nat.reduceAdd, Nat.reduceLeDiff, Nat.reduceSub, Nat.reduceMul, List.reduceReplicate, Int.reduceEq, Int.reduceLT, Int.reduceLE, Int.reduceAdd, Int.reduceSub, Int.reduceMul, Nat.reduceLT, Int.reduceToNat]⟩
  · obtain ⟨l1, l2⟩ := lastE_at hx hp
    have p0 : ¬ ((xs.length : Nat) : Int) = 0 := by omega
    have w1 : IntKind.i64.wrap (((xs.length : Nat) : Int) - 1) = ((xs.length - 1 : Nat) : Int) := by rw [IntKind.wrap_i64]; omega
    have p1 : ((xs.length - 1 : Nat) : Int) < ((xs.length : Nat) : Int) := by omega
    obtain ⟨G, hG⟩ : ∃ G, G = lastE xs := ⟨_, rfl⟩
    rw [← hG] at l1 lz ⊢
    have lG : (bl G).length = 32 := by rw [bl_length, lz]
    have tG : List.take 32 (bl G) = bl G := List.take_of_length_le (by omega)
    simp -implicitDefEqProofs (maxSteps := 2000000) only [m13_1, m13_2, m13_3, m13_4, m13_r, m13_b, m13, homB, hH, hrow, n1, n2, p0, w1, p1, l1, l2, lG, tG, hne, hne', wk, act, asV, ↓reduceIte, Nat.reduceEqDiff, reduceCtorEq, Nat.reduceAdd, Nat.reduceLeDiff, Nat.reduceSub, Nat.reduceMul, List.reduceReplicate, Int.reduceEq, Int.reduceLT, Int.reduceLE, Int.reduceAdd, Int.reduceSub, Int.reduceMul, Nat.reduceLT, Int.reduceToNat]
    refine PostI.mk (by simp -implicitDefEqProofs (maxSteps := 2000000) only [St.raws, St.raw, hH, n1, n2, lG, tG, wk, act, asV, ↓reduceIte, Nat.reduceEqDiff, reduceCtorEq, Nat.reduceAdd, Nat.reduceLeDiff, Nat.reduceSub, Nat.reduceMul, List.reduceReplicate, Int.reduceEq, Int.reduceLT, Int.reduceLE, Int.reduceAdd, Int.reduceSub, Int.reduceMul, Nat.reduceLT, Int.reduceToNat]; first | done | (with_reducible rfl)) ⟨by rfl, fun y y1 => by
      have y2 : ∀ k, 2000 ≤ k → k < 3000 → (y = k) = False := fun k _ _ => by simp; omega
      simp -implicitDefEqProofs (maxSteps := 2000000) only [y2, wk, act, asV, ↓reduceIte, Nat.reduceEqDiff, reduceCtorEq, Nat.reduceAdd, Nat.reduceLeDiff, Nat.reduceSub, Nat.reduceMul, List.reduceReplicate, Int.reduceEq, Int.reduceLT, Int.reduceLE, Int.reduceAdd, Int.reduceSub, Int.reduceMul, Nat.reduceLT, Int.reduceToNat]⟩
theorem last_none {H : Nat → Blk} : IC Try.prog 13 H [.nilp] (fun r h' => r = [.agg (bl y32)] ∧ ∀ y, (y < 2000 ∨ 3000 ≤ y) → h' y = H y) := by
  refine @IC.of_wp offB Try.prog 13 m13 m13 c13 H [.nilp] _ rfl ?_
  have y6 := y32_cells
  have ly : (bl y32).length = 32 := rfl
  have ty : List.take 32 (bl y32) = bl y32 := rfl
  have xy : List.drop 32 (bl y32) = [] := rfl
  simp -implicitDefEqProofs (maxSteps := 2000000) only [m13_1, m13_2, m13_3, m13_4, m13_r, m13_b, m13, homB, y6, ly, ty, xy, placed, wk, act, asV, ↓reduceIte, Nat.reduceEqDiff, reduceCtorEq, Nat.reduceAdd, Nat.reduceLeDiff, Nat.reduceSub, Nat.reduceMul, List.reduceReplicate, Int.reduceEq, Int.reduceLT, Int.reduceLE, Int.reduceAdd, Int.reduceSub, Int.reduceMul, Nat.reduceLT, Int.reduceToNat]
  exact PostI.mk (r := [.agg (bl y32)]) (by simp -implicitDefEqProofs (maxSteps := 2000000) only [St.raws, St.raw, ly, ty, xy, wk, act, asV, ↓reduceIte, Nat.reduceEqDiff, reduceCtorEq, Nat.reduceAdd, Nat.reduceLeDiff, Nat.reduceSub, Nat.reduceMul, List.reduceReplicate, Int.reduceEq, Int.reduceLT, Int.reduceLE, Int.reduceAdd, Int.reduceSub, Int.reduceMul, Nat.reduceLT, Int.reduceToNat]) ⟨rfl, fun y y1 => by
      have y2 : ∀ k, 2000 ≤ k → k < 3000 → (y = k) = False := fun k _ _ => by simp; omega
      simp -implicitDefEqProofs (maxSteps := 2000000) only [y2, wk, act, asV, ↓reduceIte, Nat.reduceEqDiff, reduceCtorEq, Nat.reduceAdd, Nat.reduceLeDiff, Nat.reduceSub, Nat.reduceMul, List.reduceReplicate, Int.reduceEq, Int.reduceLT, Int.reduceLE, Int.reduceAdd, Int.reduceSub, Int.reduceMul, Nat.reduceLT, Int.reduceToNat]⟩
theorem entries_none {H : Nat → Blk} : IC Try.prog 19 H [.nilp] (fun r h' => r = [.sl .full 0 []] ∧ h' = H) := by
  refine @IC.of_wp offE Try.prog 19 m19 m19 c19 H [.nilp] _ rfl ?_
  simp -implicitDefEqProofs (maxSteps := 2000000) only [m19_1, m19_2, m19_3, m19_r, m19_b, m19, homE, wk, act, asV, ↓reduceIte, Nat.reduceEqDiff, reduceCtorEq, Nat.reduceAdd, Nat.reduceLeDiff, Nat.reduceSub, Nat.reduceMul, List.reduceReplicate, Int.reduceEq, Int.reduceLT, Int.reduceLE, Int.reduceAdd, Int.reduceSub, Int.reduceMul, Nat.reduceLT, Int.reduceToNat]
  refine PostI.mk (by simp -implicitDefEqProofs (maxSteps := 2000000) only [St.raws, St.raw, wk, act, asV, ↓reduceIte, Nat.reduceEqDiff, reduceCtorEq, Nat.reduceAdd, Nat.reduceLeDiff, Nat.reduceSub, Nat.reduceMul, List.reduceReplicate, Int.reduceEq, Int.reduceLT, Int.reduceLE, Int.reduceAdd, Int.reduceSub, Int.reduceMul, Nat.reduceLT, Int.reduceToNat]; first | done | (with_reducible rfl)) ⟨by rfl, by simp -implicitDefEqProofs (maxSteps := 2000000) only [wk, act, asV, ↓reduceIte, Nat.reduceEqDiff, reduceCtorEq, Nat.reduceAdd, Nat.reduceLeDiff, Nat.reduceSub, Nat.reduceMul, List.reduceReplicate, Int.reduceEq, Int.reduceLT, Int.reduceLE, Int.reduceAdd, Int.reduceSub, Int.reduceMul, Nat.reduceLT, Int.reduceToNat]⟩
theorem entries_ok {h hv : Nat} {H : Nat → Blk} {xs : List En} (hh : h < 1000) (hx : ∀ x ∈ xs, x.Ok) (hn : xs.length ≤ 2 ^ 30) (ho : ObjE h hv 1041 H xs) :
    IC Try.prog 19 H [.ptr h 0 hv] (fun r h' => ∃ ver, r = [.row 5009 0 xs.length 66 ver] ∧ h' 5009 = ⟨ver, true, true, true, enL xs⟩ ∧ ∀ y, (y < 5000 ∨ 6000 ≤ y) → h' y = H y) := by
  refine @IC.of_wp offE Try.prog 19 m19 m19 c19 H [.ptr h 0 hv] _ rfl ?_
  obtain ⟨v, hH, hheld⟩ := ho
  have n1 : ¬ (h = 5009) := by omega
  have n2 : ¬ (5009 = h) := by omega
  have lL := enL_length hx
  have tL := enL_take xs hx
  have pL := enL_pur xs
  have sL := enL_scal xs
  rcases hheld with ⟨rfl, rfl⟩ | ⟨hp, ver, rfl, hrow⟩
  · have c1 := cloneE_ok .full (by decide) [] (by simp) (by simp)
    repeat' (first | simp -implicitDefEqProofs (maxSteps := 2000000) only [m19_1, m19_2, m19_3, m19_r, m19_b, m19, homE, hH, n1, n2, wk, act, asV, ↓reduceIte, Nat.reduceEqDiff, reduceCtorEq, Nat.reduceAdd, Nat.reduceLeDiff, Nat.reduceSub, Nat.reduceMul, List.reduceReplicate, Int.reduceEq, Int.reduceLT, Int.reduceLE, Int.reduceAdd, Int.reduceSub, Int.reduceMul, Nat.reduceLT, Int.reduceToNat] | ((first | ((with_reducible refine CallL.gate ?_); apply CallL.of) | ((with_reducible refine CallpL.gate ?_); apply CallpL.of) | ((with_reducible refine CallP.gate ?_); apply CallP.of) | ((with_reducible refine CallpP.gate ?_); apply CallpP.of)); (case h1 => (simp -implicitDefEqProofs (maxSteps := 2000000) only [m19_1, m19_2, m19_3, m19_r, m19_b, m19, homE, hH, n1, n2, wk, act, asV, ↓reduceIte, Nat.reduceEqDiff, reduceCtorEq, Nat.reduceAdd, Nat.reduceLeDiff, Nat.reduceSub, Nat.reduceMul, List.reduceReplicate, Int.reduceEq, Int.reduceLT, Int.reduceLE, Int.reduceAdd, Int.reduceSub, Int.reduceMul, Nat.reduceLT, Int.reduceToNat]; first | done | (with_reducible rfl))); (case h2 => (first | exact c1)); (case h3 => simp -implicitDefEqProofs (maxSteps := 2000000) only [m19_1, m19_2, m19_3, m19_r, m19_b, m19, homE, hH, n1, n2, wk, act, asV, ↓reduceIte, Nat.reduceEqDiff, reduceCtorEq, Nat.reduceAdd, Nat.reduceLeDiff, Nat.reduceSub, Nat.reduceMul, List.reduceReplicate, Int.reduceEq, Int.reduceLT, Int.reduceLE, Int.reduceAdd, Int.reduceSub, Int.reduceMul, Nat.reduceLT, Int.reduceToNat])))
    refine PostI.mk (by simp -implicitDefEqProofs (maxSteps := 2000000) only [St.raws, St.raw, hH, n1, n2, wk, act, asV, ↓reduceIte, Nat.reduceEqDiff, reduceCtorEq, Nat.reduceAdd, Nat.reduceLeDiff, Nat.reduceSub, Nat.reduceMul, List.reduceReplicate, Int.reduceEq, Int.reduceLT, Int.reduceLE, Int.reduceAdd, Int.reduceSub, Int.reduceMul, Nat.reduceLT, Int.reduceToNat]; first | done | (with_reducible rfl)) ⟨_, by rfl, by simp -implicitDefEqProofs (maxSteps := 2000000) only [wk, act, asV, ↓reduceIte, Nat.reduceEqDiff, reduceCtorEq, Nat.reduceAdd, Nat.reduceLeDiff, Nat.reduceSub, Nat.reduceMul, List.reduceReplicate, Int.reduceEq, Int.reduceLT, Int.reduceLE, Int.reduceAdd, Int.reduceSub, Int.reduceMul, Nat.reduceLT, Int.reduceToNat], fun y y1 => by
      have y2 : ∀ k, 5000 ≤ k → k < 6000 → (y = k) = False := fun k _ _ => by simp; omega
      simp -implicitDefEqProofs (maxSteps := 2000000) only [y2, wk, act, asV, ↓reduceIte, Nat.reduceEqDiff, reduceCtorEq, Nat.reduceAdd, Nat.reduceLeDiff, Nat.reduceSub, Nat.reduceMul, List.reduceReplicate, Int.reduceEq, Int.reduceLT, Int.reduceLE, Int.reduceAdd, Int.reduceSub, Int.reduceMul, Nat.reduceLT, Int.reduceToNat]⟩
  · have c1 := cloneE_ok .plain (by decide) xs hx hn
    repeat' (first | simp -implicitDefEqProofs (maxSteps := 2000000) only [m19_1, m19_2, m19_3, m19_r, m19_b, m19, homE, hH, hrow, n1, n2, tL, lL, pL, sL, wk, act, asV, ↓reduceIte, Nat.reduceEqDiff, reduceCtorEq, Nat.reduceAdd, Nat.reduceLeDiff, Nat.reduceSub, Nat.reduceMul, List.reduceReplicate, Int.reduceEq, Int.reduceLT, Int.reduceLE, Int.reduceAdd, Int.reduceSub, Int.reduceMul, Nat.reduceLT, Int.reduceToNat] | ((first | ((with_reducible refine CallL.gate ?_); apply CallL.of) | ((with_reducible refine CallpL.gate ?_); apply CallpL.of) | ((with_reducible refine CallP.gate ?_); apply CallP.of) | ((with_reducible refine CallpP.gate ?_); apply CallpP.of)); (case h1 => (simp -implicitDefEqProofs (maxSteps := 2000000) only [m19_1, m19_2, m19_3, m19_r, m19_b, m19, homE, hH, hrow, n1, n2, tL, lL, pL, sL, wk, act, asV, ↓reduceIte, Nat.reduceEqDiff, reduceCtorEq, Nat.reduceAdd, Nat.reduceLeDiff, Nat.reduceSub, Nat.reduceMul, List.reduceReplicate, Int.reduceEq, Int.reduceLT, Int.reduceLE, Int.reduceAdd, Int.reduceSub, Int.reduceMul, Nat.reduceLT, Int.reduceToNat]; first | done | (with_reducible rfl))); (case h2 => (first | exact c1)); (case h3 => simp -implicitDefEqProofs (maxSteps := 2000000) only [m19_1, m19_2, m19_3, m19_r, m19_b, m19, homE, hH, hrow, n1, n2, tL, lL, pL, sL, wk, act, asV, ↓reduceIte, Nat.reduceEqDiff, reduceCtorEq, Nat.reduceAdd, Nat.reduceLeDiff, Nat.reduceSub, Nat.reduceMul, List.reduceReplicate, Int.reduceEq, Int.reduceLT, Int.reduceLE, Int.reduceAdd, Int.reduceSub, Int.reduceMul, Nat.reduceLT, Int.reduceToNat])))
    refine PostI.mk (by simp -implicitDefEqProofs (maxSteps := 2000000) only [St.raws, St.raw, hH, n1, n2, wk, act, asV, ↓reduceIte, Nat.reduceEqDiff, reduceCtorEq, Nat.reduceAdd, Nat.reduceLeDiff, Nat.reduceSub, Nat.reduceMul, List.reduceReplicate, Int.reduceEq, Int.reduceLT, Int.reduceLE, Int.reduceAdd, Int.reduceSub, Int.reduceMul, Nat.reduceLT, Int.reduceToNat]; first | done | (with_reducible rfl)) ⟨_, by rfl, by simp -implicitDefEqProofs (maxSteps := 2000000) only [wk, act, asV, ↓reduceIte, Nat.reduceEqDiff, reduceCtorEq, Nat.reduceAdd, Nat.reduceLeDiff, Nat.reduceSub, Nat.reduceMul, List.reduceReplicate, Int.reduceEq, Int.reduceLT, Int.reduceLE, Int.reduceAdd, Int.reduceSub, Int.reduceMul, Nat.reduceLT, Int.reduceToNat], fun y y1 => by
      have y2 : ∀ k, 5000 ≤ k → k < 6000 → (y = k) = False := fun k _ _ => by simp; omega
      simp -implicitDefEqProofs (maxSteps := 2000000) only [y2, wk, act, asV, ↓reduceIte, Nat.reduceEqDiff, reduceCtorEq, Nat.reduceAdd, Nat.reduceLeDiff, Nat.reduceSub, Nat.reduceMul, List.reduceReplicate, Int.reduceEq, Int.reduceLT, Int.reduceLE, Int.reduceAdd, Int.reduceSub, Int.reduceMul, Nat.reduceLT, Int.reduceToNat]⟩
end Go.Proofs.Ytkphojcmjffccaa
