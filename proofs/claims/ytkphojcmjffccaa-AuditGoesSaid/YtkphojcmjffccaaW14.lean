/- Of the audit: a second log beside the first one. -/
import Derived.Test.YtkphojcmjffccaaW7
import Derived.Test.YtkphojcmjffccaaE31
import Derived.Test.YtkphojcmjffccaaM16
set_option linter.unusedVariables false
set_option linter.unusedSimpArgs false
set_option linter.unusedSectionVars false
set_option maxRecDepth 100000
set_option maxHeartbeats 8000000
namespace Go.Proofs.Ytkphojcmjffccaa
open Go.RowKit

@[reducible] def offH : Off := ⟨8000⟩
@[reducible] def offI : Off := ⟨9000⟩
@[reducible] def offJ : Off := ⟨10000⟩
theorem homH {d : Nat} : @hom offH d = 8000 + d := rfl
theorem homI {d : Nat} : @hom offI d = 9000 + d := rfl
theorem homJ {d : Nat} : @hom offJ d = 10000 + d := rfl
theorem last2_ok {h hv : Nat} {H : Nat → Blk} {xs : List En} (hh : h < 1000) (hx : ∀ x ∈ xs, x.Ok) (hn : xs.length < 2 ^ 62) (ho : ObjE h hv 8041 H xs) :
    IC Try.prog 13 H [.ptr h 0 hv] (fun r h' => r = [.agg (bl (lastE xs))] ∧ ∀ y, (y < 9000 ∨ 10000 ≤ y) → h' y = H y) := by
  refine @IC.of_wp offI Try.prog 13 m13 m13 c13 H [.ptr h 0 hv] _ rfl ?_
  obtain ⟨v, hH, hheld⟩ := ho
  have n1 : ¬ (h = 9002) := by omega
  have n2 : ¬ (9002 = h) := by omega
  have hne : ∀ k, 1000 ≤ k → (h = k) = False := fun k hk => by simp; omega
  have hne' : ∀ k, 1000 ≤ k → (k = h) = False := fun k hk => by simp; omega
  have lz := lastE_len hx
  rcases hheld with ⟨rfl, rfl⟩ | ⟨hp, ver, rfl, hrow⟩
  · have y6 := y32_cells
    have ly : (bl y32).length = 32 := rfl
    have ty : List.take 32 (bl y32) = bl y32 := rfl
    have xy : List.drop 32 (bl y32) = [] := rfl
    have e : lastE [] = y32 := rfl
    rw [e]
    simp -implicitDefEqProofs (maxSteps := 2000000) only [m13_1, m13_2, m13_3, m13_4, m13_r, m13_b, m13, homI, hH, n1, n2, y6, ly, ty, xy, placed, wk, act, asV, ↓reduceIte, Nat.reduceEqDiff, reduceCtorEq, Nat.reduceAdd, Nat.reduceLeDiff, Nat.reduceSub, Nat.reduceMul, List.reduceReplicate, Int.reduceEq, Int.reduceLT, Int.reduceLE, Int.reduceAdd, Int.reduceSub, Int.reduceMul, Nat.reduceLT, Int.reduceToNat]
    refine PostI.mk (by simp -implicitDefEqProofs (maxSteps := 2000000) only [St.raws, St.raw, hH, n1, n2, ly, ty, xy, wk, act, asV, ↓reduceIte, Nat.reduceEqDiff, reduceCtorEq, Nat.reduceAdd, Nat.reduceLeDiff, Nat.reduceSub, Nat.reduceMul, List.reduceReplicate, Int.reduceEq, Int.reduceLT, Int.reduceLE, Int.reduceAdd, Int.reduceSub, Int.reduceMul, Nat.reduceLT, Int.reduceToNat]; first | done | (with_reducible rfl)) ⟨by rfl, fun y y1 => by
      have y2 : ∀ k, 9000 ≤ k → k < 10000 → (y = k) = False := fun k _ _ => by simp; omega
      simp -implicitDefEqProofs (maxSteps := 2000000) only [y2, wk, act, asV, ↓reduceIte, Nat.reduceEqDiff, reduceCtorEq, Nat.reduceAdd, Nat.reduceLeDiff, Nat.reduceSub, Nat.reduceMul, List.reduceReplicate, Int.reduceEq, Int.reduceLT, Int.reduceLE, Int.reduceAdd, Int.reduceSub, Int.reduceMul, Nat.reduceLT, Int.reduceToNat]⟩
  · obtain ⟨l1, l2⟩ := lastE_at hx hp
    have p0 : ¬ ((xs.length : Nat) : Int) = 0 := by omega
    have w1 : IntKind.i64.wrap (((xs.length : Nat) : Int) - 1) = ((xs.length - 1 : Nat) : Int) := by rw [IntKind.wrap_i64]; omega
    have p1 : ((xs.length - 1 : Nat) : Int) < ((xs.length : Nat) : Int) := by omega
    obtain ⟨G, hG⟩ : ∃ G, G = lastE xs := ⟨_, rfl⟩
    rw [← hG] at l1 lz ⊢
    have lG : (bl G).length = 32 := by rw [bl_length, lz]
    have tG : List.take 32 (bl G) = bl G := List.take_of_length_le (by omega)
    simp -implicitDefEqProofs (maxSteps := 2000000) only [m13_1, m13_2, m13_3, m13_4, m13_r, m13_b, m13, homI, hH, hrow, n1, n2, p0, w1, p1, l1, l2, lG, tG, hne, hne', wk, act, asV, ↓reduceIte, Nat.reduceEqDiff, reduceCtorEq, Nat.reduceAdd, Nat.reduceLeDiff, Nat.reduceSub, Nat.reduceMul, List.reduceReplicate, Int.reduceEq, Int.reduceLT, Int.reduceLE, Int.reduceAdd, Int.reduceSub, Int.reduceMul, Nat.reduceLT, Int.reduceToNat]
    refine PostI.mk (by simp -implicitDefEqProofs (maxSteps := 2000000) only [St.raws, St.raw, hH, n1, n2, lG, tG, wk, act, asV, ↓reduceIte, Nat.reduceEqDiff, reduceCtorEq, Nat.reduceAdd, Nat.reduceLeDiff, Nat.reduceSub, Nat.reduceMul, List.reduceReplicate, Int.reduceEq, Int.reduceLT, Int.reduceLE, Int.reduceAdd, Int.reduceSub, Int.reduceMul, Nat.reduceLT, Int.reduceToNat]; first | done | (with_reducible rfl)) ⟨by rfl, fun y y1 => by
      have y2 : ∀ k, 9000 ≤ k → k < 10000 → (y = k) = False := fun k _ _ => by simp; omega
      simp -implicitDefEqProofs (maxSteps := 2000000) only [y2, wk, act, asV, ↓reduceIte, Nat.reduceEqDiff, reduceCtorEq, Nat.reduceAdd, Nat.reduceLeDiff, Nat.reduceSub, Nat.reduceMul, List.reduceReplicate, Int.reduceEq, Int.reduceLT, Int.reduceLE, Int.reduceAdd, Int.reduceSub, Int.reduceMul, Nat.reduceLT, Int.reduceToNat]⟩
theorem add2_ok {h hv : Nat} {H : Nat → Blk} {xs : List En} (hh : h < 1000) (hx : ∀ x ∈ xs, x.Ok) (hn : xs.length < 2 ^ 20) (f : Fl) (a : List UInt8) (ha : a.length ≤ 2 ^ 39) (r : Rp) (hf : ¬ r.f = .lit) (ho : ObjE h hv 8041 H xs) :
    IC Try.prog 11 H [.ptr h 0 hv, .sl f a.length (bl a), .agg (rc r)] (fun q h' => q = [.int .i64 (recE r.id r.e)] ∧ ObjE h hv 8041 h' (addE xs a r) ∧ ∀ y, y ≠ h → (y < 8000 ∨ 10000 ≤ y) → h' y = H y) := by
  refine @IC.of_wp offH Try.prog 11 m11 m11 c11 H [.ptr h 0 hv, .sl f a.length (bl a), .agg (rc r)] _ rfl ?_
  have hne : ∀ k, 1000 ≤ k → (h = k) = False := fun k hk => by simp; omega
  have hne' : ∀ k, 1000 ≤ k → (k = h) = False := fun k hk => by simp; omega
  have c0 := sum_ok .full (by decide) [(.plain, a)] (by simp) (by rw [one_part]; omega)
  have ep0 : pl [(Fl.plain, a)] = [.sl .plain a.length (bl a)] := rfl
  rw [one_part, ep0, List.length_cons, List.length_nil] at c0
  have dD : (shaB a).length = 32 := digest_length _
  have c1 := record_ok (shaB a) dD r hf
  have nF : ∀ s : St, s.nest (.sl f a.length (bl a)) = some [.sl .plain a.length (bl a)] := fun s => by
    cases f <;> simp [St.nest, IV.cells, IV.scal, St.nestL, St.nest1]
  have boxR : IV.boxable (.agg (rc r)) = true := rfl
  have hz0 : newE xs a r = ⟨shaB a, r.id, r.e, shaB (lastE xs ++ recR (shaB a) r.id r.e)⟩ := rfl
  have hzo := newE_ok xs a r
  obtain ⟨z, hzz⟩ : ∃ z, z = newE xs a r := ⟨_, rfl⟩
  rw [← hzz] at hz0 hzo
  have dL := lastE_len hx
  have rl := recR_le (shaB a) dD r.id r.e
  have c2 := step_ok .full (by decide) (lastE xs) [(.plain, recR (shaB a) r.id r.e)] dL (by simp) (by rw [one_part]; omega)
  have ep : pl [(Fl.plain, recR (shaB a) r.id r.e)] = [.sl .plain (recR (shaB a) r.id r.e).length (bl (recR (shaB a) r.id r.e))] := rfl
  rw [one_part, ep, List.length_cons, List.length_nil] at c2
  have dG : (shaB (lastE xs ++ recR (shaB a) r.id r.e)).length = 32 := digest_length _
  obtain ⟨D, hD⟩ : ∃ D, D = shaB a := ⟨_, rfl⟩
  rw [← hD] at c0 c1 c2 dD hz0 dG rl
  obtain ⟨G, hG⟩ : ∃ D2, D2 = shaB (lastE xs ++ recR D r.id r.e) := ⟨_, rfl⟩
  rw [← hG] at c2 hz0 dG
  obtain ⟨R, hR⟩ : ∃ D2, D2 = recR D r.id r.e := ⟨_, rfl⟩
  have lD : (bl D).length = 32 := by rw [bl_length, dD]
  have tD : List.take 32 (bl D) = bl D := List.take_of_length_le (by omega)
  have xD : List.drop 32 (bl D) = [] := List.drop_of_length_le (by omega)
  have lG : (bl G).length = 32 := by rw [bl_length, dG]
  have tG : List.take 32 (bl G) = bl G := List.take_of_length_le (by omega)
  have lL0 : (bl (lastE xs)).length = 32 := by rw [bl_length, dL]
  have tL0 : List.take 32 (bl (lastE xs)) = bl (lastE xs) := List.take_of_length_le (by omega)
  have lz := enC_length hzo
  have sz := enC_scal z
  have tz : List.take 66 (enC z) = enC z := List.take_of_length_le (by omega)
  have hz : bl D ++ (.int .i64 r.id :: .int .i64 r.e :: bl G) = enC z := by rw [hz0]; rfl
  have hpl : ∀ Z : List IV, Z.length = 66 → placed Z [(0, bl D), (32, [.int .i64 r.id]), (33, [.int .i64 r.e]), (34, bl G)] = some (enC z) := fun Z hZ => by
    have e0 : Z = [] ++ Z := rfl
    rw [e0, pl_step [] Z (show ([] : List IV).length = 0 from rfl) (by omega), List.nil_append, pl_step (bl D) _ lD (by rw [List.length_drop]; simp; omega), pl_step (bl D ++ [_]) _ (by simp [lD]) (by simp [lD, hZ]), pl_step (bl D ++ [_] ++ [_]) _ (by simp [lD]) (by simp [lD, lG, hZ]), ← hz]
    simp [placed, lD, lG, hZ]
  have lL := enL_length hx
  have r80 : roomy (xs.length + 1) 80 = true := roomy80 (by omega)
  have r81 : roomy 1 80 = true := by decide
  have tR := take_bl R
  have hlR : (bl R).length = R.length := bl_length R
  rw [← hR] at c1 c2 rl
  unfold addE
  by_cases hg : good (rpE r.id r.e) = true
  · have e1 : recE r.id r.e = 0 := if_pos hg
    have e3 : R = D ++ renc (rpE r.id r.e) := by rw [hR]; exact if_pos hg
    have dR : R.length = 40 := by rw [e3, List.length_append, dD, renc_length]; rfl
    rw [if_pos e1, ← hzz]
    rw [e1] at c1 ⊢
    rw [dR] at c1 c2 tR hlR
    have lR := hlR
    obtain ⟨v, hH, hheld⟩ := ho
    rcases hheld with ⟨hx0, rfl⟩ | ⟨hp0, ver, rfl, n41⟩
    · have n41 : xs.length = 0 := by rw [hx0]; rfl
      have hen0 : xs.length = 0 := n41
      repeat' (first | simp -implicitDefEqProofs (maxSteps := 2000000) only [m11_1, m11_2, m11_3, m11_4, m11_5, m11_6, m11_7, m11_8, m11_9, m11_10, m11_r, m11_b, m11, homH, hH, hne, hne', nF, boxR, lD, tD, xD, tR, hlR, rc, bl_scal, bl_pur, wk, act, asV, ↓reduceIte, Nat.reduceEqDiff, reduceCtorEq, Nat.reduceAdd, Nat.reduceLeDiff, Nat.reduceSub, Nat.reduceMul, List.reduceReplicate, Int.reduceEq, Int.reduceLT, Int.reduceLE, Int.reduceAdd, Int.reduceSub, Int.reduceMul, Nat.reduceLT, Int.reduceToNat] | ((first | ((with_reducible refine CallL.gate ?_); apply CallL.of) | ((with_reducible refine CallpL.gate ?_); apply CallpL.of) | ((with_reducible refine CallP.gate ?_); apply CallP.of) | ((with_reducible refine CallpP.gate ?_); apply CallpP.of)); (case h1 => (simp -implicitDefEqProofs (maxSteps := 2000000) only [m11_1, m11_2, m11_3, m11_4, m11_5, m11_6, m11_7, m11_8, m11_9, m11_10, m11_r, m11_b, m11, homH, hH, hne, hne', nF, boxR, lD, tD, xD, tR, hlR, rc, bl_scal, bl_pur, wk, act, asV, ↓reduceIte, Nat.reduceEqDiff, reduceCtorEq, Nat.reduceAdd, Nat.reduceLeDiff, Nat.reduceSub, Nat.reduceMul, List.reduceReplicate, Int.reduceEq, Int.reduceLT, Int.reduceLE, Int.reduceAdd, Int.reduceSub, Int.reduceMul, Nat.reduceLT, Int.reduceToNat]; first | done | (with_reducible rfl))); (case h2 => (first | exact c0 | exact c1)); (case h3 => simp -implicitDefEqProofs (maxSteps := 2000000) only [m11_1, m11_2, m11_3, m11_4, m11_5, m11_6, m11_7, m11_8, m11_9, m11_10, m11_r, m11_b, m11, homH, hH, hne, hne', nF, boxR, lD, tD, xD, tR, hlR, rc, bl_scal, bl_pur, wk, act, asV, ↓reduceIte, Nat.reduceEqDiff, reduceCtorEq, Nat.reduceAdd, Nat.reduceLeDiff, Nat.reduceSub, Nat.reduceMul, List.reduceReplicate, Int.reduceEq, Int.reduceLT, Int.reduceLE, Int.reduceAdd, Int.reduceSub, Int.reduceMul, Nat.reduceLT, Int.reduceToNat])))
      obtain ⟨Inv, hInv⟩ : ∃ Inv : (Nat → Bool) → St → Prop, Inv = fun (L : Nat → Bool) (s : St) => ∃ v5 v7, s.t 0 = .ptr h 0 hv ∧ s.h h = ⟨hv, true, true, false, [cond (L 20) (.row 8041 0 1 66 ((H 8041).ver + 1)) (.sl .full 0 [])]⟩ ∧ s.h 8041 = cond (L 17) ⟨(H 8041).ver + 1, true, true, true, enC z⟩ (H 8041) ∧ s.t 7 = .ptr 8007 0 v7 ∧ s.h 8007 = ⟨v7, true, true, false, bl D⟩ ∧ s.t 5 = .ptr 8005 0 v5 ∧ s.h 8005 = ⟨v5, true, true, false, rc r⟩ ∧ s.t 8 = .sl .plain 40 (bl R) ∧ (∀ y, y ≠ h → (y < 8000 ∨ 10000 ≤ y) → s.h y = H y) ∧ (L 0 = true → s.t 24 = .ptr h 0 hv) ∧ (L 1 = true → s.t 25 = .ptr h 0 hv) ∧ (L 2 = true → s.t 26 = .ptr h 0 hv) ∧ (L 3 = true → s.t 27 = .ptr h 0 hv) ∧ (L 4 = true → s.t 28 = .sl .full 0 []) ∧ (L 5 = true → s.t 29 = .agg (bl D)) ∧ (L 6 = true → s.t 30 = .ptr 8005 0 v5) ∧ (L 7 = true → s.t 31 = .int .i64 r.id) ∧ (L 8 = true → s.t 32 = .ptr 8005 1 v5) ∧ (L 9 = true → s.t 33 = .int .i64 r.e) ∧ (L 10 = true → s.t 34 = .ptr h 0 hv) ∧ (L 11 = true → s.t 35 = .agg (bl (lastE xs))) ∧ (L 12 = true → s.t 36 = .sl .plain 40 (bl R)) ∧ (L 13 = true → s.t 37 = .sl .lit 1 [.sl .plain 40 (bl R)]) ∧ (L 14 = true → s.t 38 = .agg (bl G)) ∧ (L 15 = true → s.t 39 = .agg (enC z)) ∧ (L 16 = true → s.t 40 = .sl .lit 1 (enC z)) ∧ (L 17 = true → s.t 41 = .row 8041 0 1 66 ((H 8041).ver + 1)) ∧ (L 18 = true → s.t 42 = .ptr h 0 hv) ∧ (L 19 = true → s.t 43 = .ptr h 0 hv) ∧ (L 14 = true → L 11 = true) ∧ (L 17 = true → L 14 = true ∧ L 4 = true) ∧ (L 20 = true → L 17 = true) := ⟨_, rfl⟩
      refine Wp_drxO Inv ?_ ?_ ?_
      · rw [hInv]
        exact ⟨_, _, by simp -implicitDefEqProofs (maxSteps := 2000000) only [homH, hH, n41, hne, hne', wk, act, asV, ↓reduceIte, Nat.reduceEqDiff, reduceCtorEq, Nat.reduceAdd, Nat.reduceLeDiff, Nat.reduceSub, Nat.reduceMul, List.reduceReplicate, Int.reduceEq, Int.reduceLT, Int.reduceLE, Int.reduceAdd, Int.reduceSub, Int.reduceMul, Nat.reduceLT, Int.reduceToNat]; first | done | rfl, by simp -implicitDefEqProofs (maxSteps := 2000000) only [homH, hH, n41, hne, hne', wk, act, asV, ↓reduceIte, Nat.reduceEqDiff, reduceCtorEq, Nat.reduceAdd, Nat.reduceLeDiff, Nat.reduceSub, Nat.reduceMul, List.reduceReplicate, Int.reduceEq, Int.reduceLT, Int.reduceLE, Int.reduceAdd, Int.reduceSub, Int.reduceMul, Nat.reduceLT, Int.reduceToNat]; first | done | rfl, by simp -implicitDefEqProofs (maxSteps := 2000000) only [homH, hH, n41, hne, hne', wk, act, asV, ↓reduceIte, Nat.reduceEqDiff, reduceCtorEq, Nat.reduceAdd, Nat.reduceLeDiff, Nat.reduceSub, Nat.reduceMul, List.reduceReplicate, Int.reduceEq, Int.reduceLT, Int.reduceLE, Int.reduceAdd, Int.reduceSub, Int.reduceMul, Nat.reduceLT, Int.reduceToNat]; first | done | rfl, by simp -implicitDefEqProofs (maxSteps := 2000000) only [homH, hH, n41, hne, hne', wk, act, asV, ↓reduceIte, Nat.reduceEqDiff, reduceCtorEq, Nat.reduceAdd, Nat.reduceLeDiff, Nat.reduceSub, Nat.reduceMul, List.reduceReplicate, Int.reduceEq, Int.reduceLT, Int.reduceLE, Int.reduceAdd, Int.reduceSub, Int.reduceMul, Nat.reduceLT, Int.reduceToNat]; first | done | rfl, by simp -implicitDefEqProofs (maxSteps := 2000000) only [homH, hH, n41, hne, hne', wk, act, asV, ↓reduceIte, Nat.reduceEqDiff, reduceCtorEq, Nat.reduceAdd, Nat.reduceLeDiff, Nat.reduceSub, Nat.reduceMul, List.reduceReplicate, Int.reduceEq, Int.reduceLT, Int.reduceLE, Int.reduceAdd, Int.reduceSub, Int.reduceMul, Nat.reduceLT, Int.reduceToNat]; first | done | rfl, by simp -implicitDefEqProofs (maxSteps := 2000000) only [homH, hH, n41, hne, hne', wk, act, asV, ↓reduceIte, Nat.reduceEqDiff, reduceCtorEq, Nat.reduceAdd, Nat.reduceLeDiff, Nat.reduceSub, Nat.reduceMul, List.reduceReplicate, Int.reduceEq, Int.reduceLT, Int.reduceLE, Int.reduceAdd, Int.reduceSub, Int.reduceMul, Nat.reduceLT, Int.reduceToNat]; first | done | rfl, by simp -implicitDefEqProofs (maxSteps := 2000000) only [homH, hH, n41, hne, hne', wk, act, asV, ↓reduceIte, Nat.reduceEqDiff, reduceCtorEq, Nat.reduceAdd, Nat.reduceLeDiff, Nat.reduceSub, Nat.reduceMul, List.reduceReplicate, Int.reduceEq, Int.reduceLT, Int.reduceLE, Int.reduceAdd, Int.reduceSub, Int.reduceMul, Nat.reduceLT, Int.reduceToNat]; first | done | rfl, by simp -implicitDefEqProofs (maxSteps := 2000000) only [homH, hH, n41, hne, hne', wk, act, asV, ↓reduceIte, Nat.reduceEqDiff, reduceCtorEq, Nat.reduceAdd, Nat.reduceLeDiff, Nat.reduceSub, Nat.reduceMul, List.reduceReplicate, Int.reduceEq, Int.reduceLT, Int.reduceLE, Int.reduceAdd, Int.reduceSub, Int.reduceMul, Nat.reduceLT, Int.reduceToNat]; first | done | rfl, (fun y y1 y2 => by
        have y3 : ∀ k, 8000 ≤ k → k < 10000 → (y = k) = False := fun k _ _ => by simp; omega
        simp -implicitDefEqProofs (maxSteps := 2000000) only [homH, y1, y3, wk, act, asV, ↓reduceIte, Nat.reduceEqDiff, reduceCtorEq, Nat.reduceAdd, Nat.reduceLeDiff, Nat.reduceSub, Nat.reduceMul, List.reduceReplicate, Int.reduceEq, Int.reduceLT, Int.reduceLE, Int.reduceAdd, Int.reduceSub, Int.reduceMul, Nat.reduceLT, Int.reduceToNat]), fun h => absurd (h : false = true) (by decide), fun h => absurd (h : false = true) (by decide), fun h => absurd (h : false = true) (by decide), fun h => absurd (h : false = true) (by decide), fun h => absurd (h : false = true) (by decide), fun h => absurd (h : false = true) (by decide), fun h => absurd (h : false = true) (by decide), fun h => absurd (h : false = true) (by decide), fun h => absurd (h : false = true) (by decide), fun h => absurd (h : false = true) (by decide), fun h => absurd (h : false = true) (by decide), fun h => absurd (h : false = true) (by decide), fun h => absurd (h : false = true) (by decide), fun h => absurd (h : false = true) (by decide), fun h => absurd (h : false = true) (by decide), fun h => absurd (h : false = true) (by decide), fun h => absurd (h : false = true) (by decide), fun h => absurd (h : false = true) (by decide), fun h => absurd (h : false = true) (by decide), fun h => absurd (h : false = true) (by decide), fun h => absurd (h : false = true) (by decide), fun h => absurd (h : false = true) (by decide), fun h => absurd (h : false = true) (by decide)⟩
      · refine stepsO_cons ?_ (stepsO_cons ?_ (stepsO_cons ?_ (stepsO_cons ?_ (stepsO_cons ?_ (stepsO_cons ?_ (stepsO_cons ?_ (stepsO_cons ?_ (stepsO_cons ?_ (stepsO_cons ?_ (stepsO_cons ?_ (stepsO_cons ?_ (stepsO_cons ?_ (stepsO_cons ?_ (stepsO_cons ?_ (stepsO_cons ?_ (stepsO_cons ?_ (stepsO_cons ?_ (stepsO_cons ?_ (stepsO_cons ?_ (stepsO_cons ?_ (stepsO_nil)))))))))))))))))))))
        · intro L s hL hp hI
          rw [hInv] at hI
          obtain ⟨v5, v7, k0, kO, k41, k7, kh7, k5, kh5, k8, fr, f0, f1, f2, f3, f4, f5, f6, f7, f8, f9, f10, f11, f12, f13, f14, f15, f16, f17, f18, f19, g14, g17, g20⟩ := hI
          simp -implicitDefEqProofs (maxSteps := 2000000) only [homH, hne, hne', k0, wk, act, asV, ↓reduceIte, Nat.reduceEqDiff, reduceCtorEq, Nat.reduceAdd, Nat.reduceLeDiff, Nat.reduceSub, Nat.reduceMul, List.reduceReplicate, Int.reduceEq, Int.reduceLT, Int.reduceLE, Int.reduceAdd, Int.reduceSub, Int.reduceMul, Nat.reduceLT, Int.reduceToNat]
          rw [hInv]
          exact ⟨v5, v7, k0, kO, k41, k7, kh7, k5, kh5, k8, fr, fun _ => rfl, f1, f2, f3, f4, f5, f6, f7, f8, f9, f10, f11, f12, f13, f14, f15, f16, f17, f18, f19, g14, g17, g20⟩
        · intro L s hL hp hI
          rw [hInv] at hI
          obtain ⟨v5, v7, k0, kO, k41, k7, kh7, k5, kh5, k8, fr, f0, f1, f2, f3, f4, f5, f6, f7, f8, f9, f10, f11, f12, f13, f14, f15, f16, f17, f18, f19, g14, g17, g20⟩ := hI
          simp -implicitDefEqProofs (maxSteps := 2000000) only [homH, hne, hne', k0, wk, act, asV, ↓reduceIte, Nat.reduceEqDiff, reduceCtorEq, Nat.reduceAdd, Nat.reduceLeDiff, Nat.reduceSub, Nat.reduceMul, List.reduceReplicate, Int.reduceEq, Int.reduceLT, Int.reduceLE, Int.reduceAdd, Int.reduceSub, Int.reduceMul, Nat.reduceLT, Int.reduceToNat]
          rw [hInv]
          exact ⟨v5, v7, k0, kO, k41, k7, kh7, k5, kh5, k8, fr, f0, fun _ => rfl, f2, f3, f4, f5, f6, f7, f8, f9, f10, f11, f12, f13, f14, f15, f16, f17, f18, f19, g14, g17, g20⟩
        · intro L s hL hp hI
          rw [hInv] at hI
          obtain ⟨v5, v7, k0, kO, k41, k7, kh7, k5, kh5, k8, fr, f0, f1, f2, f3, f4, f5, f6, f7, f8, f9, f10, f11, f12, f13, f14, f15, f16, f17, f18, f19, g14, g17, g20⟩ := hI
          have p1 := f1 (hp 1 (by simp))
          simp -implicitDefEqProofs (maxSteps := 2000000) only [homH, hne, hne', p1, kO, wk, act, asV, ↓reduceIte, Nat.reduceEqDiff, reduceCtorEq, Nat.reduceAdd, Nat.reduceLeDiff, Nat.reduceSub, Nat.reduceMul, List.reduceReplicate, Int.reduceEq, Int.reduceLT, Int.reduceLE, Int.reduceAdd, Int.reduceSub, Int.reduceMul, Nat.reduceLT, Int.reduceToNat]
          rw [hInv]
          exact ⟨v5, v7, k0, kO, k41, k7, kh7, k5, kh5, k8, fr, f0, f1, fun _ => rfl, f3, f4, f5, f6, f7, f8, f9, f10, f11, f12, f13, f14, f15, f16, f17, f18, f19, g14, g17, g20⟩
        · intro L s hL hp hI
          rw [hInv] at hI
          obtain ⟨v5, v7, k0, kO, k41, k7, kh7, k5, kh5, k8, fr, f0, f1, f2, f3, f4, f5, f6, f7, f8, f9, f10, f11, f12, f13, f14, f15, f16, f17, f18, f19, g14, g17, g20⟩ := hI
          have p2 := f2 (hp 2 (by simp))
          simp -implicitDefEqProofs (maxSteps := 2000000) only [homH, hne, hne', p2, kO, wk, act, asV, ↓reduceIte, Nat.reduceEqDiff, reduceCtorEq, Nat.reduceAdd, Nat.reduceLeDiff, Nat.reduceSub, Nat.reduceMul, List.reduceReplicate, Int.reduceEq, Int.reduceLT, Int.reduceLE, Int.reduceAdd, Int.reduceSub, Int.reduceMul, Nat.reduceLT, Int.reduceToNat]
          rw [hInv]
          exact ⟨v5, v7, k0, kO, k41, k7, kh7, k5, kh5, k8, fr, f0, f1, f2, fun _ => rfl, f4, f5, f6, f7, f8, f9, f10, f11, f12, f13, f14, f15, f16, f17, f18, f19, g14, g17, g20⟩
        · intro L s hL hp hI
          rw [hInv] at hI
          obtain ⟨v5, v7, k0, kO, k41, k7, kh7, k5, kh5, k8, fr, f0, f1, f2, f3, f4, f5, f6, f7, f8, f9, f10, f11, f12, f13, f14, f15, f16, f17, f18, f19, g14, g17, g20⟩ := hI
          have p3 := f3 (hp 3 (by simp))
          have l17 : L 17 = false := Bool.eq_false_iff.2 fun hh => absurd (g17 hh).2 (by rw [hL]; decide)
          have l20 : L 20 = false := Bool.eq_false_iff.2 fun hh => absurd (g20 hh) (by rw [l17]; decide)
          have kO' := kO
          rw [l20] at kO'
          simp -implicitDefEqProofs (maxSteps := 2000000) only [homH, hne, hne', p3, kO', cond_false, wk, act, asV, ↓reduceIte, Nat.reduceEqDiff, reduceCtorEq, Nat.reduceAdd, Nat.reduceLeDiff, Nat.reduceSub, Nat.reduceMul, List.reduceReplicate, Int.reduceEq, Int.reduceLT, Int.reduceLE, Int.reduceAdd, Int.reduceSub, Int.reduceMul, Nat.reduceLT, Int.reduceToNat]
          rw [hInv]
          exact ⟨v5, v7, k0, kO, k41, k7, kh7, k5, kh5, k8, fr, f0, f1, f2, f3, fun _ => rfl, f5, f6, f7, f8, f9, f10, f11, f12, f13, f14, f15, f16, f17, f18, f19, g14, fun h => ⟨(g17 h).1, rfl⟩, g20⟩
        · intro L s hL hp hI
          rw [hInv] at hI
          obtain ⟨v5, v7, k0, kO, k41, k7, kh7, k5, kh5, k8, fr, f0, f1, f2, f3, f4, f5, f6, f7, f8, f9, f10, f11, f12, f13, f14, f15, f16, f17, f18, f19, g14, g17, g20⟩ := hI
          simp -implicitDefEqProofs (maxSteps := 2000000) only [homH, hne, hne', k7, kh7, lD, tD, wk, act, asV, ↓reduceIte, Nat.reduceEqDiff, reduceCtorEq, Nat.reduceAdd, Nat.reduceLeDiff, Nat.reduceSub, Nat.reduceMul, List.reduceReplicate, Int.reduceEq, Int.reduceLT, Int.reduceLE, Int.reduceAdd, Int.reduceSub, Int.reduceMul, Nat.reduceLT, Int.reduceToNat]
          rw [hInv]
          exact ⟨v5, v7, k0, kO, k41, k7, kh7, k5, kh5, k8, fr, f0, f1, f2, f3, f4, fun _ => rfl, f6, f7, f8, f9, f10, f11, f12, f13, f14, f15, f16, f17, f18, f19, g14, g17, g20⟩
        · intro L s hL hp hI
          rw [hInv] at hI
          obtain ⟨v5, v7, k0, kO, k41, k7, kh7, k5, kh5, k8, fr, f0, f1, f2, f3, f4, f5, f6, f7, f8, f9, f10, f11, f12, f13, f14, f15, f16, f17, f18, f19, g14, g17, g20⟩ := hI
          simp -implicitDefEqProofs (maxSteps := 2000000) only [homH, hne, hne', k5, kh5, wk, act, asV, ↓reduceIte, Nat.reduceEqDiff, reduceCtorEq, Nat.reduceAdd, Nat.reduceLeDiff, Nat.reduceSub, Nat.reduceMul, List.reduceReplicate, Int.reduceEq, Int.reduceLT, Int.reduceLE, Int.reduceAdd, Int.reduceSub, Int.reduceMul, Nat.reduceLT, Int.reduceToNat]
          rw [hInv]
          exact ⟨v5, v7, k0, kO, k41, k7, kh7, k5, kh5, k8, fr, f0, f1, f2, f3, f4, f5, fun _ => rfl, f7, f8, f9, f10, f11, f12, f13, f14, f15, f16, f17, f18, f19, g14, g17, g20⟩
        · intro L s hL hp hI
          rw [hInv] at hI
          obtain ⟨v5, v7, k0, kO, k41, k7, kh7, k5, kh5, k8, fr, f0, f1, f2, f3, f4, f5, f6, f7, f8, f9, f10, f11, f12, f13, f14, f15, f16, f17, f18, f19, g14, g17, g20⟩ := hI
          have p6 := f6 (hp 6 (by simp))
          simp -implicitDefEqProofs (maxSteps := 2000000) only [homH, hne, hne', p6, kh5, rc, wk, act, asV, ↓reduceIte, Nat.reduceEqDiff, reduceCtorEq, Nat.reduceAdd, Nat.reduceLeDiff, Nat.reduceSub, Nat.reduceMul, List.reduceReplicate, Int.reduceEq, Int.reduceLT, Int.reduceLE, Int.reduceAdd, Int.reduceSub, Int.reduceMul, Nat.reduceLT, Int.reduceToNat]
          rw [hInv]
          exact ⟨v5, v7, k0, kO, k41, k7, kh7, k5, kh5, k8, fr, f0, f1, f2, f3, f4, f5, f6, fun _ => rfl, f8, f9, f10, f11, f12, f13, f14, f15, f16, f17, f18, f19, g14, g17, g20⟩
        · intro L s hL hp hI
          rw [hInv] at hI
          obtain ⟨v5, v7, k0, kO, k41, k7, kh7, k5, kh5, k8, fr, f0, f1, f2, f3, f4, f5, f6, f7, f8, f9, f10, f11, f12, f13, f14, f15, f16, f17, f18, f19, g14, g17, g20⟩ := hI
          simp -implicitDefEqProofs (maxSteps := 2000000) only [homH, hne, hne', k5, kh5, wk, act, asV, ↓reduceIte, Nat.reduceEqDiff, reduceCtorEq, Nat.reduceAdd, Nat.reduceLeDiff, Nat.reduceSub, Nat.reduceMul, List.reduceReplicate, Int.reduceEq, Int.reduceLT, Int.reduceLE, Int.reduceAdd, Int.reduceSub, Int.reduceMul, Nat.reduceLT, Int.reduceToNat]
          rw [hInv]
          exact ⟨v5, v7, k0, kO, k41, k7, kh7, k5, kh5, k8, fr, f0, f1, f2, f3, f4, f5, f6, f7, fun _ => rfl, f9, f10, f11, f12, f13, f14, f15, f16, f17, f18, f19, g14, g17, g20⟩
        · intro L s hL hp hI
          rw [hInv] at hI
          obtain ⟨v5, v7, k0, kO, k41, k7, kh7, k5, kh5, k8, fr, f0, f1, f2, f3, f4, f5, f6, f7, f8, f9, f10, f11, f12, f13, f14, f15, f16, f17, f18, f19, g14, g17, g20⟩ := hI
          have p8 := f8 (hp 8 (by simp))
          simp -implicitDefEqProofs (maxSteps := 2000000) only [homH, hne, hne', p8, kh5, rc, wk, act, asV, ↓reduceIte, Nat.reduceEqDiff, reduceCtorEq, Nat.reduceAdd, Nat.reduceLeDiff, Nat.reduceSub, Nat.reduceMul, List.reduceReplicate, Int.reduceEq, Int.reduceLT, Int.reduceLE, Int.reduceAdd, Int.reduceSub, Int.reduceMul, Nat.reduceLT, Int.reduceToNat]
          rw [hInv]
          exact ⟨v5, v7, k0, kO, k41, k7, kh7, k5, kh5, k8, fr, f0, f1, f2, f3, f4, f5, f6, f7, f8, fun _ => rfl, f10, f11, f12, f13, f14, f15, f16, f17, f18, f19, g14, g17, g20⟩
        · intro L s hL hp hI
          rw [hInv] at hI
          obtain ⟨v5, v7, k0, kO, k41, k7, kh7, k5, kh5, k8, fr, f0, f1, f2, f3, f4, f5, f6, f7, f8, f9, f10, f11, f12, f13, f14, f15, f16, f17, f18, f19, g14, g17, g20⟩ := hI
          simp -implicitDefEqProofs (maxSteps := 2000000) only [homH, hne, hne', k0, wk, act, asV, ↓reduceIte, Nat.reduceEqDiff, reduceCtorEq, Nat.reduceAdd, Nat.reduceLeDiff, Nat.reduceSub, Nat.reduceMul, List.reduceReplicate, Int.reduceEq, Int.reduceLT, Int.reduceLE, Int.reduceAdd, Int.reduceSub, Int.reduceMul, Nat.reduceLT, Int.reduceToNat]
          rw [hInv]
          exact ⟨v5, v7, k0, kO, k41, k7, kh7, k5, kh5, k8, fr, f0, f1, f2, f3, f4, f5, f6, f7, f8, f9, fun _ => rfl, f11, f12, f13, f14, f15, f16, f17, f18, f19, g14, g17, g20⟩
        · intro L s hL hp hI
          rw [hInv] at hI
          obtain ⟨v5, v7, k0, kO, k41, k7, kh7, k5, kh5, k8, fr, f0, f1, f2, f3, f4, f5, f6, f7, f8, f9, f10, f11, f12, f13, f14, f15, f16, f17, f18, f19, g14, g17, g20⟩ := hI
          have p10 := f10 (hp 10 (by simp))
          have l14 : L 14 = false := Bool.eq_false_iff.2 fun hh => absurd (g14 hh) (by rw [hL]; decide)
          have l17 : L 17 = false := Bool.eq_false_iff.2 fun hh => absurd (g17 hh).1 (by rw [l14]; decide)
          have l20 : L 20 = false := Bool.eq_false_iff.2 fun hh => absurd (g20 hh) (by rw [l17]; decide)
          have kO' := kO
          rw [l20] at kO'
          have k41' := k41
          rw [l17] at k41'
          have ho : ObjE h hv 8041 s.h xs := ⟨_, kO', .inl ⟨hx0, rfl⟩⟩
          simp -implicitDefEqProofs (maxSteps := 2000000) only [homH, hne, hne', p10, wk, act, asV, ↓reduceIte, Nat.reduceEqDiff, reduceCtorEq, Nat.reduceAdd, Nat.reduceLeDiff, Nat.reduceSub, Nat.reduceMul, List.reduceReplicate, Int.reduceEq, Int.reduceLT, Int.reduceLE, Int.reduceAdd, Int.reduceSub, Int.reduceMul, Nat.reduceLT, Int.reduceToNat]
          refine CallnL.of (by simp -implicitDefEqProofs (maxSteps := 2000000) only [homH, hne, hne', p10, wk, act, asV, ↓reduceIte, Nat.reduceEqDiff, reduceCtorEq, Nat.reduceAdd, Nat.reduceLeDiff, Nat.reduceSub, Nat.reduceMul, List.reduceReplicate, Int.reduceEq, Int.reduceLT, Int.reduceLE, Int.reduceAdd, Int.reduceSub, Int.reduceMul, Nat.reduceLT, Int.reduceToNat]; first | done | rfl) (last2_ok hh hx (by omega) ho) ?_
          rintro _ h' ⟨rfl, hfr⟩
          simp -implicitDefEqProofs (maxSteps := 2000000) only [wk, act, asV, ↓reduceIte, Nat.reduceEqDiff, reduceCtorEq, Nat.reduceAdd, Nat.reduceLeDiff, Nat.reduceSub, Nat.reduceMul, List.reduceReplicate, Int.reduceEq, Int.reduceLT, Int.reduceLE, Int.reduceAdd, Int.reduceSub, Int.reduceMul, Nat.reduceLT, Int.reduceToNat]
          rw [hInv]
          exact ⟨v5, v7, k0, (hfr h (.inl (by omega))).trans kO, (hfr 8041 (.inl (by decide))).trans k41, k7, (hfr 8007 (.inl (by decide))).trans kh7, k5, (hfr 8005 (.inl (by decide))).trans kh5, k8, fun y y1 y2 => (hfr y (by omega)).trans (fr y y1 y2), f0, f1, f2, f3, f4, f5, f6, f7, f8, f9, f10, fun _ => rfl, f12, f13, f14, f15, f16, f17, f18, f19, fun _ => rfl, g17, g20⟩
        · intro L s hL hp hI
          rw [hInv] at hI
          obtain ⟨v5, v7, k0, kO, k41, k7, kh7, k5, kh5, k8, fr, f0, f1, f2, f3, f4, f5, f6, f7, f8, f9, f10, f11, f12, f13, f14, f15, f16, f17, f18, f19, g14, g17, g20⟩ := hI
          simp -implicitDefEqProofs (maxSteps := 2000000) only [homH, hne, hne', k8, wk, act, asV, ↓reduceIte, Nat.reduceEqDiff, reduceCtorEq, Nat.reduceAdd, Nat.reduceLeDiff, Nat.reduceSub, Nat.reduceMul, List.reduceReplicate, Int.reduceEq, Int.reduceLT, Int.reduceLE, Int.reduceAdd, Int.reduceSub, Int.reduceMul, Nat.reduceLT, Int.reduceToNat]
          rw [hInv]
          exact ⟨v5, v7, k0, kO, k41, k7, kh7, k5, kh5, k8, fr, f0, f1, f2, f3, f4, f5, f6, f7, f8, f9, f10, f11, fun _ => rfl, f13, f14, f15, f16, f17, f18, f19, g14, g17, g20⟩
        · intro L s hL hp hI
          rw [hInv] at hI
          obtain ⟨v5, v7, k0, kO, k41, k7, kh7, k5, kh5, k8, fr, f0, f1, f2, f3, f4, f5, f6, f7, f8, f9, f10, f11, f12, f13, f14, f15, f16, f17, f18, f19, g14, g17, g20⟩ := hI
          have p12 := f12 (hp 12 (by simp))
          simp -implicitDefEqProofs (maxSteps := 2000000) only [homH, hne, hne', p12, wk, act, asV, ↓reduceIte, Nat.reduceEqDiff, reduceCtorEq, Nat.reduceAdd, Nat.reduceLeDiff, Nat.reduceSub, Nat.reduceMul, List.reduceReplicate, Int.reduceEq, Int.reduceLT, Int.reduceLE, Int.reduceAdd, Int.reduceSub, Int.reduceMul, Nat.reduceLT, Int.reduceToNat]
          rw [hInv]
          exact ⟨v5, v7, k0, kO, k41, k7, kh7, k5, kh5, k8, fr, f0, f1, f2, f3, f4, f5, f6, f7, f8, f9, f10, f11, f12, fun _ => rfl, f14, f15, f16, f17, f18, f19, g14, g17, g20⟩
        · intro L s hL hp hI
          rw [hInv] at hI
          obtain ⟨v5, v7, k0, kO, k41, k7, kh7, k5, kh5, k8, fr, f0, f1, f2, f3, f4, f5, f6, f7, f8, f9, f10, f11, f12, f13, f14, f15, f16, f17, f18, f19, g14, g17, g20⟩ := hI
          have p11 := f11 (hp 11 (by simp))
          have p13 := f13 (hp 13 (by simp))
          repeat' (first | simp -implicitDefEqProofs (maxSteps := 2000000) only [homH, hne, hne', p11, p13, lL0, tL0, lR, tR, bl_scal, bl_pur, wk, act, asV, ↓reduceIte, Nat.reduceEqDiff, reduceCtorEq, Nat.reduceAdd, Nat.reduceLeDiff, Nat.reduceSub, Nat.reduceMul, List.reduceReplicate, Int.reduceEq, Int.reduceLT, Int.reduceLE, Int.reduceAdd, Int.reduceSub, Int.reduceMul, Nat.reduceLT, Int.reduceToNat] | ((first | ((with_reducible refine CallL.gate ?_); apply CallL.of) | ((with_reducible refine CallpL.gate ?_); apply CallpL.of) | ((with_reducible refine CallP.gate ?_); apply CallP.of) | ((with_reducible refine CallpP.gate ?_); apply CallpP.of)); (case h1 => (simp -implicitDefEqProofs (maxSteps := 2000000) only [homH, hne, hne', p11, p13, lL0, tL0, lR, tR, bl_scal, bl_pur, wk, act, asV, ↓reduceIte, Nat.reduceEqDiff, reduceCtorEq, Nat.reduceAdd, Nat.reduceLeDiff, Nat.reduceSub, Nat.reduceMul, List.reduceReplicate, Int.reduceEq, Int.reduceLT, Int.reduceLE, Int.reduceAdd, Int.reduceSub, Int.reduceMul, Nat.reduceLT, Int.reduceToNat]; first | done | (with_reducible rfl))); (case h2 => (first | exact c2)); (case h3 => simp -implicitDefEqProofs (maxSteps := 2000000) only [homH, hne, hne', p11, p13, lL0, tL0, lR, tR, bl_scal, bl_pur, wk, act, asV, ↓reduceIte, Nat.reduceEqDiff, reduceCtorEq, Nat.reduceAdd, Nat.reduceLeDiff, Nat.reduceSub, Nat.reduceMul, List.reduceReplicate, Int.reduceEq, Int.reduceLT, Int.reduceLE, Int.reduceAdd, Int.reduceSub, Int.reduceMul, Nat.reduceLT, Int.reduceToNat])))
          rw [hInv]
          exact ⟨v5, v7, k0, kO, k41, k7, kh7, k5, kh5, k8, fr, f0, f1, f2, f3, f4, f5, f6, f7, f8, f9, f10, f11, f12, f13, fun _ => rfl, f15, f16, f17, f18, f19, fun _ => hp 11 (by simp), fun h => ⟨rfl, (g17 h).2⟩, g20⟩
        · intro L s hL hp hI
          rw [hInv] at hI
          obtain ⟨v5, v7, k0, kO, k41, k7, kh7, k5, kh5, k8, fr, f0, f1, f2, f3, f4, f5, f6, f7, f8, f9, f10, f11, f12, f13, f14, f15, f16, f17, f18, f19, g14, g17, g20⟩ := hI
          have p5 := f5 (hp 5 (by simp))
          have p7 := f7 (hp 7 (by simp))
          have p9 := f9 (hp 9 (by simp))
          have p14 := f14 (hp 14 (by simp))
          simp -implicitDefEqProofs (maxSteps := 2000000) only [homH, hne, hne', p5, p7, p9, p14, lD, tD, lG, tG, bl_scal, hpl, wk, act, asV, ↓reduceIte, Nat.reduceEqDiff, reduceCtorEq, Nat.reduceAdd, Nat.reduceLeDiff, Nat.reduceSub, Nat.reduceMul, List.reduceReplicate, Int.reduceEq, Int.reduceLT, Int.reduceLE, Int.reduceAdd, Int.reduceSub, Int.reduceMul, Nat.reduceLT, Int.reduceToNat]
          rw [hInv]
          exact ⟨v5, v7, k0, kO, k41, k7, kh7, k5, kh5, k8, fr, f0, f1, f2, f3, f4, f5, f6, f7, f8, f9, f10, f11, f12, f13, f14, fun _ => rfl, f16, f17, f18, f19, g14, g17, g20⟩
        · intro L s hL hp hI
          rw [hInv] at hI
          obtain ⟨v5, v7, k0, kO, k41, k7, kh7, k5, kh5, k8, fr, f0, f1, f2, f3, f4, f5, f6, f7, f8, f9, f10, f11, f12, f13, f14, f15, f16, f17, f18, f19, g14, g17, g20⟩ := hI
          have p15 := f15 (hp 15 (by simp))
          simp -implicitDefEqProofs (maxSteps := 2000000) only [homH, hne, hne', p15, lz, sz, tz, wk, act, asV, ↓reduceIte, Nat.reduceEqDiff, reduceCtorEq, Nat.reduceAdd, Nat.reduceLeDiff, Nat.reduceSub, Nat.reduceMul, List.reduceReplicate, Int.reduceEq, Int.reduceLT, Int.reduceLE, Int.reduceAdd, Int.reduceSub, Int.reduceMul, Nat.reduceLT, Int.reduceToNat]
          rw [hInv]
          exact ⟨v5, v7, k0, kO, k41, k7, kh7, k5, kh5, k8, fr, f0, f1, f2, f3, f4, f5, f6, f7, f8, f9, f10, f11, f12, f13, f14, f15, fun _ => rfl, f17, f18, f19, g14, g17, g20⟩
        · intro L s hL hp hI
          rw [hInv] at hI
          obtain ⟨v5, v7, k0, kO, k41, k7, kh7, k5, kh5, k8, fr, f0, f1, f2, f3, f4, f5, f6, f7, f8, f9, f10, f11, f12, f13, f14, f15, f16, f17, f18, f19, g14, g17, g20⟩ := hI
          have p4 := f4 (hp 4 (by simp))
          have p16 := f16 (hp 16 (by simp))
          have k41' := k41
          rw [hL] at k41'
          simp -implicitDefEqProofs (maxSteps := 2000000) only [homH, hne, hne', p4, p16, k41', cond_false, lL, r80, r81, lz, hen0, wk, act, asV, ↓reduceIte, Nat.reduceEqDiff, reduceCtorEq, Nat.reduceAdd, Nat.reduceLeDiff, Nat.reduceSub, Nat.reduceMul, List.reduceReplicate, Int.reduceEq, Int.reduceLT, Int.reduceLE, Int.reduceAdd, Int.reduceSub, Int.reduceMul, Nat.reduceLT, Int.reduceToNat]
          rw [hInv]
          exact ⟨v5, v7, k0, (updN (by omega)).trans kO, rfl, k7, kh7, k5, kh5, k8, fun y y1 y2 => (updN (by omega)).trans (fr y y1 y2), f0, f1, f2, f3, f4, f5, f6, f7, f8, f9, f10, f11, f12, f13, f14, f15, f16, fun _ => rfl, f18, f19, g14, fun _ => ⟨hp 14 (by simp), hp 4 (by simp)⟩, fun _ => rfl⟩
        · intro L s hL hp hI
          rw [hInv] at hI
          obtain ⟨v5, v7, k0, kO, k41, k7, kh7, k5, kh5, k8, fr, f0, f1, f2, f3, f4, f5, f6, f7, f8, f9, f10, f11, f12, f13, f14, f15, f16, f17, f18, f19, g14, g17, g20⟩ := hI
          have p0 := f0 (hp 0 (by simp))
          simp -implicitDefEqProofs (maxSteps := 2000000) only [homH, hne, hne', p0, kO, wk, act, asV, ↓reduceIte, Nat.reduceEqDiff, reduceCtorEq, Nat.reduceAdd, Nat.reduceLeDiff, Nat.reduceSub, Nat.reduceMul, List.reduceReplicate, Int.reduceEq, Int.reduceLT, Int.reduceLE, Int.reduceAdd, Int.reduceSub, Int.reduceMul, Nat.reduceLT, Int.reduceToNat]
          rw [hInv]
          exact ⟨v5, v7, k0, kO, k41, k7, kh7, k5, kh5, k8, fr, f0, f1, f2, f3, f4, f5, f6, f7, f8, f9, f10, f11, f12, f13, f14, f15, f16, f17, fun _ => rfl, f19, g14, g17, g20⟩
        · intro L s hL hp hI
          rw [hInv] at hI
          obtain ⟨v5, v7, k0, kO, k41, k7, kh7, k5, kh5, k8, fr, f0, f1, f2, f3, f4, f5, f6, f7, f8, f9, f10, f11, f12, f13, f14, f15, f16, f17, f18, f19, g14, g17, g20⟩ := hI
          have p18 := f18 (hp 18 (by simp))
          simp -implicitDefEqProofs (maxSteps := 2000000) only [homH, hne, hne', p18, kO, wk, act, asV, ↓reduceIte, Nat.reduceEqDiff, reduceCtorEq, Nat.reduceAdd, Nat.reduceLeDiff, Nat.reduceSub, Nat.reduceMul, List.reduceReplicate, Int.reduceEq, Int.reduceLT, Int.reduceLE, Int.reduceAdd, Int.reduceSub, Int.reduceMul, Nat.reduceLT, Int.reduceToNat]
          rw [hInv]
          exact ⟨v5, v7, k0, kO, k41, k7, kh7, k5, kh5, k8, fr, f0, f1, f2, f3, f4, f5, f6, f7, f8, f9, f10, f11, f12, f13, f14, f15, f16, f17, f18, fun _ => rfl, g14, g17, g20⟩
        · intro L s hL hp hI
          rw [hInv] at hI
          obtain ⟨v5, v7, k0, kO, k41, k7, kh7, k5, kh5, k8, fr, f0, f1, f2, f3, f4, f5, f6, f7, f8, f9, f10, f11, f12, f13, f14, f15, f16, f17, f18, f19, g14, g17, g20⟩ := hI
          have p19 := f19 (hp 19 (by simp))
          have p17 := f17 (hp 17 (by simp))
          simp -implicitDefEqProofs (maxSteps := 2000000) only [homH, hne, hne', p19, p17, kO, wk, act, asV, ↓reduceIte, Nat.reduceEqDiff, reduceCtorEq, Nat.reduceAdd, Nat.reduceLeDiff, Nat.reduceSub, Nat.reduceMul, List.reduceReplicate, Int.reduceEq, Int.reduceLT, Int.reduceLE, Int.reduceAdd, Int.reduceSub, Int.reduceMul, Nat.reduceLT, Int.reduceToNat]
          rw [hInv]
          exact ⟨v5, v7, k0, updE, (updN (by omega)).trans k41, k7, (updN (by omega)).trans kh7, k5, (updN (by omega)).trans kh5, k8, fun y y1 y2 => (updN y1).trans (fr y y1 y2), f0, f1, f2, f3, f4, f5, f6, f7, f8, f9, f10, f11, f12, f13, f14, f15, f16, f17, f18, f19, g14, g17, fun _ => hp 17 (by simp)⟩
      · intro s hI
        rw [hInv] at hI
        obtain ⟨v5, v7, k0, kO, k41, k7, kh7, k5, kh5, k8, fr, f0, f1, f2, f3, f4, f5, f6, f7, f8, f9, f10, f11, f12, f13, f14, f15, f16, f17, f18, f19, g14, g17, g20⟩ := hI
        have kO2 : s.h h = ⟨hv, true, true, false, [.row 8041 0 1 66 ((H 8041).ver + 1)]⟩ := kO
        have k412 : s.h 8041 = ⟨(H 8041).ver + 1, true, true, true, enC z⟩ := k41
        simp -implicitDefEqProofs (maxSteps := 2000000) only [homH, wk, act, asV, ↓reduceIte, Nat.reduceEqDiff, reduceCtorEq, Nat.reduceAdd, Nat.reduceLeDiff, Nat.reduceSub, Nat.reduceMul, List.reduceReplicate, Int.reduceEq, Int.reduceLT, Int.reduceLE, Int.reduceAdd, Int.reduceSub, Int.reduceMul, Nat.reduceLT, Int.reduceToNat]
        refine PostI.mk (by simp -implicitDefEqProofs (maxSteps := 2000000) only [wk, act, asV, ↓reduceIte, Nat.reduceEqDiff, reduceCtorEq, Nat.reduceAdd, Nat.reduceLeDiff, Nat.reduceSub, Nat.reduceMul, List.reduceReplicate, Int.reduceEq, Int.reduceLT, Int.reduceLE, Int.reduceAdd, Int.reduceSub, Int.reduceMul, Nat.reduceLT, Int.reduceToNat]; first | done | (with_reducible rfl)) ⟨by rfl, ⟨_, kO2, .inr ⟨by simp, (H 8041).ver + 1, by rw [hx0]; rfl, by rw [k412, hx0]; simp [enL]⟩⟩, fun y y1 y2 => fr y y1 y2⟩
    · have hen0 : xs.length = xs.length := rfl
      repeat' (first | simp -implicitDefEqProofs (maxSteps := 2000000) only [m11_1, m11_2, m11_3, m11_4, m11_5, m11_6, m11_7, m11_8, m11_9, m11_10, m11_r, m11_b, m11, homH, hH, n41, hne, hne', nF, boxR, lD, tD, xD, tR, hlR, rc, bl_scal, bl_pur, wk, act, asV, ↓reduceIte, Nat.reduceEqDiff, reduceCtorEq, Nat.reduceAdd, Nat.reduceLeDiff, Nat.reduceSub, Nat.reduceMul, List.reduceReplicate, Int.reduceEq, Int.reduceLT, Int.reduceLE, Int.reduceAdd, Int.reduceSub, Int.reduceMul, Nat.reduceLT, Int.reduceToNat] | ((first | ((with_reducible refine CallL.gate ?_); apply CallL.of) | ((with_reducible refine CallpL.gate ?_); apply CallpL.of) | ((with_reducible refine CallP.gate ?_); apply CallP.of) | ((with_reducible refine CallpP.gate ?_); apply CallpP.of)); (case h1 => (simp -implicitDefEqProofs (maxSteps := 2000000) only [m11_1, m11_2, m11_3, m11_4, m11_5, m11_6, m11_7, m11_8, m11_9, m11_10, m11_r, m11_b, m11, homH, hH, n41, hne, hne', nF, boxR, lD, tD, xD, tR, hlR, rc, bl_scal, bl_pur, wk, act, asV, ↓reduceIte, Nat.reduceEqDiff, reduceCtorEq, Nat.reduceAdd, Nat.reduceLeDiff, Nat.reduceSub, Nat.reduceMul, List.reduceReplicate, Int.reduceEq, Int.reduceLT, Int.reduceLE, Int.reduceAdd, Int.reduceSub, Int.reduceMul, Nat.reduceLT, Int.reduceToNat]; first | done | (with_reducible rfl))); (case h2 => (first | exact c0 | exact c1)); (case h3 => simp -implicitDefEqProofs (maxSteps := 2000000) only [m11_1, m11_2, m11_3, m11_4, m11_5, m11_6, m11_7, m11_8, m11_9, m11_10, m11_r, m11_b, m11, homH, hH, n41, hne, hne', nF, boxR, lD, tD, xD, tR, hlR, rc, bl_scal, bl_pur, wk, act, asV, ↓reduceIte, Nat.reduceEqDiff, reduceCtorEq, Nat.reduceAdd, Nat.reduceLeDiff, Nat.reduceSub, Nat.reduceMul, List.reduceReplicate, Int.reduceEq, Int.reduceLT, Int.reduceLE, Int.reduceAdd, Int.reduceSub, Int.reduceMul, Nat.reduceLT, Int.reduceToNat])))
      obtain ⟨Inv, hInv⟩ : ∃ Inv : (Nat → Bool) → St → Prop, Inv = fun (L : Nat → Bool) (s : St) => ∃ v5 v7, s.t 0 = .ptr h 0 hv ∧ s.h h = ⟨hv, true, true, false, [cond (L 20) (.row 8041 0 (xs.length + 1) 66 (ver + 1 + 1)) (.row 8041 0 xs.length 66 ver)]⟩ ∧ s.h 8041 = cond (L 17) ⟨ver + 1 + 1, true, true, true, enL xs ++ enC z⟩ (⟨ver, true, true, true, enL xs⟩) ∧ s.t 7 = .ptr 8007 0 v7 ∧ s.h 8007 = ⟨v7, true, true, false, bl D⟩ ∧ s.t 5 = .ptr 8005 0 v5 ∧ s.h 8005 = ⟨v5, true, true, false, rc r⟩ ∧ s.t 8 = .sl .plain 40 (bl R) ∧ (∀ y, y ≠ h → (y < 8000 ∨ 10000 ≤ y) → s.h y = H y) ∧ (L 0 = true → s.t 24 = .ptr h 0 hv) ∧ (L 1 = true → s.t 25 = .ptr h 0 hv) ∧ (L 2 = true → s.t 26 = .ptr h 0 hv) ∧ (L 3 = true → s.t 27 = .ptr h 0 hv) ∧ (L 4 = true → s.t 28 = .row 8041 0 xs.length 66 ver) ∧ (L 5 = true → s.t 29 = .agg (bl D)) ∧ (L 6 = true → s.t 30 = .ptr 8005 0 v5) ∧ (L 7 = true → s.t 31 = .int .i64 r.id) ∧ (L 8 = true → s.t 32 = .ptr 8005 1 v5) ∧ (L 9 = true → s.t 33 = .int .i64 r.e) ∧ (L 10 = true → s.t 34 = .ptr h 0 hv) ∧ (L 11 = true → s.t 35 = .agg (bl (lastE xs))) ∧ (L 12 = true → s.t 36 = .sl .plain 40 (bl R)) ∧ (L 13 = true → s.t 37 = .sl .lit 1 [.sl .plain 40 (bl R)]) ∧ (L 14 = true → s.t 38 = .agg (bl G)) ∧ (L 15 = true → s.t 39 = .agg (enC z)) ∧ (L 16 = true → s.t 40 = .sl .lit 1 (enC z)) ∧ (L 17 = true → s.t 41 = .row 8041 0 (xs.length + 1) 66 (ver + 1 + 1)) ∧ (L 18 = true → s.t 42 = .ptr h 0 hv) ∧ (L 19 = true → s.t 43 = .ptr h 0 hv) ∧ (L 14 = true → L 11 = true) ∧ (L 17 = true → L 14 = true ∧ L 4 = true) ∧ (L 20 = true → L 17 = true) := ⟨_, rfl⟩
      refine Wp_drxO Inv ?_ ?_ ?_
      · rw [hInv]
        exact ⟨_, _, by simp -implicitDefEqProofs (maxSteps := 2000000) only [homH, hH, n41, hne, hne', wk, act, asV, ↓reduceIte, Nat.reduceEqDiff, reduceCtorEq, Nat.reduceAdd, Nat.reduceLeDiff, Nat.reduceSub, Nat.reduceMul, List.reduceReplicate, Int.reduceEq, Int.reduceLT, Int.reduceLE, Int.reduceAdd, Int.reduceSub, Int.reduceMul, Nat.reduceLT, Int.reduceToNat]; first | done | rfl, by simp -implicitDefEqProofs (maxSteps := 2000000) only [homH, hH, n41, hne, hne', wk, act, asV, ↓reduceIte, Nat.reduceEqDiff, reduceCtorEq, Nat.reduceAdd, Nat.reduceLeDiff, Nat.reduceSub, Nat.reduceMul, List.reduceReplicate, Int.reduceEq, Int.reduceLT, Int.reduceLE, Int.reduceAdd, Int.reduceSub, Int.reduceMul, Nat.reduceLT, Int.reduceToNat]; first | done | rfl, by simp -implicitDefEqProofs (maxSteps := 2000000) only [homH, hH, n41, hne, hne', wk, act, asV, ↓reduceIte, Nat.reduceEqDiff, reduceCtorEq, Nat.reduceAdd, Nat.reduceLeDiff, Nat.reduceSub, Nat.reduceMul, List.reduceReplicate, Int.reduceEq, Int.reduceLT, Int.reduceLE, Int.reduceAdd, Int.reduceSub, Int.reduceMul, Nat.reduceLT, Int.reduceToNat]; first | done | rfl, by simp -implicitDefEqProofs (maxSteps := 2000000) only [homH, hH, n41, hne, hne', wk, act, asV, ↓reduceIte, Nat.reduceEqDiff, reduceCtorEq, Nat.reduceAdd, Nat.reduceLeDiff, Nat.reduceSub, Nat.reduceMul, List.reduceReplicate, Int.reduceEq, Int.reduceLT, Int.reduceLE, Int.reduceAdd, Int.reduceSub, Int.reduceMul, Nat.reduceLT, Int.reduceToNat]; first | done | rfl, by simp -implicitDefEqProofs (maxSteps := 2000000) only [homH, hH, n41, hne, hne', wk, act, asV, ↓reduceIte, Nat.reduceEqDiff, reduceCtorEq, Nat.reduceAdd, Nat.reduceLeDiff, Nat.reduceSub, Nat.reduceMul, List.reduceReplicate, Int.reduceEq, Int.reduceLT, Int.reduceLE, Int.reduceAdd, Int.reduceSub, Int.reduceMul, Nat.reduceLT, Int.reduceToNat]; first | done | rfl, by simp -implicitDefEqProofs (maxSteps := 2000000) only [homH, hH, n41, hne, hne', wk, act, asV, ↓reduceIte, Nat.reduceEqDiff, reduceCtorEq, Nat.reduceAdd, Nat.reduceLeDiff, Nat.reduceSub, Nat.reduceMul, List.reduceReplicate, Int.reduceEq, Int.reduceLT, Int.reduceLE, Int.reduceAdd, Int.reduceSub, Int.reduceMul, Nat.reduceLT, Int.reduceToNat]; first | done | rfl, by simp -implicitDefEqProofs (maxSteps := 2000000) only [homH, hH, n41, hne, hne', wk, act, asV, ↓reduceIte, Nat.reduceEqDiff, reduceCtorEq, Nat.reduceAdd, Nat.reduceLeDiff, Nat.reduceSub, Nat.reduceMul, List.reduceReplicate, Int.reduceEq, Int.reduceLT, Int.reduceLE, Int.reduceAdd, Int.reduceSub, Int.reduceMul, Nat.reduceLT, Int.reduceToNat]; first | done | rfl, by simp -implicitDefEqProofs (maxSteps := 2000000) only [homH, hH, n41, hne, hne', wk, act, asV, ↓reduceIte, Nat.reduceEqDiff, reduceCtorEq, Nat.reduceAdd, Nat.reduceLeDiff, Nat.reduceSub, Nat.reduceMul, List.reduceReplicate, Int.reduceEq, Int.reduceLT, Int.reduceLE, Int.reduceAdd, Int.reduceSub, Int.reduceMul, Nat.reduceLT, Int.reduceToNat]; first | done | rfl, (fun y y1 y2 => by
        have y3 : ∀ k, 8000 ≤ k → k < 10000 → (y = k) = False := fun k _ _ => by simp; omega
        simp -implicitDefEqProofs (maxSteps := 2000000) only [homH, y1, y3, wk, act, asV, ↓reduceIte, Nat.reduceEqDiff, reduceCtorEq, Nat.reduceAdd, Nat.reduceLeDiff, Nat.reduceSub, Nat.reduceMul, List.reduceReplicate, Int.reduceEq, Int.reduceLT, Int.reduceLE, Int.reduceAdd, Int.reduceSub, Int.reduceMul, Nat.reduceLT, Int.reduceToNat]), fun h => absurd (h : false = true) (by decide), fun h => absurd (h : false = true) (by decide), fun h => absurd (h : false = true) (by decide), fun h => absurd (h : false = true) (by decide), fun h => absurd (h : false = true) (by decide), fun h => absurd (h : false = true) (by decide), fun h => absurd (h : false = true) (by decide), fun h => absurd (h : false = true) (by decide), fun h => absurd (h : false = true) (by decide), fun h => absurd (h : false = true) (by decide), fun h => absurd (h : false = true) (by decide), fun h => absurd (h : false = true) (by decide), fun h => absurd (h : false = true) (by decide), fun h => absurd (h : false = true) (by decide), fun h => absurd (h : false = true) (by decide), fun h => absurd (h : false = true) (by decide), fun h => absurd (h : false = true) (by decide), fun h => absurd (h : false = true) (by decide), fun h => absurd (h : false = true) (by decide), fun h => absurd (h : false = true) (by decide), fun h => absurd (h : false = true) (by decide), fun h => absurd (h : false = true) (by decide), fun h => absurd (h : false = true) (by decide)⟩
      · refine stepsO_cons ?_ (stepsO_cons ?_ (stepsO_cons ?_ (stepsO_cons ?_ (stepsO_cons ?_ (stepsO_cons ?_ (stepsO_cons ?_ (stepsO_cons ?_ (stepsO_cons ?_ (stepsO_cons ?_ (stepsO_cons ?_ (stepsO_cons ?_ (stepsO_cons ?_ (stepsO_cons ?_ (stepsO_cons ?_ (stepsO_cons ?_ (stepsO_cons ?_ (stepsO_cons ?_ (stepsO_cons ?_ (stepsO_cons ?_ (stepsO_cons ?_ (stepsO_nil)))))))))))))))))))))
        · intro L s hL hp hI
          rw [hInv] at hI
          obtain ⟨v5, v7, k0, kO, k41, k7, kh7, k5, kh5, k8, fr, f0, f1, f2, f3, f4, f5, f6, f7, f8, f9, f10, f11, f12, f13, f14, f15, f16, f17, f18, f19, g14, g17, g20⟩ := hI
          simp -implicitDefEqProofs (maxSteps := 2000000) only [homH, hne, hne', k0, wk, act, asV, ↓reduceIte, Nat.reduceEqDiff, reduceCtorEq, Nat.reduceAdd, Nat.reduceLeDiff, Nat.reduceSub, Nat.reduceMul, List.reduceReplicate, Int.reduceEq, Int.reduceLT, Int.reduceLE, Int.reduceAdd, Int.reduceSub, Int.reduceMul, Nat.reduceLT, Int.reduceToNat]
          rw [hInv]
          exact ⟨v5, v7, k0, kO, k41, k7, kh7, k5, kh5, k8, fr, fun _ => rfl, f1, f2, f3, f4, f5, f6, f7, f8, f9, f10, f11, f12, f13, f14, f15, f16, f17, f18, f19, g14, g17, g20⟩
        · intro L s hL hp hI
          rw [hInv] at hI
          obtain ⟨v5, v7, k0, kO, k41, k7, kh7, k5, kh5, k8, fr, f0, f1, f2, f3, f4, f5, f6, f7, f8, f9, f10, f11, f12, f13, f14, f15, f16, f17, f18, f19, g14, g17, g20⟩ := hI
          simp -implicitDefEqProofs (maxSteps := 2000000) only [homH, hne, hne', k0, wk, act, asV, ↓reduceIte, Nat.reduceEqDiff, reduceCtorEq, Nat.reduceAdd, Nat.reduceLeDiff, Nat.reduceSub, Nat.reduceMul, List.reduceReplicate, Int.reduceEq, Int.reduceLT, Int.reduceLE, Int.reduceAdd, Int.reduceSub, Int.reduceMul, Nat.reduceLT, Int.reduceToNat]
          rw [hInv]
          exact ⟨v5, v7, k0, kO, k41, k7, kh7, k5, kh5, k8, fr, f0, fun _ => rfl, f2, f3, f4, f5, f6, f7, f8, f9, f10, f11, f12, f13, f14, f15, f16, f17, f18, f19, g14, g17, g20⟩
        · intro L s hL hp hI
          rw [hInv] at hI
          obtain ⟨v5, v7, k0, kO, k41, k7, kh7, k5, kh5, k8, fr, f0, f1, f2, f3, f4, f5, f6, f7, f8, f9, f10, f11, f12, f13, f14, f15, f16, f17, f18, f19, g14, g17, g20⟩ := hI
          have p1 := f1 (hp 1 (by simp))
          simp -implicitDefEqProofs (maxSteps := 2000000) only [homH, hne, hne', p1, kO, wk, act, asV, ↓reduceIte, Nat.reduceEqDiff, reduceCtorEq, Nat.reduceAdd, Nat.reduceLeDiff, Nat.reduceSub, Nat.reduceMul, List.reduceReplicate, Int.reduceEq, Int.reduceLT, Int.reduceLE, Int.reduceAdd, Int.reduceSub, Int.reduceMul, Nat.reduceLT, Int.reduceToNat]
          rw [hInv]
          exact ⟨v5, v7, k0, kO, k41, k7, kh7, k5, kh5, k8, fr, f0, f1, fun _ => rfl, f3, f4, f5, f6, f7, f8, f9, f10, f11, f12, f13, f14, f15, f16, f17, f18, f19, g14, g17, g20⟩
        · intro L s hL hp hI
          rw [hInv] at hI
          obtain ⟨v5, v7, k0, kO, k41, k7, kh7, k5, kh5, k8, fr, f0, f1, f2, f3, f4, f5, f6, f7, f8, f9, f10, f11, f12, f13, f14, f15, f16, f17, f18, f19, g14, g17, g20⟩ := hI
          have p2 := f2 (hp 2 (by simp))
          simp -implicitDefEqProofs (maxSteps := 2000000) only [homH, hne, hne', p2, kO, wk, act, asV, ↓reduceIte, Nat.reduceEqDiff, reduceCtorEq, Nat.reduceAdd, Nat.reduceLeDiff, Nat.reduceSub, Nat.reduceMul, List.reduceReplicate, Int.reduceEq, Int.reduceLT, Int.reduceLE, Int.reduceAdd, Int.reduceSub, Int.reduceMul, Nat.reduceLT, Int.reduceToNat]
          rw [hInv]
          exact ⟨v5, v7, k0, kO, k41, k7, kh7, k5, kh5, k8, fr, f0, f1, f2, fun _ => rfl, f4, f5, f6, f7, f8, f9, f10, f11, f12, f13, f14, f15, f16, f17, f18, f19, g14, g17, g20⟩
        · intro L s hL hp hI
          rw [hInv] at hI
          obtain ⟨v5, v7, k0, kO, k41, k7, kh7, k5, kh5, k8, fr, f0, f1, f2, f3, f4, f5, f6, f7, f8, f9, f10, f11, f12, f13, f14, f15, f16, f17, f18, f19, g14, g17, g20⟩ := hI
          have p3 := f3 (hp 3 (by simp))
          have l17 : L 17 = false := Bool.eq_false_iff.2 fun hh => absurd (g17 hh).2 (by rw [hL]; decide)
          have l20 : L 20 = false := Bool.eq_false_iff.2 fun hh => absurd (g20 hh) (by rw [l17]; decide)
          have kO' := kO
          rw [l20] at kO'
          simp -implicitDefEqProofs (maxSteps := 2000000) only [homH, hne, hne', p3, kO', cond_false, wk, act, asV, ↓reduceIte, Nat.reduceEqDiff, reduceCtorEq, Nat.reduceAdd, Nat.reduceLeDiff, Nat.reduceSub, Nat.reduceMul, List.reduceReplicate, Int.reduceEq, Int.reduceLT, Int.reduceLE, Int.reduceAdd, Int.reduceSub, Int.reduceMul, Nat.reduceLT, Int.reduceToNat]
          rw [hInv]
          exact ⟨v5, v7, k0, kO, k41, k7, kh7, k5, kh5, k8, fr, f0, f1, f2, f3, fun _ => rfl, f5, f6, f7, f8, f9, f10, f11, f12, f13, f14, f15, f16, f17, f18, f19, g14, fun h => ⟨(g17 h).1, rfl⟩, g20⟩
        · intro L s hL hp hI
          rw [hInv] at hI
          obtain ⟨v5, v7, k0, kO, k41, k7, kh7, k5, kh5, k8, fr, f0, f1, f2, f3, f4, f5, f6, f7, f8, f9, f10, f11, f12, f13, f14, f15, f16, f17, f18, f19, g14, g17, g20⟩ := hI
          simp -implicitDefEqProofs (maxSteps := 2000000) only [homH, hne, hne', k7, kh7, lD, tD, wk, act, asV, ↓reduceIte, Nat.reduceEqDiff, reduceCtorEq, Nat.reduceAdd, Nat.reduceLeDiff, Nat.reduceSub, Nat.reduceMul, List.reduceReplicate, Int.reduceEq, Int.reduceLT, Int.reduceLE, Int.reduceAdd, Int.reduceSub, Int.reduceMul, Nat.reduceLT, Int.reduceToNat]
          rw [hInv]
          exact ⟨v5, v7, k0, kO, k41, k7, kh7, k5, kh5, k8, fr, f0, f1, f2, f3, f4, fun _ => rfl, f6, f7, f8, f9, f10, f11, f12, f13, f14, f15, f16, f17, f18, f19, g14, g17, g20⟩
        · intro L s hL hp hI
          rw [hInv] at hI
          obtain ⟨v5, v7, k0, kO, k41, k7, kh7, k5, kh5, k8, fr, f0, f1, f2, f3, f4, f5, f6, f7, f8, f9, f10, f11, f12, f13, f14, f15, f16, f17, f18, f19, g14, g17, g20⟩ := hI
          simp -implicitDefEqProofs (maxSteps := 2000000) only [homH, hne, hne', k5, kh5, wk, act, asV, ↓reduceIte, Nat.reduceEqDiff, reduceCtorEq, Nat.reduceAdd, Nat.reduceLeDiff, Nat.reduceSub, Nat.reduceMul, List.reduceReplicate, Int.reduceEq, Int.reduceLT, Int.reduceLE, Int.reduceAdd, Int.reduceSub, Int.reduceMul, Nat.reduceLT, Int.reduceToNat]
          rw [hInv]
          exact ⟨v5, v7, k0, kO, k41, k7, kh7, k5, kh5, k8, fr, f0, f1, f2, f3, f4, f5, fun _ => rfl, f7, f8, f9, f10, f11, f12, f13, f14, f15, f16, f17, f18, f19, g14, g17, g20⟩
        · intro L s hL hp hI
          rw [hInv] at hI
          obtain ⟨v5, v7, k0, kO, k41, k7, kh7, k5, kh5, k8, fr, f0, f1, f2, f3, f4, f5, f6, f7, f8, f9, f10, f11, f12, f13, f14, f15, f16, f17, f18, f19, g14, g17, g20⟩ := hI
          have p6 := f6 (hp 6 (by simp))
          simp -implicitDefEqProofs (maxSteps := 2000000) only [homH, hne, hne', p6, kh5, rc, wk, act, asV, ↓reduceIte, Nat.reduceEqDiff, reduceCtorEq, Nat.reduceAdd, Nat.reduceLeDiff, Nat.reduceSub, Nat.reduceMul, List.reduceReplicate, Int.reduceEq, Int.reduceLT, Int.reduceLE, Int.reduceAdd, Int.reduceSub, Int.reduceMul, Nat.reduceLT, Int.reduceToNat]
          rw [hInv]
          exact ⟨v5, v7, k0, kO, k41, k7, kh7, k5, kh5, k8, fr, f0, f1, f2, f3, f4, f5, f6, fun _ => rfl, f8, f9, f10, f11, f12, f13, f14, f15, f16, f17, f18, f19, g14, g17, g20⟩
        · intro L s hL hp hI
          rw [hInv] at hI
          obtain ⟨v5, v7, k0, kO, k41, k7, kh7, k5, kh5, k8, fr, f0, f1, f2, f3, f4, f5, f6, f7, f8, f9, f10, f11, f12, f13, f14, f15, f16, f17, f18, f19, g14, g17, g20⟩ := hI
          simp -implicitDefEqProofs (maxSteps := 2000000) only [homH, hne, hne', k5, kh5, wk, act, asV, ↓reduceIte, Nat.reduceEqDiff, reduceCtorEq, Nat.reduceAdd, Nat.reduceLeDiff, Nat.reduceSub, Nat.reduceMul, List.reduceReplicate, Int.reduceEq, Int.reduceLT, Int.reduceLE, Int.reduceAdd, Int.reduceSub, Int.reduceMul, Nat.reduceLT, Int.reduceToNat]
          rw [hInv]
          exact ⟨v5, v7, k0, kO, k41, k7, kh7, k5, kh5, k8, fr, f0, f1, f2, f3, f4, f5, f6, f7, fun _ => rfl, f9, f10, f11, f12, f13, f14, f15, f16, f17, f18, f19, g14, g17, g20⟩
        · intro L s hL hp hI
          rw [hInv] at hI
          obtain ⟨v5, v7, k0, kO, k41, k7, kh7, k5, kh5, k8, fr, f0, f1, f2, f3, f4, f5, f6, f7, f8, f9, f10, f11, f12, f13, f14, f15, f16, f17, f18, f19, g14, g17, g20⟩ := hI
          have p8 := f8 (hp 8 (by simp))
          simp -implicitDefEqProofs (maxSteps := 2000000) only [homH, hne, hne', p8, kh5, rc, wk, act, asV, ↓reduceIte, Nat.reduceEqDiff, reduceCtorEq, Nat.reduceAdd, Nat.reduceLeDiff, Nat.reduceSub, Nat.reduceMul, List.reduceReplicate, Int.reduceEq, Int.reduceLT, Int.reduceLE, Int.reduceAdd, Int.reduceSub, Int.reduceMul, Nat.reduceLT, Int.reduceToNat]
          rw [hInv]
          exact ⟨v5, v7, k0, kO, k41, k7, kh7, k5, kh5, k8, fr, f0, f1, f2, f3, f4, f5, f6, f7, f8, fun _ => rfl, f10, f11, f12, f13, f14, f15, f16, f17, f18, f19, g14, g17, g20⟩
        · intro L s hL hp hI
          rw [hInv] at hI
          obtain ⟨v5, v7, k0, kO, k41, k7, kh7, k5, kh5, k8, fr, f0, f1, f2, f3, f4, f5, f6, f7, f8, f9, f10, f11, f12, f13, f14, f15, f16, f17, f18, f19, g14, g17, g20⟩ := hI
          simp -implicitDefEqProofs (maxSteps := 2000000) only [homH, hne, hne', k0, wk, act, asV, ↓reduceIte, Nat.reduceEqDiff, reduceCtorEq, Nat.reduceAdd, Nat.reduceLeDiff, Nat.reduceSub, Nat.reduceMul, List.reduceReplicate, Int.reduceEq, Int.reduceLT, Int.reduceLE, Int.reduceAdd, Int.reduceSub, Int.reduceMul, Nat.reduceLT, Int.reduceToNat]
          rw [hInv]
          exact ⟨v5, v7, k0, kO, k41, k7, kh7, k5, kh5, k8, fr, f0, f1, f2, f3, f4, f5, f6, f7, f8, f9, fun _ => rfl, f11, f12, f13, f14, f15, f16, f17, f18, f19, g14, g17, g20⟩
        · intro L s hL hp hI
          rw [hInv] at hI
          obtain ⟨v5, v7, k0, kO, k41, k7, kh7, k5, kh5, k8, fr, f0, f1, f2, f3, f4, f5, f6, f7, f8, f9, f10, f11, f12, f13, f14, f15, f16, f17, f18, f19, g14, g17, g20⟩ := hI
          have p10 := f10 (hp 10 (by simp))
          have l14 : L 14 = false := Bool.eq_false_iff.2 fun hh => absurd (g14 hh) (by rw [hL]; decide)
          have l17 : L 17 = false := Bool.eq_false_iff.2 fun hh => absurd (g17 hh).1 (by rw [l14]; decide)
          have l20 : L 20 = false := Bool.eq_false_iff.2 fun hh => absurd (g20 hh) (by rw [l17]; decide)
          have kO' := kO
          rw [l20] at kO'
          have k41' := k41
          rw [l17] at k41'
          have ho : ObjE h hv 8041 s.h xs := ⟨_, kO', .inr ⟨hp0, ver, rfl, k41'⟩⟩
          simp -implicitDefEqProofs (maxSteps := 2000000) only [homH, hne, hne', p10, wk, act, asV, ↓reduceIte, Nat.reduceEqDiff, reduceCtorEq, Nat.reduceAdd, Nat.reduceLeDiff, Nat.reduceSub, Nat.reduceMul, List.reduceReplicate, Int.reduceEq, Int.reduceLT, Int.reduceLE, Int.reduceAdd, Int.reduceSub, Int.reduceMul, Nat.reduceLT, Int.reduceToNat]
          refine CallnL.of (by simp -implicitDefEqProofs (maxSteps := 2000000) only [homH, hne, hne', p10, wk, act, asV, ↓reduceIte, Nat.reduceEqDiff, reduceCtorEq, Nat.reduceAdd, Nat.reduceLeDiff, Nat.reduceSub, Nat.reduceMul, List.reduceReplicate, Int.reduceEq, Int.reduceLT, Int.reduceLE, Int.reduceAdd, Int.reduceSub, Int.reduceMul, Nat.reduceLT, Int.reduceToNat]; first | done | rfl) (last2_ok hh hx (by omega) ho) ?_
          rintro _ h' ⟨rfl, hfr⟩
          simp -implicitDefEqProofs (maxSteps := 2000000) only [wk, act, asV, ↓reduceIte, Nat.reduceEqDiff, reduceCtorEq, Nat.reduceAdd, Nat.reduceLeDiff, Nat.reduceSub, Nat.reduceMul, List.reduceReplicate, Int.reduceEq, Int.reduceLT, Int.reduceLE, Int.reduceAdd, Int.reduceSub, Int.reduceMul, Nat.reduceLT, Int.reduceToNat]
          rw [hInv]
          exact ⟨v5, v7, k0, (hfr h (.inl (by omega))).trans kO, (hfr 8041 (.inl (by decide))).trans k41, k7, (hfr 8007 (.inl (by decide))).trans kh7, k5, (hfr 8005 (.inl (by decide))).trans kh5, k8, fun y y1 y2 => (hfr y (by omega)).trans (fr y y1 y2), f0, f1, f2, f3, f4, f5, f6, f7, f8, f9, f10, fun _ => rfl, f12, f13, f14, f15, f16, f17, f18, f19, fun _ => rfl, g17, g20⟩
        · intro L s hL hp hI
          rw [hInv] at hI
          obtain ⟨v5, v7, k0, kO, k41, k7, kh7, k5, kh5, k8, fr, f0, f1, f2, f3, f4, f5, f6, f7, f8, f9, f10, f11, f12, f13, f14, f15, f16, f17, f18, f19, g14, g17, g20⟩ := hI
          simp -implicitDefEqProofs (maxSteps := 2000000) only [homH, hne, hne', k8, wk, act, asV, ↓reduceIte, Nat.reduceEqDiff, reduceCtorEq, Nat.reduceAdd, Nat.reduceLeDiff, Nat.reduceSub, Nat.reduceMul, List.reduceReplicate, Int.reduceEq, Int.reduceLT, Int.reduceLE, Int.reduceAdd, Int.reduceSub, Int.reduceMul, Nat.reduceLT, Int.reduceToNat]
          rw [hInv]
          exact ⟨v5, v7, k0, kO, k41, k7, kh7, k5, kh5, k8, fr, f0, f1, f2, f3, f4, f5, f6, f7, f8, f9, f10, f11, fun _ => rfl, f13, f14, f15, f16, f17, f18, f19, g14, g17, g20⟩
        · intro L s hL hp hI
          rw [hInv] at hI
          obtain ⟨v5, v7, k0, kO, k41, k7, kh7, k5, kh5, k8, fr, f0, f1, f2, f3, f4, f5, f6, f7, f8, f9, f10, f11, f12, f13, f14, f15, f16, f17, f18, f19, g14, g17, g20⟩ := hI
          have p12 := f12 (hp 12 (by simp))
          simp -implicitDefEqProofs (maxSteps := 2000000) only [homH, hne, hne', p12, wk, act, asV, ↓reduceIte, Nat.reduceEqDiff, reduceCtorEq, Nat.reduceAdd, Nat.reduceLeDiff, Nat.reduceSub, Nat.reduceMul, List.reduceReplicate, Int.reduceEq, Int.reduceLT, Int.reduceLE, Int.reduceAdd, Int.reduceSub, Int.reduceMul, Nat.reduceLT, Int.reduceToNat]
          rw [hInv]
          exact ⟨v5, v7, k0, kO, k41, k7, kh7, k5, kh5, k8, fr, f0, f1, f2, f3, f4, f5, f6, f7, f8, f9, f10, f11, f12, fun _ => rfl, f14, f15, f16, f17, f18, f19, g14, g17, g20⟩
        · intro L s hL hp hI
          rw [hInv] at hI
          obtain ⟨v5, v7, k0, kO, k41, k7, kh7, k5, kh5, k8, fr, f0, f1, f2, f3, f4, f5, f6, f7, f8, f9, f10, f11, f12, f13, f14, f15, f16, f17, f18, f19, g14, g17, g20⟩ := hI
          have p11 := f11 (hp 11 (by simp))
          have p13 := f13 (hp 13 (by simp))
          repeat' (first | simp -implicitDefEqProofs (maxSteps := 2000000) only [homH, hne, hne', p11, p13, lL0, tL0, lR, tR, bl_scal, bl_pur, wk, act, asV, ↓reduceIte, Nat.reduceEqDiff, reduceCtorEq, Nat.reduceAdd, Nat.reduceLeDiff, Nat.reduceSub, Nat.reduceMul, List.reduceReplicate, Int.reduceEq, Int.reduceLT, Int.reduceLE, Int.reduceAdd, Int.reduceSub, Int.reduceMul, Nat.reduceLT, Int.reduceToNat] | ((first | ((with_reducible refine CallL.gate ?_); apply CallL.of) | ((with_reducible refine CallpL.gate ?_); apply CallpL.of) | ((with_reducible refine CallP.gate ?_); apply CallP.of) | ((with_reducible refine CallpP.gate ?_); apply CallpP.of)); (case h1 => (simp -implicitDefEqProofs (maxSteps := 2000000) only [homH, hne, hne', p11, p13, lL0, tL0, lR, tR, bl_scal, bl_pur, wk, act, asV, ↓reduceIte, Nat.reduceEqDiff, reduceCtorEq, Nat.reduceAdd, Nat.reduceLeDiff, Nat.reduceSub, Nat.reduceMul, List.reduceReplicate, Int.reduceEq, Int.reduceLT, Int.reduceLE, Int.reduceAdd, Int.reduceSub, Int.reduceMul, Nat.reduceLT, Int.reduceToNat]; first | done | (with_reducible rfl))); (case h2 => (first | exact c2)); (case h3 => simp -implicitDefEqProofs (maxSteps := 2000000) only [homH, hne, hne', p11, p13, lL0, tL0, lR, tR, bl_scal, bl_pur, wk, act, asV, ↓reduceIte, Nat.reduceEqDiff, reduceCtorEq, Nat.reduceAdd, Nat.reduceLeDiff, Nat.reduceSub, Nat.reduceMul, List.reduceReplicate, Int.reduceEq, Int.reduceLT, Int.reduceLE, Int.reduceAdd, Int.reduceSub, Int.reduceMul, Nat.reduceLT, Int.reduceToNat])))
          rw [hInv]
          exact ⟨v5, v7, k0, kO, k41, k7, kh7, k5, kh5, k8, fr, f0, f1, f2, f3, f4, f5, f6, f7, f8, f9, f10, f11, f12, f13, fun _ => rfl, f15, f16, f17, f18, f19, fun _ => hp 11 (by simp), fun h => ⟨rfl, (g17 h).2⟩, g20⟩
        · intro L s hL hp hI
          rw [hInv] at hI
          obtain ⟨v5, v7, k0, kO, k41, k7, kh7, k5, kh5, k8, fr, f0, f1, f2, f3, f4, f5, f6, f7, f8, f9, f10, f11, f12, f13, f14, f15, f16, f17, f18, f19, g14, g17, g20⟩ := hI
          have p5 := f5 (hp 5 (by simp))
          have p7 := f7 (hp 7 (by simp))
          have p9 := f9 (hp 9 (by simp))
          have p14 := f14 (hp 14 (by simp))
          simp -implicitDefEqProofs (maxSteps := 2000000) only [homH, hne, hne', p5, p7, p9, p14, lD, tD, lG, tG, bl_scal, hpl, wk, act, asV, ↓reduceIte, Nat.reduceEqDiff, reduceCtorEq, Nat.reduceAdd, Nat.reduceLeDiff, Nat.reduceSub, Nat.reduceMul, List.reduceReplicate, Int.reduceEq, Int.reduceLT, Int.reduceLE, Int.reduceAdd, Int.reduceSub, Int.reduceMul, Nat.reduceLT, Int.reduceToNat]
          rw [hInv]
          exact ⟨v5, v7, k0, kO, k41, k7, kh7, k5, kh5, k8, fr, f0, f1, f2, f3, f4, f5, f6, f7, f8, f9, f10, f11, f12, f13, f14, fun _ => rfl, f16, f17, f18, f19, g14, g17, g20⟩
        · intro L s hL hp hI
          rw [hInv] at hI
          obtain ⟨v5, v7, k0, kO, k41, k7, kh7, k5, kh5, k8, fr, f0, f1, f2, f3, f4, f5, f6, f7, f8, f9, f10, f11, f12, f13, f14, f15, f16, f17, f18, f19, g14, g17, g20⟩ := hI
          have p15 := f15 (hp 15 (by simp))
          simp -implicitDefEqProofs (maxSteps := 2000000) only [homH, hne, hne', p15, lz, sz, tz, wk, act, asV, ↓reduceIte, Nat.reduceEqDiff, reduceCtorEq, Nat.reduceAdd, Nat.reduceLeDiff, Nat.reduceSub, Nat.reduceMul, List.reduceReplicate, Int.reduceEq, Int.reduceLT, Int.reduceLE, Int.reduceAdd, Int.reduceSub, Int.reduceMul, Nat.reduceLT, Int.reduceToNat]
          rw [hInv]
          exact ⟨v5, v7, k0, kO, k41, k7, kh7, k5, kh5, k8, fr, f0, f1, f2, f3, f4, f5, f6, f7, f8, f9, f10, f11, f12, f13, f14, f15, fun _ => rfl, f17, f18, f19, g14, g17, g20⟩
        · intro L s hL hp hI
          rw [hInv] at hI
          obtain ⟨v5, v7, k0, kO, k41, k7, kh7, k5, kh5, k8, fr, f0, f1, f2, f3, f4, f5, f6, f7, f8, f9, f10, f11, f12, f13, f14, f15, f16, f17, f18, f19, g14, g17, g20⟩ := hI
          have p4 := f4 (hp 4 (by simp))
          have p16 := f16 (hp 16 (by simp))
          have k41' := k41
          rw [hL] at k41'
          simp -implicitDefEqProofs (maxSteps := 2000000) only [homH, hne, hne', p4, p16, k41', cond_false, lL, r80, r81, lz, hen0, wk, act, asV, ↓reduceIte, Nat.reduceEqDiff, reduceCtorEq, Nat.reduceAdd, Nat.reduceLeDiff, Nat.reduceSub, Nat.reduceMul, List.reduceReplicate, Int.reduceEq, Int.reduceLT, Int.reduceLE, Int.reduceAdd, Int.reduceSub, Int.reduceMul, Nat.reduceLT, Int.reduceToNat]
          rw [hInv]
          exact ⟨v5, v7, k0, (updN (by omega)).trans ((updN (by omega)).trans kO), rfl, k7, kh7, k5, kh5, k8, fun y y1 y2 => (updN (by omega)).trans ((updN (by omega)).trans (fr y y1 y2)), f0, f1, f2, f3, f4, f5, f6, f7, f8, f9, f10, f11, f12, f13, f14, f15, f16, fun _ => rfl, f18, f19, g14, fun _ => ⟨hp 14 (by simp), hp 4 (by simp)⟩, fun _ => rfl⟩
        · intro L s hL hp hI
          rw [hInv] at hI
          obtain ⟨v5, v7, k0, kO, k41, k7, kh7, k5, kh5, k8, fr, f0, f1, f2, f3, f4, f5, f6, f7, f8, f9, f10, f11, f12, f13, f14, f15, f16, f17, f18, f19, g14, g17, g20⟩ := hI
          have p0 := f0 (hp 0 (by simp))
          simp -implicitDefEqProofs (maxSteps := 2000000) only [homH, hne, hne', p0, kO, wk, act, asV, ↓reduceIte, Nat.reduceEqDiff, reduceCtorEq, Nat.reduceAdd, Nat.reduceLeDiff, Nat.reduceSub, Nat.reduceMul, List.reduceReplicate, Int.reduceEq, Int.reduceLT, Int.reduceLE, Int.reduceAdd, Int.reduceSub, Int.reduceMul, Nat.reduceLT, Int.reduceToNat]
          rw [hInv]
          exact ⟨v5, v7, k0, kO, k41, k7, kh7, k5, kh5, k8, fr, f0, f1, f2, f3, f4, f5, f6, f7, f8, f9, f10, f11, f12, f13, f14, f15, f16, f17, fun _ => rfl, f19, g14, g17, g20⟩
        · intro L s hL hp hI
          rw [hInv] at hI
          obtain ⟨v5, v7, k0, kO, k41, k7, kh7, k5, kh5, k8, fr, f0, f1, f2, f3, f4, f5, f6, f7, f8, f9, f10, f11, f12, f13, f14, f15, f16, f17, f18, f19, g14, g17, g20⟩ := hI
          have p18 := f18 (hp 18 (by simp))
          simp -implicitDefEqProofs (maxSteps := 2000000) only [homH, hne, hne', p18, kO, wk, act, asV, ↓reduceIte, Nat.reduceEqDiff, reduceCtorEq, Nat.reduceAdd, Nat.reduceLeDiff, Nat.reduceSub, Nat.reduceMul, List.reduceReplicate, Int.reduceEq, Int.reduceLT, Int.reduceLE, Int.reduceAdd, Int.reduceSub, Int.reduceMul, Nat.reduceLT, Int.reduceToNat]
          rw [hInv]
          exact ⟨v5, v7, k0, kO, k41, k7, kh7, k5, kh5, k8, fr, f0, f1, f2, f3, f4, f5, f6, f7, f8, f9, f10, f11, f12, f13, f14, f15, f16, f17, f18, fun _ => rfl, g14, g17, g20⟩
        · intro L s hL hp hI
          rw [hInv] at hI
          obtain ⟨v5, v7, k0, kO, k41, k7, kh7, k5, kh5, k8, fr, f0, f1, f2, f3, f4, f5, f6, f7, f8, f9, f10, f11, f12, f13, f14, f15, f16, f17, f18, f19, g14, g17, g20⟩ := hI
          have p19 := f19 (hp 19 (by simp))
          have p17 := f17 (hp 17 (by simp))
          simp -implicitDefEqProofs (maxSteps := 2000000) only [homH, hne, hne', p19, p17, kO, wk, act, asV, ↓reduceIte, Nat.reduceEqDiff, reduceCtorEq, Nat.reduceAdd, Nat.reduceLeDiff, Nat.reduceSub, Nat.reduceMul, List.reduceReplicate, Int.reduceEq, Int.reduceLT, Int.reduceLE, Int.reduceAdd, Int.reduceSub, Int.reduceMul, Nat.reduceLT, Int.reduceToNat]
          rw [hInv]
          exact ⟨v5, v7, k0, updE, (updN (by omega)).trans k41, k7, (updN (by omega)).trans kh7, k5, (updN (by omega)).trans kh5, k8, fun y y1 y2 => (updN y1).trans (fr y y1 y2), f0, f1, f2, f3, f4, f5, f6, f7, f8, f9, f10, f11, f12, f13, f14, f15, f16, f17, f18, f19, g14, g17, fun _ => hp 17 (by simp)⟩
      · intro s hI
        rw [hInv] at hI
        obtain ⟨v5, v7, k0, kO, k41, k7, kh7, k5, kh5, k8, fr, f0, f1, f2, f3, f4, f5, f6, f7, f8, f9, f10, f11, f12, f13, f14, f15, f16, f17, f18, f19, g14, g17, g20⟩ := hI
        have kO2 : s.h h = ⟨hv, true, true, false, [.row 8041 0 (xs.length + 1) 66 (ver + 1 + 1)]⟩ := kO
        have k412 : s.h 8041 = ⟨ver + 1 + 1, true, true, true, enL xs ++ enC z⟩ := k41
        simp -implicitDefEqProofs (maxSteps := 2000000) only [homH, wk, act, asV, ↓reduceIte, Nat.reduceEqDiff, reduceCtorEq, Nat.reduceAdd, Nat.reduceLeDiff, Nat.reduceSub, Nat.reduceMul, List.reduceReplicate, Int.reduceEq, Int.reduceLT, Int.reduceLE, Int.reduceAdd, Int.reduceSub, Int.reduceMul, Nat.reduceLT, Int.reduceToNat]
        refine PostI.mk (by simp -implicitDefEqProofs (maxSteps := 2000000) only [wk, act, asV, ↓reduceIte, Nat.reduceEqDiff, reduceCtorEq, Nat.reduceAdd, Nat.reduceLeDiff, Nat.reduceSub, Nat.reduceMul, List.reduceReplicate, Int.reduceEq, Int.reduceLT, Int.reduceLE, Int.reduceAdd, Int.reduceSub, Int.reduceMul, Nat.reduceLT, Int.reduceToNat]; first | done | (with_reducible rfl)) ⟨by rfl, ⟨_, kO2, .inr ⟨by simp, ver + 1 + 1, by simp, by rw [k412, enL_append]; simp [enL]⟩⟩, fun y y1 y2 => fr y y1 y2⟩
  · have e1 : recE r.id r.e = 11 := if_neg hg
    rw [if_neg (by rw [e1]; decide)]
    have ho' := ho
    obtain ⟨v, hH, hheld⟩ := ho
    rw [e1] at c1 ⊢
    rcases hheld with ⟨hx0, rfl⟩ | ⟨hp0, ver, rfl, n41⟩
    · repeat' (first | simp -implicitDefEqProofs (maxSteps := 2000000) only [m11_1, m11_2, m11_3, m11_4, m11_5, m11_6, m11_7, m11_8, m11_9, m11_10, m11_r, m11_b, m11, homH, hH, hne, hne', nF, boxR, lD, tD, xD, tR, hlR, rc, bl_scal, bl_pur, wk, act, asV, ↓reduceIte, Nat.reduceEqDiff, reduceCtorEq, Nat.reduceAdd, Nat.reduceLeDiff, Nat.reduceSub, Nat.reduceMul, List.reduceReplicate, Int.reduceEq, Int.reduceLT, Int.reduceLE, Int.reduceAdd, Int.reduceSub, Int.reduceMul, Nat.reduceLT, Int.reduceToNat] | ((first | ((with_reducible refine CallL.gate ?_); apply CallL.of) | ((with_reducible refine CallpL.gate ?_); apply CallpL.of) | ((with_reducible refine CallP.gate ?_); apply CallP.of) | ((with_reducible refine CallpP.gate ?_); apply CallpP.of)); (case h1 => (simp -implicitDefEqProofs (maxSteps := 2000000) only [m11_1, m11_2, m11_3, m11_4, m11_5, m11_6, m11_7, m11_8, m11_9, m11_10, m11_r, m11_b, m11, homH, hH, hne, hne', nF, boxR, lD, tD, xD, tR, hlR, rc, bl_scal, bl_pur, wk, act, asV, ↓reduceIte, Nat.reduceEqDiff, reduceCtorEq, Nat.reduceAdd, Nat.reduceLeDiff, Nat.reduceSub, Nat.reduceMul, List.reduceReplicate, Int.reduceEq, Int.reduceLT, Int.reduceLE, Int.reduceAdd, Int.reduceSub, Int.reduceMul, Nat.reduceLT, Int.reduceToNat]; first | done | (with_reducible rfl))); (case h2 => (first | exact c0 | exact c1)); (case h3 => simp -implicitDefEqProofs (maxSteps := 2000000) only [m11_1, m11_2, m11_3, m11_4, m11_5, m11_6, m11_7, m11_8, m11_9, m11_10, m11_r, m11_b, m11, homH, hH, hne, hne', nF, boxR, lD, tD, xD, tR, hlR, rc, bl_scal, bl_pur, wk, act, asV, ↓reduceIte, Nat.reduceEqDiff, reduceCtorEq, Nat.reduceAdd, Nat.reduceLeDiff, Nat.reduceSub, Nat.reduceMul, List.reduceReplicate, Int.reduceEq, Int.reduceLT, Int.reduceLE, Int.reduceAdd, Int.reduceSub, Int.reduceMul, Nat.reduceLT, Int.reduceToNat])))
      refine PostI.mk (by simp -implicitDefEqProofs (maxSteps := 2000000) only [homH, wk, act, asV, ↓reduceIte, Nat.reduceEqDiff, reduceCtorEq, Nat.reduceAdd, Nat.reduceLeDiff, Nat.reduceSub, Nat.reduceMul, List.reduceReplicate, Int.reduceEq, Int.reduceLT, Int.reduceLE, Int.reduceAdd, Int.reduceSub, Int.reduceMul, Nat.reduceLT, Int.reduceToNat]; first | done | (with_reducible rfl)) ⟨by rfl, ⟨_, by simp -implicitDefEqProofs (maxSteps := 2000000) only [hH, hne, wk, act, asV, ↓reduceIte, Nat.reduceEqDiff, reduceCtorEq, Nat.reduceAdd, Nat.reduceLeDiff, Nat.reduceSub, Nat.reduceMul, List.reduceReplicate, Int.reduceEq, Int.reduceLT, Int.reduceLE, Int.reduceAdd, Int.reduceSub, Int.reduceMul, Nat.reduceLT, Int.reduceToNat]; first | done | rfl, .inl ⟨hx0, rfl⟩⟩, fun y y1 y2 => by
        have y3 : ∀ k, 8000 ≤ k → k < 10000 → (y = k) = False := fun k _ _ => by simp; omega
        simp -implicitDefEqProofs (maxSteps := 2000000) only [y1, y3, wk, act, asV, ↓reduceIte, Nat.reduceEqDiff, reduceCtorEq, Nat.reduceAdd, Nat.reduceLeDiff, Nat.reduceSub, Nat.reduceMul, List.reduceReplicate, Int.reduceEq, Int.reduceLT, Int.reduceLE, Int.reduceAdd, Int.reduceSub, Int.reduceMul, Nat.reduceLT, Int.reduceToNat]⟩
    · repeat' (first | simp -implicitDefEqProofs (maxSteps := 2000000) only [m11_1, m11_2, m11_3, m11_4, m11_5, m11_6, m11_7, m11_8, m11_9, m11_10, m11_r, m11_b, m11, homH, hH, hne, hne', nF, boxR, lD, tD, xD, tR, hlR, rc, bl_scal, bl_pur, wk, act, asV, ↓reduceIte, Nat.reduceEqDiff, reduceCtorEq, Nat.reduceAdd, Nat.reduceLeDiff, Nat.reduceSub, Nat.reduceMul, List.reduceReplicate, Int.reduceEq, Int.reduceLT, Int.reduceLE, Int.reduceAdd, Int.reduceSub, Int.reduceMul, Nat.reduceLT, Int.reduceToNat] | ((first | ((with_reducible refine CallL.gate ?_); apply CallL.of) | ((with_reducible refine CallpL.gate ?_); apply CallpL.of) | ((with_reducible refine CallP.gate ?_); apply CallP.of) | ((with_reducible refine CallpP.gate ?_); apply CallpP.of)); (case h1 => (simp -implicitDefEqProofs (maxSteps := 2000000) only [m11_1, m11_2, m11_3, m11_4, m11_5, m11_6, m11_7, m11_8, m11_9, m11_10, m11_r, m11_b, m11, homH, hH, hne, hne', nF, boxR, lD, tD, xD, tR, hlR, rc, bl_scal, bl_pur, wk, act, asV, ↓reduceIte, Nat.reduceEqDiff, reduceCtorEq, Nat.reduceAdd, Nat.reduceLeDiff, Nat.reduceSub, Nat.reduceMul, List.reduceReplicate, Int.reduceEq, Int.reduceLT, Int.reduceLE, Int.reduceAdd, Int.reduceSub, Int.reduceMul, Nat.reduceLT, Int.reduceToNat]; first | done | (with_reducible rfl))); (case h2 => (first | exact c0 | exact c1)); (case h3 => simp -implicitDefEqProofs (maxSteps := 2000000) only [m11_1, m11_2, m11_3, m11_4, m11_5, m11_6, m11_7, m11_8, m11_9, m11_10, m11_r, m11_b, m11, homH, hH, hne, hne', nF, boxR, lD, tD, xD, tR, hlR, rc, bl_scal, bl_pur, wk, act, asV, ↓reduceIte, Nat.reduceEqDiff, reduceCtorEq, Nat.reduceAdd, Nat.reduceLeDiff, Nat.reduceSub, Nat.reduceMul, List.reduceReplicate, Int.reduceEq, Int.reduceLT, Int.reduceLE, Int.reduceAdd, Int.reduceSub, Int.reduceMul, Nat.reduceLT, Int.reduceToNat])))
      refine PostI.mk (by simp -implicitDefEqProofs (maxSteps := 2000000) only [homH, wk, act, asV, ↓reduceIte, Nat.reduceEqDiff, reduceCtorEq, Nat.reduceAdd, Nat.reduceLeDiff, Nat.reduceSub, Nat.reduceMul, List.reduceReplicate, Int.reduceEq, Int.reduceLT, Int.reduceLE, Int.reduceAdd, Int.reduceSub, Int.reduceMul, Nat.reduceLT, Int.reduceToNat]; first | done | (with_reducible rfl)) ⟨by rfl, ⟨_, by simp -implicitDefEqProofs (maxSteps := 2000000) only [hH, hne, wk, act, asV, ↓reduceIte, Nat.reduceEqDiff, reduceCtorEq, Nat.reduceAdd, Nat.reduceLeDiff, Nat.reduceSub, Nat.reduceMul, List.reduceReplicate, Int.reduceEq, Int.reduceLT, Int.reduceLE, Int.reduceAdd, Int.reduceSub, Int.reduceMul, Nat.reduceLT, Int.reduceToNat]; first | done | rfl, .inr ⟨hp0, ver, rfl, by simp -implicitDefEqProofs (maxSteps := 2000000) only [n41, wk, act, asV, ↓reduceIte, Nat.reduceEqDiff, reduceCtorEq, Nat.reduceAdd, Nat.reduceLeDiff, Nat.reduceSub, Nat.reduceMul, List.reduceReplicate, Int.reduceEq, Int.reduceLT, Int.reduceLE, Int.reduceAdd, Int.reduceSub, Int.reduceMul, Nat.reduceLT, Int.reduceToNat]⟩⟩, fun y y1 y2 => by
        have y3 : ∀ k, 8000 ≤ k → k < 10000 → (y = k) = False := fun k _ _ => by simp; omega
        simp -implicitDefEqProofs (maxSteps := 2000000) only [y1, y3, wk, act, asV, ↓reduceIte, Nat.reduceEqDiff, reduceCtorEq, Nat.reduceAdd, Nat.reduceLeDiff, Nat.reduceSub, Nat.reduceMul, List.reduceReplicate, Int.reduceEq, Int.reduceLT, Int.reduceLE, Int.reduceAdd, Int.reduceSub, Int.reduceMul, Nat.reduceLT, Int.reduceToNat]⟩
theorem entries2_ok {h hv : Nat} {H : Nat → Blk} {xs : List En} (hh : h < 1000) (hx : ∀ x ∈ xs, x.Ok) (hn : xs.length ≤ 2 ^ 30) (ho : ObjE h hv 8041 H xs) :
    IC Try.prog 19 H [.ptr h 0 hv] (fun r h' => ∃ ver, r = [.row 10009 0 xs.length 66 ver] ∧ h' 10009 = ⟨ver, true, true, true, enL xs⟩ ∧ ∀ y, (y < 10000 ∨ 11000 ≤ y) → h' y = H y) := by
  refine @IC.of_wp offJ Try.prog 19 m19 m19 c19 H [.ptr h 0 hv] _ rfl ?_
  obtain ⟨v, hH, hheld⟩ := ho
  have n1 : ¬ (h = 10009) := by omega
  have n2 : ¬ (10009 = h) := by omega
  have lL := enL_length hx
  have tL := enL_take xs hx
  have pL := enL_pur xs
  have sL := enL_scal xs
  rcases hheld with ⟨rfl, rfl⟩ | ⟨hp, ver, rfl, hrow⟩
  · have c1 := cloneE_ok .full (by decide) [] (by simp) (by simp)
    repeat' (first | simp -implicitDefEqProofs (maxSteps := 2000000) only [m19_1, m19_2, m19_3, m19_r, m19_b, m19, homJ, hH, n1, n2, wk, act, asV, ↓reduceIte, Nat.reduceEqDiff, reduceCtorEq, Nat.reduceAdd, Nat.reduceLeDiff, Nat.reduceSub, Nat.reduceMul, List.reduceReplicate, Int.reduceEq, Int.reduceLT, Int.reduceLE, Int.reduceAdd, Int.reduceSub, Int.reduceMul, Nat.reduceLT, Int.reduceToNat] | ((first | ((with_reducible refine CallL.gate ?_); apply CallL.of) | ((with_reducible refine CallpL.gate ?_); apply CallpL.of) | ((with_reducible refine CallP.gate ?_); apply CallP.of) | ((with_reducible refine CallpP.gate ?_); apply CallpP.of)); (case h1 => (simp -implicitDefEqProofs (maxSteps := 2000000) only [m19_1, m19_2, m19_3, m19_r, m19_b, m19, homJ, hH, n1, n2, wk, act, asV, ↓reduceIte, Nat.reduceEqDiff, reduceCtorEq, Nat.reduceAdd, Nat.reduceLeDiff, Nat.reduceSub, Nat.reduceMul, List.reduceReplicate, Int.reduceEq, Int.reduceLT, Int.reduceLE, Int.reduceAdd, Int.reduceSub, Int.reduceMul, Nat.reduceLT, Int.reduceToNat]; first | done | (with_reducible rfl))); (case h2 => (first | exact c1)); (case h3 => simp -implicitDefEqProofs (maxSteps := 2000000) only [m19_1, m19_2, m19_3, m19_r, m19_b, m19, homJ, hH, n1, n2, wk, act, asV, ↓reduceIte, Nat.reduceEqDiff, reduceCtorEq, Nat.reduceAdd, Nat.reduceLeDiff, Nat.reduceSub, Nat.reduceMul, List.reduceReplicate, Int.reduceEq, Int.reduceLT, Int.reduceLE, Int.reduceAdd, Int.reduceSub, Int.reduceMul, Nat.reduceLT, Int.reduceToNat])))
    refine PostI.mk (by simp -implicitDefEqProofs (maxSteps := 2000000) only [St.raws, St.raw, hH, n1, n2, wk, act, asV, ↓reduceIte, Nat.reduceEqDiff, reduceCtorEq, Nat.reduceAdd, Nat.reduceLeDiff, Nat.reduceSub, Nat.reduceMul, List.reduceReplicate, Int.reduceEq, Int.reduceLT, Int.reduceLE, Int.reduceAdd, Int.reduceSub, Int.reduceMul, Nat.reduceLT, Int.reduceToNat]; first | done | (with_reducible rfl)) ⟨_, by rfl, by simp -implicitDefEqProofs (maxSteps := 2000000) only [wk, act, asV, ↓reduceIte, Nat.reduceEqDiff, reduceCtorEq, Nat.reduceAdd, Nat.reduceLeDiff, Nat.reduceSub, Nat.reduceMul, List.reduceReplicate, Int.reduceEq, Int.reduceLT, Int.reduceLE, Int.reduceAdd, Int.reduceSub, Int.reduceMul, Nat.reduceLT, Int.reduceToNat], fun y y1 => by
      have y2 : ∀ k, 10000 ≤ k → k < 11000 → (y = k) = False := fun k _ _ => by simp; omega
      simp -implicitDefEqProofs (maxSteps := 2000000) only [y2, wk, act, asV, ↓reduceIte, Nat.reduceEqDiff, reduceCtorEq, Nat.reduceAdd, Nat.reduceLeDiff, Nat.reduceSub, Nat.reduceMul, List.reduceReplicate, Int.reduceEq, Int.reduceLT, Int.reduceLE, Int.reduceAdd, Int.reduceSub, Int.reduceMul, Nat.reduceLT, Int.reduceToNat]⟩
  · have c1 := cloneE_ok .plain (by decide) xs hx hn
    repeat' (first | simp -implicitDefEqProofs (maxSteps := 2000000) only [m19_1, m19_2, m19_3, m19_r, m19_b, m19, homJ, hH, hrow, n1, n2, tL, lL, pL, sL, wk, act, asV, ↓reduceIte, Nat.reduceEqDiff, reduceCtorEq, Nat.reduceAdd, Nat.reduceLeDiff, Nat.reduceSub, Nat.reduceMul, List.reduceReplicate, Int.reduceEq, Int.reduceLT, Int.reduceLE, Int.reduceAdd, Int.reduceSub, Int.reduceMul, Nat.reduceLT, Int.reduceToNat] | ((first | ((with_reducible refine CallL.gate ?_); apply CallL.of) | ((with_reducible refine CallpL.gate ?_); apply CallpL.of) | ((with_reducible refine CallP.gate ?_); apply CallP.of) | ((with_reducible refine CallpP.gate ?_); apply CallpP.of)); (case h1 => (simp -implicitDefEqProofs (maxSteps := 2000000) only [m19_1, m19_2, m19_3, m19_r, m19_b, m19, homJ, hH, hrow, n1, n2, tL, lL, pL, sL, wk, act, asV, ↓reduceIte, Nat.reduceEqDiff, reduceCtorEq, Nat.reduceAdd, Nat.reduceLeDiff, Nat.reduceSub, Nat.reduceMul, List.reduceReplicate, Int.reduceEq, Int.reduceLT, Int.reduceLE, Int.reduceAdd, Int.reduceSub, Int.reduceMul, Nat.reduceLT, Int.reduceToNat]; first | done | (with_reducible rfl))); (case h2 => (first | exact c1)); (case h3 => simp -implicitDefEqProofs (maxSteps := 2000000) only [m19_1, m19_2, m19_3, m19_r, m19_b, m19, homJ, hH, hrow, n1, n2, tL, lL, pL, sL, wk, act, asV, ↓reduceIte, Nat.reduceEqDiff, reduceCtorEq, Nat.reduceAdd, Nat.reduceLeDiff, Nat.reduceSub, Nat.reduceMul, List.reduceReplicate, Int.reduceEq, Int.reduceLT, Int.reduceLE, Int.reduceAdd, Int.reduceSub, Int.reduceMul, Nat.reduceLT, Int.reduceToNat])))
    refine PostI.mk (by simp -implicitDefEqProofs (maxSteps := 2000000) only [St.raws, St.raw, hH, n1, n2, wk, act, asV, ↓reduceIte, Nat.reduceEqDiff, reduceCtorEq, Nat.reduceAdd, Nat.reduceLeDiff, Nat.reduceSub, Nat.reduceMul, List.reduceReplicate, Int.reduceEq, Int.reduceLT, Int.reduceLE, Int.reduceAdd, Int.reduceSub, Int.reduceMul, Nat.reduceLT, Int.reduceToNat]; first | done | (with_reducible rfl)) ⟨_, by rfl, by simp -implicitDefEqProofs (maxSteps := 2000000) only [wk, act, asV, ↓reduceIte, Nat.reduceEqDiff, reduceCtorEq, Nat.reduceAdd, Nat.reduceLeDiff, Nat.reduceSub, Nat.reduceMul, List.reduceReplicate, Int.reduceEq, Int.reduceLT, Int.reduceLE, Int.reduceAdd, Int.reduceSub, Int.reduceMul, Nat.reduceLT, Int.reduceToNat], fun y y1 => by
      have y2 : ∀ k, 10000 ≤ k → k < 11000 → (y = k) = False := fun k _ _ => by simp; omega
      simp -implicitDefEqProofs (maxSteps := 2000000) only [y2, wk, act, asV, ↓reduceIte, Nat.reduceEqDiff, reduceCtorEq, Nat.reduceAdd, Nat.reduceLeDiff, Nat.reduceSub, Nat.reduceMul, List.reduceReplicate, Int.reduceEq, Int.reduceLT, Int.reduceLE, Int.reduceAdd, Int.reduceSub, Int.reduceMul, Nat.reduceLT, Int.reduceToNat]⟩
theorem entries3_ok {h hv : Nat} {H : Nat → Blk} {xs : List En} (hh : h < 1000) (hx : ∀ x ∈ xs, x.Ok) (hn : xs.length ≤ 2 ^ 30) (ho : ObjE h hv 1041 H xs) :
    IC Try.prog 19 H [.ptr h 0 hv] (fun r h' => ∃ ver, r = [.row 10009 0 xs.length 66 ver] ∧ h' 10009 = ⟨ver, true, true, true, enL xs⟩ ∧ ∀ y, (y < 10000 ∨ 11000 ≤ y) → h' y = H y) := by
  refine @IC.of_wp offJ Try.prog 19 m19 m19 c19 H [.ptr h 0 hv] _ rfl ?_
  obtain ⟨v, hH, hheld⟩ := ho
  have n1 : ¬ (h = 10009) := by omega
  have n2 : ¬ (10009 = h) := by omega
  have lL := enL_length hx
  have tL := enL_take xs hx
  have pL := enL_pur xs
  have sL := enL_scal xs
  rcases hheld with ⟨rfl, rfl⟩ | ⟨hp, ver, rfl, hrow⟩
  · have c1 := cloneE_ok .full (by decide) [] (by simp) (by simp)
    repeat' (first | simp -implicitDefEqProofs (maxSteps := 2000000) only [m19_1, m19_2, m19_3, m19_r, m19_b, m19, homJ, hH, n1, n2, wk, act, asV, ↓reduceIte, Nat.reduceEqDiff, reduceCtorEq, Nat.reduceAdd, Nat.reduceLeDiff, Nat.reduceSub, Nat.reduceMul, List.reduceReplicate, Int.reduceEq, Int.reduceLT, Int.reduceLE, Int.reduceAdd, Int.reduceSub, Int.reduceMul, Nat.reduceLT, Int.reduceToNat] | ((first | ((with_reducible refine CallL.gate ?_); apply CallL.of) | ((with_reducible refine CallpL.gate ?_); apply CallpL.of) | ((with_reducible refine CallP.gate ?_); apply CallP.of) | ((with_reducible refine CallpP.gate ?_); apply CallpP.of)); (case h1 => (simp -implicitDefEqProofs (maxSteps := 2000000) only [m19_1, m19_2, m19_3, m19_r, m19_b, m19, homJ, hH, n1, n2, wk, act, asV, ↓reduceIte, Nat.reduceEqDiff, reduceCtorEq, Nat.reduceAdd, Nat.reduceLeDiff, Nat.reduceSub, Nat.reduceMul, List.reduceReplicate, Int.reduceEq, Int.reduceLT, Int.reduceLE, Int.reduceAdd, Int.reduceSub, Int.reduceMul, Nat.reduceLT, Int.reduceToNat]; first | done | (with_reducible rfl))); (case h2 => (first | exact c1)); (case h3 => simp -implicitDefEqProofs (maxSteps := 2000000) only [m19_1, m19_2, m19_3, m19_r, m19_b, m19, homJ, hH, n1, n2, wk, act, asV, ↓reduceIte, Nat.reduceEqDiff, reduceCtorEq, Nat.reduceAdd, Nat.reduceLeDiff, Nat.reduceSub, Nat.reduceMul, List.reduceReplicate, Int.reduceEq, Int.reduceLT, Int.reduceLE, Int.reduceAdd, Int.reduceSub, Int.reduceMul, Nat.reduceLT, Int.reduceToNat])))
    refine PostI.mk (by simp -implicitDefEqProofs (maxSteps := 2000000) only [St.raws, St.raw, hH, n1, n2, wk, act, asV, ↓reduceIte, Nat.reduceEqDiff, reduceCtorEq, Nat.reduceAdd, Nat.reduceLeDiff, Nat.reduceSub, Nat.reduceMul, List.reduceReplicate, Int.reduceEq, Int.reduceLT, Int.reduceLE, Int.reduceAdd, Int.reduceSub, Int.reduceMul, Nat.reduceLT, Int.reduceToNat]; first | done | (with_reducible rfl)) ⟨_, by rfl, by simp -implicitDefEqProofs (maxSteps := 2000000) only [wk, act, asV, ↓reduceIte, Nat.reduceEqDiff, reduceCtorEq, Nat.reduceAdd, Nat.reduceLeDiff, Nat.reduceSub, Nat.reduceMul, List.reduceReplicate, Int.reduceEq, Int.reduceLT, Int.reduceLE, Int.reduceAdd, Int.reduceSub, Int.reduceMul, Nat.reduceLT, Int.reduceToNat], fun y y1 => by
      have y2 : ∀ k, 10000 ≤ k → k < 11000 → (y = k) = False := fun k _ _ => by simp; omega
      simp -implicitDefEqProofs (maxSteps := 2000000) only [y2, wk, act, asV, ↓reduceIte, Nat.reduceEqDiff, reduceCtorEq, Nat.reduceAdd, Nat.reduceLeDiff, Nat.reduceSub, Nat.reduceMul, List.reduceReplicate, Int.reduceEq, Int.reduceLT, Int.reduceLE, Int.reduceAdd, Int.reduceSub, Int.reduceMul, Nat.reduceLT, Int.reduceToNat]⟩
  · have c1 := cloneE_ok .plain (by decide) xs hx hn
    repeat' (first | simp -implicitDefEqProofs (maxSteps := 2000000) only [m19_1, m19_2, m19_3, m19_r, m19_b, m19, homJ, hH, hrow, n1, n2, tL, lL, pL, sL, wk, act, asV, ↓reduceIte, Nat.reduceEqDiff, reduceCtorEq, Nat.reduceAdd, Nat.reduceLeDiff, Nat.reduceSub, Nat.reduceMul, List.reduceReplicate, Int.reduceEq, Int.reduceLT, Int.reduceLE, Int.reduceAdd, Int.reduceSub, Int.reduceMul, Nat.reduceLT, Int.reduceToNat] | ((first | ((with_reducible refine CallL.gate ?_); apply CallL.of) | ((with_reducible refine CallpL.gate ?_); apply CallpL.of) | ((with_reducible refine CallP.gate ?_); apply CallP.of) | ((with_reducible refine CallpP.gate ?_); apply CallpP.of)); (case h1 => (simp -implicitDefEqProofs (maxSteps := 2000000) only [m19_1, m19_2, m19_3, m19_r, m19_b, m19, homJ, hH, hrow, n1, n2, tL, lL, pL, sL, wk, act, asV, ↓reduceIte, Nat.reduceEqDiff, reduceCtorEq, Nat.reduceAdd, Nat.reduceLeDiff, Nat.reduceSub, Nat.reduceMul, List.reduceReplicate, Int.reduceEq, Int.reduceLT, Int.reduceLE, Int.reduceAdd, Int.reduceSub, Int.reduceMul, Nat.reduceLT, Int.reduceToNat]; first | done | (with_reducible rfl))); (case h2 => (first | exact c1)); (case h3 => simp -implicitDefEqProofs (maxSteps := 2000000) only [m19_1, m19_2, m19_3, m19_r, m19_b, m19, homJ, hH, hrow, n1, n2, tL, lL, pL, sL, wk, act, asV, ↓reduceIte, Nat.reduceEqDiff, reduceCtorEq, Nat.reduceAdd, Nat.reduceLeDiff, Nat.reduceSub, Nat.reduceMul, List.reduceReplicate, Int.reduceEq, Int.reduceLT, Int.reduceLE, Int.reduceAdd, Int.reduceSub, Int.reduceMul, Nat.reduceLT, Int.reduceToNat])))
    refine PostI.mk (by simp -implicitDefEqProofs (maxSteps := 2000000) only [St.raws, St.raw, hH, n1, n2, wk, act, asV, ↓reduceIte, Nat.reduceEqDiff, reduceCtorEq, Nat.reduceAdd, Nat.reduceLeDiff, Nat.reduceSub, Nat.reduceMul, List.reduceReplicate, Int.reduceEq, Int.reduceLT, Int.reduceLE, Int.reduceAdd, Int.reduceSub, Int.reduceMul, Nat.reduceLT, Int.reduceToNat]; first | done | (with_reducible rfl)) ⟨_, by rfl, by simp -implicitDefEqProofs (maxSteps := 2000000) only [wk, act, asV, ↓reduceIte, Nat.reduceEqDiff, reduceCtorEq, Nat.reduceAdd, Nat.reduceLeDiff, Nat.reduceSub, Nat.reduceMul, List.reduceReplicate, Int.reduceEq, Int.reduceLT, Int.reduceLE, Int.reduceAdd, Int.reduceSub, Int.reduceMul, Nat.reduceLT, Int.reduceToNat], fun y y1 => by
      have y2 : ∀ k, 10000 ≤ k → k < 11000 → (y = k) = False := fun k _ _ => by simp; omega
      simp -implicitDefEqProofs (maxSteps := 2000000) only [y2, wk, act, asV, ↓reduceIte, Nat.reduceEqDiff, reduceCtorEq, Nat.reduceAdd, Nat.reduceLeDiff, Nat.reduceSub, Nat.reduceMul, List.reduceReplicate, Int.reduceEq, Int.reduceLT, Int.reduceLE, Int.reduceAdd, Int.reduceSub, Int.reduceMul, Nat.reduceLT, Int.reduceToNat]⟩
end Go.Proofs.Ytkphojcmjffccaa
