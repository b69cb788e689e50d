/- Of the audit: the reference's log, and Same. -/
import Derived.Test.YtkphojcmjffccaaW9
import Derived.Test.YtkphojcmjffccaaW7
import Derived.Test.YtkphojcmjffccaaE31
import Derived.Test.YtkphojcmjffccaaM16
set_option linter.unusedVariables false
set_option linter.unusedSimpArgs false
set_option linter.unusedSectionVars false
set_option maxRecDepth 100000
set_option maxHeartbeats 8000000
namespace Go.Proofs.Ytkphojcmjffccaa
open Go.RowKit

@[reducible] def offF : Off := ⟨6000⟩
@[reducible] def offG : Off := ⟨7000⟩
theorem homF {d : Nat} : @hom offF d = 6000 + d := rfl
theorem homG {d : Nat} : @hom offG d = 7000 + d := rfl
theorem HeldE_of {x : Nat} {H H' : Nat → Blk} {v : IV} {xs : List En} (h : HeldE x H v xs) (e : H' x = H x) : HeldE x H' v xs := by
  rcases h with ⟨a, b⟩ | ⟨a, ver, b, c⟩
  · exact .inl ⟨a, b⟩
  · exact .inr ⟨a, ver, b, e.trans c⟩
theorem lastR_ok {h hv : Nat} {H : Nat → Blk} {xs : List En} (hh : h < 1000) (hx : ∀ x ∈ xs, x.Ok) (hn : xs.length < 2 ^ 62) (ho : ObjE h hv 6042 H xs) :
    IC Try.prog 14 H [.ptr h 0 hv] (fun r h' => r = [.agg (bl (lastE xs))] ∧ ∀ y, (y < 7000 ∨ 8000 ≤ y) → h' y = H y) := by
  refine @IC.of_wp offG Try.prog 14 m14 m14 c14 H [.ptr h 0 hv] _ rfl ?_
  obtain ⟨v, hH, hheld⟩ := ho
  have n1 : ¬ (h = 7002) := by omega
  have n2 : ¬ (7002 = h) := by omega
  have hne : ∀ k, 1000 ≤ k → (h = k) = False := fun k hk => by simp; omega
  have hne' : ∀ k, 1000 ≤ k → (k = h) = False := fun k hk => by simp; omega
  have lz := lastE_len hx
  rcases hheld with ⟨rfl, rfl⟩ | ⟨hp, ver, rfl, hrow⟩
  · have y6 := y32_cells
    have ly : (bl y32).length = 32 := rfl
    have ty : List.take 32 (bl y32) = bl y32 := rfl
    have xy : List.drop 32 (bl y32) = [] := rfl
    have e : lastE [] = y32 := rfl
    rw [e]
    simp -implicitDefEqProofs (maxSteps := 2000000) only [m14_1, m14_2, m14_3, m14_4, m14_5, m14_r, m14_b, m14, homG, hH, n1, n2, y6, ly, ty, xy, placed, wk, act, asV, ↓reduceIte, Nat.reduceEqDiff, reduceCtorEq, Nat.reduceAdd, Nat.reduceLeDiff, Nat.reduceSub, Nat.reduceMul, List.reduceReplicate, Int.reduceEq, Int.reduceLT, Int.reduceLE, Int.reduceAdd, Int.reduceSub, Int.reduceMul, Nat.reduceLT, Int.reduceToNat]
    refine PostI.mk (by simp -implicitDefEqProofs (maxSteps := 2000000) only [St.raws, St.raw, hH, n1, n2, ly, ty, xy, wk, act, asV, ↓reduceIte, Nat.reduceEqDiff, reduceCtorEq, Nat.reduceAdd, Nat.reduceLeDiff, Nat.reduceSub, Nat.reduceMul, List.reduceReplicate, Int.reduceEq, Int.reduceLT, Int.reduceLE, Int.reduceAdd, Int.reduceSub, Int.reduceMul, Nat.reduceLT, Int.reduceToNat]; first | done | (with_reducible rfl)) ⟨by rfl, fun y y1 => by
      have y2 : ∀ k, 7000 ≤ k → k < 8000 → (y = k) = False := fun k _ _ => by simp; omega
      simp -implicitDefEqProofs (maxSteps := 2000000) only [y2, wk, act, asV, ↓reduceIte, Nat.reduceEqDiff, reduceCtorEq, Nat.reduceAdd, Nat.reduceLeDiff, Nat.reduceSub, Nat.reduceMul, List.reduceReplicate, Int.reduceEq, Int.reduceLT, Int.reduceLE, Int.reduceAdd, Int.reduceSub, Int.reduceMul, Nat.reduceLT, Int.reduceToNat]⟩
  · obtain ⟨l1, l2⟩ := lastE_at hx hp
    have p0 : (0 : Int) < ((xs.length : Nat) : Int) := by omega
    have w1 : IntKind.i64.wrap (((xs.length : Nat) : Int) - 1) = ((xs.length - 1 : Nat) : Int) := by rw [IntKind.wrap_i64]; omega
    have p1 : ((xs.length - 1 : Nat) : Int) < ((xs.length : Nat) : Int) := by omega
    obtain ⟨G, hG⟩ : ∃ G, G = lastE xs := ⟨_, rfl⟩
    rw [← hG] at l1 lz ⊢
    have lG : (bl G).length = 32 := by rw [bl_length, lz]
    have tG : List.take 32 (bl G) = bl G := List.take_of_length_le (by omega)
    simp -implicitDefEqProofs (maxSteps := 2000000) only [m14_1, m14_2, m14_3, m14_4, m14_5, m14_r, m14_b, m14, homG, hH, hrow, n1, n2, p0, w1, p1, l1, l2, lG, tG, hne, hne', wk, act, asV, ↓reduceIte, Nat.reduceEqDiff, reduceCtorEq, Nat.reduceAdd, Nat.reduceLeDiff, Nat.reduceSub, Nat.reduceMul, List.reduceReplicate, Int.reduceEq, Int.reduceLT, Int.reduceLE, Int.reduceAdd, Int.reduceSub, Int.reduceMul, Nat.reduceLT, Int.reduceToNat]
    refine PostI.mk (by simp -implicitDefEqProofs (maxSteps := 2000000) only [St.raws, St.raw, hH, n1, n2, lG, tG, wk, act, asV, ↓reduceIte, Nat.reduceEqDiff, reduceCtorEq, Nat.reduceAdd, Nat.reduceLeDiff, Nat.reduceSub, Nat.reduceMul, List.reduceReplicate, Int.reduceEq, Int.reduceLT, Int.reduceLE, Int.reduceAdd, Int.reduceSub, Int.reduceMul, Nat.reduceLT, Int.reduceToNat]; first | done | (with_reducible rfl)) ⟨by rfl, fun y y1 => by
      have y2 : ∀ k, 7000 ≤ k → k < 8000 → (y = k) = False := fun k _ _ => by simp; omega
      simp -implicitDefEqProofs (maxSteps := 2000000) only [y2, wk, act, asV, ↓reduceIte, Nat.reduceEqDiff, reduceCtorEq, Nat.reduceAdd, Nat.reduceLeDiff, Nat.reduceSub, Nat.reduceMul, List.reduceReplicate, Int.reduceEq, Int.reduceLT, Int.reduceLE, Int.reduceAdd, Int.reduceSub, Int.reduceMul, Nat.reduceLT, Int.reduceToNat]⟩

theorem addR_ok {h hv : Nat} {H : Nat → Blk} {xs : List En} (hh : h < 1000) (hx : ∀ x ∈ xs, x.Ok) (hn : xs.length < 2 ^ 20) (f : Fl) (a : List UInt8) (ha : a.length ≤ 2 ^ 39) (id e : Int) (ho : ObjE h hv 6042 H xs) :
    IC Try.prog 12 H [.ptr h 0 hv, .sl f a.length (bl a), .int .i64 id, .int .i64 e] (fun q h' => q = [.int .i64 (recE id e)] ∧ ObjE h hv 6042 h' (addE xs a (rpE id e)) ∧ ∀ y, y ≠ h → (y < 6000 ∨ 8000 ≤ y) → h' y = H y) := by
  refine @IC.of_wp offF Try.prog 12 m12 m12 c12 H [.ptr h 0 hv, .sl f a.length (bl a), .int .i64 id, .int .i64 e] _ rfl ?_
  have hne : ∀ k, 1000 ≤ k → (h = k) = False := fun k hk => by simp; omega
  have hne' : ∀ k, 1000 ≤ k → (k = h) = False := fun k hk => by simp; omega
  have c0 := sumR_ok .full [(.plain, a)] (by simp) (by rw [one_part]; omega)
  have ep0 : pl [(Fl.plain, a)] = [.sl .plain a.length (bl a)] := rfl
  rw [one_part, ep0, List.length_cons, List.length_nil] at c0
  have dD : (shaB a).length = 32 := digest_length _
  have c1 := recordR_ok (shaB a) dD id e
  have nF : ∀ s : St, s.nest (.sl f a.length (bl a)) = some [.sl .plain a.length (bl a)] := fun s => by
    cases f <;> simp [St.nest, IV.cells, IV.scal, St.nestL, St.nest1]
  have hz0 : newE xs a (rpE id e) = ⟨shaB a, id, e, shaB (lastE xs ++ recR (shaB a) id e)⟩ := rfl
  have hzo := newE_ok xs a (rpE id e)
  obtain ⟨z, hzz⟩ : ∃ z, z = newE xs a (rpE id e) := ⟨_, rfl⟩
  rw [← hzz] at hz0 hzo
  have dL := lastE_len hx
  have rl := recR_le (shaB a) dD id e
  have c2 := stepR_ok .full (by decide) (lastE xs) [(.plain, recR (shaB a) id e)] dL (by simp) (by rw [one_part]; omega)
  have ep : pl [(Fl.plain, recR (shaB a) id e)] = [.sl .plain (recR (shaB a) id e).length (bl (recR (shaB a) id e))] := rfl
  rw [one_part, ep, List.length_cons, List.length_nil] at c2
  have dG : (shaB (lastE xs ++ recR (shaB a) id e)).length = 32 := digest_length _
  obtain ⟨D, hD⟩ : ∃ D, D = shaB a := ⟨_, rfl⟩
  rw [← hD] at c0 c1 c2 dD hz0 dG rl
  obtain ⟨G, hG⟩ : ∃ D2, D2 = shaB (lastE xs ++ recR D id e) := ⟨_, rfl⟩
  rw [← hG] at c2 hz0 dG
  obtain ⟨R, hR⟩ : ∃ D2, D2 = recR D id e := ⟨_, rfl⟩
  have lD : (bl D).length = 32 := by rw [bl_length, dD]
  have tD : List.take 32 (bl D) = bl D := List.take_of_length_le (by omega)
  have xD : List.drop 32 (bl D) = [] := List.drop_of_length_le (by omega)
  have lG : (bl G).length = 32 := by rw [bl_length, dG]
  have tG : List.take 32 (bl G) = bl G := List.take_of_length_le (by omega)
  have lL0 : (bl (lastE xs)).length = 32 := by rw [bl_length, dL]
  have tL0 : List.take 32 (bl (lastE xs)) = bl (lastE xs) := List.take_of_length_le (by omega)
  have lz := enC_length hzo
  have sz := enC_scal z
  have tz : List.take 66 (enC z) = enC z := List.take_of_length_le (by omega)
  have hz : bl D ++ (.int .i64 id :: .int .i64 e :: bl G) = enC z := by rw [hz0]; rfl
  have hpl : ∀ Z : List IV, Z.length = 66 → placed Z [(0, bl D), (32, [.int .i64 id]), (33, [.int .i64 e]), (34, bl G)] = some (enC z) := fun Z hZ => by
    rw [← hz]; exact placed_en lD lG _ _ Z hZ
  have lL := enL_length hx
  have r80 : roomy (xs.length + 1) 80 = true := roomy80 (by omega)
  have r80' : roomy xs.length 80 = true := roomy80 (by omega)
  have tR := take_bl R
  have hlR : (bl R).length = R.length := bl_length R
  rw [← hR] at c1 c2 rl
  unfold addE
  by_cases hg : good (rpE id e) = true
  · have e1 : recE id e = 0 := if_pos hg
    have e3 : R = D ++ renc (rpE id e) := by rw [hR]; exact if_pos hg
    have dR : R.length = 40 := by rw [e3, List.length_append, dD, renc_length]; rfl
    rw [if_pos (show recE (rpE id e).id (rpE id e).e = 0 from e1), ← hzz]
    rw [e1] at c1 ⊢
    rw [dR] at c1 c2 tR hlR
    have lR := hlR
    obtain ⟨v, hH, hheld⟩ := ho
    have hvU : v.isU = false := by rcases hheld with ⟨_, rfl⟩ | ⟨_, ver, rfl, _⟩ <;> rfl
    have hmore : ∀ s : St, s.h 6042 = H 6042 → s.more 66 v = some (xs.length, enL xs) := fun s hs => by
      rcases hheld with ⟨rfl, rfl⟩ | ⟨_, ver, rfl, hrow⟩
      · rfl
      · have ht := enL_take xs hx
        simp [St.more, St.elems, St.ok, St.seg, hs, hrow, ht]
    repeat' (first | simp -implicitDefEqProofs (maxSteps := 2000000) only [m12_1, m12_2, m12_3, m12_4, m12_5, m12_6, m12_7, m12_8, m12_r, m12_b, m12, homF, hH, hne, hne', nF, lD, tD, xD, tR, hlR, rc, bl_scal, bl_pur, wk, act, asV, ↓reduceIte, Nat.reduceEqDiff, reduceCtorEq, Nat.reduceAdd, Nat.reduceLeDiff, Nat.reduceSub, Nat.reduceMul, List.reduceReplicate, Int.reduceEq, Int.reduceLT, Int.reduceLE, Int.reduceAdd, Int.reduceSub, Int.reduceMul, Nat.reduceLT, Int.reduceToNat] | ((first | ((with_reducible refine CallL.gate ?_); apply CallL.of) | ((with_reducible refine CallpL.gate ?_); apply CallpL.of) | ((with_reducible refine CallP.gate ?_); apply CallP.of) | ((with_reducible refine CallpP.gate ?_); apply CallpP.of)); (case h1 => (simp -implicitDefEqProofs (maxSteps := 2000000) only [m12_1, m12_2, m12_3, m12_4, m12_5, m12_6, m12_7, m12_8, m12_r, m12_b, m12, homF, hH, hne, hne', nF, lD, tD, xD, tR, hlR, rc, bl_scal, bl_pur, wk, act, asV, ↓reduceIte, Nat.reduceEqDiff, reduceCtorEq, Nat.reduceAdd, Nat.reduceLeDiff, Nat.reduceSub, Nat.reduceMul, List.reduceReplicate, Int.reduceEq, Int.reduceLT, Int.reduceLE, Int.reduceAdd, Int.reduceSub, Int.reduceMul, Nat.reduceLT, Int.reduceToNat]; first | done | (with_reducible rfl))); (case h2 => (first | exact c0 | exact c1)); (case h3 => simp -implicitDefEqProofs (maxSteps := 2000000) only [m12_1, m12_2, m12_3, m12_4, m12_5, m12_6, m12_7, m12_8, m12_r, m12_b, m12, homF, hH, hne, hne', nF, lD, tD, xD, tR, hlR, rc, bl_scal, bl_pur, wk, act, asV, ↓reduceIte, Nat.reduceEqDiff, reduceCtorEq, Nat.reduceAdd, Nat.reduceLeDiff, Nat.reduceSub, Nat.reduceMul, List.reduceReplicate, Int.reduceEq, Int.reduceLT, Int.reduceLE, Int.reduceAdd, Int.reduceSub, Int.reduceMul, Nat.reduceLT, Int.reduceToNat])))
    obtain ⟨w31, hw31⟩ : ∃ w31, w31 = (H 6031).ver + 1 := ⟨_, rfl⟩
    obtain ⟨Inv, hInv⟩ : ∃ Inv : (Nat → Bool) → St → Prop, Inv = fun (L : Nat → Bool) (s : St) => ∃ v9, s.t 0 = .ptr h 0 hv ∧ s.t 2 = .int .i64 id ∧ s.t 3 = .int .i64 e ∧ s.h h = ⟨hv, true, true, false, [cond (L 20) (.row 6042 0 (xs.length + 1) 66 ((H 6042).ver + 1)) v]⟩ ∧ s.h 6042 = cond (L 17) ⟨(H 6042).ver + 1, true, true, true, enL xs ++ enC z⟩ (H 6042) ∧ s.t 9 = .ptr 6009 0 v9 ∧ s.h 6009 = ⟨v9, true, true, false, bl D⟩ ∧ s.t 10 = .sl .plain 40 (bl R) ∧ (L 17 = false → L 6 = true → s.h 6031 = ⟨w31, true, true, true, enL xs⟩) ∧ (L 6 = false → (s.h 6031).ver + 1 = w31) ∧ (∀ y, y ≠ h → (y < 6000 ∨ 8000 ≤ y) → s.h y = H y) ∧ (L 0 = true → s.t 25 = .ptr h 0 hv) ∧ (L 1 = true → s.t 26 = .sl .lit 0 []) ∧ (L 2 = true → s.t 27 = .ptr h 0 hv) ∧ (L 3 = true → s.t 28 = .ptr h 0 hv) ∧ (L 4 = true → s.t 29 = .ptr h 0 hv) ∧ (L 5 = true → s.t 30 = v) ∧ (L 6 = true → s.t 31 = .row 6031 0 xs.length 66 w31) ∧ (L 7 = true → s.t 32 = .agg (bl D)) ∧ (L 8 = true → s.t 33 = .int .i64 id) ∧ (L 9 = true → s.t 34 = .int .i64 e) ∧ (L 10 = true → s.t 35 = .ptr h 0 hv) ∧ (L 11 = true → s.t 36 = .agg (bl (lastE xs))) ∧ (L 12 = true → s.t 37 = .sl .plain 40 (bl R)) ∧ (L 13 = true → s.t 38 = .sl .lit 1 [.sl .plain 40 (bl R)]) ∧ (L 14 = true → s.t 39 = .agg (bl G)) ∧ (L 15 = true → s.t 40 = .agg (enC z)) ∧ (L 16 = true → s.t 41 = .sl .lit 1 (enC z)) ∧ (L 17 = true → s.t 42 = .row 6042 0 (xs.length + 1) 66 ((H 6042).ver + 1)) ∧ (L 18 = true → s.t 43 = .ptr h 0 hv) ∧ (L 19 = true → s.t 44 = .ptr h 0 hv) ∧ (L 14 = true → L 11 = true) ∧ (L 17 = true → L 14 = true ∧ L 6 = true) ∧ (L 20 = true → L 17 = true) ∧ (L 6 = true → L 5 = true) := ⟨_, rfl⟩
    refine Wp_drxO Inv ?_ ?_ ?_
    · rw [hInv]
      exact ⟨_, by simp -implicitDefEqProofs (maxSteps := 2000000) only [homF, hH, hne, hne', wk, act, asV, ↓reduceIte, Nat.reduceEqDiff, reduceCtorEq, Nat.reduceAdd, Nat.reduceLeDiff, Nat.reduceSub, Nat.reduceMul, List.reduceReplicate, Int.reduceEq, Int.reduceLT, Int.reduceLE, Int.reduceAdd, Int.reduceSub, Int.reduceMul, Nat.reduceLT, Int.reduceToNat]; first | done | rfl, by simp -implicitDefEqProofs (maxSteps := 2000000) only [homF, hH, hne, hne', wk, act, asV, ↓reduceIte, Nat.reduceEqDiff, reduceCtorEq, Nat.reduceAdd, Nat.reduceLeDiff, Nat.reduceSub, Nat.reduceMul, List.reduceReplicate, Int.reduceEq, Int.reduceLT, Int.reduceLE, Int.reduceAdd, Int.reduceSub, Int.reduceMul, Nat.reduceLT, Int.reduceToNat]; first | done | rfl, by simp -implicitDefEqProofs (maxSteps := 2000000) only [homF, hH, hne, hne', wk, act, asV, ↓reduceIte, Nat.reduceEqDiff, reduceCtorEq, Nat.reduceAdd, Nat.reduceLeDiff, Nat.reduceSub, Nat.reduceMul, List.reduceReplicate, Int.reduceEq, Int.reduceLT, Int.reduceLE, Int.reduceAdd, Int.reduceSub, Int.reduceMul, Nat.reduceLT, Int.reduceToNat]; first | done | rfl, by simp -implicitDefEqProofs (maxSteps := 2000000) only [homF, hH, hne, hne', wk, act, asV, ↓reduceIte, Nat.reduceEqDiff, reduceCtorEq, Nat.reduceAdd, Nat.reduceLeDiff, Nat.reduceSub, Nat.reduceMul, List.reduceReplicate, Int.reduceEq, Int.reduceLT, Int.reduceLE, Int.reduceAdd, Int.reduceSub, Int.reduceMul, Nat.reduceLT, Int.reduceToNat]; first | done | rfl, by simp -implicitDefEqProofs (maxSteps := 2000000) only [homF, hH, hne, hne', wk, act, asV, ↓reduceIte, Nat.reduceEqDiff, reduceCtorEq, Nat.reduceAdd, Nat.reduceLeDiff, Nat.reduceSub, Nat.reduceMul, List.reduceReplicate, Int.reduceEq, Int.reduceLT, Int.reduceLE, Int.reduceAdd, Int.reduceSub, Int.reduceMul, Nat.reduceLT, Int.reduceToNat]; first | done | rfl, by simp -implicitDefEqProofs (maxSteps := 2000000) only [homF, hH, hne, hne', wk, act, asV, ↓reduceIte, Nat.reduceEqDiff, reduceCtorEq, Nat.reduceAdd, Nat.reduceLeDiff, Nat.reduceSub, Nat.reduceMul, List.reduceReplicate, Int.reduceEq, Int.reduceLT, Int.reduceLE, Int.reduceAdd, Int.reduceSub, Int.reduceMul, Nat.reduceLT, Int.reduceToNat]; first | done | rfl, by simp -implicitDefEqProofs (maxSteps := 2000000) only [homF, hH, hne, hne', wk, act, asV, ↓reduceIte, Nat.reduceEqDiff, reduceCtorEq, Nat.reduceAdd, Nat.reduceLeDiff, Nat.reduceSub, Nat.reduceMul, List.reduceReplicate, Int.reduceEq, Int.reduceLT, Int.reduceLE, Int.reduceAdd, Int.reduceSub, Int.reduceMul, Nat.reduceLT, Int.reduceToNat]; first | done | rfl, by simp -implicitDefEqProofs (maxSteps := 2000000) only [homF, hH, hne, hne', wk, act, asV, ↓reduceIte, Nat.reduceEqDiff, reduceCtorEq, Nat.reduceAdd, Nat.reduceLeDiff, Nat.reduceSub, Nat.reduceMul, List.reduceReplicate, Int.reduceEq, Int.reduceLT, Int.reduceLE, Int.reduceAdd, Int.reduceSub, Int.reduceMul, Nat.reduceLT, Int.reduceToNat]; first | done | rfl, fun _ h => Bool.noConfusion (show false = true from h), fun _ => by simp -implicitDefEqProofs (maxSteps := 2000000) only [hw31, wk, act, asV, ↓reduceIte, Nat.reduceEqDiff, reduceCtorEq, Nat.reduceAdd, Nat.reduceLeDiff, Nat.reduceSub, Nat.reduceMul, List.reduceReplicate, Int.reduceEq, Int.reduceLT, Int.reduceLE, Int.reduceAdd, Int.reduceSub, Int.reduceMul, Nat.reduceLT, Int.reduceToNat]; first | done | rfl, (fun y y1 y2 => by
      have y3 : ∀ k, 6000 ≤ k → k < 8000 → (y = k) = False := fun k _ _ => by simp; omega
      simp -implicitDefEqProofs (maxSteps := 2000000) only [homF, y1, y3, wk, act, asV, ↓reduceIte, Nat.reduceEqDiff, reduceCtorEq, Nat.reduceAdd, Nat.reduceLeDiff, Nat.reduceSub, Nat.reduceMul, List.reduceReplicate, Int.reduceEq, Int.reduceLT, Int.reduceLE, Int.reduceAdd, Int.reduceSub, Int.reduceMul, Nat.reduceLT, Int.reduceToNat]), fun h => absurd (h : false = true) (by decide), fun h => absurd (h : false = true) (by decide), fun h => absurd (h : false = true) (by decide), fun h => absurd (h : false = true) (by decide), fun h => absurd (h : false = true) (by decide), fun h => absurd (h : false = true) (by decide), fun h => absurd (h : false = true) (by decide), fun h => absurd (h : false = true) (by decide), fun h => absurd (h : false = true) (by decide), fun h => absurd (h : false = true) (by decide), fun h => absurd (h : false = true) (by decide), fun h => absurd (h : false = true) (by decide), fun h => absurd (h : false = true) (by decide), fun h => absurd (h : false = true) (by decide), fun h => absurd (h : false = true) (by decide), fun h => absurd (h : false = true) (by decide), fun h => absurd (h : false = true) (by decide), fun h => absurd (h : false = true) (by decide), fun h => absurd (h : false = true) (by decide), fun h => absurd (h : false = true) (by decide), fun h => absurd (h : false = true) (by decide), fun h => absurd (h : false = true) (by decide), fun h => absurd (h : false = true) (by decide), fun h => absurd (h : false = true) (by decide)⟩
    · refine stepsO_cons ?_ (stepsO_cons ?_ (stepsO_cons ?_ (stepsO_cons ?_ (stepsO_cons ?_ (stepsO_cons ?_ (stepsO_cons ?_ (stepsO_cons ?_ (stepsO_cons ?_ (stepsO_cons ?_ (stepsO_cons ?_ (stepsO_cons ?_ (stepsO_cons ?_ (stepsO_cons ?_ (stepsO_cons ?_ (stepsO_cons ?_ (stepsO_cons ?_ (stepsO_cons ?_ (stepsO_cons ?_ (stepsO_cons ?_ (stepsO_cons ?_ (stepsO_nil)))))))))))))))))))))
      · intro L s hL hp hI
        rw [hInv] at hI
        obtain ⟨v9, k0, k2, k3, kO, k42, k9, kh9, k10, k31, k31v, fr, f0, f1, f2, f3, f4, f5, f6, f7, f8, f9, f10, f11, f12, f13, f14, f15, f16, f17, f18, f19, g14, g17, g20, g6⟩ := hI
        simp -implicitDefEqProofs (maxSteps := 2000000) only [homF, hne, hne', k0, wk, act, asV, ↓reduceIte, Nat.reduceEqDiff, reduceCtorEq, Nat.reduceAdd, Nat.reduceLeDiff, Nat.reduceSub, Nat.reduceMul, List.reduceReplicate, Int.reduceEq, Int.reduceLT, Int.reduceLE, Int.reduceAdd, Int.reduceSub, Int.reduceMul, Nat.reduceLT, Int.reduceToNat]
        rw [hInv]
        exact ⟨v9, k0, k2, k3, kO, k42, k9, kh9, k10, k31, k31v, fr, fun _ => rfl, f1, f2, f3, f4, f5, f6, f7, f8, f9, f10, f11, f12, f13, f14, f15, f16, f17, f18, f19, g14, g17, g20, g6⟩
      · intro L s hL hp hI
        rw [hInv] at hI
        obtain ⟨v9, k0, k2, k3, kO, k42, k9, kh9, k10, k31, k31v, fr, f0, f1, f2, f3, f4, f5, f6, f7, f8, f9, f10, f11, f12, f13, f14, f15, f16, f17, f18, f19, g14, g17, g20, g6⟩ := hI
        simp -implicitDefEqProofs (maxSteps := 2000000) only [homF, hne, hne', wk, act, asV, ↓reduceIte, Nat.reduceEqDiff, reduceCtorEq, Nat.reduceAdd, Nat.reduceLeDiff, Nat.reduceSub, Nat.reduceMul, List.reduceReplicate, Int.reduceEq, Int.reduceLT, Int.reduceLE, Int.reduceAdd, Int.reduceSub, Int.reduceMul, Nat.reduceLT, Int.reduceToNat]
        rw [hInv]
        exact ⟨v9, k0, k2, k3, kO, k42, k9, kh9, k10, k31, k31v, fr, f0, fun _ => rfl, f2, f3, f4, f5, f6, f7, f8, f9, f10, f11, f12, f13, f14, f15, f16, f17, f18, f19, g14, g17, g20, g6⟩
      · intro L s hL hp hI
        rw [hInv] at hI
        obtain ⟨v9, k0, k2, k3, kO, k42, k9, kh9, k10, k31, k31v, fr, f0, f1, f2, f3, f4, f5, f6, f7, f8, f9, f10, f11, f12, f13, f14, f15, f16, f17, f18, f19, g14, g17, g20, g6⟩ := hI
        simp -implicitDefEqProofs (maxSteps := 2000000) only [homF, hne, hne', k0, wk, act, asV, ↓reduceIte, Nat.reduceEqDiff, reduceCtorEq, Nat.reduceAdd, Nat.reduceLeDiff, Nat.reduceSub, Nat.reduceMul, List.reduceReplicate, Int.reduceEq, Int.reduceLT, Int.reduceLE, Int.reduceAdd, Int.reduceSub, Int.reduceMul, Nat.reduceLT, Int.reduceToNat]
        rw [hInv]
        exact ⟨v9, k0, k2, k3, kO, k42, k9, kh9, k10, k31, k31v, fr, f0, f1, fun _ => rfl, f3, f4, f5, f6, f7, f8, f9, f10, f11, f12, f13, f14, f15, f16, f17, f18, f19, g14, g17, g20, g6⟩
      · intro L s hL hp hI
        rw [hInv] at hI
        obtain ⟨v9, k0, k2, k3, kO, k42, k9, kh9, k10, k31, k31v, fr, f0, f1, f2, f3, f4, f5, f6, f7, f8, f9, f10, f11, f12, f13, f14, f15, f16, f17, f18, f19, g14, g17, g20, g6⟩ := hI
        have p2 := f2 (hp 2 (by simp))
        simp -implicitDefEqProofs (maxSteps := 2000000) only [homF, hne, hne', p2, kO, wk, act, asV, ↓reduceIte, Nat.reduceEqDiff, reduceCtorEq, Nat.reduceAdd, Nat.reduceLeDiff, Nat.reduceSub, Nat.reduceMul, List.reduceReplicate, Int.reduceEq, Int.reduceLT, Int.reduceLE, Int.reduceAdd, Int.reduceSub, Int.reduceMul, Nat.reduceLT, Int.reduceToNat]
        rw [hInv]
        exact ⟨v9, k0, k2, k3, kO, k42, k9, kh9, k10, k31, k31v, fr, f0, f1, f2, fun _ => rfl, f4, f5, f6, f7, f8, f9, f10, f11, f12, f13, f14, f15, f16, f17, f18, f19, g14, g17, g20, g6⟩
      · intro L s hL hp hI
        rw [hInv] at hI
        obtain ⟨v9, k0, k2, k3, kO, k42, k9, kh9, k10, k31, k31v, fr, f0, f1, f2, f3, f4, f5, f6, f7, f8, f9, f10, f11, f12, f13, f14, f15, f16, f17, f18, f19, g14, g17, g20, g6⟩ := hI
        have p3 := f3 (hp 3 (by simp))
        simp -implicitDefEqProofs (maxSteps := 2000000) only [homF, hne, hne', p3, kO, wk, act, asV, ↓reduceIte, Nat.reduceEqDiff, reduceCtorEq, Nat.reduceAdd, Nat.reduceLeDiff, Nat.reduceSub, Nat.reduceMul, List.reduceReplicate, Int.reduceEq, Int.reduceLT, Int.reduceLE, Int.reduceAdd, Int.reduceSub, Int.reduceMul, Nat.reduceLT, Int.reduceToNat]
        rw [hInv]
        exact ⟨v9, k0, k2, k3, kO, k42, k9, kh9, k10, k31, k31v, fr, f0, f1, f2, f3, fun _ => rfl, f5, f6, f7, f8, f9, f10, f11, f12, f13, f14, f15, f16, f17, f18, f19, g14, g17, g20, g6⟩
      · intro L s hL hp hI
        rw [hInv] at hI
        obtain ⟨v9, k0, k2, k3, kO, k42, k9, kh9, k10, k31, k31v, fr, f0, f1, f2, f3, f4, f5, f6, f7, f8, f9, f10, f11, f12, f13, f14, f15, f16, f17, f18, f19, g14, g17, g20, g6⟩ := hI
        have p4 := f4 (hp 4 (by simp))
        have l6 : L 6 = false := Bool.eq_false_iff.2 fun hh => absurd (g6 hh) (by rw [hL]; decide)
        have l17 : L 17 = false := Bool.eq_false_iff.2 fun hh => absurd (g17 hh).2 (by rw [l6]; decide)
        have l20 : L 20 = false := Bool.eq_false_iff.2 fun hh => absurd (g20 hh) (by rw [l17]; decide)
        have kO' := kO
        rw [l20] at kO'
        simp -implicitDefEqProofs (maxSteps := 2000000) only [homF, hne, hne', p4, kO', cond_false, wk, act, asV, ↓reduceIte, Nat.reduceEqDiff, reduceCtorEq, Nat.reduceAdd, Nat.reduceLeDiff, Nat.reduceSub, Nat.reduceMul, List.reduceReplicate, Int.reduceEq, Int.reduceLT, Int.reduceLE, Int.reduceAdd, Int.reduceSub, Int.reduceMul, Nat.reduceLT, Int.reduceToNat]
        rw [hInv]
        exact ⟨v9, k0, k2, k3, kO, k42, k9, kh9, k10, k31, k31v, fr, f0, f1, f2, f3, f4, fun _ => rfl, f6, f7, f8, f9, f10, f11, f12, f13, f14, f15, f16, f17, f18, f19, g14, g17, g20, fun _ => rfl⟩
      · intro L s hL hp hI
        rw [hInv] at hI
        obtain ⟨v9, k0, k2, k3, kO, k42, k9, kh9, k10, k31, k31v, fr, f0, f1, f2, f3, f4, f5, f6, f7, f8, f9, f10, f11, f12, f13, f14, f15, f16, f17, f18, f19, g14, g17, g20, g6⟩ := hI
        have p1 := f1 (hp 1 (by simp))
        have p5 := f5 (hp 5 (by simp))
        have l17 : L 17 = false := Bool.eq_false_iff.2 fun hh => absurd (g17 hh).2 (by rw [hL]; decide)
        have k42' := k42
        rw [l17] at k42'
        have hm := hmore s k42'
        have kv := k31v hL
        simp -implicitDefEqProofs (maxSteps := 2000000) only [homF, hne, hne', p1, p5, hm, hvU, r80', kv, wk, act, asV, ↓reduceIte, Nat.reduceEqDiff, reduceCtorEq, Nat.reduceAdd, Nat.reduceLeDiff, Nat.reduceSub, Nat.reduceMul, List.reduceReplicate, Int.reduceEq, Int.reduceLT, Int.reduceLE, Int.reduceAdd, Int.reduceSub, Int.reduceMul, Nat.reduceLT, Int.reduceToNat]
        rw [hInv]
        exact ⟨v9, k0, k2, k3, (updN (by omega)).trans kO, k42, k9, kh9, k10, fun _ _ => rfl, fun h => Bool.noConfusion (show true = false from h), fun y y1 y2 => (updN (by omega)).trans (fr y y1 y2), f0, f1, f2, f3, f4, f5, fun _ => rfl, f7, f8, f9, f10, f11, f12, f13, f14, f15, f16, f17, f18, f19, g14, fun h => ⟨(g17 h).1, rfl⟩, g20, fun _ => hp 5 (by simp)⟩
      · intro L s hL hp hI
        rw [hInv] at hI
        obtain ⟨v9, k0, k2, k3, kO, k42, k9, kh9, k10, k31, k31v, fr, f0, f1, f2, f3, f4, f5, f6, f7, f8, f9, f10, f11, f12, f13, f14, f15, f16, f17, f18, f19, g14, g17, g20, g6⟩ := hI
        simp -implicitDefEqProofs (maxSteps := 2000000) only [homF, hne, hne', k9, kh9, lD, tD, wk, act, asV, ↓reduceIte, Nat.reduceEqDiff, reduceCtorEq, Nat.reduceAdd, Nat.reduceLeDiff, Nat.reduceSub, Nat.reduceMul, List.reduceReplicate, Int.reduceEq, Int.reduceLT, Int.reduceLE, Int.reduceAdd, Int.reduceSub, Int.reduceMul, Nat.reduceLT, Int.reduceToNat]
        rw [hInv]
        exact ⟨v9, k0, k2, k3, kO, k42, k9, kh9, k10, k31, k31v, fr, f0, f1, f2, f3, f4, f5, f6, fun _ => rfl, f8, f9, f10, f11, f12, f13, f14, f15, f16, f17, f18, f19, g14, g17, g20, g6⟩
      · intro L s hL hp hI
        rw [hInv] at hI
        obtain ⟨v9, k0, k2, k3, kO, k42, k9, kh9, k10, k31, k31v, fr, f0, f1, f2, f3, f4, f5, f6, f7, f8, f9, f10, f11, f12, f13, f14, f15, f16, f17, f18, f19, g14, g17, g20, g6⟩ := hI
        simp -implicitDefEqProofs (maxSteps := 2000000) only [homF, hne, hne', k2, wk, act, asV, ↓reduceIte, Nat.reduceEqDiff, reduceCtorEq, Nat.reduceAdd, Nat.reduceLeDiff, Nat.reduceSub, Nat.reduceMul, List.reduceReplicate, Int.reduceEq, Int.reduceLT, Int.reduceLE, Int.reduceAdd, Int.reduceSub, Int.reduceMul, Nat.reduceLT, Int.reduceToNat]
        rw [hInv]
        exact ⟨v9, k0, k2, k3, kO, k42, k9, kh9, k10, k31, k31v, fr, f0, f1, f2, f3, f4, f5, f6, f7, fun _ => rfl, f9, f10, f11, f12, f13, f14, f15, f16, f17, f18, f19, g14, g17, g20, g6⟩
      · intro L s hL hp hI
        rw [hInv] at hI
        obtain ⟨v9, k0, k2, k3, kO, k42, k9, kh9, k10, k31, k31v, fr, f0, f1, f2, f3, f4, f5, f6, f7, f8, f9, f10, f11, f12, f13, f14, f15, f16, f17, f18, f19, g14, g17, g20, g6⟩ := hI
        simp -implicitDefEqProofs (maxSteps := 2000000) only [homF, hne, hne', k3, wk, act, asV, ↓reduceIte, Nat.reduceEqDiff, reduceCtorEq, Nat.reduceAdd, Nat.reduceLeDiff, Nat.reduceSub, Nat.reduceMul, List.reduceReplicate, Int.reduceEq, Int.reduceLT, Int.reduceLE, Int.reduceAdd, Int.reduceSub, Int.reduceMul, Nat.reduceLT, Int.reduceToNat]
        rw [hInv]
        exact ⟨v9, k0, k2, k3, kO, k42, k9, kh9, k10, k31, k31v, fr, f0, f1, f2, f3, f4, f5, f6, f7, f8, fun _ => rfl, f10, f11, f12, f13, f14, f15, f16, f17, f18, f19, g14, g17, g20, g6⟩
      · intro L s hL hp hI
        rw [hInv] at hI
        obtain ⟨v9, k0, k2, k3, kO, k42, k9, kh9, k10, k31, k31v, fr, f0, f1, f2, f3, f4, f5, f6, f7, f8, f9, f10, f11, f12, f13, f14, f15, f16, f17, f18, f19, g14, g17, g20, g6⟩ := hI
        simp -implicitDefEqProofs (maxSteps := 2000000) only [homF, hne, hne', k0, wk, act, asV, ↓reduceIte, Nat.reduceEqDiff, reduceCtorEq, Nat.reduceAdd, Nat.reduceLeDiff, Nat.reduceSub, Nat.reduceMul, List.reduceReplicate, Int.reduceEq, Int.reduceLT, Int.reduceLE, Int.reduceAdd, Int.reduceSub, Int.reduceMul, Nat.reduceLT, Int.reduceToNat]
        rw [hInv]
        exact ⟨v9, k0, k2, k3, kO, k42, k9, kh9, k10, k31, k31v, fr, f0, f1, f2, f3, f4, f5, f6, f7, f8, f9, fun _ => rfl, f11, f12, f13, f14, f15, f16, f17, f18, f19, g14, g17, g20, g6⟩
      · intro L s hL hp hI
        rw [hInv] at hI
        obtain ⟨v9, k0, k2, k3, kO, k42, k9, kh9, k10, k31, k31v, fr, f0, f1, f2, f3, f4, f5, f6, f7, f8, f9, f10, f11, f12, f13, f14, f15, f16, f17, f18, f19, g14, g17, g20, g6⟩ := hI
        have p10 := f10 (hp 10 (by simp))
        have l14 : L 14 = false := Bool.eq_false_iff.2 fun hh => absurd (g14 hh) (by rw [hL]; decide)
        have l17 : L 17 = false := Bool.eq_false_iff.2 fun hh => absurd (g17 hh).1 (by rw [l14]; decide)
        have l20 : L 20 = false := Bool.eq_false_iff.2 fun hh => absurd (g20 hh) (by rw [l17]; decide)
        have kO' := kO
        rw [l20] at kO'
        have k42' := k42
        rw [l17] at k42'
        have ho' : ObjE h hv 6042 s.h xs := ⟨_, kO', HeldE_of hheld k42'⟩
        simp -implicitDefEqProofs (maxSteps := 2000000) only [homF, hne, hne', p10, wk, act, asV, ↓reduceIte, Nat.reduceEqDiff, reduceCtorEq, Nat.reduceAdd, Nat.reduceLeDiff, Nat.reduceSub, Nat.reduceMul, List.reduceReplicate, Int.reduceEq, Int.reduceLT, Int.reduceLE, Int.reduceAdd, Int.reduceSub, Int.reduceMul, Nat.reduceLT, Int.reduceToNat]
        refine CallnL.of (by simp -implicitDefEqProofs (maxSteps := 2000000) only [homF, hne, hne', p10, wk, act, asV, ↓reduceIte, Nat.reduceEqDiff, reduceCtorEq, Nat.reduceAdd, Nat.reduceLeDiff, Nat.reduceSub, Nat.reduceMul, List.reduceReplicate, Int.reduceEq, Int.reduceLT, Int.reduceLE, Int.reduceAdd, Int.reduceSub, Int.reduceMul, Nat.reduceLT, Int.reduceToNat]; first | done | rfl) (lastR_ok hh hx (by omega) ho') ?_
        rintro _ h' ⟨rfl, hfr⟩
        simp -implicitDefEqProofs (maxSteps := 2000000) only [wk, act, asV, ↓reduceIte, Nat.reduceEqDiff, reduceCtorEq, Nat.reduceAdd, Nat.reduceLeDiff, Nat.reduceSub, Nat.reduceMul, List.reduceReplicate, Int.reduceEq, Int.reduceLT, Int.reduceLE, Int.reduceAdd, Int.reduceSub, Int.reduceMul, Nat.reduceLT, Int.reduceToNat]
        rw [hInv]
        exact ⟨v9, k0, k2, k3, (hfr h (.inl (by omega))).trans kO, (hfr 6042 (.inl (by decide))).trans k42, k9, (hfr 6009 (.inl (by decide))).trans kh9, k10, fun h1 h2 => (hfr 6031 (.inl (by decide))).trans (k31 h1 h2), fun h1 => by rw [← k31v h1]; exact congrArg (fun b : Blk => b.ver + 1) (hfr 6031 (.inl (by decide))), fun y y1 y2 => (hfr y (by omega)).trans (fr y y1 y2), f0, f1, f2, f3, f4, f5, f6, f7, f8, f9, f10, fun _ => rfl, f12, f13, f14, f15, f16, f17, f18, f19, fun _ => rfl, g17, g20, g6⟩
      · intro L s hL hp hI
        rw [hInv] at hI
        obtain ⟨v9, k0, k2, k3, kO, k42, k9, kh9, k10, k31, k31v, fr, f0, f1, f2, f3, f4, f5, f6, f7, f8, f9, f10, f11, f12, f13, f14, f15, f16, f17, f18, f19, g14, g17, g20, g6⟩ := hI
        simp -implicitDefEqProofs (maxSteps := 2000000) only [homF, hne, hne', k10, wk, act, asV, ↓reduceIte, Nat.reduceEqDiff, reduceCtorEq, Nat.reduceAdd, Nat.reduceLeDiff, Nat.reduceSub, Nat.reduceMul, List.reduceReplicate, Int.reduceEq, Int.reduceLT, Int.reduceLE, Int.reduceAdd, Int.reduceSub, Int.reduceMul, Nat.reduceLT, Int.reduceToNat]
        rw [hInv]
        exact ⟨v9, k0, k2, k3, kO, k42, k9, kh9, k10, k31, k31v, fr, f0, f1, f2, f3, f4, f5, f6, f7, f8, f9, f10, f11, fun _ => rfl, f13, f14, f15, f16, f17, f18, f19, g14, g17, g20, g6⟩
      · intro L s hL hp hI
        rw [hInv] at hI
        obtain ⟨v9, k0, k2, k3, kO, k42, k9, kh9, k10, k31, k31v, fr, f0, f1, f2, f3, f4, f5, f6, f7, f8, f9, f10, f11, f12, f13, f14, f15, f16, f17, f18, f19, g14, g17, g20, g6⟩ := hI
        have p12 := f12 (hp 12 (by simp))
        simp -implicitDefEqProofs (maxSteps := 2000000) only [homF, hne, hne', p12, wk, act, asV, ↓reduceIte, Nat.reduceEqDiff, reduceCtorEq, Nat.reduceAdd, Nat.reduceLeDiff, Nat.reduceSub, Nat.reduceMul, List.reduceReplicate, Int.reduceEq, Int.reduceLT, Int.reduceLE, Int.reduceAdd, Int.reduceSub, Int.reduceMul, Nat.reduceLT, Int.reduceToNat]
        rw [hInv]
        exact ⟨v9, k0, k2, k3, kO, k42, k9, kh9, k10, k31, k31v, fr, f0, f1, f2, f3, f4, f5, f6, f7, f8, f9, f10, f11, f12, fun _ => rfl, f14, f15, f16, f17, f18, f19, g14, g17, g20, g6⟩
      · intro L s hL hp hI
        rw [hInv] at hI
        obtain ⟨v9, k0, k2, k3, kO, k42, k9, kh9, k10, k31, k31v, fr, f0, f1, f2, f3, f4, f5, f6, f7, f8, f9, f10, f11, f12, f13, f14, f15, f16, f17, f18, f19, g14, g17, g20, g6⟩ := hI
        have p11 := f11 (hp 11 (by simp))
        have p13 := f13 (hp 13 (by simp))
        repeat' (first | simp -implicitDefEqProofs (maxSteps := 2000000) only [homF, hne, hne', p11, p13, lL0, tL0, lR, tR, bl_scal, bl_pur, wk, act, asV, ↓reduceIte, Nat.reduceEqDiff, reduceCtorEq, Nat.reduceAdd, Nat.reduceLeDiff, Nat.reduceSub, Nat.reduceMul, List.reduceReplicate, Int.reduceEq, Int.reduceLT, Int.reduceLE, Int.reduceAdd, Int.reduceSub, Int.reduceMul, Nat.reduceLT, Int.reduceToNat] | ((first | ((with_reducible refine CallL.gate ?_); apply CallL.of) | ((with_reducible refine CallpL.gate ?_); apply CallpL.of) | ((with_reducible refine CallP.gate ?_); apply CallP.of) | ((with_reducible refine CallpP.gate ?_); apply CallpP.of)); (case h1 => (simp -implicitDefEqProofs (maxSteps := 2000000) only [homF, hne, hne', p11, p13, lL0, tL0, lR, tR, bl_scal, bl_pur, wk, act, asV, ↓reduceIte, Nat.reduceEqDiff, reduceCtorEq, Nat.reduceAdd, Nat.reduceLeDiff, Nat.reduceSub, Nat.reduceMul, List.reduceReplicate, Int.reduceEq, Int.reduceLT, Int.reduceLE, Int.reduceAdd, Int.reduceSub, Int.reduceMul, Nat.reduceLT, Int.reduceToNat]; first | done | (with_reducible rfl))); (case h2 => (first | exact c2)); (case h3 => simp -implicitDefEqProofs (maxSteps := 2000000) only [homF, hne, hne', p11, p13, lL0, tL0, lR, tR, bl_scal, bl_pur, wk, act, asV, ↓reduceIte, Nat.reduceEqDiff, reduceCtorEq, Nat.reduceAdd, Nat.reduceLeDiff, Nat.reduceSub, Nat.reduceMul, List.reduceReplicate, Int.reduceEq, Int.reduceLT, Int.reduceLE, Int.reduceAdd, Int.reduceSub, Int.reduceMul, Nat.reduceLT, Int.reduceToNat])))
        rw [hInv]
        exact ⟨v9, k0, k2, k3, kO, k42, k9, kh9, k10, k31, k31v, fr, f0, f1, f2, f3, f4, f5, f6, f7, f8, f9, f10, f11, f12, f13, fun _ => rfl, f15, f16, f17, f18, f19, fun _ => hp 11 (by simp), fun h => ⟨rfl, (g17 h).2⟩, g20, g6⟩
      · intro L s hL hp hI
        rw [hInv] at hI
        obtain ⟨v9, k0, k2, k3, kO, k42, k9, kh9, k10, k31, k31v, fr, f0, f1, f2, f3, f4, f5, f6, f7, f8, f9, f10, f11, f12, f13, f14, f15, f16, f17, f18, f19, g14, g17, g20, g6⟩ := hI
        have p7 := f7 (hp 7 (by simp))
        have p8 := f8 (hp 8 (by simp))
        have p9 := f9 (hp 9 (by simp))
        have p14 := f14 (hp 14 (by simp))
        simp -implicitDefEqProofs (maxSteps := 2000000) only [homF, hne, hne', p7, p8, p9, p14, lD, tD, lG, tG, bl_scal, hpl, wk, act, asV, ↓reduceIte, Nat.reduceEqDiff, reduceCtorEq, Nat.reduceAdd, Nat.reduceLeDiff, Nat.reduceSub, Nat.reduceMul, List.reduceReplicate, Int.reduceEq, Int.reduceLT, Int.reduceLE, Int.reduceAdd, Int.reduceSub, Int.reduceMul, Nat.reduceLT, Int.reduceToNat]
        rw [hInv]
        exact ⟨v9, k0, k2, k3, kO, k42, k9, kh9, k10, k31, k31v, fr, f0, f1, f2, f3, f4, f5, f6, f7, f8, f9, f10, f11, f12, f13, f14, fun _ => rfl, f16, f17, f18, f19, g14, g17, g20, g6⟩
      · intro L s hL hp hI
        rw [hInv] at hI
        obtain ⟨v9, k0, k2, k3, kO, k42, k9, kh9, k10, k31, k31v, fr, f0, f1, f2, f3, f4, f5, f6, f7, f8, f9, f10, f11, f12, f13, f14, f15, f16, f17, f18, f19, g14, g17, g20, g6⟩ := hI
        have p15 := f15 (hp 15 (by simp))
        simp -implicitDefEqProofs (maxSteps := 2000000) only [homF, hne, hne', p15, lz, sz, tz, wk, act, asV, ↓reduceIte, Nat.reduceEqDiff, reduceCtorEq, Nat.reduceAdd, Nat.reduceLeDiff, Nat.reduceSub, Nat.reduceMul, List.reduceReplicate, Int.reduceEq, Int.reduceLT, Int.reduceLE, Int.reduceAdd, Int.reduceSub, Int.reduceMul, Nat.reduceLT, Int.reduceToNat]
        rw [hInv]
        exact ⟨v9, k0, k2, k3, kO, k42, k9, kh9, k10, k31, k31v, fr, f0, f1, f2, f3, f4, f5, f6, f7, f8, f9, f10, f11, f12, f13, f14, f15, fun _ => rfl, f17, f18, f19, g14, g17, g20, g6⟩
      · intro L s hL hp hI
        rw [hInv] at hI
        obtain ⟨v9, k0, k2, k3, kO, k42, k9, kh9, k10, k31, k31v, fr, f0, f1, f2, f3, f4, f5, f6, f7, f8, f9, f10, f11, f12, f13, f14, f15, f16, f17, f18, f19, g14, g17, g20, g6⟩ := hI
        have p6 := f6 (hp 6 (by simp))
        have p16 := f16 (hp 16 (by simp))
        have k42' := k42
        rw [hL] at k42'
        have k31' := k31 hL (hp 6 (by simp))
        have kv' : (s.h 6042).ver = (H 6042).ver := by rw [k42']; rfl
        simp -implicitDefEqProofs (maxSteps := 2000000) only [homF, hne, hne', p6, p16, k31', kv', cond_false, lL, r80, lz, wk, act, asV, ↓reduceIte, Nat.reduceEqDiff, reduceCtorEq, Nat.reduceAdd, Nat.reduceLeDiff, Nat.reduceSub, Nat.reduceMul, List.reduceReplicate, Int.reduceEq, Int.reduceLT, Int.reduceLE, Int.reduceAdd, Int.reduceSub, Int.reduceMul, Nat.reduceLT, Int.reduceToNat]
        rw [hInv]
        exact ⟨v9, k0, k2, k3, (updN (by omega)).trans ((updN (by omega)).trans kO), rfl, k9, kh9, k10, fun h => Bool.noConfusion (show true = false from h), fun h => absurd (hp 6 (by simp)) (by rw [show L 6 = false from h]; decide), fun y y1 y2 => (updN (by omega)).trans ((updN (by omega)).trans (fr y y1 y2)), f0, f1, f2, f3, f4, f5, f6, f7, f8, f9, f10, f11, f12, f13, f14, f15, f16, fun _ => rfl, f18, f19, g14, fun _ => ⟨hp 14 (by simp), hp 6 (by simp)⟩, fun _ => rfl, g6⟩
      · intro L s hL hp hI
        rw [hInv] at hI
        obtain ⟨v9, k0, k2, k3, kO, k42, k9, kh9, k10, k31, k31v, fr, f0, f1, f2, f3, f4, f5, f6, f7, f8, f9, f10, f11, f12, f13, f14, f15, f16, f17, f18, f19, g14, g17, g20, g6⟩ := hI
        have p0 := f0 (hp 0 (by simp))
        simp -implicitDefEqProofs (maxSteps := 2000000) only [homF, hne, hne', p0, kO, wk, act, asV, ↓reduceIte, Nat.reduceEqDiff, reduceCtorEq, Nat.reduceAdd, Nat.reduceLeDiff, Nat.reduceSub, Nat.reduceMul, List.reduceReplicate, Int.reduceEq, Int.reduceLT, Int.reduceLE, Int.reduceAdd, Int.reduceSub, Int.reduceMul, Nat.reduceLT, Int.reduceToNat]
        rw [hInv]
        exact ⟨v9, k0, k2, k3, kO, k42, k9, kh9, k10, k31, k31v, fr, f0, f1, f2, f3, f4, f5, f6, f7, f8, f9, f10, f11, f12, f13, f14, f15, f16, f17, fun _ => rfl, f19, g14, g17, g20, g6⟩
      · intro L s hL hp hI
        rw [hInv] at hI
        obtain ⟨v9, k0, k2, k3, kO, k42, k9, kh9, k10, k31, k31v, fr, f0, f1, f2, f3, f4, f5, f6, f7, f8, f9, f10, f11, f12, f13, f14, f15, f16, f17, f18, f19, g14, g17, g20, g6⟩ := hI
        have p18 := f18 (hp 18 (by simp))
        simp -implicitDefEqProofs (maxSteps := 2000000) only [homF, hne, hne', p18, kO, wk, act, asV, ↓reduceIte, Nat.reduceEqDiff, reduceCtorEq, Nat.reduceAdd, Nat.reduceLeDiff, Nat.reduceSub, Nat.reduceMul, List.reduceReplicate, Int.reduceEq, Int.reduceLT, Int.reduceLE, Int.reduceAdd, Int.reduceSub, Int.reduceMul, Nat.reduceLT, Int.reduceToNat]
        rw [hInv]
        exact ⟨v9, k0, k2, k3, kO, k42, k9, kh9, k10, k31, k31v, fr, f0, f1, f2, f3, f4, f5, f6, f7, f8, f9, f10, f11, f12, f13, f14, f15, f16, f17, f18, fun _ => rfl, g14, g17, g20, g6⟩
      · intro L s hL hp hI
        rw [hInv] at hI
        obtain ⟨v9, k0, k2, k3, kO, k42, k9, kh9, k10, k31, k31v, fr, f0, f1, f2, f3, f4, f5, f6, f7, f8, f9, f10, f11, f12, f13, f14, f15, f16, f17, f18, f19, g14, g17, g20, g6⟩ := hI
        have p19 := f19 (hp 19 (by simp))
        have p17 := f17 (hp 17 (by simp))
        simp -implicitDefEqProofs (maxSteps := 2000000) only [homF, hne, hne', p19, p17, kO, wk, act, asV, ↓reduceIte, Nat.reduceEqDiff, reduceCtorEq, Nat.reduceAdd, Nat.reduceLeDiff, Nat.reduceSub, Nat.reduceMul, List.reduceReplicate, Int.reduceEq, Int.reduceLT, Int.reduceLE, Int.reduceAdd, Int.reduceSub, Int.reduceMul, Nat.reduceLT, Int.reduceToNat]
        rw [hInv]
        exact ⟨v9, k0, k2, k3, updE, (updN (by omega)).trans k42, k9, (updN (by omega)).trans kh9, k10, fun h1 h2 => (updN (by omega)).trans (k31 h1 h2), fun h1 => absurd (g6 (g17 (hp 17 (by simp))).2) (by have := (g17 (hp 17 (by simp))).2; rw [show L 6 = false from h1] at this; cases this), fun y y1 y2 => (updN y1).trans (fr y y1 y2), f0, f1, f2, f3, f4, f5, f6, f7, f8, f9, f10, f11, f12, f13, f14, f15, f16, f17, f18, f19, g14, g17, fun _ => hp 17 (by simp), g6⟩
    · intro s hI
      rw [hInv] at hI
      obtain ⟨v9, k0, k2, k3, kO, k42, k9, kh9, k10, k31, k31v, fr, f0, f1, f2, f3, f4, f5, f6, f7, f8, f9, f10, f11, f12, f13, f14, f15, f16, f17, f18, f19, g14, g17, g20, g6⟩ := hI
      have kO2 : s.h h = ⟨hv, true, true, false, [.row 6042 0 (xs.length + 1) 66 ((H 6042).ver + 1)]⟩ := kO
      have k422 : s.h 6042 = ⟨(H 6042).ver + 1, true, true, true, enL xs ++ enC z⟩ := k42
      simp -implicitDefEqProofs (maxSteps := 2000000) only [homF, wk, act, asV, ↓reduceIte, Nat.reduceEqDiff, reduceCtorEq, Nat.reduceAdd, Nat.reduceLeDiff, Nat.reduceSub, Nat.reduceMul, List.reduceReplicate, Int.reduceEq, Int.reduceLT, Int.reduceLE, Int.reduceAdd, Int.reduceSub, Int.reduceMul, Nat.reduceLT, Int.reduceToNat]
      refine PostI.mk (by simp -implicitDefEqProofs (maxSteps := 2000000) only [wk, act, asV, ↓reduceIte, Nat.reduceEqDiff, reduceCtorEq, Nat.reduceAdd, Nat.reduceLeDiff, Nat.reduceSub, Nat.reduceMul, List.reduceReplicate, Int.reduceEq, Int.reduceLT, Int.reduceLE, Int.reduceAdd, Int.reduceSub, Int.reduceMul, Nat.reduceLT, Int.reduceToNat]; first | done | (with_reducible rfl)) ⟨by rfl, ⟨_, kO2, .inr ⟨by simp, (H 6042).ver + 1, by simp, by rw [k422, enL_append]; simp [enL]⟩⟩, fun y y1 y2 => fr y y1 y2⟩
  · have e1 : recE id e = 11 := if_neg hg
    rw [if_neg (show ¬ recE (rpE id e).id (rpE id e).e = 0 by rw [show recE (rpE id e).id (rpE id e).e = 11 from e1]; decide)]
    have ho' := ho
    obtain ⟨v, hH, hheld⟩ := ho
    rw [e1] at c1 ⊢
    repeat' (first | simp -implicitDefEqProofs (maxSteps := 2000000) only [m12_1, m12_2, m12_3, m12_4, m12_5, m12_6, m12_7, m12_8, m12_r, m12_b, m12, homF, hH, hne, hne', nF, lD, tD, xD, tR, hlR, rc, bl_scal, bl_pur, wk, act, asV, ↓reduceIte, Nat.reduceEqDiff, reduceCtorEq, Nat.reduceAdd, Nat.reduceLeDiff, Nat.reduceSub, Nat.reduceMul, List.reduceReplicate, Int.reduceEq, Int.reduceLT, Int.reduceLE, Int.reduceAdd, Int.reduceSub, Int.reduceMul, Nat.reduceLT, Int.reduceToNat] | ((first | ((with_reducible refine CallL.gate ?_); apply CallL.of) | ((with_reducible refine CallpL.gate ?_); apply CallpL.of) | ((with_reducible refine CallP.gate ?_); apply CallP.of) | ((with_reducible refine CallpP.gate ?_); apply CallpP.of)); (case h1 => (simp -implicitDefEqProofs (maxSteps := 2000000) only [m12_1, m12_2, m12_3, m12_4, m12_5, m12_6, m12_7, m12_8, m12_r, m12_b, m12, homF, hH, hne, hne', nF, lD, tD, xD, tR, hlR, rc, bl_scal, bl_pur, wk, act, asV, ↓reduceIte, Nat.reduceEqDiff, reduceCtorEq, Nat.reduceAdd, Nat.reduceLeDiff, Nat.reduceSub, Nat.reduceMul, List.reduceReplicate, Int.reduceEq, Int.reduceLT, Int.reduceLE, Int.reduceAdd, Int.reduceSub, Int.reduceMul, Nat.reduceLT, Int.reduceToNat]; first | done | (with_reducible rfl))); (case h2 => (first | exact c0 | exact c1)); (case h3 => simp -implicitDefEqProofs (maxSteps := 2000000) only [m12_1, m12_2, m12_3, m12_4, m12_5, m12_6, m12_7, m12_8, m12_r, m12_b, m12, homF, hH, hne, hne', nF, lD, tD, xD, tR, hlR, rc, bl_scal, bl_pur, wk, act, asV, ↓reduceIte, Nat.reduceEqDiff, reduceCtorEq, Nat.reduceAdd, Nat.reduceLeDiff, Nat.reduceSub, Nat.reduceMul, List.reduceReplicate, Int.reduceEq, Int.reduceLT, Int.reduceLE, Int.reduceAdd, Int.reduceSub, Int.reduceMul, Nat.reduceLT, Int.reduceToNat])))
    refine PostI.mk (by simp -implicitDefEqProofs (maxSteps := 2000000) only [homF, wk, act, asV, ↓reduceIte, Nat.reduceEqDiff, reduceCtorEq, Nat.reduceAdd, Nat.reduceLeDiff, Nat.reduceSub, Nat.reduceMul, List.reduceReplicate, Int.reduceEq, Int.reduceLT, Int.reduceLE, Int.reduceAdd, Int.reduceSub, Int.reduceMul, Nat.reduceLT, Int.reduceToNat]; first | done | (with_reducible rfl)) ⟨by rfl, ⟨v, by simp -implicitDefEqProofs (maxSteps := 2000000) only [hH, hne, wk, act, asV, ↓reduceIte, Nat.reduceEqDiff, reduceCtorEq, Nat.reduceAdd, Nat.reduceLeDiff, Nat.reduceSub, Nat.reduceMul, List.reduceReplicate, Int.reduceEq, Int.reduceLT, Int.reduceLE, Int.reduceAdd, Int.reduceSub, Int.reduceMul, Nat.reduceLT, Int.reduceToNat]; first | done | rfl, HeldE_of hheld (by simp -implicitDefEqProofs (maxSteps := 2000000) only [wk, act, asV, ↓reduceIte, Nat.reduceEqDiff, reduceCtorEq, Nat.reduceAdd, Nat.reduceLeDiff, Nat.reduceSub, Nat.reduceMul, List.reduceReplicate, Int.reduceEq, Int.reduceLT, Int.reduceLE, Int.reduceAdd, Int.reduceSub, Int.reduceMul, Nat.reduceLT, Int.reduceToNat])⟩, fun y y1 y2 => by
      have y3 : ∀ k, 6000 ≤ k → k < 8000 → (y = k) = False := fun k _ _ => by simp; omega
      simp -implicitDefEqProofs (maxSteps := 2000000) only [y1, y3, wk, act, asV, ↓reduceIte, Nat.reduceEqDiff, reduceCtorEq, Nat.reduceAdd, Nat.reduceLeDiff, Nat.reduceSub, Nat.reduceMul, List.reduceReplicate, Int.reduceEq, Int.reduceLT, Int.reduceLE, Int.reduceAdd, Int.reduceSub, Int.reduceMul, Nat.reduceLT, Int.reduceToNat]⟩

def isI : IV → Bool
  | .int _ _ => true
  | _ => false
theorem eqL_self : ∀ {cs : List IV}, cs.all isI = true → eqL cs cs = some true
  | [], _ => rfl
  | .int k n :: cs, h => by
    rw [List.all_cons, Bool.and_eq_true] at h
    rw [eqL, eqL_self h.2]
    simp [eqC]
theorem bl_isI (l : List UInt8) : (bl l).all isI = true := by
  induction l with
  | nil => rfl
  | cons b l ih => simp only [bl, List.map_cons, List.all_cons] at ih ⊢; rw [ih]; rfl
theorem enC_isI (x : En) : (enC x).all isI = true := by
  unfold enC
  rw [List.all_append, bl_isI, List.all_cons, List.all_cons, bl_isI]; rfl
theorem isI_fit : ∀ {l : List IV}, l.all isI = true → l.all CK.i.fit = true
  | [], _ => rfl
  | .int k n :: cs, h => by
    rw [List.all_cons, Bool.and_eq_true] at h
    rw [List.all_cons, isI_fit h.2]; rfl
theorem enC_fit {x : En} (h : x.Ok) : fitR [(66, .i)] (enC x) = true := by
  have l := enC_length h
  simp only [fitR]
  rw [List.take_of_length_le (by omega), isI_fit (enC_isI x), List.drop_of_length_le (by omega)]
  simp [l]
theorem same_ok (f' : Fl) (xs : List En) (hx : ∀ x ∈ xs, x.Ok) (hn : xs.length ≤ 2 ^ 30) : RC Try.prog 18 [.sl .plain xs.length (enL xs), .sl f' xs.length (enL xs)] [.bool true] := by
  refine RC.of_wp c18 rfl ?_
  have c1 := own_ok .plain xs hx hn
  have lL := enL_length hx
  by_cases h0 : xs = []
  · subst h0
    rw [show ownE [] = .sl .full 0 [] from rfl] at c1
    have hE : enL [] = [] := rfl
    rw [hE, List.length_nil] at c1 ⊢
    repeat' (first | simp -implicitDefEqProofs (maxSteps := 2000000) only [m18_1, m18_2, m18_3, m18_4, m18_5, m18_6, m18_7, m18_8, m18_r, m18_b, m18, wk, act, asV, ↓reduceIte, Nat.reduceEqDiff, reduceCtorEq, Nat.reduceAdd, Nat.reduceLeDiff, Nat.reduceSub, Nat.reduceMul, List.reduceReplicate, Int.reduceEq, Int.reduceLT, Int.reduceLE, Int.reduceAdd, Int.reduceSub, Int.reduceMul, Nat.reduceLT, Int.reduceToNat] | ((first | ((with_reducible refine CallL.gate ?_); apply CallL.of) | ((with_reducible refine CallpL.gate ?_); apply CallpL.of) | ((with_reducible refine CallP.gate ?_); apply CallP.of) | ((with_reducible refine CallpP.gate ?_); apply CallpP.of)); (case h1 => (simp -implicitDefEqProofs (maxSteps := 2000000) only [m18_1, m18_2, m18_3, m18_4, m18_5, m18_6, m18_7, m18_8, m18_r, m18_b, m18, wk, act, asV, ↓reduceIte, Nat.reduceEqDiff, reduceCtorEq, Nat.reduceAdd, Nat.reduceLeDiff, Nat.reduceSub, Nat.reduceMul, List.reduceReplicate, Int.reduceEq, Int.reduceLT, Int.reduceLE, Int.reduceAdd, Int.reduceSub, Int.reduceMul, Nat.reduceLT, Int.reduceToNat]; first | done | (with_reducible rfl))); (case h2 => (first | exact c1)); (case h3 => simp -implicitDefEqProofs (maxSteps := 2000000) only [m18_1, m18_2, m18_3, m18_4, m18_5, m18_6, m18_7, m18_8, m18_r, m18_b, m18, wk, act, asV, ↓reduceIte, Nat.reduceEqDiff, reduceCtorEq, Nat.reduceAdd, Nat.reduceLeDiff, Nat.reduceSub, Nat.reduceMul, List.reduceReplicate, Int.reduceEq, Int.reduceLT, Int.reduceLE, Int.reduceAdd, Int.reduceSub, Int.reduceMul, Nat.reduceLT, Int.reduceToNat])))
    refine Wp_loop (fun m s => m = 0 ∧ s.t 5 = .sl .full 0 [] ∧ s.t 6 = .int .i64 0) 0 ⟨rfl, rfl, rfl⟩ ?_
    rintro m s ⟨rfl, k5, k6⟩
    simp -implicitDefEqProofs (maxSteps := 2000000) only [k5, k6, wk, act, asV, ↓reduceIte, Nat.reduceEqDiff, reduceCtorEq, Nat.reduceAdd, Nat.reduceLeDiff, Nat.reduceSub, Nat.reduceMul, List.reduceReplicate, Int.reduceEq, Int.reduceLT, Int.reduceLE, Int.reduceAdd, Int.reduceSub, Int.reduceMul, Nat.reduceLT, Int.reduceToNat]
  · rw [show ownE xs = .own xs.length 66 (enL xs) from if_neg h0] at c1
    repeat' (first | simp -implicitDefEqProofs (maxSteps := 2000000) only [m18_1, m18_2, m18_3, m18_4, m18_5, m18_6, m18_7, m18_8, m18_r, m18_b, m18, wk, act, asV, ↓reduceIte, Nat.reduceEqDiff, reduceCtorEq, Nat.reduceAdd, Nat.reduceLeDiff, Nat.reduceSub, Nat.reduceMul, List.reduceReplicate, Int.reduceEq, Int.reduceLT, Int.reduceLE, Int.reduceAdd, Int.reduceSub, Int.reduceMul, Nat.reduceLT, Int.reduceToNat] | ((first | ((with_reducible refine CallL.gate ?_); apply CallL.of) | ((with_reducible refine CallpL.gate ?_); apply CallpL.of) | ((with_reducible refine CallP.gate ?_); apply CallP.of) | ((with_reducible refine CallpP.gate ?_); apply CallpP.of)); (case h1 => (simp -implicitDefEqProofs (maxSteps := 2000000) only [m18_1, m18_2, m18_3, m18_4, m18_5, m18_6, m18_7, m18_8, m18_r, m18_b, m18, wk, act, asV, ↓reduceIte, Nat.reduceEqDiff, reduceCtorEq, Nat.reduceAdd, Nat.reduceLeDiff, Nat.reduceSub, Nat.reduceMul, List.reduceReplicate, Int.reduceEq, Int.reduceLT, Int.reduceLE, Int.reduceAdd, Int.reduceSub, Int.reduceMul, Nat.reduceLT, Int.reduceToNat]; first | done | (with_reducible rfl))); (case h2 => (first | exact c1)); (case h3 => simp -implicitDefEqProofs (maxSteps := 2000000) only [m18_1, m18_2, m18_3, m18_4, m18_5, m18_6, m18_7, m18_8, m18_r, m18_b, m18, wk, act, asV, ↓reduceIte, Nat.reduceEqDiff, reduceCtorEq, Nat.reduceAdd, Nat.reduceLeDiff, Nat.reduceSub, Nat.reduceMul, List.reduceReplicate, Int.reduceEq, Int.reduceLT, Int.reduceLE, Int.reduceAdd, Int.reduceSub, Int.reduceMul, Nat.reduceLT, Int.reduceToNat])))
    refine Wp_loop (fun m s => ∃ i w, i ≤ xs.length ∧ m = xs.length - i ∧ s.t 1 = .sl f' xs.length (enL xs) ∧ s.t 5 = .row 8 0 xs.length 66 w ∧ s.h 8 = ⟨w, true, true, true, enL xs⟩ ∧ s.t 6 = .int .i64 (i : Nat)) xs.length ⟨0, _, by omega, rfl, rfl, rfl, rfl, rfl⟩ ?_
    rintro m s ⟨i, w, hi, rfl, k1, k5, kh, k6⟩
    by_cases hil : i < xs.length
    · have hil' : (i : Int) < xs.length := by omega
      have hxi := hx _ (List.getElem_mem hil)
      have eX := enL_drop hx hil
      obtain ⟨x, hxx⟩ : ∃ x, x = xs[i] := ⟨_, rfl⟩
      rw [← hxx] at hxi eX
      have lX := enC_length hxi
      have tX : List.take 66 (enC x ++ List.drop ((i + 1) * 66) (enL xs)) = enC x := by rw [List.take_append, lX, Nat.sub_self, List.take_zero, List.append_nil, List.take_of_length_le (by omega)]
      have l66 : 66 ≤ (enC x ++ List.drop ((i + 1) * 66) (enL xs)).length := by rw [List.length_append]; omega
      have b66 : i * 66 + 66 ≤ xs.length * 66 := by omega
      have q1 := eqL_self (enC_isI x)
      have q2 := enC_fit hxi
      have wi : IntKind.i64.wrap (((i : Nat) : Int) + 1) = ((i + 1 : Nat) : Int) := by rw [IntKind.wrap_i64]; omega
      obtain ⟨V, hV⟩ : ∃ V, V = enC x ++ List.drop ((i + 1) * 66) (enL xs) := ⟨_, rfl⟩
      rw [← hV] at eX tX l66
      simp -implicitDefEqProofs (maxSteps := 2000000) only [k1, k5, k6, kh, hil', eX, tX, lL, l66, b66, q1, q2, wi, wk, act, asV, ↓reduceIte, Nat.reduceEqDiff, reduceCtorEq, Nat.reduceAdd, Nat.reduceLeDiff, Nat.reduceSub, Nat.reduceMul, List.reduceReplicate, Int.reduceEq, Int.reduceLT, Int.reduceLE, Int.reduceAdd, Int.reduceSub, Int.reduceMul, Nat.reduceLT, Int.reduceToNat]
      exact ⟨xs.length - (i + 1), by omega, i + 1, w, by omega, rfl, rfl, rfl, rfl⟩
    · obtain rfl : i = xs.length := by omega
      have hil' : ¬ ((xs.length : Nat) : Int) < xs.length := by omega
      simp -implicitDefEqProofs (maxSteps := 2000000) only [k1, k5, k6, kh, hil', wk, act, asV, ↓reduceIte, Nat.reduceEqDiff, reduceCtorEq, Nat.reduceAdd, Nat.reduceLeDiff, Nat.reduceSub, Nat.reduceMul, List.reduceReplicate, Int.reduceEq, Int.reduceLT, Int.reduceLE, Int.reduceAdd, Int.reduceSub, Int.reduceMul, Nat.reduceLT, Int.reduceToNat]
end Go.Proofs.Ytkphojcmjffccaa
