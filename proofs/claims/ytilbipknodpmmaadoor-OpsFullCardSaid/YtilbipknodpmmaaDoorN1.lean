/- Signs cut off the ends of a string. -/
import Derived.Test.YtilbipknodpmmaaDoorE31
import Derived.Test.YtilbipknodpmmaaDoorM4
set_option linter.unusedVariables false
set_option linter.unusedSimpArgs false
set_option maxRecDepth 100000
set_option maxHeartbeats 4000000
namespace Go.Proofs.YtilbipknodpmmaaDoor
open Go.RowKit

@[reducible] def off1 : Off := ⟨1000⟩
theorem hom1 {d : Nat} : @hom off1 d = 1000 + d := rfl

def trimR (p : UInt8 → Bool) (s : List UInt8) : List UInt8 := (s.reverse.dropWhile p).reverse
def trimL (p : UInt8 → Bool) (s : List UInt8) : List UInt8 := s.dropWhile p
theorem trimR_snoc (p : UInt8 → Bool) (v : List UInt8) (x : UInt8) : trimR p (v ++ [x]) = if p x = true then trimR p v else v ++ [x] := by
  unfold trimR
  rw [List.reverse_append, List.reverse_singleton, List.singleton_append, List.dropWhile_cons]
  split <;> simp
theorem trimL_cons (p : UInt8 → Bool) (x : UInt8) (v : List UInt8) : trimL p (x :: v) = if p x = true then trimL p v else x :: v := by
  unfold trimL; rw [List.dropWhile_cons]
theorem snoc_of {u : List UInt8} (h : 0 < u.length) : ∃ v x, u = v ++ [x] := by
  refine ⟨u.dropLast, u.getLast (List.length_pos_iff.1 h), ?_⟩
  exact (List.dropLast_concat_getLast (List.length_pos_iff.1 h)).symm
theorem cons_of {u : List UInt8} (h : 0 < u.length) : ∃ x v, u = x :: v := by
  cases u with
  | nil => simp at h
  | cons x v => exact ⟨x, v, rfl⟩

/-! ### sets of signs -/
def setOf (p : Nat → Bool) : List IV := (List.range 256).map fun i => .bool (p i)
theorem setOf_length (p : Nat → Bool) : (setOf p).length = 256 := by simp [setOf]
theorem setOf_at (p : Nat → Bool) {i : Nat} (h : i < 256) : ((setOf p).drop i).take 1 = [.bool (p i)] := by
  rw [List.drop_eq_getElem_cons (by rw [setOf_length]; exact h)]
  simp [setOf]
theorem setOf_set (p : Nat → Bool) {i : Nat} (h : i < 256) : (setOf p).take i ++ [.bool true] ++ (setOf p).drop (i + 1) = setOf (fun j => p j || decide (j = i)) := by
  have e : (setOf p).take i ++ [.bool true] ++ (setOf p).drop (i + 1) = (setOf p).set i (.bool true) := by
    rw [List.set_eq_take_append_cons_drop, if_pos (by rw [setOf_length]; exact h)]; simp
  rw [e]
  apply List.ext_getElem
  · simp [setOf]
  · intro n h1 h2
    simp only [setOf, List.getElem_set, List.getElem_map, List.getElem_range]
    split
    · rename_i hn; subst hn; simp
    · rename_i hn
      have : ¬ n = i := fun e => hn e.symm
      simp [this]

theorem contains_ok {h ver : Nat} {rw : Bool} {H : Nat → Blk} {p : Nat → Bool} {c : UInt8} (hH : H h = ⟨ver, true, rw, false, setOf p⟩) :
    IC Tryd.prog 77 H [.ptr h 0 ver, .int .u8 (c.toNat : Int)] (fun r h' => r = [.bool (p c.toNat)] ∧ h' = H) := by
  refine @IC.of_wp off1 Tryd.prog 77 _ _ c77 H [.ptr h 0 ver, .int .u8 (c.toNat : Int)] _ rfl ?_
  have hc : (c.toNat : Int) < 256 := by have := c.toNat_lt; omega
  have hc2 : c.toNat + 1 ≤ 256 := by have := c.toNat_lt; omega
  have ha := setOf_at p (i := c.toNat) (by have := c.toNat_lt; omega)
  simp -implicitDefEqProofs (maxSteps := 2000000) only [m77_1, m77_r, m77_b, m77, hom1, hH, hc, hc2, ha, setOf_length, wk, act, asV, ↓reduceIte, Nat.reduceEqDiff, reduceCtorEq, Nat.reduceAdd, Nat.reduceLeDiff, Nat.reduceSub, Nat.reduceMul, List.reduceReplicate, Int.reduceEq, Int.reduceLT, Int.reduceLE, Int.reduceAdd, Int.reduceSub, Int.reduceMul, Nat.reduceLT, Int.reduceToNat]
  refine PostI.mk (by simp -implicitDefEqProofs (maxSteps := 2000000) only [wk, act, asV, ↓reduceIte, Nat.reduceEqDiff, reduceCtorEq, Nat.reduceAdd, Nat.reduceLeDiff, Nat.reduceSub, Nat.reduceMul, List.reduceReplicate, Int.reduceEq, Int.reduceLT, Int.reduceLE, Int.reduceAdd, Int.reduceSub, Int.reduceMul, Nat.reduceLT, Int.reduceToNat]; first | done | (with_reducible rfl)) ⟨by rfl, by simp -implicitDefEqProofs (maxSteps := 2000000) only [wk, act, asV, ↓reduceIte, Nat.reduceEqDiff, reduceCtorEq, Nat.reduceAdd, Nat.reduceLeDiff, Nat.reduceSub, Nat.reduceMul, List.reduceReplicate, Int.reduceEq, Int.reduceLT, Int.reduceLE, Int.reduceAdd, Int.reduceSub, Int.reduceMul, Nat.reduceLT, Int.reduceToNat]⟩

theorem trimR_ok {h ver : Nat} {rw : Bool} {H : Nat → Blk} {p : Nat → Bool} {s : List UInt8} (hs : s.length < 2 ^ 63) (hH : H h = ⟨ver, true, rw, false, setOf p⟩) :
    IC Tryd.prog 71 H [.str s, .ptr h 0 ver] (fun r h' => r = [.str (trimR (fun b => p b.toNat) s)] ∧ h' = H) := by
  refine @IC.of_wp off1 Tryd.prog 71 _ _ c71 H [.str s, .ptr h 0 ver] _ rfl ?_
  simp -implicitDefEqProofs (maxSteps := 2000000) only [m71_1, m71_2, m71_3, m71_4, m71_5, m71_r, m71_b, m71, hom1, wk, act, asV, ↓reduceIte, Nat.reduceEqDiff, reduceCtorEq, Nat.reduceAdd, Nat.reduceLeDiff, Nat.reduceSub, Nat.reduceMul, List.reduceReplicate, Int.reduceEq, Int.reduceLT, Int.reduceLE, Int.reduceAdd, Int.reduceSub, Int.reduceMul, Nat.reduceLT, Int.reduceToNat]
  refine Wp_loopO (fun j st => ∃ u, u.length = j ∧ u.length ≤ s.length ∧ trimR (fun b => p b.toNat) u = trimR (fun b => p b.toNat) s ∧ st.t 0 = .str u ∧ st.t 1 = .ptr h 0 ver ∧ st.h = H) s.length ⟨s, rfl, Nat.le_refl _, rfl, by simp -implicitDefEqProofs (maxSteps := 2000000) only [wk, act, asV, ↓reduceIte, Nat.reduceEqDiff, reduceCtorEq, Nat.reduceAdd, Nat.reduceLeDiff, Nat.reduceSub, Nat.reduceMul, List.reduceReplicate, Int.reduceEq, Int.reduceLT, Int.reduceLE, Int.reduceAdd, Int.reduceSub, Int.reduceMul, Nat.reduceLT, Int.reduceToNat], by simp -implicitDefEqProofs (maxSteps := 2000000) only [wk, act, asV, ↓reduceIte, Nat.reduceEqDiff, reduceCtorEq, Nat.reduceAdd, Nat.reduceLeDiff, Nat.reduceSub, Nat.reduceMul, List.reduceReplicate, Int.reduceEq, Int.reduceLT, Int.reduceLE, Int.reduceAdd, Int.reduceSub, Int.reduceMul, Nat.reduceLT, Int.reduceToNat], by simp -implicitDefEqProofs (maxSteps := 2000000) only [wk, act, asV, ↓reduceIte, Nat.reduceEqDiff, reduceCtorEq, Nat.reduceAdd, Nat.reduceLeDiff, Nat.reduceSub, Nat.reduceMul, List.reduceReplicate, Int.reduceEq, Int.reduceLT, Int.reduceLE, Int.reduceAdd, Int.reduceSub, Int.reduceMul, Nat.reduceLT, Int.reduceToNat]⟩ ?_
  rintro j st ⟨u, rfl, hl, hu, g0, g1, gh⟩
  by_cases hp : 0 < u.length
  · obtain ⟨v, x, rfl⟩ := snoc_of hp
    have hp' : (0 : Int) < (v ++ [x]).length := by omega
    have hlen : (v ++ [x]).length = v.length + 1 := by simp
    have w1 : IntKind.i64.wrap (((v ++ [x]).length : Int) - 1) = (v.length : Nat) := by rw [IntKind.wrap_i64, hlen]; omega
    have k1 : (v.length : Int) < (v ++ [x]).length := by omega
    have k2 : v.length ≤ (v ++ [x]).length := by omega
    have hg : (v ++ [x]).getD v.length 0 = x := by simp [List.getD]
    have htk : List.take v.length (v ++ [x]) = v := by simp
    have cc := contains_ok (H := H) (c := x) hH
    simp -implicitDefEqProofs (maxSteps := 2000000) only [g0, g1, gh, hp', w1, k1, hg, hom1, wk, act, asV, ↓reduceIte, Nat.reduceEqDiff, reduceCtorEq, Nat.reduceAdd, Nat.reduceLeDiff, Nat.reduceSub, Nat.reduceMul, List.reduceReplicate, Int.reduceEq, Int.reduceLT, Int.reduceLE, Int.reduceAdd, Int.reduceSub, Int.reduceMul, Nat.reduceLT, Int.reduceToNat]
    refine CallnL.of (by simp -implicitDefEqProofs (maxSteps := 2000000) only [g1, wk, act, asV, ↓reduceIte, Nat.reduceEqDiff, reduceCtorEq, Nat.reduceAdd, Nat.reduceLeDiff, Nat.reduceSub, Nat.reduceMul, List.reduceReplicate, Int.reduceEq, Int.reduceLT, Int.reduceLE, Int.reduceAdd, Int.reduceSub, Int.reduceMul, Nat.reduceLT, Int.reduceToNat]; first | done | rfl) cc ?_
    rintro r h' ⟨rfl, rfl⟩
    rw [trimR_snoc] at hu
    by_cases hpx : p x.toNat = true
    · rw [if_pos hpx] at hu
      simp -implicitDefEqProofs (maxSteps := 2000000) only [g0, g1, gh, hpx, hp', w1, k1, k2, htk, hom1, wk, act, asV, ↓reduceIte, Nat.reduceEqDiff, reduceCtorEq, Nat.reduceAdd, Nat.reduceLeDiff, Nat.reduceSub, Nat.reduceMul, List.reduceReplicate, Int.reduceEq, Int.reduceLT, Int.reduceLE, Int.reduceAdd, Int.reduceSub, Int.reduceMul, Nat.reduceLT, Int.reduceToNat]
      exact ⟨v.length, by rw [hlen]; omega, v, rfl, by omega, hu, rfl⟩
    · have hpx' : p x.toNat = false := by simpa using hpx
      rw [if_neg hpx] at hu
      simp -implicitDefEqProofs (maxSteps := 2000000) only [g0, g1, gh, hpx', hom1, wk, act, asV, ↓reduceIte, Nat.reduceEqDiff, reduceCtorEq, Nat.reduceAdd, Nat.reduceLeDiff, Nat.reduceSub, Nat.reduceMul, List.reduceReplicate, Int.reduceEq, Int.reduceLT, Int.reduceLE, Int.reduceAdd, Int.reduceSub, Int.reduceMul, Nat.reduceLT, Int.reduceToNat]
      rw [← hu]
      refine PostI.mk (by simp -implicitDefEqProofs (maxSteps := 2000000) only [wk, act, asV, ↓reduceIte, Nat.reduceEqDiff, reduceCtorEq, Nat.reduceAdd, Nat.reduceLeDiff, Nat.reduceSub, Nat.reduceMul, List.reduceReplicate, Int.reduceEq, Int.reduceLT, Int.reduceLE, Int.reduceAdd, Int.reduceSub, Int.reduceMul, Nat.reduceLT, Int.reduceToNat]; first | done | (with_reducible rfl)) ⟨by rfl, by simp -implicitDefEqProofs (maxSteps := 2000000) only [wk, act, asV, ↓reduceIte, Nat.reduceEqDiff, reduceCtorEq, Nat.reduceAdd, Nat.reduceLeDiff, Nat.reduceSub, Nat.reduceMul, List.reduceReplicate, Int.reduceEq, Int.reduceLT, Int.reduceLE, Int.reduceAdd, Int.reduceSub, Int.reduceMul, Nat.reduceLT, Int.reduceToNat]⟩
  · have hnil : u = [] := List.eq_nil_of_length_eq_zero (by omega)
    subst hnil
    rw [← hu]
    simp -implicitDefEqProofs (maxSteps := 2000000) only [g0, g1, gh, Int.lt_irrefl, hom1, wk, act, asV, ↓reduceIte, Nat.reduceEqDiff, reduceCtorEq, Nat.reduceAdd, Nat.reduceLeDiff, Nat.reduceSub, Nat.reduceMul, List.reduceReplicate, Int.reduceEq, Int.reduceLT, Int.reduceLE, Int.reduceAdd, Int.reduceSub, Int.reduceMul, Nat.reduceLT, Int.reduceToNat]
    refine PostI.mk (by simp -implicitDefEqProofs (maxSteps := 2000000) only [wk, act, asV, ↓reduceIte, Nat.reduceEqDiff, reduceCtorEq, Nat.reduceAdd, Nat.reduceLeDiff, Nat.reduceSub, Nat.reduceMul, List.reduceReplicate, Int.reduceEq, Int.reduceLT, Int.reduceLE, Int.reduceAdd, Int.reduceSub, Int.reduceMul, Nat.reduceLT, Int.reduceToNat]; first | done | (with_reducible rfl)) ⟨by rfl, by simp -implicitDefEqProofs (maxSteps := 2000000) only [wk, act, asV, ↓reduceIte, Nat.reduceEqDiff, reduceCtorEq, Nat.reduceAdd, Nat.reduceLeDiff, Nat.reduceSub, Nat.reduceMul, List.reduceReplicate, Int.reduceEq, Int.reduceLT, Int.reduceLE, Int.reduceAdd, Int.reduceSub, Int.reduceMul, Nat.reduceLT, Int.reduceToNat]⟩

theorem trimL_ok {h ver : Nat} {rw : Bool} {H : Nat → Blk} {p : Nat → Bool} {s : List UInt8} (hs : s.length < 2 ^ 63) (hH : H h = ⟨ver, true, rw, false, setOf p⟩) :
    IC Tryd.prog 70 H [.str s, .ptr h 0 ver] (fun r h' => r = [.str (trimL (fun b => p b.toNat) s)] ∧ h' = H) := by
  refine @IC.of_wp off1 Tryd.prog 70 _ _ c70 H [.str s, .ptr h 0 ver] _ rfl ?_
  simp -implicitDefEqProofs (maxSteps := 2000000) only [m70_1, m70_2, m70_3, m70_4, m70_r, m70_b, m70, hom1, wk, act, asV, ↓reduceIte, Nat.reduceEqDiff, reduceCtorEq, Nat.reduceAdd, Nat.reduceLeDiff, Nat.reduceSub, Nat.reduceMul, List.reduceReplicate, Int.reduceEq, Int.reduceLT, Int.reduceLE, Int.reduceAdd, Int.reduceSub, Int.reduceMul, Nat.reduceLT, Int.reduceToNat]
  refine Wp_loopO (fun j st => ∃ u, u.length = j ∧ u.length ≤ s.length ∧ trimL (fun b => p b.toNat) u = trimL (fun b => p b.toNat) s ∧ st.t 0 = .str u ∧ st.t 1 = .ptr h 0 ver ∧ st.h = H) s.length ⟨s, rfl, Nat.le_refl _, rfl, by simp -implicitDefEqProofs (maxSteps := 2000000) only [wk, act, asV, ↓reduceIte, Nat.reduceEqDiff, reduceCtorEq, Nat.reduceAdd, Nat.reduceLeDiff, Nat.reduceSub, Nat.reduceMul, List.reduceReplicate, Int.reduceEq, Int.reduceLT, Int.reduceLE, Int.reduceAdd, Int.reduceSub, Int.reduceMul, Nat.reduceLT, Int.reduceToNat], by simp -implicitDefEqProofs (maxSteps := 2000000) only [wk, act, asV, ↓reduceIte, Nat.reduceEqDiff, reduceCtorEq, Nat.reduceAdd, Nat.reduceLeDiff, Nat.reduceSub, Nat.reduceMul, List.reduceReplicate, Int.reduceEq, Int.reduceLT, Int.reduceLE, Int.reduceAdd, Int.reduceSub, Int.reduceMul, Nat.reduceLT, Int.reduceToNat], by simp -implicitDefEqProofs (maxSteps := 2000000) only [wk, act, asV, ↓reduceIte, Nat.reduceEqDiff, reduceCtorEq, Nat.reduceAdd, Nat.reduceLeDiff, Nat.reduceSub, Nat.reduceMul, List.reduceReplicate, Int.reduceEq, Int.reduceLT, Int.reduceLE, Int.reduceAdd, Int.reduceSub, Int.reduceMul, Nat.reduceLT, Int.reduceToNat]⟩ ?_
  rintro j st ⟨u, rfl, hl, hu, g0, g1, gh⟩
  by_cases hp : 0 < u.length
  · obtain ⟨x, v, rfl⟩ := cons_of hp
    have hp' : (0 : Int) < ((v.length + 1 : Nat) : Int) := by omega
    have hlen : (x :: v).length = v.length + 1 := rfl
    have htk : List.take v.length v = v := List.take_length
    have k1 : 1 ≤ v.length + 1 := by omega
    have cc := contains_ok (H := H) (c := x) hH
    simp -implicitDefEqProofs (maxSteps := 2000000) only [g0, g1, gh, hp', hom1, wk, act, asV, ↓reduceIte, Nat.reduceEqDiff, reduceCtorEq, Nat.reduceAdd, Nat.reduceLeDiff, Nat.reduceSub, Nat.reduceMul, List.reduceReplicate, Int.reduceEq, Int.reduceLT, Int.reduceLE, Int.reduceAdd, Int.reduceSub, Int.reduceMul, Nat.reduceLT, Int.reduceToNat]
    refine CallnL.of (by simp -implicitDefEqProofs (maxSteps := 2000000) only [g1, wk, act, asV, ↓reduceIte, Nat.reduceEqDiff, reduceCtorEq, Nat.reduceAdd, Nat.reduceLeDiff, Nat.reduceSub, Nat.reduceMul, List.reduceReplicate, Int.reduceEq, Int.reduceLT, Int.reduceLE, Int.reduceAdd, Int.reduceSub, Int.reduceMul, Nat.reduceLT, Int.reduceToNat]; first | done | rfl) cc ?_
    rintro r h' ⟨rfl, rfl⟩
    rw [trimL_cons] at hu
    by_cases hpx : p x.toNat = true
    · rw [if_pos hpx] at hu
      simp -implicitDefEqProofs (maxSteps := 2000000) only [g0, g1, gh, hpx, hp', htk, k1, hom1, wk, act, asV, ↓reduceIte, Nat.reduceEqDiff, reduceCtorEq, Nat.reduceAdd, Nat.reduceLeDiff, Nat.reduceSub, Nat.reduceMul, List.reduceReplicate, Int.reduceEq, Int.reduceLT, Int.reduceLE, Int.reduceAdd, Int.reduceSub, Int.reduceMul, Nat.reduceLT, Int.reduceToNat]
      exact ⟨v.length, by omega, v, rfl, by rw [hlen] at hl; omega, hu, rfl⟩
    · have hpx' : p x.toNat = false := by simpa using hpx
      rw [if_neg hpx] at hu
      simp -implicitDefEqProofs (maxSteps := 2000000) only [g0, g1, gh, hpx', hom1, wk, act, asV, ↓reduceIte, Nat.reduceEqDiff, reduceCtorEq, Nat.reduceAdd, Nat.reduceLeDiff, Nat.reduceSub, Nat.reduceMul, List.reduceReplicate, Int.reduceEq, Int.reduceLT, Int.reduceLE, Int.reduceAdd, Int.reduceSub, Int.reduceMul, Nat.reduceLT, Int.reduceToNat]
      rw [← hu]
      refine PostI.mk (by simp -implicitDefEqProofs (maxSteps := 2000000) only [wk, act, asV, ↓reduceIte, Nat.reduceEqDiff, reduceCtorEq, Nat.reduceAdd, Nat.reduceLeDiff, Nat.reduceSub, Nat.reduceMul, List.reduceReplicate, Int.reduceEq, Int.reduceLT, Int.reduceLE, Int.reduceAdd, Int.reduceSub, Int.reduceMul, Nat.reduceLT, Int.reduceToNat]; first | done | (with_reducible rfl)) ⟨by rfl, by simp -implicitDefEqProofs (maxSteps := 2000000) only [wk, act, asV, ↓reduceIte, Nat.reduceEqDiff, reduceCtorEq, Nat.reduceAdd, Nat.reduceLeDiff, Nat.reduceSub, Nat.reduceMul, List.reduceReplicate, Int.reduceEq, Int.reduceLT, Int.reduceLE, Int.reduceAdd, Int.reduceSub, Int.reduceMul, Nat.reduceLT, Int.reduceToNat]⟩
  · have hnil : u = [] := List.eq_nil_of_length_eq_zero (by omega)
    subst hnil
    rw [← hu]
    simp -implicitDefEqProofs (maxSteps := 2000000) only [g0, g1, gh, Int.lt_irrefl, hom1, wk, act, asV, ↓reduceIte, Nat.reduceEqDiff, reduceCtorEq, Nat.reduceAdd, Nat.reduceLeDiff, Nat.reduceSub, Nat.reduceMul, List.reduceReplicate, Int.reduceEq, Int.reduceLT, Int.reduceLE, Int.reduceAdd, Int.reduceSub, Int.reduceMul, Nat.reduceLT, Int.reduceToNat]
    refine PostI.mk (by simp -implicitDefEqProofs (maxSteps := 2000000) only [wk, act, asV, ↓reduceIte, Nat.reduceEqDiff, reduceCtorEq, Nat.reduceAdd, Nat.reduceLeDiff, Nat.reduceSub, Nat.reduceMul, List.reduceReplicate, Int.reduceEq, Int.reduceLT, Int.reduceLE, Int.reduceAdd, Int.reduceSub, Int.reduceMul, Nat.reduceLT, Int.reduceToNat]; first | done | (with_reducible rfl)) ⟨by rfl, by simp -implicitDefEqProofs (maxSteps := 2000000) only [wk, act, asV, ↓reduceIte, Nat.reduceEqDiff, reduceCtorEq, Nat.reduceAdd, Nat.reduceLeDiff, Nat.reduceSub, Nat.reduceMul, List.reduceReplicate, Int.reduceEq, Int.reduceLT, Int.reduceLE, Int.reduceAdd, Int.reduceSub, Int.reduceMul, Nat.reduceLT, Int.reduceToNat]⟩

theorem trimB_ok (s : List UInt8) (c : UInt8) (hs : s.length < 2 ^ 63) : RC Tryd.prog 68 [.str s, .int .u8 (c.toNat : Int)] [.str (trimR (fun b => decide (b = c)) s)] := by
  refine RC.of_wp c68 rfl ?_
  simp -implicitDefEqProofs (maxSteps := 2000000) only [m68_1, m68_2, m68_3, m68_4, m68_r, m68_b, m68, wk, act, asV, ↓reduceIte, Nat.reduceEqDiff, reduceCtorEq, Nat.reduceAdd, Nat.reduceLeDiff, Nat.reduceSub, Nat.reduceMul, List.reduceReplicate, Int.reduceEq, Int.reduceLT, Int.reduceLE, Int.reduceAdd, Int.reduceSub, Int.reduceMul, Nat.reduceLT, Int.reduceToNat]
  refine Wp_loop (fun j st => ∃ u, u.length = j ∧ u.length ≤ s.length ∧ trimR (fun b => decide (b = c)) u = trimR (fun b => decide (b = c)) s ∧ st.t 0 = .str u ∧ st.t 1 = .int .u8 (c.toNat : Int)) s.length ⟨s, rfl, Nat.le_refl _, rfl, by simp -implicitDefEqProofs (maxSteps := 2000000) only [wk, act, asV, ↓reduceIte, Nat.reduceEqDiff, reduceCtorEq, Nat.reduceAdd, Nat.reduceLeDiff, Nat.reduceSub, Nat.reduceMul, List.reduceReplicate, Int.reduceEq, Int.reduceLT, Int.reduceLE, Int.reduceAdd, Int.reduceSub, Int.reduceMul, Nat.reduceLT, Int.reduceToNat], by simp -implicitDefEqProofs (maxSteps := 2000000) only [wk, act, asV, ↓reduceIte, Nat.reduceEqDiff, reduceCtorEq, Nat.reduceAdd, Nat.reduceLeDiff, Nat.reduceSub, Nat.reduceMul, List.reduceReplicate, Int.reduceEq, Int.reduceLT, Int.reduceLE, Int.reduceAdd, Int.reduceSub, Int.reduceMul, Nat.reduceLT, Int.reduceToNat]⟩ ?_
  rintro j st ⟨u, rfl, hl, hu, g0, g1⟩
  by_cases hp : 0 < u.length
  · obtain ⟨v, x, rfl⟩ := snoc_of hp
    have hp' : (0 : Int) < (v ++ [x]).length := by omega
    have hlen : (v ++ [x]).length = v.length + 1 := by simp
    have w1 : IntKind.i64.wrap (((v ++ [x]).length : Int) - 1) = (v.length : Nat) := by rw [IntKind.wrap_i64, hlen]; omega
    have k1 : (v.length : Int) < (v ++ [x]).length := by omega
    have k2 : v.length ≤ (v ++ [x]).length := by omega
    have hg : (v ++ [x]).getD v.length 0 = x := by simp [List.getD]
    have htk : List.take v.length (v ++ [x]) = v := by simp
    rw [trimR_snoc] at hu
    by_cases hpx : x = c
    · have hpx' : ((x.toNat : Int) = (c.toNat : Int)) = True := eq_true (by rw [hpx])
      rw [if_pos (decide_eq_true hpx)] at hu
      simp -implicitDefEqProofs (maxSteps := 2000000) only [g0, g1, hpx', hp', w1, k1, k2, hg, htk, wk, act, asV, ↓reduceIte, Nat.reduceEqDiff, reduceCtorEq, Nat.reduceAdd, Nat.reduceLeDiff, Nat.reduceSub, Nat.reduceMul, List.reduceReplicate, Int.reduceEq, Int.reduceLT, Int.reduceLE, Int.reduceAdd, Int.reduceSub, Int.reduceMul, Nat.reduceLT, Int.reduceToNat]
      exact ⟨v.length, by rw [hlen]; omega, v, rfl, by omega, hu, rfl⟩
    · have hpx' : ((x.toNat : Int) = (c.toNat : Int)) = False := eq_false (by intro h; exact hpx (UInt8.toNat_inj.1 (by omega)))
      rw [if_neg (by simpa using hpx)] at hu
      rw [← hu]
      simp -implicitDefEqProofs (maxSteps := 2000000) only [g0, g1, hpx', hp', w1, k1, k2, hg, htk, wk, act, asV, ↓reduceIte, Nat.reduceEqDiff, reduceCtorEq, Nat.reduceAdd, Nat.reduceLeDiff, Nat.reduceSub, Nat.reduceMul, List.reduceReplicate, Int.reduceEq, Int.reduceLT, Int.reduceLE, Int.reduceAdd, Int.reduceSub, Int.reduceMul, Nat.reduceLT, Int.reduceToNat]
  · have hnil : u = [] := List.eq_nil_of_length_eq_zero (by omega)
    subst hnil
    rw [← hu]
    simp -implicitDefEqProofs (maxSteps := 2000000) only [g0, g1, Int.lt_irrefl, wk, act, asV, ↓reduceIte, Nat.reduceEqDiff, reduceCtorEq, Nat.reduceAdd, Nat.reduceLeDiff, Nat.reduceSub, Nat.reduceMul, List.reduceReplicate, Int.reduceEq, Int.reduceLT, Int.reduceLE, Int.reduceAdd, Int.reduceSub, Int.reduceMul, Nat.reduceLT, Int.reduceToNat]
    rfl

theorem setOf_take (p : Nat → Bool) : List.take 256 (setOf p) = setOf p := List.take_of_length_le (by rw [setOf_length]; exact Nat.le_refl _)
theorem setOf_drop (p : Nat → Bool) : List.drop 256 (setOf p) = [] := List.drop_of_length_le (by rw [setOf_length]; exact Nat.le_refl _)
theorem setOf_scal (p : Nat → Bool) : (setOf p).all IV.scal = true := by simp [setOf, IV.scal]
theorem setOf_none : List.replicate 256 (IV.bool false) = setOf (fun _ => false) := by
  apply List.ext_getElem
  · simp [setOf]
  · intro n h1 h2
    rw [List.getElem_replicate]
    simp only [setOf, List.getElem_map]
theorem set_ok (l : List UInt8) (hl : l.length < 2 ^ 63) (ha : ∀ b ∈ l, b.toNat < 128) : RC Tryd.prog 69 [.str l] [.agg (setOf (fun j => l.any (fun b => decide (b.toNat = j)))), .bool true] := by
  refine RC.of_wp c69 rfl ?_
  have hlen := setOf_length
  simp -implicitDefEqProofs (maxSteps := 2000000) only [m69_1, m69_2, m69_3, m69_4, m69_5, m69_6, m69_7, m69_8, m69_r, m69_b, m69, setOf_none, wk, act, asV, ↓reduceIte, Nat.reduceEqDiff, reduceCtorEq, Nat.reduceAdd, Nat.reduceLeDiff, Nat.reduceSub, Nat.reduceMul, List.reduceReplicate, Int.reduceEq, Int.reduceLT, Int.reduceLE, Int.reduceAdd, Int.reduceSub, Int.reduceMul, Nat.reduceLT, Int.reduceToNat]
  refine Wp_loop (fun j st => ∃ i, i ≤ l.length ∧ j = l.length - i ∧ st.t 0 = .str l ∧ st.t 4 = .int .i64 (i : Nat) ∧ ∃ ver, st.t 2 = .ptr 2 0 ver ∧ st.h 2 = ⟨ver, true, true, false, setOf (fun j => (l.take i).any (fun b => decide (b.toNat = j)))⟩) l.length ⟨0, by omega, rfl, by simp -implicitDefEqProofs (maxSteps := 2000000) only [wk, act, asV, ↓reduceIte, Nat.reduceEqDiff, reduceCtorEq, Nat.reduceAdd, Nat.reduceLeDiff, Nat.reduceSub, Nat.reduceMul, List.reduceReplicate, Int.reduceEq, Int.reduceLT, Int.reduceLE, Int.reduceAdd, Int.reduceSub, Int.reduceMul, Nat.reduceLT, Int.reduceToNat], by simp -implicitDefEqProofs (maxSteps := 2000000) only [wk, act, asV, ↓reduceIte, Nat.reduceEqDiff, reduceCtorEq, Nat.reduceAdd, Nat.reduceLeDiff, Nat.reduceSub, Nat.reduceMul, List.reduceReplicate, Int.reduceEq, Int.reduceLT, Int.reduceLE, Int.reduceAdd, Int.reduceSub, Int.reduceMul, Nat.reduceLT, Int.reduceToNat], _, by simp -implicitDefEqProofs (maxSteps := 2000000) only [wk, act, asV, ↓reduceIte, Nat.reduceEqDiff, reduceCtorEq, Nat.reduceAdd, Nat.reduceLeDiff, Nat.reduceSub, Nat.reduceMul, List.reduceReplicate, Int.reduceEq, Int.reduceLT, Int.reduceLE, Int.reduceAdd, Int.reduceSub, Int.reduceMul, Nat.reduceLT, Int.reduceToNat]; first | done | rfl, by simp -implicitDefEqProofs (maxSteps := 2000000) only [wk, act, asV, ↓reduceIte, Nat.reduceEqDiff, reduceCtorEq, Nat.reduceAdd, Nat.reduceLeDiff, Nat.reduceSub, Nat.reduceMul, List.reduceReplicate, Int.reduceEq, Int.reduceLT, Int.reduceLE, Int.reduceAdd, Int.reduceSub, Int.reduceMul, Nat.reduceLT, Int.reduceToNat]; first | done | rfl⟩ ?_
  rintro j st ⟨i, hi, rfl, g0, g4, ver, g2, gh⟩
  by_cases hil : i < l.length
  · have hil' : (i : Int) < l.length := by omega
    have hw := wrap_nat (show i < 2 ^ 63 - 1 by omega)
    have hx := ha _ (List.getElem_mem hil)
    have hx1 : ¬ (128 : Int) ≤ (l[i].toNat : Int) := by omega
    have hx2 : (l[i].toNat : Int) < 256 := by omega
    have hx3 : l[i].toNat + 1 ≤ 256 := by omega
    have hg : l.getD i 0 = l[i] := by simp [List.getD, hil]
    have hst := setOf_set (fun j => (l.take i).any (fun b => decide (b.toNat = j))) (i := l[i].toNat) (by omega)
    have hn : (fun j => (l.take i).any (fun b => decide (b.toNat = j)) || decide (j = l[i].toNat)) = fun j => (l.take (i + 1)).any (fun b => decide (b.toNat = j)) := by
      funext j
      rw [List.take_succ_eq_append_getElem hil, List.any_append]
      congr 1
      simp only [List.any_cons, List.any_nil, Bool.or_false]
      by_cases h : j = l[i].toNat
      · rw [decide_eq_true h, decide_eq_true h.symm]
      · rw [decide_eq_false h, decide_eq_false (fun e => h e.symm)]
    rw [hn] at hst
    simp -implicitDefEqProofs (maxSteps := 2000000) only [g0, g2, g4, gh, hil', hw, hg, hx1, hx2, hx3, hlen, hst, wk, act, asV, ↓reduceIte, Nat.reduceEqDiff, reduceCtorEq, Nat.reduceAdd, Nat.reduceLeDiff, Nat.reduceSub, Nat.reduceMul, List.reduceReplicate, Int.reduceEq, Int.reduceLT, Int.reduceLE, Int.reduceAdd, Int.reduceSub, Int.reduceMul, Nat.reduceLT, Int.reduceToNat]
    exact ⟨l.length - (i + 1), by omega, i + 1, by omega, rfl, rfl, _, rfl, rfl⟩
  · have hie : i = l.length := by omega
    subst hie
    rw [List.take_length] at gh
    simp -implicitDefEqProofs (maxSteps := 2000000) only [g0, g2, g4, gh, Int.lt_irrefl, setOf_take, setOf_drop, setOf_scal, hlen, wk, act, asV, ↓reduceIte, Nat.reduceEqDiff, reduceCtorEq, Nat.reduceAdd, Nat.reduceLeDiff, Nat.reduceSub, Nat.reduceMul, List.reduceReplicate, Int.reduceEq, Int.reduceLT, Int.reduceLE, Int.reduceAdd, Int.reduceSub, Int.reduceMul, Nat.reduceLT, Int.reduceToNat]

theorem trimRight_ok (s : List UInt8) (hs : s.length < 2 ^ 63) : RC Tryd.prog 66 [.str s, .str [0]] [.str (trimR (fun b => decide (b = 0)) s)] := by
  refine RC.of_wp c66 rfl ?_
  by_cases h0 : s = []
  · subst h0
    simp -implicitDefEqProofs (maxSteps := 2000000) only [m66_1, m66_2, m66_3, m66_4, m66_5, m66_6, m66_7, m66_8, m66_9, m66_10, m66_11, m66_12, m66_r, m66_b, m66, wk, act, asV, ↓reduceIte, Nat.reduceEqDiff, reduceCtorEq, Nat.reduceAdd, Nat.reduceLeDiff, Nat.reduceSub, Nat.reduceMul, List.reduceReplicate, Int.reduceEq, Int.reduceLT, Int.reduceLE, Int.reduceAdd, Int.reduceSub, Int.reduceMul, Nat.reduceLT, Int.reduceToNat]
    rfl
  · have cb := trimB_ok s 0 hs
    have hz : ((UInt8.toNat 0 : Nat) : Int) = 0 := rfl
    rw [hz] at cb
    repeat' (first | simp -implicitDefEqProofs (maxSteps := 2000000) only [m66_1, m66_2, m66_3, m66_4, m66_5, m66_6, m66_7, m66_8, m66_9, m66_10, m66_11, m66_12, m66_r, m66_b, m66, h0, hz, wk, act, asV, ↓reduceIte, Nat.reduceEqDiff, reduceCtorEq, Nat.reduceAdd, Nat.reduceLeDiff, Nat.reduceSub, Nat.reduceMul, List.reduceReplicate, Int.reduceEq, Int.reduceLT, Int.reduceLE, Int.reduceAdd, Int.reduceSub, Int.reduceMul, Nat.reduceLT, Int.reduceToNat] | ((first | ((with_reducible refine CallL.gate ?_); apply CallL.of) | ((with_reducible refine CallP.gate ?_); apply CallP.of)); (case h1 => (simp -implicitDefEqProofs (maxSteps := 2000000) only [m66_1, m66_2, m66_3, m66_4, m66_5, m66_6, m66_7, m66_8, m66_9, m66_10, m66_11, m66_12, m66_r, m66_b, m66, h0, hz, wk, act, asV, ↓reduceIte, Nat.reduceEqDiff, reduceCtorEq, Nat.reduceAdd, Nat.reduceLeDiff, Nat.reduceSub, Nat.reduceMul, List.reduceReplicate, Int.reduceEq, Int.reduceLT, Int.reduceLE, Int.reduceAdd, Int.reduceSub, Int.reduceMul, Nat.reduceLT, Int.reduceToNat]; first | done | (with_reducible rfl))); (case h2 => (first | exact cb)); (case h3 => simp -implicitDefEqProofs (maxSteps := 2000000) only [m66_1, m66_2, m66_3, m66_4, m66_5, m66_6, m66_7, m66_8, m66_9, m66_10, m66_11, m66_12, m66_r, m66_b, m66, h0, hz, wk, act, asV, ↓reduceIte, Nat.reduceEqDiff, reduceCtorEq, Nat.reduceAdd, Nat.reduceLeDiff, Nat.reduceSub, Nat.reduceMul, List.reduceReplicate, Int.reduceEq, Int.reduceLT, Int.reduceLE, Int.reduceAdd, Int.reduceSub, Int.reduceMul, Nat.reduceLT, Int.reduceToNat])))

def letters : List UInt8 := [97, 98, 99, 100, 101, 102, 103, 104, 105, 106, 107, 108, 109, 110, 111, 112, 113, 114, 115, 116, 117, 118, 119, 120, 121, 122]
def low (b : UInt8) : Bool := decide (97 ≤ b.toNat) && decide (b.toNat ≤ 122)
def trimS (s : List UInt8) : List UInt8 := trimL low (trimR low s)
theorem lowP (b : UInt8) : (letters.any fun c => decide (c.toNat = b.toNat)) = low b := by
  rw [Bool.eq_iff_iff]
  simp [letters, low]
  omega
theorem low_fun : (fun b : UInt8 => letters.any fun c => decide (c.toNat = b.toNat)) = low := funext lowP
theorem trimR_le (p : UInt8 → Bool) (s : List UInt8) : (trimR p s).length ≤ s.length := by
  unfold trimR
  have := (List.dropWhile_sublist (l := s.reverse) p).length_le
  rw [List.length_reverse] at this ⊢
  exact this
theorem dropWhile_nil_iff (p : UInt8 → Bool) : ∀ l : List UInt8, l.dropWhile p = [] ↔ ∀ x ∈ l, p x = true
  | [] => by simp
  | a :: l => by
    rw [List.dropWhile_cons]
    by_cases h : p a = true
    · rw [if_pos h, dropWhile_nil_iff p l]; simp [h]
    · rw [if_neg h]; simp [h]
theorem mem_takeWhile_imp (p : UInt8 → Bool) : ∀ (l : List UInt8) {x : UInt8}, x ∈ l.takeWhile p → p x = true
  | [], x, h => by simp at h
  | a :: l, x, h => by
    rw [List.takeWhile_cons] at h
    by_cases hp : p a = true
    · rw [if_pos hp] at h
      rcases List.mem_cons.1 h with rfl | h
      · exact hp
      · exact mem_takeWhile_imp p l h
    · rw [if_neg hp] at h; simp at h
theorem trimS_nil (s : List UInt8) : trimS s = [] ↔ s.all low = true := by
  unfold trimS trimL
  rw [dropWhile_nil_iff, List.all_eq_true]
  constructor
  · intro h x hx
    by_cases hl : low x = true
    · exact hl
    · refine h x ?_
      unfold trimR
      rw [List.mem_reverse]
      have hx' : x ∈ s.reverse := List.mem_reverse.2 hx
      rw [← List.takeWhile_append_dropWhile (p := low) (l := s.reverse)] at hx'
      rcases List.mem_append.1 hx' with h1 | h1
      · exact absurd (mem_takeWhile_imp _ _ h1) hl
      · exact h1
  · intro h x hx
    refine h x ?_
    unfold trimR at hx
    rw [List.mem_reverse] at hx
    exact List.mem_reverse.1 ((List.dropWhile_sublist (l := s.reverse) low).subset hx)

theorem trim_ok (s : List UInt8) (hs : s.length < 2 ^ 63) : RC Tryd.prog 60 [.str s, .str letters] [.str (trimS s)] := by
  refine RC.of_wp c60 rfl ?_
  by_cases h0 : s = []
  · subst h0
    simp -implicitDefEqProofs (maxSteps := 2000000) only [m60_1, m60_2, m60_3, m60_4, m60_5, m60_6, m60_7, m60_8, m60_9, m60_10, m60_11, m60_12, m60_13, m60_14, m60_r, m60_b, m60, wk, act, asV, ↓reduceIte, Nat.reduceEqDiff, reduceCtorEq, Nat.reduceAdd, Nat.reduceLeDiff, Nat.reduceSub, Nat.reduceMul, List.reduceReplicate, Int.reduceEq, Int.reduceLT, Int.reduceLE, Int.reduceAdd, Int.reduceSub, Int.reduceMul, Nat.reduceLT, Int.reduceToNat]
    rfl
  · have hln : ¬ letters = [] := by decide
    have hll : letters.length = 26 := rfl
    have cs := set_ok letters (by decide) (by decide)
    have hlen := setOf_length
    repeat' (first | simp -implicitDefEqProofs (maxSteps := 2000000) only [m60_1, m60_2, m60_3, m60_4, m60_5, m60_6, m60_7, m60_8, m60_9, m60_10, m60_11, m60_12, m60_13, m60_14, m60_r, m60_b, m60, h0, hln, hll, setOf_none, setOf_take, setOf_drop, setOf_scal, hlen, wk, act, asV, ↓reduceIte, Nat.reduceEqDiff, reduceCtorEq, Nat.reduceAdd, Nat.reduceLeDiff, Nat.reduceSub, Nat.reduceMul, List.reduceReplicate, Int.reduceEq, Int.reduceLT, Int.reduceLE, Int.reduceAdd, Int.reduceSub, Int.reduceMul, Nat.reduceLT, Int.reduceToNat] | ((first | ((with_reducible refine CallL.gate ?_); apply CallL.of) | ((with_reducible refine CallP.gate ?_); apply CallP.of)); (case h1 => (simp -implicitDefEqProofs (maxSteps := 2000000) only [m60_1, m60_2, m60_3, m60_4, m60_5, m60_6, m60_7, m60_8, m60_9, m60_10, m60_11, m60_12, m60_13, m60_14, m60_r, m60_b, m60, h0, hln, hll, setOf_none, setOf_take, setOf_drop, setOf_scal, hlen, wk, act, asV, ↓reduceIte, Nat.reduceEqDiff, reduceCtorEq, Nat.reduceAdd, Nat.reduceLeDiff, Nat.reduceSub, Nat.reduceMul, List.reduceReplicate, Int.reduceEq, Int.reduceLT, Int.reduceLE, Int.reduceAdd, Int.reduceSub, Int.reduceMul, Nat.reduceLT, Int.reduceToNat]; first | done | (with_reducible rfl))); (case h2 => (first | exact cs)); (case h3 => simp -implicitDefEqProofs (maxSteps := 2000000) only [m60_1, m60_2, m60_3, m60_4, m60_5, m60_6, m60_7, m60_8, m60_9, m60_10, m60_11, m60_12, m60_13, m60_14, m60_r, m60_b, m60, h0, hln, hll, setOf_none, setOf_take, setOf_drop, setOf_scal, hlen, wk, act, asV, ↓reduceIte, Nat.reduceEqDiff, reduceCtorEq, Nat.reduceAdd, Nat.reduceLeDiff, Nat.reduceSub, Nat.reduceMul, List.reduceReplicate, Int.reduceEq, Int.reduceLT, Int.reduceLE, Int.reduceAdd, Int.reduceSub, Int.reduceMul, Nat.reduceLT, Int.reduceToNat])))
    refine CallnL.of (by simp -implicitDefEqProofs (maxSteps := 2000000) only [wk, act, asV, ↓reduceIte, Nat.reduceEqDiff, reduceCtorEq, Nat.reduceAdd, Nat.reduceLeDiff, Nat.reduceSub, Nat.reduceMul, List.reduceReplicate, Int.reduceEq, Int.reduceLT, Int.reduceLE, Int.reduceAdd, Int.reduceSub, Int.reduceMul, Nat.reduceLT, Int.reduceToNat]; first | done | rfl) (trimR_ok hs (by simp -implicitDefEqProofs (maxSteps := 2000000) only [wk, act, asV, ↓reduceIte, Nat.reduceEqDiff, reduceCtorEq, Nat.reduceAdd, Nat.reduceLeDiff, Nat.reduceSub, Nat.reduceMul, List.reduceReplicate, Int.reduceEq, Int.reduceLT, Int.reduceLE, Int.reduceAdd, Int.reduceSub, Int.reduceMul, Nat.reduceLT, Int.reduceToNat]; first | done | rfl)) ?_
    rintro r h' ⟨rfl, rfl⟩
    simp -implicitDefEqProofs (maxSteps := 2000000) only [wk, act, asV, ↓reduceIte, Nat.reduceEqDiff, reduceCtorEq, Nat.reduceAdd, Nat.reduceLeDiff, Nat.reduceSub, Nat.reduceMul, List.reduceReplicate, Int.reduceEq, Int.reduceLT, Int.reduceLE, Int.reduceAdd, Int.reduceSub, Int.reduceMul, Nat.reduceLT, Int.reduceToNat]
    refine CallnL.of (by simp -implicitDefEqProofs (maxSteps := 2000000) only [wk, act, asV, ↓reduceIte, Nat.reduceEqDiff, reduceCtorEq, Nat.reduceAdd, Nat.reduceLeDiff, Nat.reduceSub, Nat.reduceMul, List.reduceReplicate, Int.reduceEq, Int.reduceLT, Int.reduceLE, Int.reduceAdd, Int.reduceSub, Int.reduceMul, Nat.reduceLT, Int.reduceToNat]; first | done | rfl) (trimL_ok (Nat.lt_of_le_of_lt (trimR_le _ _) hs) (by simp -implicitDefEqProofs (maxSteps := 2000000) only [wk, act, asV, ↓reduceIte, Nat.reduceEqDiff, reduceCtorEq, Nat.reduceAdd, Nat.reduceLeDiff, Nat.reduceSub, Nat.reduceMul, List.reduceReplicate, Int.reduceEq, Int.reduceLT, Int.reduceLE, Int.reduceAdd, Int.reduceSub, Int.reduceMul, Nat.reduceLT, Int.reduceToNat]; first | done | rfl)) ?_
    rintro r h' ⟨rfl, rfl⟩
    simp -implicitDefEqProofs (maxSteps := 2000000) only [low_fun, wk, act, asV, ↓reduceIte, Nat.reduceEqDiff, reduceCtorEq, Nat.reduceAdd, Nat.reduceLeDiff, Nat.reduceSub, Nat.reduceMul, List.reduceReplicate, Int.reduceEq, Int.reduceLT, Int.reduceLE, Int.reduceAdd, Int.reduceSub, Int.reduceMul, Nat.reduceLT, Int.reduceToNat]
    rfl
end Go.Proofs.YtilbipknodpmmaaDoor
