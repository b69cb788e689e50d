/- Of the replies: replies held against one another, copied; how long they are; numbers in bounds. -/
import Derived.Test.YtfohfnhimgmnlaaC5
set_option linter.unusedVariables false
set_option linter.unusedSimpArgs false
set_option maxRecDepth 100000
set_option maxHeartbeats 4000000
namespace Go.Proofs.Ytfohfnhimgmnlaa
open Go.RowKit

/-- a number from 0 to n - 1 -/
def modN (k : Int) (n : Nat) : Nat := (k % (n : Int)).toNat
theorem modN_lt (k : Int) {n : Nat} (h : 0 < n) : modN k n < n := by
  have := Int.emod_lt_of_pos k (show (0 : Int) < n by omega)
  have := Int.emod_nonneg k (show (n : Int) ≠ 0 by omega)
  unfold modN; omega
theorem mod_ok (k : Int) {n : Nat} (h0 : 0 < n) (hn : n ≤ 2 ^ 62) : RC Try.prog 46 [.int .i64 k, .int .i64 (n : Nat)] [.int .i64 (modN k n : Nat)] := by
  refine RC.of_wp c46 rfl ?_
  have h1 : ¬ (n : Int) < 1 := by omega
  have h2 : ¬ (n : Int) = 0 := by omega
  have h3 := Int.mul_tdiv_add_tmod k n
  have h4 : k.tmod n < n := Int.tmod_lt_of_pos k (by omega)
  have h5 : -(n : Int) < k.tmod n := Int.lt_tmod_of_pos k (by omega)
  have hw : IntKind.i64.wrap (k.tmod n + n) = k.tmod n + n := by rw [IntKind.wrap_i64]; omega
  have h6 : (k.tmod n + n).tmod n = (modN k n : Nat) := by
    rw [Int.tmod_eq_emod_of_nonneg (by omega), Int.add_emod_right]
    have h7 : k.tmod n = k - n * k.tdiv n := by omega
    have h8 := Int.emod_nonneg k h2
    rw [h7, Int.sub_mul_emod_self_left]
    unfold modN
    omega
  simp -implicitDefEqProofs (maxSteps := 2000000) only [m46_1, m46_2, m46_3, m46_r, m46_b, m46, h1, h2, hw, h6, wk, act, ↓reduceIte, Nat.reduceEqDiff, reduceCtorEq, Nat.reduceAdd, Nat.reduceLeDiff, Nat.reduceSub, Nat.reduceMul, List.reduceReplicate, Int.reduceEq, Int.reduceLT, Int.reduceLE, Int.reduceAdd, Int.reduceSub, Int.reduceMul, Nat.reduceLT, Int.reduceToNat]

def keyR (r : Rp) : Int × Int × List UInt8 := (r.id, r.e, r.d)
def sameR (xs ys : List Rp) : Bool := decide (xs.map keyR = ys.map keyR)
theorem sameR_pre {xs ys : List Rp} {i : Nat} (hx : i < xs.length) (hy : i < ys.length) (h : (xs.map keyR).take i = (ys.map keyR).take i) (hk : keyR xs[i] = keyR ys[i]) : (xs.map keyR).take (i + 1) = (ys.map keyR).take (i + 1) := by
  rw [List.take_succ_eq_append_getElem (by simpa using hx), List.take_succ_eq_append_getElem (by simpa using hy), h]
  simp [hk]
theorem sameR_no {xs ys : List Rp} {i : Nat} (hx : i < xs.length) (hy : i < ys.length) (hk : ¬ keyR xs[i] = keyR ys[i]) : sameR xs ys = false := by
  unfold sameR
  rw [decide_eq_false]
  intro h
  apply hk
  have h1 : (xs.map keyR)[i]'(by simpa using hx) = (ys.map keyR)[i]'(by simpa using hy) := by simp only [h]
  simpa using h1

theorem replies45 (f f' : Fl) (xs ys : List Rp) (hx : ∀ r ∈ xs, ¬ r.f = .lit) (hy : ∀ r ∈ ys, ¬ r.f = .lit) (hl : xs.length < 2 ^ 63) : RC Try.prog 45 [.sl f xs.length (rl xs), .sl f' ys.length (rl ys)] [.bool (sameR xs ys)] := by
  refine RC.of_wp c45 rfl ?_
  by_cases hab : xs.length = ys.length
  · have hab' : (xs.length : Int) = ys.length := by omega
    simp -implicitDefEqProofs (maxSteps := 2000000) only [m45_1, m45_2, m45_3, m45_4, m45_5, m45_6, m45_7, m45_r, m45_b, m45, hab', wk, act, ↓reduceIte, Nat.reduceEqDiff, reduceCtorEq, Nat.reduceAdd, Nat.reduceLeDiff, Nat.reduceSub, Nat.reduceMul, List.reduceReplicate, Int.reduceEq, Int.reduceLT, Int.reduceLE, Int.reduceAdd, Int.reduceSub, Int.reduceMul, Nat.reduceLT, Int.reduceToNat]
    refine Wp_loop (fun j s => ∃ i, i ≤ xs.length ∧ j = xs.length - i ∧ s.t 0 = .sl f xs.length (rl xs) ∧ s.t 1 = .sl f' ys.length (rl ys) ∧ s.t 5 = .int .i64 (i : Nat) ∧ (xs.map keyR).take i = (ys.map keyR).take i) xs.length ⟨0, by omega, rfl, by simp -implicitDefEqProofs (maxSteps := 2000000) only [wk, act, ↓reduceIte, Nat.reduceEqDiff, reduceCtorEq, Nat.reduceAdd, Nat.reduceLeDiff, Nat.reduceSub, Nat.reduceMul, List.reduceReplicate, Int.reduceEq, Int.reduceLT, Int.reduceLE, Int.reduceAdd, Int.reduceSub, Int.reduceMul, Nat.reduceLT, Int.reduceToNat], by simp -implicitDefEqProofs (maxSteps := 2000000) only [wk, act, ↓reduceIte, Nat.reduceEqDiff, reduceCtorEq, Nat.reduceAdd, Nat.reduceLeDiff, Nat.reduceSub, Nat.reduceMul, List.reduceReplicate, Int.reduceEq, Int.reduceLT, Int.reduceLE, Int.reduceAdd, Int.reduceSub, Int.reduceMul, Nat.reduceLT, Int.reduceToNat], by simp -implicitDefEqProofs (maxSteps := 2000000) only [wk, act, ↓reduceIte, Nat.reduceEqDiff, reduceCtorEq, Nat.reduceAdd, Nat.reduceLeDiff, Nat.reduceSub, Nat.reduceMul, List.reduceReplicate, Int.reduceEq, Int.reduceLT, Int.reduceLE, Int.reduceAdd, Int.reduceSub, Int.reduceMul, Nat.reduceLT, Int.reduceToNat], rfl⟩ ?_
    rintro j s ⟨i, hi, rfl, g0, g1, g5, hpre⟩
    by_cases hil : i < xs.length
    · have hil' : (i : Int) < xs.length := by omega
      have hib : i < ys.length := by omega
      have hib' : (i : Int) < ys.length := by omega
      have hw := wrap_nat (show i < 2 ^ 63 - 1 by omega)
      have hfx := hx _ (List.getElem_mem hil)
      have hfy := hy _ (List.getElem_mem hib)
      by_cases h1 : xs[i].id = ys[i].id
      · have h1' := eq_true h1
        by_cases h2 : xs[i].e = ys[i].e
        · have h2' := eq_true h2
          have hby := bytes_ok xs[i].f ys[i].f xs[i].d ys[i].d
          by_cases h3 : xs[i].d = ys[i].d
          · have hk : keyR xs[i] = keyR ys[i] := by simp [keyR, h1, h2, h3]
            have hp := sameR_pre hil hib hpre hk
            rw [decide_eq_true h3] at hby
            repeat' (first | simp -implicitDefEqProofs (maxSteps := 2000000) only [g0, g1, g5, hil', hib', hil, hib, drop_rl hil, drop_rl hib, rl_length, hfx, hfy, h1', h2', hw, wk, act, ↓reduceIte, Nat.reduceEqDiff, reduceCtorEq, Nat.reduceAdd, Nat.reduceLeDiff, Nat.reduceSub, Nat.reduceMul, List.reduceReplicate, Int.reduceEq, Int.reduceLT, Int.reduceLE, Int.reduceAdd, Int.reduceSub, Int.reduceMul, Nat.reduceLT, Int.reduceToNat] | ((with_reducible refine CallL.gate ?_); refine CallL.of (by simp -implicitDefEqProofs (maxSteps := 2000000) only [g0, g1, g5, hil', hib', hil, hib, drop_rl hil, drop_rl hib, rl_length, hfx, hfy, h1', h2', hw, wk, act, ↓reduceIte, Nat.reduceEqDiff, reduceCtorEq, Nat.reduceAdd, Nat.reduceLeDiff, Nat.reduceSub, Nat.reduceMul, List.reduceReplicate, Int.reduceEq, Int.reduceLT, Int.reduceLE, Int.reduceAdd, Int.reduceSub, Int.reduceMul, Nat.reduceLT, Int.reduceToNat]; first | done | (with_reducible rfl)) (by first | exact hby) (by simp -implicitDefEqProofs (maxSteps := 2000000) only [g0, g1, g5, hil', hib', hil, hib, drop_rl hil, drop_rl hib, rl_length, hfx, hfy, h1', h2', hw, wk, act, ↓reduceIte, Nat.reduceEqDiff, reduceCtorEq, Nat.reduceAdd, Nat.reduceLeDiff, Nat.reduceSub, Nat.reduceMul, List.reduceReplicate, Int.reduceEq, Int.reduceLT, Int.reduceLE, Int.reduceAdd, Int.reduceSub, Int.reduceMul, Nat.reduceLT, Int.reduceToNat]) ?_) | ((with_reducible refine CallpL.gate ?_); refine CallpL.of (by simp -implicitDefEqProofs (maxSteps := 2000000) only [g0, g1, g5, hil', hib', hil, hib, drop_rl hil, drop_rl hib, rl_length, hfx, hfy, h1', h2', hw, wk, act, ↓reduceIte, Nat.reduceEqDiff, reduceCtorEq, Nat.reduceAdd, Nat.reduceLeDiff, Nat.reduceSub, Nat.reduceMul, List.reduceReplicate, Int.reduceEq, Int.reduceLT, Int.reduceLE, Int.reduceAdd, Int.reduceSub, Int.reduceMul, Nat.reduceLT, Int.reduceToNat]; first | done | (with_reducible rfl)) (by first | exact hby) (by simp -implicitDefEqProofs (maxSteps := 2000000) only [g0, g1, g5, hil', hib', hil, hib, drop_rl hil, drop_rl hib, rl_length, hfx, hfy, h1', h2', hw, wk, act, ↓reduceIte, Nat.reduceEqDiff, reduceCtorEq, Nat.reduceAdd, Nat.reduceLeDiff, Nat.reduceSub, Nat.reduceMul, List.reduceReplicate, Int.reduceEq, Int.reduceLT, Int.reduceLE, Int.reduceAdd, Int.reduceSub, Int.reduceMul, Nat.reduceLT, Int.reduceToNat]) ?_) | ((with_reducible refine CallP.gate ?_); refine CallP.of (by simp -implicitDefEqProofs (maxSteps := 2000000) only [g0, g1, g5, hil', hib', hil, hib, drop_rl hil, drop_rl hib, rl_length, hfx, hfy, h1', h2', hw, wk, act, ↓reduceIte, Nat.reduceEqDiff, reduceCtorEq, Nat.reduceAdd, Nat.reduceLeDiff, Nat.reduceSub, Nat.reduceMul, List.reduceReplicate, Int.reduceEq, Int.reduceLT, Int.reduceLE, Int.reduceAdd, Int.reduceSub, Int.reduceMul, Nat.reduceLT, Int.reduceToNat]; first | done | (with_reducible rfl)) (by first | exact hby) (by simp -implicitDefEqProofs (maxSteps := 2000000) only [g0, g1, g5, hil', hib', hil, hib, drop_rl hil, drop_rl hib, rl_length, hfx, hfy, h1', h2', hw, wk, act, ↓reduceIte, Nat.reduceEqDiff, reduceCtorEq, Nat.reduceAdd, Nat.reduceLeDiff, Nat.reduceSub, Nat.reduceMul, List.reduceReplicate, Int.reduceEq, Int.reduceLT, Int.reduceLE, Int.reduceAdd, Int.reduceSub, Int.reduceMul, Nat.reduceLT, Int.reduceToNat]) ?_) | ((with_reducible refine CallpP.gate ?_); refine CallpP.of (by simp -implicitDefEqProofs (maxSteps := 2000000) only [g0, g1, g5, hil', hib', hil, hib, drop_rl hil, drop_rl hib, rl_length, hfx, hfy, h1', h2', hw, wk, act, ↓reduceIte, Nat.reduceEqDiff, reduceCtorEq, Nat.reduceAdd, Nat.reduceLeDiff, Nat.reduceSub, Nat.reduceMul, List.reduceReplicate, Int.reduceEq, Int.reduceLT, Int.reduceLE, Int.reduceAdd, Int.reduceSub, Int.reduceMul, Nat.reduceLT, Int.reduceToNat]; first | done | (with_reducible rfl)) (by first | exact hby) (by simp -implicitDefEqProofs (maxSteps := 2000000) only [g0, g1, g5, hil', hib', hil, hib, drop_rl hil, drop_rl hib, rl_length, hfx, hfy, h1', h2', hw, wk, act, ↓reduceIte, Nat.reduceEqDiff, reduceCtorEq, Nat.reduceAdd, Nat.reduceLeDiff, Nat.reduceSub, Nat.reduceMul, List.reduceReplicate, Int.reduceEq, Int.reduceLT, Int.reduceLE, Int.reduceAdd, Int.reduceSub, Int.reduceMul, Nat.reduceLT, Int.reduceToNat]) ?_))
            exact ⟨xs.length - (i + 1), by omega, i + 1, by omega, rfl, rfl, hp⟩
          · have hk : ¬ keyR xs[i] = keyR ys[i] := by simp [keyR, h3]
            rw [sameR_no hil hib hk]
            rw [decide_eq_false h3] at hby
            repeat' (first | simp -implicitDefEqProofs (maxSteps := 2000000) only [g0, g1, g5, hil', hib', hil, hib, drop_rl hil, drop_rl hib, rl_length, hfx, hfy, h1', h2', hw, wk, act, ↓reduceIte, Nat.reduceEqDiff, reduceCtorEq, Nat.reduceAdd, Nat.reduceLeDiff, Nat.reduceSub, Nat.reduceMul, List.reduceReplicate, Int.reduceEq, Int.reduceLT, Int.reduceLE, Int.reduceAdd, Int.reduceSub, Int.reduceMul, Nat.reduceLT, Int.reduceToNat] | ((with_reducible refine CallL.gate ?_); refine CallL.of (by simp -implicitDefEqProofs (maxSteps := 2000000) only [g0, g1, g5, hil', hib', hil, hib, drop_rl hil, drop_rl hib, rl_length, hfx, hfy, h1', h2', hw, wk, act, ↓reduceIte, Nat.reduceEqDiff, reduceCtorEq, Nat.reduceAdd, Nat.reduceLeDiff, Nat.reduceSub, Nat.reduceMul, List.reduceReplicate, Int.reduceEq, Int.reduceLT, Int.reduceLE, Int.reduceAdd, Int.reduceSub, Int.reduceMul, Nat.reduceLT, Int.reduceToNat]; first | done | (with_reducible rfl)) (by first | exact hby) (by simp -implicitDefEqProofs (maxSteps := 2000000) only [g0, g1, g5, hil', hib', hil, hib, drop_rl hil, drop_rl hib, rl_length, hfx, hfy, h1', h2', hw, wk, act, ↓reduceIte, Nat.reduceEqDiff, reduceCtorEq, Nat.reduceAdd, Nat.reduceLeDiff, Nat.reduceSub, Nat.reduceMul, List.reduceReplicate, Int.reduceEq, Int.reduceLT, Int.reduceLE, Int.reduceAdd, Int.reduceSub, Int.reduceMul, Nat.reduceLT, Int.reduceToNat]) ?_) | ((with_reducible refine CallpL.gate ?_); refine CallpL.of (by simp -implicitDefEqProofs (maxSteps := 2000000) only [g0, g1, g5, hil', hib', hil, hib, drop_rl hil, drop_rl hib, rl_length, hfx, hfy, h1', h2', hw, wk, act, ↓reduceIte, Nat.reduceEqDiff, reduceCtorEq, Nat.reduceAdd, Nat.reduceLeDiff, Nat.reduceSub, Nat.reduceMul, List.reduceReplicate, Int.reduceEq, Int.reduceLT, Int.reduceLE, Int.reduceAdd, Int.reduceSub, Int.reduceMul, Nat.reduceLT, Int.reduceToNat]; first | done | (with_reducible rfl)) (by first | exact hby) (by simp -implicitDefEqProofs (maxSteps := 2000000) only [g0, g1, g5, hil', hib', hil, hib, drop_rl hil, drop_rl hib, rl_length, hfx, hfy, h1', h2', hw, wk, act, ↓reduceIte, Nat.reduceEqDiff, reduceCtorEq, Nat.reduceAdd, Nat.reduceLeDiff, Nat.reduceSub, Nat.reduceMul, List.reduceReplicate, Int.reduceEq, Int.reduceLT, Int.reduceLE, Int.reduceAdd, Int.reduceSub, Int.reduceMul, Nat.reduceLT, Int.reduceToNat]) ?_) | ((with_reducible refine CallP.gate ?_); refine CallP.of (by simp -implicitDefEqProofs (maxSteps := 2000000) only [g0, g1, g5, hil', hib', hil, hib, drop_rl hil, drop_rl hib, rl_length, hfx, hfy, h1', h2', hw, wk, act, ↓reduceIte, Nat.reduceEqDiff, reduceCtorEq, Nat.reduceAdd, Nat.reduceLeDiff, Nat.reduceSub, Nat.reduceMul, List.reduceReplicate, Int.reduceEq, Int.reduceLT, Int.reduceLE, Int.reduceAdd, Int.reduceSub, Int.reduceMul, Nat.reduceLT, Int.reduceToNat]; first | done | (with_reducible rfl)) (by first | exact hby) (by simp -implicitDefEqProofs (maxSteps := 2000000) only [g0, g1, g5, hil', hib', hil, hib, drop_rl hil, drop_rl hib, rl_length, hfx, hfy, h1', h2', hw, wk, act, ↓reduceIte, Nat.reduceEqDiff, reduceCtorEq, Nat.reduceAdd, Nat.reduceLeDiff, Nat.reduceSub, Nat.reduceMul, List.reduceReplicate, Int.reduceEq, Int.reduceLT, Int.reduceLE, Int.reduceAdd, Int.reduceSub, Int.reduceMul, Nat.reduceLT, Int.reduceToNat]) ?_) | ((with_reducible refine CallpP.gate ?_); refine CallpP.of (by simp -implicitDefEqProofs (maxSteps := 2000000) only [g0, g1, g5, hil', hib', hil, hib, drop_rl hil, drop_rl hib, rl_length, hfx, hfy, h1', h2', hw, wk, act, ↓reduceIte, Nat.reduceEqDiff, reduceCtorEq, Nat.reduceAdd, Nat.reduceLeDiff, Nat.reduceSub, Nat.reduceMul, List.reduceReplicate, Int.reduceEq, Int.reduceLT, Int.reduceLE, Int.reduceAdd, Int.reduceSub, Int.reduceMul, Nat.reduceLT, Int.reduceToNat]; first | done | (with_reducible rfl)) (by first | exact hby) (by simp -implicitDefEqProofs (maxSteps := 2000000) only [g0, g1, g5, hil', hib', hil, hib, drop_rl hil, drop_rl hib, rl_length, hfx, hfy, h1', h2', hw, wk, act, ↓reduceIte, Nat.reduceEqDiff, reduceCtorEq, Nat.reduceAdd, Nat.reduceLeDiff, Nat.reduceSub, Nat.reduceMul, List.reduceReplicate, Int.reduceEq, Int.reduceLT, Int.reduceLE, Int.reduceAdd, Int.reduceSub, Int.reduceMul, Nat.reduceLT, Int.reduceToNat]) ?_))
        · have hk : ¬ keyR xs[i] = keyR ys[i] := by simp [keyR, h2]
          rw [sameR_no hil hib hk]
          simp -implicitDefEqProofs (maxSteps := 2000000) only [g0, g1, g5, hil', hib', hil, hib, drop_rl hil, drop_rl hib, rl_length, hfx, hfy, h1', h2, hw, wk, act, ↓reduceIte, Nat.reduceEqDiff, reduceCtorEq, Nat.reduceAdd, Nat.reduceLeDiff, Nat.reduceSub, Nat.reduceMul, List.reduceReplicate, Int.reduceEq, Int.reduceLT, Int.reduceLE, Int.reduceAdd, Int.reduceSub, Int.reduceMul, Nat.reduceLT, Int.reduceToNat]
      · have hk : ¬ keyR xs[i] = keyR ys[i] := by simp [keyR, h1]
        rw [sameR_no hil hib hk]
        simp -implicitDefEqProofs (maxSteps := 2000000) only [g0, g1, g5, hil', hib', hil, hib, drop_rl hil, drop_rl hib, rl_length, hfx, hfy, h1, hw, wk, act, ↓reduceIte, Nat.reduceEqDiff, reduceCtorEq, Nat.reduceAdd, Nat.reduceLeDiff, Nat.reduceSub, Nat.reduceMul, List.reduceReplicate, Int.reduceEq, Int.reduceLT, Int.reduceLE, Int.reduceAdd, Int.reduceSub, Int.reduceMul, Nat.reduceLT, Int.reduceToNat]
    · have hie : i = xs.length := by omega
      subst hie
      have e1 : (xs.map keyR).take xs.length = xs.map keyR := List.take_of_length_le (by simp)
      have e2 : (ys.map keyR).take xs.length = ys.map keyR := List.take_of_length_le (by simp [hab])
      rw [e1, e2] at hpre
      have : sameR xs ys = true := by unfold sameR; rw [decide_eq_true hpre]
      rw [this]
      simp -implicitDefEqProofs (maxSteps := 2000000) only [g0, g1, g5, Int.lt_irrefl, wk, act, ↓reduceIte, Nat.reduceEqDiff, reduceCtorEq, Nat.reduceAdd, Nat.reduceLeDiff, Nat.reduceSub, Nat.reduceMul, List.reduceReplicate, Int.reduceEq, Int.reduceLT, Int.reduceLE, Int.reduceAdd, Int.reduceSub, Int.reduceMul, Nat.reduceLT, Int.reduceToNat]
  · have hab' : ¬ (xs.length : Int) = ys.length := by omega
    have : sameR xs ys = false := by
      unfold sameR
      rw [decide_eq_false]
      intro h
      have := congrArg List.length h
      simp at this
      exact hab this
    rw [this]
    simp -implicitDefEqProofs (maxSteps := 2000000) only [m45_1, m45_2, m45_3, m45_4, m45_5, m45_6, m45_7, m45_r, m45_b, m45, hab', wk, act, ↓reduceIte, Nat.reduceEqDiff, reduceCtorEq, Nat.reduceAdd, Nat.reduceLeDiff, Nat.reduceSub, Nat.reduceMul, List.reduceReplicate, Int.reduceEq, Int.reduceLT, Int.reduceLE, Int.reduceAdd, Int.reduceSub, Int.reduceMul, Nat.reduceLT, Int.reduceToNat]

def fairR (rs : List Rp) : Bool := rs.all (fun r => decide (r.d.length ≤ 600)) && decide (rs.length ≤ 20)
theorem fair35 (f : Fl) (rs : List Rp) (hr : ∀ r ∈ rs, ¬ r.f = .lit) (hl : rs.length < 2 ^ 63) : RC Try.prog 35 [.sl f rs.length (rl rs)] [.bool (fairR rs)] := by
  refine RC.of_wp c35 rfl ?_
  simp -implicitDefEqProofs (maxSteps := 2000000) only [m35_1, m35_2, m35_3, m35_4, m35_5, m35_6, m35_r, m35_b, m35, wk, act, ↓reduceIte, Nat.reduceEqDiff, reduceCtorEq, Nat.reduceAdd, Nat.reduceLeDiff, Nat.reduceSub, Nat.reduceMul, List.reduceReplicate, Int.reduceEq, Int.reduceLT, Int.reduceLE, Int.reduceAdd, Int.reduceSub, Int.reduceMul, Nat.reduceLT, Int.reduceToNat]
  refine Wp_loop (fun j s => ∃ i, i ≤ rs.length ∧ j = rs.length - i ∧ s.t 0 = .sl f rs.length (rl rs) ∧ s.t 3 = .int .i64 (i : Nat) ∧ (rs.take i).all (fun r => decide (r.d.length ≤ 600)) = true) rs.length ⟨0, by omega, rfl, by simp -implicitDefEqProofs (maxSteps := 2000000) only [wk, act, ↓reduceIte, Nat.reduceEqDiff, reduceCtorEq, Nat.reduceAdd, Nat.reduceLeDiff, Nat.reduceSub, Nat.reduceMul, List.reduceReplicate, Int.reduceEq, Int.reduceLT, Int.reduceLE, Int.reduceAdd, Int.reduceSub, Int.reduceMul, Nat.reduceLT, Int.reduceToNat], by simp -implicitDefEqProofs (maxSteps := 2000000) only [wk, act, ↓reduceIte, Nat.reduceEqDiff, reduceCtorEq, Nat.reduceAdd, Nat.reduceLeDiff, Nat.reduceSub, Nat.reduceMul, List.reduceReplicate, Int.reduceEq, Int.reduceLT, Int.reduceLE, Int.reduceAdd, Int.reduceSub, Int.reduceMul, Nat.reduceLT, Int.reduceToNat], rfl⟩ ?_
  rintro j s ⟨i, hi, rfl, g0, g3, hall⟩
  by_cases hil : i < rs.length
  · have hil' : (i : Int) < rs.length := by omega
    have hw := wrap_nat (show i < 2 ^ 63 - 1 by omega)
    have hfl := hr _ (List.getElem_mem hil)
    by_cases h6 : (600 : Int) < rs[i].d.length
    · have : fairR rs = false := by
        unfold fairR
        have : rs.all (fun r => decide (r.d.length ≤ 600)) = false := by
          rw [Bool.eq_false_iff]
          intro h
          have := List.all_eq_true.1 h _ (List.getElem_mem hil)
          simp only [decide_eq_true_eq] at this
          omega
        rw [this]; rfl
      rw [this]
      simp -implicitDefEqProofs (maxSteps := 2000000) only [g0, g3, hil', hil, drop_rl hil, rl_length, hfl, hw, h6, wk, act, ↓reduceIte, Nat.reduceEqDiff, reduceCtorEq, Nat.reduceAdd, Nat.reduceLeDiff, Nat.reduceSub, Nat.reduceMul, List.reduceReplicate, Int.reduceEq, Int.reduceLT, Int.reduceLE, Int.reduceAdd, Int.reduceSub, Int.reduceMul, Nat.reduceLT, Int.reduceToNat]
    · simp -implicitDefEqProofs (maxSteps := 2000000) only [g0, g3, hil', hil, drop_rl hil, rl_length, hfl, hw, h6, wk, act, ↓reduceIte, Nat.reduceEqDiff, reduceCtorEq, Nat.reduceAdd, Nat.reduceLeDiff, Nat.reduceSub, Nat.reduceMul, List.reduceReplicate, Int.reduceEq, Int.reduceLT, Int.reduceLE, Int.reduceAdd, Int.reduceSub, Int.reduceMul, Nat.reduceLT, Int.reduceToNat]
      refine ⟨rs.length - (i + 1), by omega, i + 1, by omega, rfl, rfl, ?_⟩
      rw [List.take_succ_eq_append_getElem hil, List.all_append, hall]
      simp; omega
  · have hie : i = rs.length := by omega
    subst hie
    rw [List.take_length] at hall
    have hb : fairR rs = decide ((rs.length : Int) ≤ 20) := by
      unfold fairR
      rw [hall, Bool.true_and]
      by_cases h : rs.length ≤ 20
      · rw [decide_eq_true h, decide_eq_true (by omega)]
      · rw [decide_eq_false h, decide_eq_false (by omega)]
    rw [hb]
    simp -implicitDefEqProofs (maxSteps := 2000000) only [g0, g3, Int.lt_irrefl, wk, act, ↓reduceIte, Nat.reduceEqDiff, reduceCtorEq, Nat.reduceAdd, Nat.reduceLeDiff, Nat.reduceSub, Nat.reduceMul, List.reduceReplicate, Int.reduceEq, Int.reduceLT, Int.reduceLE, Int.reduceAdd, Int.reduceSub, Int.reduceMul, Nat.reduceLT, Int.reduceToNat]

def plainR (r : Rp) : Rp := ⟨r.id, r.e, .plain, r.d⟩
theorem own37 (f : Fl) (rs : List Rp) (hr : ∀ r ∈ rs, ¬ r.f = .lit) (hd : ∀ r ∈ rs, r.d.length ≤ 2 ^ 40) (hl : rs.length ≤ 2 ^ 20) : RC Try.prog 37 [.sl f rs.length (rl rs)] [.own rs.length 3 (rl (rs.map plainR))] := by
  refine RC.of_wpW c37 rfl ?_
  simp -implicitDefEqProofs (maxSteps := 2000000) only [m37_1, m37_2, m37_3, m37_4, m37_5, m37_6, m37_7, m37_8, m37_r, m37_b, m37, wk, act, ↓reduceIte, Nat.reduceEqDiff, reduceCtorEq, Nat.reduceAdd, Nat.reduceLeDiff, Nat.reduceSub, Nat.reduceMul, List.reduceReplicate, Int.reduceEq, Int.reduceLT, Int.reduceLE, Int.reduceAdd, Int.reduceSub, Int.reduceMul, Nat.reduceLT, Int.reduceToNat]
  refine Wp_loop (fun j s => ∃ i, i ≤ rs.length ∧ j = rs.length - i ∧ s.t 0 = .sl f rs.length (rl rs) ∧ s.t 4 = .int .i64 (i : Nat) ∧ ((i = 0 ∧ s.t 3 = .sl .full 0 []) ∨ (0 < i ∧ ∃ ver, s.t 3 = .row 24 0 i 3 ver ∧ s.h 24 = ⟨ver, true, true, true, rl ((rs.take i).map plainR)⟩))) rs.length ⟨0, by omega, rfl, by simp -implicitDefEqProofs (maxSteps := 2000000) only [wk, act, ↓reduceIte, Nat.reduceEqDiff, reduceCtorEq, Nat.reduceAdd, Nat.reduceLeDiff, Nat.reduceSub, Nat.reduceMul, List.reduceReplicate, Int.reduceEq, Int.reduceLT, Int.reduceLE, Int.reduceAdd, Int.reduceSub, Int.reduceMul, Nat.reduceLT, Int.reduceToNat], by simp -implicitDefEqProofs (maxSteps := 2000000) only [wk, act, ↓reduceIte, Nat.reduceEqDiff, reduceCtorEq, Nat.reduceAdd, Nat.reduceLeDiff, Nat.reduceSub, Nat.reduceMul, List.reduceReplicate, Int.reduceEq, Int.reduceLT, Int.reduceLE, Int.reduceAdd, Int.reduceSub, Int.reduceMul, Nat.reduceLT, Int.reduceToNat], .inl ⟨rfl, by simp -implicitDefEqProofs (maxSteps := 2000000) only [wk, act, ↓reduceIte, Nat.reduceEqDiff, reduceCtorEq, Nat.reduceAdd, Nat.reduceLeDiff, Nat.reduceSub, Nat.reduceMul, List.reduceReplicate, Int.reduceEq, Int.reduceLT, Int.reduceLE, Int.reduceAdd, Int.reduceSub, Int.reduceMul, Nat.reduceLT, Int.reduceToNat]⟩⟩ ?_
  rintro j s ⟨i, hi, rfl, g0, g4, g3⟩
  by_cases hil : i < rs.length
  · have hil' : (i : Int) < rs.length := by omega
    have hw := wrap_nat (show i < 2 ^ 63 - 1 by omega)
    have hfl := hr _ (List.getElem_mem hil)
    have hdl := hd _ (List.getElem_mem hil)
    have hrd : roomy rs[i].d.length 1 = true := roomyB (by omega)
    have hro : roomy (i + 1) 40 = true := by simp [roomy]; omega
    have hsn : rl ((rs.take (i + 1)).map plainR) = rl ((rs.take i).map plainR) ++ [.int .i64 rs[i].id, .int .i64 rs[i].e, .sl .plain rs[i].d.length (bl rs[i].d)] := by
      rw [List.take_succ_eq_append_getElem hil, List.map_append, rl_append]
      rfl
    have hpl : (rl ((rs.take i).map plainR)).length = i * 3 := by rw [rl_length, List.length_map, List.length_take]; omega
    rcases g3 with ⟨h0, g3⟩ | ⟨hpos, ver, g3, gh⟩
    · have hr1 : roomy 1 40 = true := by decide
      simp -implicitDefEqProofs (maxSteps := 2000000) only [g0, g3, g4, hil', hil, drop_rl hil, rl_length, hfl, hrd, hw, hr1, bl_length, bl_scal, wk, act, ↓reduceIte, Nat.reduceEqDiff, reduceCtorEq, Nat.reduceAdd, Nat.reduceLeDiff, Nat.reduceSub, Nat.reduceMul, List.reduceReplicate, Int.reduceEq, Int.reduceLT, Int.reduceLE, Int.reduceAdd, Int.reduceSub, Int.reduceMul, Nat.reduceLT, Int.reduceToNat]
      refine ⟨rs.length - (i + 1), by omega, i + 1, by omega, rfl, rfl, by omega, ?_⟩
      rw [hsn]
      subst h0
      exact ⟨_, rfl, rfl⟩
    · simp -implicitDefEqProofs (maxSteps := 2000000) only [g0, g3, g4, gh, hil', hil, drop_rl hil, rl_length, hfl, hrd, hw, hro, hpl, bl_length, bl_scal, wk, act, ↓reduceIte, Nat.reduceEqDiff, reduceCtorEq, Nat.reduceAdd, Nat.reduceLeDiff, Nat.reduceSub, Nat.reduceMul, List.reduceReplicate, Int.reduceEq, Int.reduceLT, Int.reduceLE, Int.reduceAdd, Int.reduceSub, Int.reduceMul, Nat.reduceLT, Int.reduceToNat]
      refine ⟨rs.length - (i + 1), by omega, i + 1, by omega, rfl, rfl, by omega, ?_⟩
      rw [hsn]
      exact ⟨_, rfl, rfl⟩
  · have hie : i = rs.length := by omega
    subst hie
    rw [List.take_length] at g3
    rcases g3 with ⟨h0, g3⟩ | ⟨hpos, ver, g3, gh⟩
    · have : rs = [] := List.eq_nil_of_length_eq_zero h0
      subst this
      simp -implicitDefEqProofs (maxSteps := 2000000) only [g0, g3, g4, Int.lt_irrefl, wk, act, ↓reduceIte, Nat.reduceEqDiff, reduceCtorEq, Nat.reduceAdd, Nat.reduceLeDiff, Nat.reduceSub, Nat.reduceMul, List.reduceReplicate, Int.reduceEq, Int.reduceLT, Int.reduceLE, Int.reduceAdd, Int.reduceSub, Int.reduceMul, Nat.reduceLT, Int.reduceToNat]
      exact PostW.mk (r' := [.sl .full 0 []]) (by simp -implicitDefEqProofs (maxSteps := 2000000) only [wk, act, ↓reduceIte, Nat.reduceEqDiff, reduceCtorEq, Nat.reduceAdd, Nat.reduceLeDiff, Nat.reduceSub, Nat.reduceMul, List.reduceReplicate, Int.reduceEq, Int.reduceLT, Int.reduceLE, Int.reduceAdd, Int.reduceSub, Int.reduceMul, Nat.reduceLT, Int.reduceToNat]) (.cons (.inr ⟨rfl, 3, rfl⟩) .nil) (by decide) (by decide)
    · have htk : List.take (rs.length * 3) (rl (rs.map plainR)) = rl (rs.map plainR) := List.take_of_length_le (by rw [rl_length, List.length_map]; exact Nat.le_refl _)
      simp -implicitDefEqProofs (maxSteps := 2000000) only [g0, g3, g4, gh, Int.lt_irrefl, wk, act, ↓reduceIte, Nat.reduceEqDiff, reduceCtorEq, Nat.reduceAdd, Nat.reduceLeDiff, Nat.reduceSub, Nat.reduceMul, List.reduceReplicate, Int.reduceEq, Int.reduceLT, Int.reduceLE, Int.reduceAdd, Int.reduceSub, Int.reduceMul, Nat.reduceLT, Int.reduceToNat]
      exact PostW.mk (r' := [.own rs.length 3 (rl (rs.map plainR))]) (by simp -implicitDefEqProofs (maxSteps := 2000000) only [gh, htk, wk, act, ↓reduceIte, Nat.reduceEqDiff, reduceCtorEq, Nat.reduceAdd, Nat.reduceLeDiff, Nat.reduceSub, Nat.reduceMul, List.reduceReplicate, Int.reduceEq, Int.reduceLT, Int.reduceLE, Int.reduceAdd, Int.reduceSub, Int.reduceMul, Nat.reduceLT, Int.reduceToNat]) (.cons (.inl rfl) .nil) (Nat.le_refl 1) (Nat.le_refl 1)
end Go.Proofs.Ytfohfnhimgmnlaa
