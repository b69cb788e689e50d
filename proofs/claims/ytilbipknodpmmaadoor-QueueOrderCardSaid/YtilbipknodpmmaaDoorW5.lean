/- The law QueueFull. -/
import Derived.Test.YtilbipknodpmmaaDoorW4
import Derived.Test.YtilbipknodpmmaaDoorE31
set_option linter.unusedVariables false
set_option linter.unusedSimpArgs false
set_option linter.unusedSectionVars false
set_option maxRecDepth 100000
set_option maxHeartbeats 8000000
namespace Go.Proofs.YtilbipknodpmmaaDoor
open Go.RowKit

def isE : IV → Bool
  | .int _ _ => true
  | .str _ => true
  | .bool _ => true
  | _ => false
theorem eqE_self : ∀ {cs : List IV}, cs.all isE = true → eqL cs cs = some true
  | [], _ => rfl
  | .int k n :: cs, h => by
    rw [List.all_cons, Bool.and_eq_true] at h
    rw [eqL, eqE_self h.2]
    simp [eqC]
  | .str l :: cs, h => by
    rw [List.all_cons, Bool.and_eq_true] at h
    rw [eqL, eqE_self h.2]
    simp [eqC]
  | .bool l :: cs, h => by
    rw [List.all_cons, Bool.and_eq_true] at h
    rw [eqL, eqE_self h.2]
    simp [eqC]
theorem bl_isE (l : List UInt8) : (bl l).all isE = true := by simp [bl, isE]
theorem itC_eq (x : It) : eqL (itC x) (itC x) = some true := eqE_self (by unfold itC; simp only [List.all_cons, bl_isE]; rfl)
theorem itC_fit {x : It} (hx : x.Ok) : fitR [(2, .i), (1, .s), (33, .i)] (itC x) = true := by
  have l : (bl x.data).length = 32 := by rw [bl_length, hx.d]
  have a : (bl x.data).all CK.i.fit = true := by simp [bl, CK.fit]
  simp only [fitR, itC, List.take_succ_cons, List.take_zero, List.drop_succ_cons, List.drop_zero, List.length_cons, List.all_cons, List.all_nil, CK.fit, l, Bool.and_true]
  rw [List.take_of_length_le (by omega), List.drop_of_length_le (by omega), a]
  rfl
def reps (n : Nat) (x : It) : List It := List.replicate n x
theorem reps_ok {n : Nat} {x : It} (hx : x.Ok) : ∀ y ∈ reps n x, y.Ok := fun y h => by
  rw [List.eq_of_mem_replicate h]; exact hx
theorem reps_len (n : Nat) (x : It) : (reps n x).length = n := List.length_replicate
theorem reps_snoc (n : Nat) (x : It) : reps n x ++ [x] = reps (n + 1) x := by simp [reps, List.replicate_succ']
theorem itL_one (x : It) : itL [x] = itC x := by simp [itL]
theorem qf_end {s : St} {v5 v7 : Nat} {x : It} (hx : x.Ok) (k5 : s.t 5 = .ptr 5 0 v5) (kh5 : s.h 5 = ⟨v5, true, true, false, itC x⟩) (k7 : s.t 7 = .ptr 22 0 v7) (ko : ObjQ 22 v7 1024 s.h (reps 4 x)) :
    Wp (RCs Tryd.prog) m11_28 (Post [.tmp 6] [.bool true]) s := by
  have l0 := itC_length hx
  have t0 : List.take 36 (itC x) = itC x := List.take_of_length_le (by omega)
  have d0 : List.drop 36 (itC x) = [] := List.drop_of_length_le (by omega)
  have s0 := itC_scal x
  have hok := reps_ok (n := 4) hx
  have e1 : eqL (itC x) (itC x) = some true := itC_eq x
  have e2 : fitR [(2, .i), (1, .s), (33, .i)] (itC x) = true := itC_fit hx
  have hh : (reps 4 x).headD it0 = x := rfl
  have he : (!(reps 4 x).isEmpty) = true := rfl
  simp -implicitDefEqProofs (maxSteps := 2000000) only [m11_28, m11_24, k5, k7, wk, act, asV, ↓reduceIte, Nat.reduceEqDiff, reduceCtorEq, Nat.reduceAdd, Nat.reduceLeDiff, Nat.reduceSub, Nat.reduceMul, List.reduceReplicate, Int.reduceEq, Int.reduceLT, Int.reduceLE, Int.reduceAdd, Int.reduceSub, Int.reduceMul, Nat.reduceLT, Int.reduceToNat]
  refine CallnL.of (by simp -implicitDefEqProofs (maxSteps := 2000000) only [wk, act, asV, ↓reduceIte, Nat.reduceEqDiff, reduceCtorEq, Nat.reduceAdd, Nat.reduceLeDiff, Nat.reduceSub, Nat.reduceMul, List.reduceReplicate, Int.reduceEq, Int.reduceLT, Int.reduceLE, Int.reduceAdd, Int.reduceSub, Int.reduceMul, Nat.reduceLT, Int.reduceToNat]; first | done | rfl) (qhead_ok (h := 22) (by decide) hok (ko.fr (by simp -implicitDefEqProofs (maxSteps := 2000000) only [wk, act, asV, ↓reduceIte, Nat.reduceEqDiff, reduceCtorEq, Nat.reduceAdd, Nat.reduceLeDiff, Nat.reduceSub, Nat.reduceMul, List.reduceReplicate, Int.reduceEq, Int.reduceLT, Int.reduceLE, Int.reduceAdd, Int.reduceSub, Int.reduceMul, Nat.reduceLT, Int.reduceToNat]) (by simp -implicitDefEqProofs (maxSteps := 2000000) only [wk, act, asV, ↓reduceIte, Nat.reduceEqDiff, reduceCtorEq, Nat.reduceAdd, Nat.reduceLeDiff, Nat.reduceSub, Nat.reduceMul, List.reduceReplicate, Int.reduceEq, Int.reduceLT, Int.reduceLE, Int.reduceAdd, Int.reduceSub, Int.reduceMul, Nat.reduceLT, Int.reduceToNat]))) ?_
  rintro _ h1 ⟨rfl, fr1⟩
  have g5 := (fr1 5 (by decide)).trans kh5
  have o1 := ko.fr (fr1 22 (by decide)) (fr1 1024 (by decide))
  rw [hh, he]
  simp -implicitDefEqProofs (maxSteps := 2000000) only [m11_27, g5, l0, t0, d0, s0, e1, e2, k5, k7, wk, act, asV, ↓reduceIte, Nat.reduceEqDiff, reduceCtorEq, Nat.reduceAdd, Nat.reduceLeDiff, Nat.reduceSub, Nat.reduceMul, List.reduceReplicate, Int.reduceEq, Int.reduceLT, Int.reduceLE, Int.reduceAdd, Int.reduceSub, Int.reduceMul, Nat.reduceLT, Int.reduceToNat]
  refine CallnL.of (by simp -implicitDefEqProofs (maxSteps := 2000000) only [wk, act, asV, ↓reduceIte, Nat.reduceEqDiff, reduceCtorEq, Nat.reduceAdd, Nat.reduceLeDiff, Nat.reduceSub, Nat.reduceMul, List.reduceReplicate, Int.reduceEq, Int.reduceLT, Int.reduceLE, Int.reduceAdd, Int.reduceSub, Int.reduceMul, Nat.reduceLT, Int.reduceToNat]; first | done | rfl) (qclear_ok (h := 22) (by decide) hok (by rw [reps_len]; decide) (o1.fr (by simp -implicitDefEqProofs (maxSteps := 2000000) only [wk, act, asV, ↓reduceIte, Nat.reduceEqDiff, reduceCtorEq, Nat.reduceAdd, Nat.reduceLeDiff, Nat.reduceSub, Nat.reduceMul, List.reduceReplicate, Int.reduceEq, Int.reduceLT, Int.reduceLE, Int.reduceAdd, Int.reduceSub, Int.reduceMul, Nat.reduceLT, Int.reduceToNat]) (by simp -implicitDefEqProofs (maxSteps := 2000000) only [wk, act, asV, ↓reduceIte, Nat.reduceEqDiff, reduceCtorEq, Nat.reduceAdd, Nat.reduceLeDiff, Nat.reduceSub, Nat.reduceMul, List.reduceReplicate, Int.reduceEq, Int.reduceLT, Int.reduceLE, Int.reduceAdd, Int.reduceSub, Int.reduceMul, Nat.reduceLT, Int.reduceToNat]))) ?_
  rintro _ h2 ⟨⟨v5', rfl, r5⟩, o2, fr2⟩
  have ei : (idsL (reps 4 x)).length = 4 := rfl
  rcases r5 with ⟨hn, _⟩ | ⟨_, v6, rfl, r6⟩
  · cases hn
  rw [ei] at *
  repeat' (first | simp -implicitDefEqProofs (maxSteps := 2000000) only [m11_26, m11_25, r6, wk, act, asV, ↓reduceIte, Nat.reduceEqDiff, reduceCtorEq, Nat.reduceAdd, Nat.reduceLeDiff, Nat.reduceSub, Nat.reduceMul, List.reduceReplicate, Int.reduceEq, Int.reduceLT, Int.reduceLE, Int.reduceAdd, Int.reduceSub, Int.reduceMul, Nat.reduceLT, Int.reduceToNat] | ((first | ((with_reducible refine CallL.gate ?_); apply CallL.of) | ((with_reducible refine CallP.gate ?_); apply CallP.of)); (case h1 => (simp -implicitDefEqProofs (maxSteps := 2000000) only [m11_26, m11_25, r6, wk, act, asV, ↓reduceIte, Nat.reduceEqDiff, reduceCtorEq, Nat.reduceAdd, Nat.reduceLeDiff, Nat.reduceSub, Nat.reduceMul, List.reduceReplicate, Int.reduceEq, Int.reduceLT, Int.reduceLE, Int.reduceAdd, Int.reduceSub, Int.reduceMul, Nat.reduceLT, Int.reduceToNat]; first | done | (with_reducible rfl))); (case h2 => (first | exact wakesQ_ok)); (case h3 => simp -implicitDefEqProofs (maxSteps := 2000000) only [m11_26, m11_25, r6, wk, act, asV, ↓reduceIte, Nat.reduceEqDiff, reduceCtorEq, Nat.reduceAdd, Nat.reduceLeDiff, Nat.reduceSub, Nat.reduceMul, List.reduceReplicate, Int.reduceEq, Int.reduceLT, Int.reduceLE, Int.reduceAdd, Int.reduceSub, Int.reduceMul, Nat.reduceLT, Int.reduceToNat])))
theorem qf_more {s : St} {v5 v7 j : Nat} {n1 : UInt8} {x : It} (hx : x.Ok) (k1 : s.t 1 = .int .u8 (n1.toNat : Nat)) (k5 : s.t 5 = .ptr 5 0 v5) (kh5 : s.h 5 = ⟨v5, true, true, false, itC x⟩) (k7 : s.t 7 = .ptr 22 0 v7) (ko : ObjQ 22 v7 1024 s.h (reps 4 x)) :
    Wp (RCs Tryd.prog) m11_30 (Post [.tmp 6] [.bool true]) s := by
  have l0 := itC_length hx
  have t0 : List.take 36 (itC x) = itC x := List.take_of_length_le (by omega)
  have d0 : List.drop 36 (itC x) = [] := List.drop_of_length_le (by omega)
  have s0 := itC_scal x
  have hok := reps_ok (n := 4) hx
  have hok3 := reps_ok (n := 3) hx
  have hx1 : ∀ y ∈ [x], y.Ok := by simpa using hx
  have q1 : qE (reps 4 x) [x] = 19 := rfl
  have q2 : qL (reps 4 x) [x] = reps 4 x := rfl
  have q3 : qE (reps 4 x) [] = 0 := rfl
  have q4 : qL (reps 4 x) [] = reps 4 x := by show reps 4 x ++ [] = _; rw [List.append_nil]
  have q5 : qE (reps 3 x) [x] = 0 := rfl
  have q6 : qL (reps 3 x) [x] = reps 4 x := rfl
  have a1 := fun {H : Nat → Blk} (o : ObjQ 22 v7 1024 H (reps 4 x)) => qadd_ok (h := 22) (ys := [x]) (w := .sl .lit 1 (itC x)) (by decide) hok (by rw [reps_len]; decide) hx1 (by simp) (.inl ⟨.lit, by rw [itL_one]; rfl⟩) o
  have a2 := fun {H : Nat → Blk} (o : ObjQ 22 v7 1024 H (reps 4 x)) => qadd_ok (h := 22) (ys := []) (w := .sl .full 0 []) (by decide) hok (by rw [reps_len]; decide) (by simp) (by decide) (.inl ⟨.full, rfl⟩) o
  have a3 := fun {H : Nat → Blk} (o : ObjQ 22 v7 1024 H (reps 3 x)) => qadd_ok (h := 22) (ys := [x]) (w := .sl .lit 1 (itC x)) (by decide) hok3 (by rw [reps_len]; decide) hx1 (by simp) (.inl ⟨.lit, by rw [itL_one]; rfl⟩) o
  rw [q1, q2] at a1
  rw [q3, q4] at a2
  rw [q5, q6] at a3
  have len4 : (((reps 4 x).length : Nat) : Int) = 4 := rfl
  have len3 : (((reps 3 x).length : Nat) : Int) = 3 := rfl
  have he : (!(reps 4 x).isEmpty) = true := rfl
  have ht : (reps 4 x).tail = reps 3 x := rfl
  simp -implicitDefEqProofs (maxSteps := 2000000) only [m11_30, m11_14, m11_13, m11_12, m11_15, k5, kh5, k7, l0, t0, d0, s0, wk, act, asV, ↓reduceIte, Nat.reduceEqDiff, reduceCtorEq, Nat.reduceAdd, Nat.reduceLeDiff, Nat.reduceSub, Nat.reduceMul, List.reduceReplicate, Int.reduceEq, Int.reduceLT, Int.reduceLE, Int.reduceAdd, Int.reduceSub, Int.reduceMul, Nat.reduceLT, Int.reduceToNat]
  refine CallnL.of (by simp -implicitDefEqProofs (maxSteps := 2000000) only [wk, act, asV, ↓reduceIte, Nat.reduceEqDiff, reduceCtorEq, Nat.reduceAdd, Nat.reduceLeDiff, Nat.reduceSub, Nat.reduceMul, List.reduceReplicate, Int.reduceEq, Int.reduceLT, Int.reduceLE, Int.reduceAdd, Int.reduceSub, Int.reduceMul, Nat.reduceLT, Int.reduceToNat]; first | done | rfl) (a1 (ko.fr (by simp -implicitDefEqProofs (maxSteps := 2000000) only [wk, act, asV, ↓reduceIte, Nat.reduceEqDiff, reduceCtorEq, Nat.reduceAdd, Nat.reduceLeDiff, Nat.reduceSub, Nat.reduceMul, List.reduceReplicate, Int.reduceEq, Int.reduceLT, Int.reduceLE, Int.reduceAdd, Int.reduceSub, Int.reduceMul, Nat.reduceLT, Int.reduceToNat]) (by simp -implicitDefEqProofs (maxSteps := 2000000) only [wk, act, asV, ↓reduceIte, Nat.reduceEqDiff, reduceCtorEq, Nat.reduceAdd, Nat.reduceLeDiff, Nat.reduceSub, Nat.reduceMul, List.reduceReplicate, Int.reduceEq, Int.reduceLT, Int.reduceLE, Int.reduceAdd, Int.reduceSub, Int.reduceMul, Nat.reduceLT, Int.reduceToNat]))) ?_
  rintro _ h1 ⟨rfl, o1, fr1⟩
  have g5 := (fr1 5 (by decide) (by decide)).trans kh5
  simp -implicitDefEqProofs (maxSteps := 2000000) only [m11_14, m11_13, m11_12, k5, k7, wk, act, asV, ↓reduceIte, Nat.reduceEqDiff, reduceCtorEq, Nat.reduceAdd, Nat.reduceLeDiff, Nat.reduceSub, Nat.reduceMul, List.reduceReplicate, Int.reduceEq, Int.reduceLT, Int.reduceLE, Int.reduceAdd, Int.reduceSub, Int.reduceMul, Nat.reduceLT, Int.reduceToNat]
  refine CallnL.of (by simp -implicitDefEqProofs (maxSteps := 2000000) only [wk, act, asV, ↓reduceIte, Nat.reduceEqDiff, reduceCtorEq, Nat.reduceAdd, Nat.reduceLeDiff, Nat.reduceSub, Nat.reduceMul, List.reduceReplicate, Int.reduceEq, Int.reduceLT, Int.reduceLE, Int.reduceAdd, Int.reduceSub, Int.reduceMul, Nat.reduceLT, Int.reduceToNat]; first | done | rfl) (qlen_ok o1) ?_
  rintro _ _ ⟨rfl, rfl⟩
  simp -implicitDefEqProofs (maxSteps := 2000000) only [len4, m11_13, m11_12, k5, k7, wk, act, asV, ↓reduceIte, Nat.reduceEqDiff, reduceCtorEq, Nat.reduceAdd, Nat.reduceLeDiff, Nat.reduceSub, Nat.reduceMul, List.reduceReplicate, Int.reduceEq, Int.reduceLT, Int.reduceLE, Int.reduceAdd, Int.reduceSub, Int.reduceMul, Nat.reduceLT, Int.reduceToNat]
  refine CallnL.of (by simp -implicitDefEqProofs (maxSteps := 2000000) only [wk, act, asV, ↓reduceIte, Nat.reduceEqDiff, reduceCtorEq, Nat.reduceAdd, Nat.reduceLeDiff, Nat.reduceSub, Nat.reduceMul, List.reduceReplicate, Int.reduceEq, Int.reduceLT, Int.reduceLE, Int.reduceAdd, Int.reduceSub, Int.reduceMul, Nat.reduceLT, Int.reduceToNat]; first | done | rfl) (a2 o1) ?_
  rintro _ h2 ⟨rfl, o2, fr2⟩
  have g5' := (fr2 5 (by decide) (by decide)).trans g5
  simp -implicitDefEqProofs (maxSteps := 2000000) only [m11_12, m11_15, k1, k5, k7, wk, act, asV, ↓reduceIte, Nat.reduceEqDiff, reduceCtorEq, Nat.reduceAdd, Nat.reduceLeDiff, Nat.reduceSub, Nat.reduceMul, List.reduceReplicate, Int.reduceEq, Int.reduceLT, Int.reduceLE, Int.reduceAdd, Int.reduceSub, Int.reduceMul, Nat.reduceLT, Int.reduceToNat]
  simp -implicitDefEqProofs (maxSteps := 2000000) only [m11_29, m11_23, m11_22, m11_21, m11_20, m11_19, m11_18, m11_17, m11_16, wk, act, asV, ↓reduceIte, Nat.reduceEqDiff, reduceCtorEq, Nat.reduceAdd, Nat.reduceLeDiff, Nat.reduceSub, Nat.reduceMul, List.reduceReplicate, Int.reduceEq, Int.reduceLT, Int.reduceLE, Int.reduceAdd, Int.reduceSub, Int.reduceMul, Nat.reduceLT, Int.reduceToNat]
  have w0 : IntKind.i64.wrap ((n1.toNat : Nat) : Int) = (n1.toNat : Nat) := by rw [IntKind.wrap_i64]; have := n1.toNat_lt; omega
  have v0 : ((n1.toNat : Nat) : Int).tmod 4 = ((n1.toNat % 4 : Nat) : Int) := tmod_nat n1.toNat 4
  obtain ⟨m1, hm1⟩ : ∃ m1, m1 = n1.toNat % 4 := ⟨_, rfl⟩
  rw [← hm1] at v0
  refine Wp_loop (fun m s => ∃ i, i ≤ m1 ∧ m = m1 - i ∧ s.t 1 = .int .u8 (n1.toNat : Nat) ∧ s.t 5 = .ptr 5 0 v5 ∧ s.h 5 = ⟨v5, true, true, false, itC x⟩ ∧ s.t 7 = .ptr 22 0 v7 ∧ s.t 13 = .int .i64 (i : Nat) ∧ ObjQ 22 v7 1024 s.h (reps 4 x)) m1 ⟨0, by omega, rfl, by simp -implicitDefEqProofs (maxSteps := 2000000) only [k1, wk, act, asV, ↓reduceIte, Nat.reduceEqDiff, reduceCtorEq, Nat.reduceAdd, Nat.reduceLeDiff, Nat.reduceSub, Nat.reduceMul, List.reduceReplicate, Int.reduceEq, Int.reduceLT, Int.reduceLE, Int.reduceAdd, Int.reduceSub, Int.reduceMul, Nat.reduceLT, Int.reduceToNat], by simp -implicitDefEqProofs (maxSteps := 2000000) only [k5, wk, act, asV, ↓reduceIte, Nat.reduceEqDiff, reduceCtorEq, Nat.reduceAdd, Nat.reduceLeDiff, Nat.reduceSub, Nat.reduceMul, List.reduceReplicate, Int.reduceEq, Int.reduceLT, Int.reduceLE, Int.reduceAdd, Int.reduceSub, Int.reduceMul, Nat.reduceLT, Int.reduceToNat], by simp -implicitDefEqProofs (maxSteps := 2000000) only [g5', wk, act, asV, ↓reduceIte, Nat.reduceEqDiff, reduceCtorEq, Nat.reduceAdd, Nat.reduceLeDiff, Nat.reduceSub, Nat.reduceMul, List.reduceReplicate, Int.reduceEq, Int.reduceLT, Int.reduceLE, Int.reduceAdd, Int.reduceSub, Int.reduceMul, Nat.reduceLT, Int.reduceToNat], by simp -implicitDefEqProofs (maxSteps := 2000000) only [k7, wk, act, asV, ↓reduceIte, Nat.reduceEqDiff, reduceCtorEq, Nat.reduceAdd, Nat.reduceLeDiff, Nat.reduceSub, Nat.reduceMul, List.reduceReplicate, Int.reduceEq, Int.reduceLT, Int.reduceLE, Int.reduceAdd, Int.reduceSub, Int.reduceMul, Nat.reduceLT, Int.reduceToNat], rfl, o2⟩ ?_
  clear k1 k5 kh5 k7 ko g5 g5' fr1 fr2 o1 o2
  rintro m s ⟨i, hi, rfl, k1, k5, kh5, k7, k13, ko⟩
  by_cases hik : i < m1
  · have hik' : (i : Int) < m1 := by omega
    have wi : IntKind.i64.wrap (((i : Nat) : Int) + 1) = ((i + 1 : Nat) : Int) := by rw [IntKind.wrap_i64]; omega
    have hm4 : m1 < 4 := by omega
    simp -implicitDefEqProofs (maxSteps := 2000000) only [k1, k5, kh5, k7, k13, hik', w0, v0, wk, act, asV, ↓reduceIte, Nat.reduceEqDiff, reduceCtorEq, Nat.reduceAdd, Nat.reduceLeDiff, Nat.reduceSub, Nat.reduceMul, List.reduceReplicate, Int.reduceEq, Int.reduceLT, Int.reduceLE, Int.reduceAdd, Int.reduceSub, Int.reduceMul, Nat.reduceLT, Int.reduceToNat]
    refine CallnL.of (by simp -implicitDefEqProofs (maxSteps := 2000000) only [wk, act, asV, ↓reduceIte, Nat.reduceEqDiff, reduceCtorEq, Nat.reduceAdd, Nat.reduceLeDiff, Nat.reduceSub, Nat.reduceMul, List.reduceReplicate, Int.reduceEq, Int.reduceLT, Int.reduceLE, Int.reduceAdd, Int.reduceSub, Int.reduceMul, Nat.reduceLT, Int.reduceToNat]; first | done | rfl) (qpop_ok (h := 22) (by decide) hok (ko.fr (by simp -implicitDefEqProofs (maxSteps := 2000000) only [wk, act, asV, ↓reduceIte, Nat.reduceEqDiff, reduceCtorEq, Nat.reduceAdd, Nat.reduceLeDiff, Nat.reduceSub, Nat.reduceMul, List.reduceReplicate, Int.reduceEq, Int.reduceLT, Int.reduceLE, Int.reduceAdd, Int.reduceSub, Int.reduceMul, Nat.reduceLT, Int.reduceToNat]) (by simp -implicitDefEqProofs (maxSteps := 2000000) only [wk, act, asV, ↓reduceIte, Nat.reduceEqDiff, reduceCtorEq, Nat.reduceAdd, Nat.reduceLeDiff, Nat.reduceSub, Nat.reduceMul, List.reduceReplicate, Int.reduceEq, Int.reduceLT, Int.reduceLE, Int.reduceAdd, Int.reduceSub, Int.reduceMul, Nat.reduceLT, Int.reduceToNat]))) ?_
    rintro _ h1 ⟨rfl, o1, fr1⟩
    have g5 := (fr1 5 (by decide)).trans kh5
    rw [ht] at o1
    simp -implicitDefEqProofs (maxSteps := 2000000) only [he, m11_19, m11_18, m11_17, m11_16, k5, k7, wk, act, asV, ↓reduceIte, Nat.reduceEqDiff, reduceCtorEq, Nat.reduceAdd, Nat.reduceLeDiff, Nat.reduceSub, Nat.reduceMul, List.reduceReplicate, Int.reduceEq, Int.reduceLT, Int.reduceLE, Int.reduceAdd, Int.reduceSub, Int.reduceMul, Nat.reduceLT, Int.reduceToNat]
    refine CallnL.of (by simp -implicitDefEqProofs (maxSteps := 2000000) only [wk, act, asV, ↓reduceIte, Nat.reduceEqDiff, reduceCtorEq, Nat.reduceAdd, Nat.reduceLeDiff, Nat.reduceSub, Nat.reduceMul, List.reduceReplicate, Int.reduceEq, Int.reduceLT, Int.reduceLE, Int.reduceAdd, Int.reduceSub, Int.reduceMul, Nat.reduceLT, Int.reduceToNat]; first | done | rfl) (qlen_ok o1) ?_
    rintro _ _ ⟨rfl, rfl⟩
    simp -implicitDefEqProofs (maxSteps := 2000000) only [len3, g5, l0, t0, d0, s0, k5, k7, wk, act, asV, ↓reduceIte, Nat.reduceEqDiff, reduceCtorEq, Nat.reduceAdd, Nat.reduceLeDiff, Nat.reduceSub, Nat.reduceMul, List.reduceReplicate, Int.reduceEq, Int.reduceLT, Int.reduceLE, Int.reduceAdd, Int.reduceSub, Int.reduceMul, Nat.reduceLT, Int.reduceToNat]
    refine CallnL.of (by simp -implicitDefEqProofs (maxSteps := 2000000) only [wk, act, asV, ↓reduceIte, Nat.reduceEqDiff, reduceCtorEq, Nat.reduceAdd, Nat.reduceLeDiff, Nat.reduceSub, Nat.reduceMul, List.reduceReplicate, Int.reduceEq, Int.reduceLT, Int.reduceLE, Int.reduceAdd, Int.reduceSub, Int.reduceMul, Nat.reduceLT, Int.reduceToNat]; first | done | rfl) (a3 o1) ?_
    rintro _ h2 ⟨rfl, o2, fr2⟩
    have g5' := (fr2 5 (by decide) (by decide)).trans g5
    simp -implicitDefEqProofs (maxSteps := 2000000) only [k5, k7, wk, act, asV, ↓reduceIte, Nat.reduceEqDiff, reduceCtorEq, Nat.reduceAdd, Nat.reduceLeDiff, Nat.reduceSub, Nat.reduceMul, List.reduceReplicate, Int.reduceEq, Int.reduceLT, Int.reduceLE, Int.reduceAdd, Int.reduceSub, Int.reduceMul, Nat.reduceLT, Int.reduceToNat]
    refine CallnL.of (by simp -implicitDefEqProofs (maxSteps := 2000000) only [wk, act, asV, ↓reduceIte, Nat.reduceEqDiff, reduceCtorEq, Nat.reduceAdd, Nat.reduceLeDiff, Nat.reduceSub, Nat.reduceMul, List.reduceReplicate, Int.reduceEq, Int.reduceLT, Int.reduceLE, Int.reduceAdd, Int.reduceSub, Int.reduceMul, Nat.reduceLT, Int.reduceToNat]; first | done | rfl) (qlen_ok o2) ?_
    rintro _ _ ⟨rfl, rfl⟩
    simp -implicitDefEqProofs (maxSteps := 2000000) only [len4, k1, k5, k7, k13, g5', wi, wk, act, asV, ↓reduceIte, Nat.reduceEqDiff, reduceCtorEq, Nat.reduceAdd, Nat.reduceLeDiff, Nat.reduceSub, Nat.reduceMul, List.reduceReplicate, Int.reduceEq, Int.reduceLT, Int.reduceLE, Int.reduceAdd, Int.reduceSub, Int.reduceMul, Nat.reduceLT, Int.reduceToNat]
    exact ⟨m1 - (i + 1), by omega, i + 1, by omega, rfl, rfl, o2⟩
  · obtain rfl : i = m1 := by omega
    have hik' : ¬ ((i : Nat) : Int) < i := by omega
    simp -implicitDefEqProofs (maxSteps := 2000000) only [k1, k5, kh5, k7, k13, hik', w0, v0, wk, act, asV, ↓reduceIte, Nat.reduceEqDiff, reduceCtorEq, Nat.reduceAdd, Nat.reduceLeDiff, Nat.reduceSub, Nat.reduceMul, List.reduceReplicate, Int.reduceEq, Int.reduceLT, Int.reduceLE, Int.reduceAdd, Int.reduceSub, Int.reduceMul, Nat.reduceLT, Int.reduceToNat]
    exact qf_end (v5 := v5) (v7 := v7) hx (by simp -implicitDefEqProofs (maxSteps := 2000000) only [k5, wk, act, asV, ↓reduceIte, Nat.reduceEqDiff, reduceCtorEq, Nat.reduceAdd, Nat.reduceLeDiff, Nat.reduceSub, Nat.reduceMul, List.reduceReplicate, Int.reduceEq, Int.reduceLT, Int.reduceLE, Int.reduceAdd, Int.reduceSub, Int.reduceMul, Nat.reduceLT, Int.reduceToNat]) (by simp -implicitDefEqProofs (maxSteps := 2000000) only [kh5, wk, act, asV, ↓reduceIte, Nat.reduceEqDiff, reduceCtorEq, Nat.reduceAdd, Nat.reduceLeDiff, Nat.reduceSub, Nat.reduceMul, List.reduceReplicate, Int.reduceEq, Int.reduceLT, Int.reduceLE, Int.reduceAdd, Int.reduceSub, Int.reduceMul, Nat.reduceLT, Int.reduceToNat]) (by simp -implicitDefEqProofs (maxSteps := 2000000) only [k7, wk, act, asV, ↓reduceIte, Nat.reduceEqDiff, reduceCtorEq, Nat.reduceAdd, Nat.reduceLeDiff, Nat.reduceSub, Nat.reduceMul, List.reduceReplicate, Int.reduceEq, Int.reduceLT, Int.reduceLE, Int.reduceAdd, Int.reduceSub, Int.reduceMul, Nat.reduceLT, Int.reduceToNat]) ko
theorem qf_fill {s : St} {v5 v7 j : Nat} {n1 : UInt8} {x : It} (hx : x.Ok) (hj : j ≤ 4) (k1 : s.t 1 = .int .u8 (n1.toNat : Nat)) (k5 : s.t 5 = .ptr 5 0 v5) (kh5 : s.h 5 = ⟨v5, true, true, false, itC x⟩) (k7 : s.t 7 = .ptr 22 0 v7) (ko : ObjQ 22 v7 1024 s.h (reps j x)) :
    Wp (RCs Tryd.prog) m11_31 (Post [.tmp 6] [.bool true]) s := by
  have l0 := itC_length hx
  have t0 : List.take 36 (itC x) = itC x := List.take_of_length_le (by omega)
  have d0 : List.drop 36 (itC x) = [] := List.drop_of_length_le (by omega)
  have s0 := itC_scal x
  have hx1 : ∀ y ∈ [x], y.Ok := by simpa using hx
  simp -implicitDefEqProofs (maxSteps := 2000000) only [m11_31, k7, wk, act, asV, ↓reduceIte, Nat.reduceEqDiff, reduceCtorEq, Nat.reduceAdd, Nat.reduceLeDiff, Nat.reduceSub, Nat.reduceMul, List.reduceReplicate, Int.reduceEq, Int.reduceLT, Int.reduceLE, Int.reduceAdd, Int.reduceSub, Int.reduceMul, Nat.reduceLT, Int.reduceToNat]
  refine CallnL.of (by simp -implicitDefEqProofs (maxSteps := 2000000) only [wk, act, asV, ↓reduceIte, Nat.reduceEqDiff, reduceCtorEq, Nat.reduceAdd, Nat.reduceLeDiff, Nat.reduceSub, Nat.reduceMul, List.reduceReplicate, Int.reduceEq, Int.reduceLT, Int.reduceLE, Int.reduceAdd, Int.reduceSub, Int.reduceMul, Nat.reduceLT, Int.reduceToNat]; first | done | rfl) (qlen_ok (ko.fr (by simp -implicitDefEqProofs (maxSteps := 2000000) only [wk, act, asV, ↓reduceIte, Nat.reduceEqDiff, reduceCtorEq, Nat.reduceAdd, Nat.reduceLeDiff, Nat.reduceSub, Nat.reduceMul, List.reduceReplicate, Int.reduceEq, Int.reduceLT, Int.reduceLE, Int.reduceAdd, Int.reduceSub, Int.reduceMul, Nat.reduceLT, Int.reduceToNat]) (by simp -implicitDefEqProofs (maxSteps := 2000000) only [wk, act, asV, ↓reduceIte, Nat.reduceEqDiff, reduceCtorEq, Nat.reduceAdd, Nat.reduceLeDiff, Nat.reduceSub, Nat.reduceMul, List.reduceReplicate, Int.reduceEq, Int.reduceLT, Int.reduceLE, Int.reduceAdd, Int.reduceSub, Int.reduceMul, Nat.reduceLT, Int.reduceToNat]))) ?_
  rintro _ _ ⟨rfl, rfl⟩
  simp -implicitDefEqProofs (maxSteps := 2000000) only [reps_len, m11_11, m11_10, m11_9, m11_8, wk, act, asV, ↓reduceIte, Nat.reduceEqDiff, reduceCtorEq, Nat.reduceAdd, Nat.reduceLeDiff, Nat.reduceSub, Nat.reduceMul, List.reduceReplicate, Int.reduceEq, Int.reduceLT, Int.reduceLE, Int.reduceAdd, Int.reduceSub, Int.reduceMul, Nat.reduceLT, Int.reduceToNat]
  refine Wp_loop (fun m s => ∃ i, i ≤ 4 ∧ m = 4 - i ∧ s.t 1 = .int .u8 (n1.toNat : Nat) ∧ s.t 5 = .ptr 5 0 v5 ∧ s.h 5 = ⟨v5, true, true, false, itC x⟩ ∧ s.t 7 = .ptr 22 0 v7 ∧ s.t 12 = .int .i64 (i : Nat) ∧ ObjQ 22 v7 1024 s.h (reps i x)) (4 - j) ⟨j, by omega, rfl, by simp -implicitDefEqProofs (maxSteps := 2000000) only [k1, wk, act, asV, ↓reduceIte, Nat.reduceEqDiff, reduceCtorEq, Nat.reduceAdd, Nat.reduceLeDiff, Nat.reduceSub, Nat.reduceMul, List.reduceReplicate, Int.reduceEq, Int.reduceLT, Int.reduceLE, Int.reduceAdd, Int.reduceSub, Int.reduceMul, Nat.reduceLT, Int.reduceToNat], by simp -implicitDefEqProofs (maxSteps := 2000000) only [k5, wk, act, asV, ↓reduceIte, Nat.reduceEqDiff, reduceCtorEq, Nat.reduceAdd, Nat.reduceLeDiff, Nat.reduceSub, Nat.reduceMul, List.reduceReplicate, Int.reduceEq, Int.reduceLT, Int.reduceLE, Int.reduceAdd, Int.reduceSub, Int.reduceMul, Nat.reduceLT, Int.reduceToNat], by simp -implicitDefEqProofs (maxSteps := 2000000) only [kh5, wk, act, asV, ↓reduceIte, Nat.reduceEqDiff, reduceCtorEq, Nat.reduceAdd, Nat.reduceLeDiff, Nat.reduceSub, Nat.reduceMul, List.reduceReplicate, Int.reduceEq, Int.reduceLT, Int.reduceLE, Int.reduceAdd, Int.reduceSub, Int.reduceMul, Nat.reduceLT, Int.reduceToNat], by simp -implicitDefEqProofs (maxSteps := 2000000) only [k7, wk, act, asV, ↓reduceIte, Nat.reduceEqDiff, reduceCtorEq, Nat.reduceAdd, Nat.reduceLeDiff, Nat.reduceSub, Nat.reduceMul, List.reduceReplicate, Int.reduceEq, Int.reduceLT, Int.reduceLE, Int.reduceAdd, Int.reduceSub, Int.reduceMul, Nat.reduceLT, Int.reduceToNat], rfl, ko⟩ ?_
  clear k1 k5 kh5 k7 ko
  rintro m s ⟨i, hi, rfl, k1, k5, kh5, k7, k12, ko⟩
  by_cases hi4 : i < 4
  · have hi4' : (i : Int) < 4 := by omega
    have wi : IntKind.i64.wrap (((i : Nat) : Int) + 1) = ((i + 1 : Nat) : Int) := by rw [IntKind.wrap_i64]; omega
    have q1 : qE (reps i x) [x] = 0 := if_neg (by rw [reps_len, List.length_singleton]; omega)
    have q2 : qL (reps i x) [x] = reps (i + 1) x := by
      unfold qL
      rw [if_neg (by rw [reps_len, List.length_singleton]; omega), reps_snoc]
    have a1 := fun {H : Nat → Blk} (o : ObjQ 22 v7 1024 H (reps i x)) => qadd_ok (h := 22) (ys := [x]) (w := .sl .lit 1 (itC x)) (by decide) (reps_ok hx) (by rw [reps_len]; omega) hx1 (by simp) (.inl ⟨.lit, by rw [itL_one]; rfl⟩) o
    rw [q1, q2] at a1
    simp -implicitDefEqProofs (maxSteps := 2000000) only [k1, k5, kh5, k7, k12, hi4', l0, t0, d0, s0, wk, act, asV, ↓reduceIte, Nat.reduceEqDiff, reduceCtorEq, Nat.reduceAdd, Nat.reduceLeDiff, Nat.reduceSub, Nat.reduceMul, List.reduceReplicate, Int.reduceEq, Int.reduceLT, Int.reduceLE, Int.reduceAdd, Int.reduceSub, Int.reduceMul, Nat.reduceLT, Int.reduceToNat]
    refine CallnL.of (by simp -implicitDefEqProofs (maxSteps := 2000000) only [wk, act, asV, ↓reduceIte, Nat.reduceEqDiff, reduceCtorEq, Nat.reduceAdd, Nat.reduceLeDiff, Nat.reduceSub, Nat.reduceMul, List.reduceReplicate, Int.reduceEq, Int.reduceLT, Int.reduceLE, Int.reduceAdd, Int.reduceSub, Int.reduceMul, Nat.reduceLT, Int.reduceToNat]; first | done | rfl) (a1 (ko.fr (by simp -implicitDefEqProofs (maxSteps := 2000000) only [wk, act, asV, ↓reduceIte, Nat.reduceEqDiff, reduceCtorEq, Nat.reduceAdd, Nat.reduceLeDiff, Nat.reduceSub, Nat.reduceMul, List.reduceReplicate, Int.reduceEq, Int.reduceLT, Int.reduceLE, Int.reduceAdd, Int.reduceSub, Int.reduceMul, Nat.reduceLT, Int.reduceToNat]) (by simp -implicitDefEqProofs (maxSteps := 2000000) only [wk, act, asV, ↓reduceIte, Nat.reduceEqDiff, reduceCtorEq, Nat.reduceAdd, Nat.reduceLeDiff, Nat.reduceSub, Nat.reduceMul, List.reduceReplicate, Int.reduceEq, Int.reduceLT, Int.reduceLE, Int.reduceAdd, Int.reduceSub, Int.reduceMul, Nat.reduceLT, Int.reduceToNat]))) ?_
    rintro _ h1 ⟨rfl, o1, fr1⟩
    have g5 := (fr1 5 (by decide) (by decide)).trans kh5
    simp -implicitDefEqProofs (maxSteps := 2000000) only [k1, k5, k7, k12, g5, wi, wk, act, asV, ↓reduceIte, Nat.reduceEqDiff, reduceCtorEq, Nat.reduceAdd, Nat.reduceLeDiff, Nat.reduceSub, Nat.reduceMul, List.reduceReplicate, Int.reduceEq, Int.reduceLT, Int.reduceLE, Int.reduceAdd, Int.reduceSub, Int.reduceMul, Nat.reduceLT, Int.reduceToNat]
    exact ⟨4 - (i + 1), by omega, i + 1, by omega, rfl, rfl, o1⟩
  · obtain rfl : i = 4 := by omega
    have h4 : ((4 : Nat) : Int) = 4 := rfl
    simp -implicitDefEqProofs (maxSteps := 2000000) only [k1, k5, kh5, k7, k12, h4, wk, act, asV, ↓reduceIte, Nat.reduceEqDiff, reduceCtorEq, Nat.reduceAdd, Nat.reduceLeDiff, Nat.reduceSub, Nat.reduceMul, List.reduceReplicate, Int.reduceEq, Int.reduceLT, Int.reduceLE, Int.reduceAdd, Int.reduceSub, Int.reduceMul, Nat.reduceLT, Int.reduceToNat]
    exact qf_more (v5 := v5) (v7 := v7) (j := 0) (n1 := n1) hx (by simp -implicitDefEqProofs (maxSteps := 2000000) only [k1, wk, act, asV, ↓reduceIte, Nat.reduceEqDiff, reduceCtorEq, Nat.reduceAdd, Nat.reduceLeDiff, Nat.reduceSub, Nat.reduceMul, List.reduceReplicate, Int.reduceEq, Int.reduceLT, Int.reduceLE, Int.reduceAdd, Int.reduceSub, Int.reduceMul, Nat.reduceLT, Int.reduceToNat]) (by simp -implicitDefEqProofs (maxSteps := 2000000) only [k5, wk, act, asV, ↓reduceIte, Nat.reduceEqDiff, reduceCtorEq, Nat.reduceAdd, Nat.reduceLeDiff, Nat.reduceSub, Nat.reduceMul, List.reduceReplicate, Int.reduceEq, Int.reduceLT, Int.reduceLE, Int.reduceAdd, Int.reduceSub, Int.reduceMul, Nat.reduceLT, Int.reduceToNat]) (by simp -implicitDefEqProofs (maxSteps := 2000000) only [kh5, wk, act, asV, ↓reduceIte, Nat.reduceEqDiff, reduceCtorEq, Nat.reduceAdd, Nat.reduceLeDiff, Nat.reduceSub, Nat.reduceMul, List.reduceReplicate, Int.reduceEq, Int.reduceLT, Int.reduceLE, Int.reduceAdd, Int.reduceSub, Int.reduceMul, Nat.reduceLT, Int.reduceToNat]) (by simp -implicitDefEqProofs (maxSteps := 2000000) only [k7, wk, act, asV, ↓reduceIte, Nat.reduceEqDiff, reduceCtorEq, Nat.reduceAdd, Nat.reduceLeDiff, Nat.reduceSub, Nat.reduceMul, List.reduceReplicate, Int.reduceEq, Int.reduceLT, Int.reduceLE, Int.reduceAdd, Int.reduceSub, Int.reduceMul, Nat.reduceLT, Int.reduceToNat]) ko
theorem queueFull (n0 n1 : UInt8) (x : It) (hx : x.Ok) : RC Tryd.prog 11 [.int .u8 (n0.toNat : Nat), .int .u8 (n1.toNat : Nat), .agg (itC x)] [.bool true] := by
  refine RC.of_wp c11 rfl ?_
  have c0 := fairI_one .full x hx
  have l0 := itC_length hx
  have t0 : List.take 36 (itC x) = itC x := List.take_of_length_le (by omega)
  have d0 : List.drop 36 (itC x) = [] := List.drop_of_length_le (by omega)
  have s0 := itC_scal x
  have u0 := itC_pur x
  cases hf : fairI [x] with
  | false =>
    rw [hf] at c0
    repeat' (first | simp -implicitDefEqProofs (maxSteps := 2000000) only [m11_1, m11_2, m11_3, m11_4, m11_5, m11_6, m11_7, m11_8, m11_9, m11_10, m11_11, m11_12, m11_13, m11_14, m11_15, m11_16, m11_17, m11_18, m11_19, m11_20, m11_21, m11_22, m11_23, m11_24, m11_25, m11_26, m11_27, m11_28, m11_29, m11_30, m11_31, m11_32, m11_33, m11_34, m11_35, m11_36, m11_37, m11_38, m11_r, m11_b, m11, l0, t0, d0, s0, u0, wk, act, asV, ↓reduceIte, Nat.reduceEqDiff, reduceCtorEq, Nat.reduceAdd, Nat.reduceLeDiff, Nat.reduceSub, Nat.reduceMul, List.reduceReplicate, Int.reduceEq, Int.reduceLT, Int.reduceLE, Int.reduceAdd, Int.reduceSub, Int.reduceMul, Nat.reduceLT, Int.reduceToNat] | ((first | ((with_reducible refine CallL.gate ?_); apply CallL.of) | ((with_reducible refine CallP.gate ?_); apply CallP.of)); (case h1 => (simp -implicitDefEqProofs (maxSteps := 2000000) only [m11_1, m11_2, m11_3, m11_4, m11_5, m11_6, m11_7, m11_8, m11_9, m11_10, m11_11, m11_12, m11_13, m11_14, m11_15, m11_16, m11_17, m11_18, m11_19, m11_20, m11_21, m11_22, m11_23, m11_24, m11_25, m11_26, m11_27, m11_28, m11_29, m11_30, m11_31, m11_32, m11_33, m11_34, m11_35, m11_36, m11_37, m11_38, m11_r, m11_b, m11, l0, t0, d0, s0, u0, wk, act, asV, ↓reduceIte, Nat.reduceEqDiff, reduceCtorEq, Nat.reduceAdd, Nat.reduceLeDiff, Nat.reduceSub, Nat.reduceMul, List.reduceReplicate, Int.reduceEq, Int.reduceLT, Int.reduceLE, Int.reduceAdd, Int.reduceSub, Int.reduceMul, Nat.reduceLT, Int.reduceToNat]; first | done | (with_reducible rfl))); (case h2 => (first | exact c0 | exact wakesQ_ok)); (case h3 => simp -implicitDefEqProofs (maxSteps := 2000000) only [m11_1, m11_2, m11_3, m11_4, m11_5, m11_6, m11_7, m11_8, m11_9, m11_10, m11_11, m11_12, m11_13, m11_14, m11_15, m11_16, m11_17, m11_18, m11_19, m11_20, m11_21, m11_22, m11_23, m11_24, m11_25, m11_26, m11_27, m11_28, m11_29, m11_30, m11_31, m11_32, m11_33, m11_34, m11_35, m11_36, m11_37, m11_38, m11_r, m11_b, m11, l0, t0, d0, s0, u0, wk, act, asV, ↓reduceIte, Nat.reduceEqDiff, reduceCtorEq, Nat.reduceAdd, Nat.reduceLeDiff, Nat.reduceSub, Nat.reduceMul, List.reduceReplicate, Int.reduceEq, Int.reduceLT, Int.reduceLE, Int.reduceAdd, Int.reduceSub, Int.reduceMul, Nat.reduceLT, Int.reduceToNat])))
  | true =>
    rw [hf] at c0
    have w0 : IntKind.i64.wrap ((n0.toNat : Nat) : Int) = (n0.toNat : Nat) := by rw [IntKind.wrap_i64]; have := n0.toNat_lt; omega
    have v0 : ((n0.toNat : Nat) : Int).tmod 7 = ((n0.toNat % 7 : Nat) : Int) := tmod_nat n0.toNat 7
    obtain ⟨k, hk⟩ : ∃ k, k = n0.toNat % 7 := ⟨_, rfl⟩
    rw [← hk] at v0
    have hk7 : k < 7 := by omega
    repeat' (first | simp -implicitDefEqProofs (maxSteps := 2000000) only [m11, m11_r, m11_b, m11_1, m11_2, m11_3, m11_4, m11_5, m11_6, m11_7, m11_32, m11_33, m11_34, m11_35, m11_36, m11_37, m11_38, l0, t0, d0, s0, u0, w0, v0, wk, act, asV, ↓reduceIte, Nat.reduceEqDiff, reduceCtorEq, Nat.reduceAdd, Nat.reduceLeDiff, Nat.reduceSub, Nat.reduceMul, List.reduceReplicate, Int.reduceEq, Int.reduceLT, Int.reduceLE, Int.reduceAdd, Int.reduceSub, Int.reduceMul, Nat.reduceLT, Int.reduceToNat] | ((first | ((with_reducible refine CallL.gate ?_); apply CallL.of) | ((with_reducible refine CallP.gate ?_); apply CallP.of)); (case h1 => (simp -implicitDefEqProofs (maxSteps := 2000000) only [m11, m11_r, m11_b, m11_1, m11_2, m11_3, m11_4, m11_5, m11_6, m11_7, m11_32, m11_33, m11_34, m11_35, m11_36, m11_37, m11_38, l0, t0, d0, s0, u0, w0, v0, wk, act, asV, ↓reduceIte, Nat.reduceEqDiff, reduceCtorEq, Nat.reduceAdd, Nat.reduceLeDiff, Nat.reduceSub, Nat.reduceMul, List.reduceReplicate, Int.reduceEq, Int.reduceLT, Int.reduceLE, Int.reduceAdd, Int.reduceSub, Int.reduceMul, Nat.reduceLT, Int.reduceToNat]; first | done | (with_reducible rfl))); (case h2 => (first | exact c0)); (case h3 => simp -implicitDefEqProofs (maxSteps := 2000000) only [m11, m11_r, m11_b, m11_1, m11_2, m11_3, m11_4, m11_5, m11_6, m11_7, m11_32, m11_33, m11_34, m11_35, m11_36, m11_37, m11_38, l0, t0, d0, s0, u0, w0, v0, wk, act, asV, ↓reduceIte, Nat.reduceEqDiff, reduceCtorEq, Nat.reduceAdd, Nat.reduceLeDiff, Nat.reduceSub, Nat.reduceMul, List.reduceReplicate, Int.reduceEq, Int.reduceLT, Int.reduceLE, Int.reduceAdd, Int.reduceSub, Int.reduceMul, Nat.reduceLT, Int.reduceToNat])))
    refine Wp_loop (fun m s => ∃ i v7 v5, i ≤ k ∧ m = k - i ∧ s.t 1 = .int .u8 (n1.toNat : Nat) ∧ s.t 5 = .ptr 5 0 v5 ∧ s.h 5 = ⟨v5, true, true, false, itC x⟩ ∧ s.t 7 = .ptr 22 0 v7 ∧ s.t 8 = .int .i64 (k : Nat) ∧ s.t 10 = .int .i64 (i : Nat) ∧ ObjQ 22 v7 1024 s.h [] ∧ ((i = 0 ∧ s.t 9 = .sl .full 0 []) ∨ (0 < i ∧ ∃ w, s.t 9 = .row 34 0 i 36 w ∧ s.h 34 = ⟨w, true, true, true, itL (reps i x)⟩))) k ⟨0, _, _, by omega, rfl, rfl, rfl, rfl, rfl, rfl, rfl, ⟨_, rfl, .inl ⟨rfl, rfl⟩⟩, .inl ⟨rfl, rfl⟩⟩ ?_
    rintro m s ⟨i, v7, v5, hi, rfl, k1, k5, kh5, k7, k8, k10, ko, k9⟩
    by_cases hik : i < k
    · have hik' : (i : Int) < k := by omega
      have wi : IntKind.i64.wrap (((i : Nat) : Int) + 1) = ((i + 1 : Nat) : Int) := by rw [IntKind.wrap_i64]; omega
      have r1 : roomy 1 72 = true := by decide
      have r2 : roomy (i + 1) 72 = true := roomy72 (by omega)
      have lr : (itL (reps i x)).length = i * 36 := by rw [itL_length (reps_ok hx), reps_len]
      have er : itL (reps i x) ++ itC x = itL (reps (i + 1) x) := by rw [← reps_snoc, itL_append, itL_one]
      rcases k9 with ⟨hi0, k9⟩ | ⟨hi0, w, k9, kh9⟩
      · simp -implicitDefEqProofs (maxSteps := 2000000) only [k1, k5, kh5, k7, k8, k9, k10, hik', wi, l0, t0, d0, s0, r1, wk, act, asV, ↓reduceIte, Nat.reduceEqDiff, reduceCtorEq, Nat.reduceAdd, Nat.reduceLeDiff, Nat.reduceSub, Nat.reduceMul, List.reduceReplicate, Int.reduceEq, Int.reduceLT, Int.reduceLE, Int.reduceAdd, Int.reduceSub, Int.reduceMul, Nat.reduceLT, Int.reduceToNat]
        subst hi0
        exact ⟨k - (0 + 1), by omega, 0 + 1, v7, _, by omega, rfl, rfl, rfl, rfl, rfl, ko.fr (by simp -implicitDefEqProofs (maxSteps := 2000000) only [wk, act, asV, ↓reduceIte, Nat.reduceEqDiff, reduceCtorEq, Nat.reduceAdd, Nat.reduceLeDiff, Nat.reduceSub, Nat.reduceMul, List.reduceReplicate, Int.reduceEq, Int.reduceLT, Int.reduceLE, Int.reduceAdd, Int.reduceSub, Int.reduceMul, Nat.reduceLT, Int.reduceToNat]) (by simp -implicitDefEqProofs (maxSteps := 2000000) only [wk, act, asV, ↓reduceIte, Nat.reduceEqDiff, reduceCtorEq, Nat.reduceAdd, Nat.reduceLeDiff, Nat.reduceSub, Nat.reduceMul, List.reduceReplicate, Int.reduceEq, Int.reduceLT, Int.reduceLE, Int.reduceAdd, Int.reduceSub, Int.reduceMul, Nat.reduceLT, Int.reduceToNat]), by omega, _, rfl, by rw [← er]; rfl⟩
      · simp -implicitDefEqProofs (maxSteps := 2000000) only [k1, k5, kh5, k7, k8, k9, kh9, k10, hik', wi, l0, t0, d0, s0, r2, lr, wk, act, asV, ↓reduceIte, Nat.reduceEqDiff, reduceCtorEq, Nat.reduceAdd, Nat.reduceLeDiff, Nat.reduceSub, Nat.reduceMul, List.reduceReplicate, Int.reduceEq, Int.reduceLT, Int.reduceLE, Int.reduceAdd, Int.reduceSub, Int.reduceMul, Nat.reduceLT, Int.reduceToNat]
        exact ⟨k - (i + 1), by omega, i + 1, v7, _, by omega, rfl, rfl, rfl, rfl, rfl, ko.fr (by simp -implicitDefEqProofs (maxSteps := 2000000) only [wk, act, asV, ↓reduceIte, Nat.reduceEqDiff, reduceCtorEq, Nat.reduceAdd, Nat.reduceLeDiff, Nat.reduceSub, Nat.reduceMul, List.reduceReplicate, Int.reduceEq, Int.reduceLT, Int.reduceLE, Int.reduceAdd, Int.reduceSub, Int.reduceMul, Nat.reduceLT, Int.reduceToNat]) (by simp -implicitDefEqProofs (maxSteps := 2000000) only [wk, act, asV, ↓reduceIte, Nat.reduceEqDiff, reduceCtorEq, Nat.reduceAdd, Nat.reduceLeDiff, Nat.reduceSub, Nat.reduceMul, List.reduceReplicate, Int.reduceEq, Int.reduceLT, Int.reduceLE, Int.reduceAdd, Int.reduceSub, Int.reduceMul, Nat.reduceLT, Int.reduceToNat]), by omega, _, rfl, by rw [er]⟩
    · obtain rfl : i = k := by omega
      have hik' : ¬ ((i : Nat) : Int) < i := by omega
      have hr := reps_ok (n := i) hx
      have hAE : ∃ w : IV, s.t 9 = w ∧ w.isU = false ∧ ArgQ s.h w (reps i x) := by
        rcases k9 with ⟨h0, e⟩ | ⟨h0, w, e, eh⟩
        · exact ⟨_, e, rfl, .inl ⟨.full, by rw [h0]; rfl⟩⟩
        · exact ⟨_, e, rfl, .inr ⟨34, w, true, by decide, by rw [reps_len], eh⟩⟩
      obtain ⟨w9, e9, u9, hA⟩ := hAE
      have a1 := qadd_ok (h := 22) (by decide) (by simp) (by decide) hr (by rw [reps_len]; omega) hA ko
      by_cases h4 : 4 < i
      · have q1 : qE [] (reps i x) = 19 := if_pos (by rw [reps_len]; simp; omega)
        have q2 : qL [] (reps i x) = [] := if_pos (by rw [reps_len]; simp; omega)
        rw [q1, q2] at a1
        have h4' : ¬ ((i : Nat) : Int) ≤ 4 := by omega
        simp -implicitDefEqProofs (maxSteps := 2000000) only [k1, k5, kh5, k7, k8, k10, e9, u9, hik', wk, act, asV, ↓reduceIte, Nat.reduceEqDiff, reduceCtorEq, Nat.reduceAdd, Nat.reduceLeDiff, Nat.reduceSub, Nat.reduceMul, List.reduceReplicate, Int.reduceEq, Int.reduceLT, Int.reduceLE, Int.reduceAdd, Int.reduceSub, Int.reduceMul, Nat.reduceLT, Int.reduceToNat]
        refine CallnL.of (by simp -implicitDefEqProofs (maxSteps := 2000000) only [u9, wk, act, asV, ↓reduceIte, Nat.reduceEqDiff, reduceCtorEq, Nat.reduceAdd, Nat.reduceLeDiff, Nat.reduceSub, Nat.reduceMul, List.reduceReplicate, Int.reduceEq, Int.reduceLT, Int.reduceLE, Int.reduceAdd, Int.reduceSub, Int.reduceMul, Nat.reduceLT, Int.reduceToNat]; first | done | rfl) a1 ?_
        rintro _ h1 ⟨rfl, o1, fr1⟩
        have g5 := (fr1 5 (by decide) (by decide)).trans kh5
        simp -implicitDefEqProofs (maxSteps := 2000000) only [k1, k5, k7, k8, h4', wk, act, asV, ↓reduceIte, Nat.reduceEqDiff, reduceCtorEq, Nat.reduceAdd, Nat.reduceLeDiff, Nat.reduceSub, Nat.reduceMul, List.reduceReplicate, Int.reduceEq, Int.reduceLT, Int.reduceLE, Int.reduceAdd, Int.reduceSub, Int.reduceMul, Nat.reduceLT, Int.reduceToNat]
        refine CallnL.of (by simp -implicitDefEqProofs (maxSteps := 2000000) only [wk, act, asV, ↓reduceIte, Nat.reduceEqDiff, reduceCtorEq, Nat.reduceAdd, Nat.reduceLeDiff, Nat.reduceSub, Nat.reduceMul, List.reduceReplicate, Int.reduceEq, Int.reduceLT, Int.reduceLE, Int.reduceAdd, Int.reduceSub, Int.reduceMul, Nat.reduceLT, Int.reduceToNat]; first | done | rfl) (qlen_ok o1) ?_
        rintro _ _ ⟨rfl, rfl⟩
        simp -implicitDefEqProofs (maxSteps := 2000000) only [List.length_nil, Int.natCast_zero, wk, act, asV, ↓reduceIte, Nat.reduceEqDiff, reduceCtorEq, Nat.reduceAdd, Nat.reduceLeDiff, Nat.reduceSub, Nat.reduceMul, List.reduceReplicate, Int.reduceEq, Int.reduceLT, Int.reduceLE, Int.reduceAdd, Int.reduceSub, Int.reduceMul, Nat.reduceLT, Int.reduceToNat]
        exact qf_fill (v5 := v5) (v7 := v7) (j := 0) (n1 := n1) hx (by decide) (by simp -implicitDefEqProofs (maxSteps := 2000000) only [k1, wk, act, asV, ↓reduceIte, Nat.reduceEqDiff, reduceCtorEq, Nat.reduceAdd, Nat.reduceLeDiff, Nat.reduceSub, Nat.reduceMul, List.reduceReplicate, Int.reduceEq, Int.reduceLT, Int.reduceLE, Int.reduceAdd, Int.reduceSub, Int.reduceMul, Nat.reduceLT, Int.reduceToNat]) (by simp -implicitDefEqProofs (maxSteps := 2000000) only [k5, wk, act, asV, ↓reduceIte, Nat.reduceEqDiff, reduceCtorEq, Nat.reduceAdd, Nat.reduceLeDiff, Nat.reduceSub, Nat.reduceMul, List.reduceReplicate, Int.reduceEq, Int.reduceLT, Int.reduceLE, Int.reduceAdd, Int.reduceSub, Int.reduceMul, Nat.reduceLT, Int.reduceToNat]) (by simp -implicitDefEqProofs (maxSteps := 2000000) only [g5, wk, act, asV, ↓reduceIte, Nat.reduceEqDiff, reduceCtorEq, Nat.reduceAdd, Nat.reduceLeDiff, Nat.reduceSub, Nat.reduceMul, List.reduceReplicate, Int.reduceEq, Int.reduceLT, Int.reduceLE, Int.reduceAdd, Int.reduceSub, Int.reduceMul, Nat.reduceLT, Int.reduceToNat]) (by simp -implicitDefEqProofs (maxSteps := 2000000) only [k7, wk, act, asV, ↓reduceIte, Nat.reduceEqDiff, reduceCtorEq, Nat.reduceAdd, Nat.reduceLeDiff, Nat.reduceSub, Nat.reduceMul, List.reduceReplicate, Int.reduceEq, Int.reduceLT, Int.reduceLE, Int.reduceAdd, Int.reduceSub, Int.reduceMul, Nat.reduceLT, Int.reduceToNat]) o1
      · have q1 : qE [] (reps i x) = 0 := if_neg (by rw [reps_len]; simp; omega)
        have q2 : qL [] (reps i x) = reps i x := by unfold qL; rw [if_neg (by rw [reps_len]; simp; omega), List.nil_append]
        rw [q1, q2] at a1
        have h4' : ((i : Nat) : Int) ≤ 4 := by omega
        simp -implicitDefEqProofs (maxSteps := 2000000) only [k1, k5, kh5, k7, k8, k10, e9, u9, hik', wk, act, asV, ↓reduceIte, Nat.reduceEqDiff, reduceCtorEq, Nat.reduceAdd, Nat.reduceLeDiff, Nat.reduceSub, Nat.reduceMul, List.reduceReplicate, Int.reduceEq, Int.reduceLT, Int.reduceLE, Int.reduceAdd, Int.reduceSub, Int.reduceMul, Nat.reduceLT, Int.reduceToNat]
        refine CallnL.of (by simp -implicitDefEqProofs (maxSteps := 2000000) only [u9, wk, act, asV, ↓reduceIte, Nat.reduceEqDiff, reduceCtorEq, Nat.reduceAdd, Nat.reduceLeDiff, Nat.reduceSub, Nat.reduceMul, List.reduceReplicate, Int.reduceEq, Int.reduceLT, Int.reduceLE, Int.reduceAdd, Int.reduceSub, Int.reduceMul, Nat.reduceLT, Int.reduceToNat]; first | done | rfl) a1 ?_
        rintro _ h1 ⟨rfl, o1, fr1⟩
        have g5 := (fr1 5 (by decide) (by decide)).trans kh5
        simp -implicitDefEqProofs (maxSteps := 2000000) only [k1, k5, k7, k8, h4', wk, act, asV, ↓reduceIte, Nat.reduceEqDiff, reduceCtorEq, Nat.reduceAdd, Nat.reduceLeDiff, Nat.reduceSub, Nat.reduceMul, List.reduceReplicate, Int.reduceEq, Int.reduceLT, Int.reduceLE, Int.reduceAdd, Int.reduceSub, Int.reduceMul, Nat.reduceLT, Int.reduceToNat]
        exact qf_fill (v5 := v5) (v7 := v7) (j := i) (n1 := n1) hx (by omega) (by simp -implicitDefEqProofs (maxSteps := 2000000) only [k1, wk, act, asV, ↓reduceIte, Nat.reduceEqDiff, reduceCtorEq, Nat.reduceAdd, Nat.reduceLeDiff, Nat.reduceSub, Nat.reduceMul, List.reduceReplicate, Int.reduceEq, Int.reduceLT, Int.reduceLE, Int.reduceAdd, Int.reduceSub, Int.reduceMul, Nat.reduceLT, Int.reduceToNat]) (by simp -implicitDefEqProofs (maxSteps := 2000000) only [k5, wk, act, asV, ↓reduceIte, Nat.reduceEqDiff, reduceCtorEq, Nat.reduceAdd, Nat.reduceLeDiff, Nat.reduceSub, Nat.reduceMul, List.reduceReplicate, Int.reduceEq, Int.reduceLT, Int.reduceLE, Int.reduceAdd, Int.reduceSub, Int.reduceMul, Nat.reduceLT, Int.reduceToNat]) (by simp -implicitDefEqProofs (maxSteps := 2000000) only [g5, wk, act, asV, ↓reduceIte, Nat.reduceEqDiff, reduceCtorEq, Nat.reduceAdd, Nat.reduceLeDiff, Nat.reduceSub, Nat.reduceMul, List.reduceReplicate, Int.reduceEq, Int.reduceLT, Int.reduceLE, Int.reduceAdd, Int.reduceSub, Int.reduceMul, Nat.reduceLT, Int.reduceToNat]) (by simp -implicitDefEqProofs (maxSteps := 2000000) only [k7, wk, act, asV, ↓reduceIte, Nat.reduceEqDiff, reduceCtorEq, Nat.reduceAdd, Nat.reduceLeDiff, Nat.reduceSub, Nat.reduceMul, List.reduceReplicate, Int.reduceEq, Int.reduceLT, Int.reduceLE, Int.reduceAdd, Int.reduceSub, Int.reduceMul, Nat.reduceLT, Int.reduceToNat]) o1
end Go.Proofs.YtilbipknodpmmaaDoor
