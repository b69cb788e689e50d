/- The law QueueOrder. -/
import Derived.Test.YtilbipknodpmmaaDoorW5
import Derived.Test.YtilbipknodpmmaaDoorM39
import Derived.Test.YtilbipknodpmmaaDoorE31
set_option linter.unusedVariables false
set_option linter.unusedSimpArgs false
set_option linter.unusedSectionVars false
set_option maxRecDepth 100000
set_option maxHeartbeats 8000000
namespace Go.Proofs.YtilbipknodpmmaaDoor
open Go.RowKit

def bo (l : List Bool) : List IV := l.map .bool
theorem bo_length (l : List Bool) : (bo l).length = l.length := by simp [bo]
theorem drop_bo {l : List Bool} {i : Nat} (h : i < l.length) : (bo l).drop i = .bool l[i] :: (bo l).drop (i + 1) := by
  show List.drop i (l.map IV.bool) = _
  rw [← List.map_drop, List.drop_eq_getElem_cons h, List.map_cons, List.map_drop]; rfl
def mkI (id : Int) : It := ⟨id, 1, [], 0, zs 32⟩
theorem mkI_ok (id : Int) : (mkI id).Ok := ⟨rfl, by show (0 : Nat) < _; omega⟩
theorem mkIs_ok (l : List Int) : ∀ x ∈ l.map mkI, x.Ok := fun x h => by
  obtain ⟨a, _, rfl⟩ := List.mem_map.1 h
  exact mkI_ok a
theorem ids_mkI (l : List Int) : idsL (l.map mkI) = l := by simp [idsL, mkI, Function.comp_def]
theorem mkI_placed (id : Int) : placed [IV.int .i64 0, IV.int .i64 0, IV.str [], IV.int .i64 0, IV.int .u8 0, IV.int .u8 0, IV.int .u8 0, IV.int .u8 0, IV.int .u8 0, IV.int .u8 0, IV.int .u8 0, IV.int .u8 0, IV.int .u8 0, IV.int .u8 0, IV.int .u8 0, IV.int .u8 0, IV.int .u8 0, IV.int .u8 0, IV.int .u8 0, IV.int .u8 0, IV.int .u8 0, IV.int .u8 0, IV.int .u8 0, IV.int .u8 0, IV.int .u8 0, IV.int .u8 0, IV.int .u8 0, IV.int .u8 0, IV.int .u8 0, IV.int .u8 0, IV.int .u8 0, IV.int .u8 0, IV.int .u8 0, IV.int .u8 0, IV.int .u8 0, IV.int .u8 0] [(0, [.int .i64 id]), (1, [.int .i64 1])] = some (itC (mkI id)) := rfl
theorem RowI.fr {x : Nat} {H H' : Nat → Blk} {v : IV} {l : List Int} (h : RowI x H v l) (e : H' x = H x) : RowI x H' v l := by
  rcases h with ⟨a, b⟩ | ⟨a, ver, b, c⟩
  · exact .inl ⟨a, b⟩
  · exact .inr ⟨a, ver, b, e.trans c⟩
structure QS (s : St) (ids : List Int) (pops : List Bool) (i v5 : Nat) (q : List It) (A B : List Int) : Prop where
  k0 : s.t 0 = .sl .plain ids.length (il ids)
  k1 : s.t 1 = .sl .plain pops.length (bo pops)
  k5 : s.t 5 = .ptr 24 0 v5
  k8 : s.t 8 = .int .i64 (i : Nat)
  ko : ObjQ 24 v5 1024 s.h q
  k6 : RowI 56 s.h (s.t 6) A
  k7 : RowI 77 s.h (s.t 7) B
variable {s : St} {ids : List Int} {pops : List Bool} {i v5 : Nat} {q : List It} {A B : List Int} {Q : Ex → St → Prop}
theorem qo_A {e : Int} (h : QS s ids pops i v5 q A B) (k9 : s.t 9 = .int .i64 e) (hab : B.length ≤ A.length) (hA : A.length < 2 ^ 30) (he : (e = 0) ↔ A.length - B.length < 4) (hQ : ∀ s', QS s' ids pops i v5 q A B → s'.t 9 = .int .i64 e → Wp (RCs Tryd.prog) m9_18 Q s') : Wp (RCs Tryd.prog) m9_19 Q s := by
  have k6 := h.k6
  have k7 := h.k7
  have hd : (decide (e = 0) != decide (((A.length - B.length : Nat) : Int) < 4)) = false := by
    have : decide (e = 0) = decide (((A.length - B.length : Nat) : Int) < 4) := by
      apply decide_eq_decide.2; rw [he]; omega
    rw [this]; cases decide (((A.length - B.length : Nat) : Int) < 4) <;> rfl
  have hd2 : (!(decide (e = 0) == decide (((A.length - B.length : Nat) : Int) < 4))) = false := hd
  have wl : IntKind.i64.wrap (((A.length : Nat) : Int) - ((B.length : Nat) : Int)) = ((A.length - B.length : Nat) : Int) := by rw [IntKind.wrap_i64]; omega
  rcases k6 with ⟨a0, k6⟩ | ⟨a0, w6, k6, h6⟩ <;> rcases k7 with ⟨b0, k7⟩ | ⟨b0, w7, k7, h7⟩
  · have la : A.length = 0 := by rw [a0]; rfl
    have lb : B.length = 0 := by rw [b0]; rfl
    rw [la, lb] at wl hd2
    have wl' : IntKind.i64.wrap 0 = 0 := by decide
    have hd3 : (!(decide (e = 0) == true)) = false := hd2
    simp -implicitDefEqProofs (maxSteps := 2000000) only [m9_19, m9_3, k9, k6, k7, wl', hd3, List.length_nil, wk, act, asV, ↓reduceIte, Nat.reduceEqDiff, reduceCtorEq, Nat.reduceAdd, Nat.reduceLeDiff, Nat.reduceSub, Nat.reduceMul, List.reduceReplicate, Int.reduceEq, Int.reduceLT, Int.reduceLE, Int.reduceAdd, Int.reduceSub, Int.reduceMul, Nat.reduceLT, Int.reduceToNat]
    exact hQ _ ⟨h.k0, h.k1, h.k5, h.k8, h.ko, h.k6, h.k7⟩ k9
  · have la : A.length = 0 := by rw [a0]; rfl
    omega
  · have lb : B.length = 0 := by rw [b0]; rfl
    rw [lb] at wl hd2
    have wl' : IntKind.i64.wrap (((A.length : Nat) : Int) - 0) = ((A.length : Nat) : Int) := wl
    have hd3 : (!(decide (e = 0) == decide (((A.length : Nat) : Int) < 4))) = false := hd2
    simp -implicitDefEqProofs (maxSteps := 2000000) only [m9_19, m9_3, k9, k6, k7, h6, wl', hd3, List.length_nil, wk, act, asV, ↓reduceIte, Nat.reduceEqDiff, reduceCtorEq, Nat.reduceAdd, Nat.reduceLeDiff, Nat.reduceSub, Nat.reduceMul, List.reduceReplicate, Int.reduceEq, Int.reduceLT, Int.reduceLE, Int.reduceAdd, Int.reduceSub, Int.reduceMul, Nat.reduceLT, Int.reduceToNat]
    exact hQ _ ⟨h.k0, h.k1, h.k5, h.k8, h.ko, h.k6, h.k7⟩ k9
  · simp -implicitDefEqProofs (maxSteps := 2000000) only [m9_19, m9_3, k9, k6, k7, h6, h7, wl, hd2, wk, act, asV, ↓reduceIte, Nat.reduceEqDiff, reduceCtorEq, Nat.reduceAdd, Nat.reduceLeDiff, Nat.reduceSub, Nat.reduceMul, List.reduceReplicate, Int.reduceEq, Int.reduceLT, Int.reduceLE, Int.reduceAdd, Int.reduceSub, Int.reduceMul, Nat.reduceLT, Int.reduceToNat]
    exact hQ _ ⟨h.k0, h.k1, h.k5, h.k8, h.ko, h.k6, h.k7⟩ k9
theorem RowI.nil {x : Nat} {H : Nat → Blk} : RowI x H (.sl .full 0 []) [] := .inl ⟨rfl, rfl⟩
theorem qo_B {e : Int} (h : QS s ids pops i v5 q A B) (hi : i < ids.length) (k9 : s.t 9 = .int .i64 e) (hA : A.length < 2 ^ 30) (hQ : ∀ s', QS s' ids pops i v5 q (if e = 0 then A ++ [ids[i]] else A) B → Wp (RCs Tryd.prog) m9_17 Q s') : Wp (RCs Tryd.prog) m9_18 Q s := by
  have k6 := h.k6
  have hi' : (i : Int) < ids.length := by omega
  have di := drop_il hi
  have li := il_length ids
  have b1 : i + 1 ≤ ids.length := by omega
  have r1 : roomy 1 8 = true := by decide
  have r2 : roomy (A.length + 1) 8 = true := roomy8 (by omega)
  have lA := il_length A
  by_cases h0 : e = 0
  · rw [if_pos h0] at hQ
    obtain ⟨x, hx⟩ : ∃ x, x = ids[i] := ⟨_, rfl⟩
    rw [← hx] at di hQ
    have eA : il A ++ [.int .i64 x] = il (A ++ [x]) := by simp [il]
    rcases k6 with ⟨a0, k6⟩ | ⟨a0, w6, k6, h6⟩
    · have e' : [IV.int .i64 x] = il (A ++ [x]) := by rw [a0]; rfl
      simp -implicitDefEqProofs (maxSteps := 2000000) only [m9_18, m9_5, m9_4, k9, h0, k6, h.k0, h.k8, hi', di, li, b1, r1, wk, act, asV, ↓reduceIte, Nat.reduceEqDiff, reduceCtorEq, Nat.reduceAdd, Nat.reduceLeDiff, Nat.reduceSub, Nat.reduceMul, List.reduceReplicate, Int.reduceEq, Int.reduceLT, Int.reduceLE, Int.reduceAdd, Int.reduceSub, Int.reduceMul, Nat.reduceLT, Int.reduceToNat]
      refine hQ _ ⟨h.k0, h.k1, h.k5, h.k8, h.ko.fr (by simp -implicitDefEqProofs (maxSteps := 2000000) only [wk, act, asV, ↓reduceIte, Nat.reduceEqDiff, reduceCtorEq, Nat.reduceAdd, Nat.reduceLeDiff, Nat.reduceSub, Nat.reduceMul, List.reduceReplicate, Int.reduceEq, Int.reduceLT, Int.reduceLE, Int.reduceAdd, Int.reduceSub, Int.reduceMul, Nat.reduceLT, Int.reduceToNat]) (by simp -implicitDefEqProofs (maxSteps := 2000000) only [wk, act, asV, ↓reduceIte, Nat.reduceEqDiff, reduceCtorEq, Nat.reduceAdd, Nat.reduceLeDiff, Nat.reduceSub, Nat.reduceMul, List.reduceReplicate, Int.reduceEq, Int.reduceLT, Int.reduceLE, Int.reduceAdd, Int.reduceSub, Int.reduceMul, Nat.reduceLT, Int.reduceToNat]), .inr ⟨by simp, _, by rw [a0]; rfl, ?_⟩, h.k7.fr (by simp -implicitDefEqProofs (maxSteps := 2000000) only [wk, act, asV, ↓reduceIte, Nat.reduceEqDiff, reduceCtorEq, Nat.reduceAdd, Nat.reduceLeDiff, Nat.reduceSub, Nat.reduceMul, List.reduceReplicate, Int.reduceEq, Int.reduceLT, Int.reduceLE, Int.reduceAdd, Int.reduceSub, Int.reduceMul, Nat.reduceLT, Int.reduceToNat])⟩
      simp -implicitDefEqProofs (maxSteps := 2000000) only [e', wk, act, asV, ↓reduceIte, Nat.reduceEqDiff, reduceCtorEq, Nat.reduceAdd, Nat.reduceLeDiff, Nat.reduceSub, Nat.reduceMul, List.reduceReplicate, Int.reduceEq, Int.reduceLT, Int.reduceLE, Int.reduceAdd, Int.reduceSub, Int.reduceMul, Nat.reduceLT, Int.reduceToNat]
    · simp -implicitDefEqProofs (maxSteps := 2000000) only [m9_18, m9_5, m9_4, k9, h0, k6, h6, h.k0, h.k8, hi', di, li, b1, r2, lA, wk, act, asV, ↓reduceIte, Nat.reduceEqDiff, reduceCtorEq, Nat.reduceAdd, Nat.reduceLeDiff, Nat.reduceSub, Nat.reduceMul, List.reduceReplicate, Int.reduceEq, Int.reduceLT, Int.reduceLE, Int.reduceAdd, Int.reduceSub, Int.reduceMul, Nat.reduceLT, Int.reduceToNat]
      refine hQ _ ⟨h.k0, h.k1, h.k5, h.k8, h.ko.fr (by simp -implicitDefEqProofs (maxSteps := 2000000) only [wk, act, asV, ↓reduceIte, Nat.reduceEqDiff, reduceCtorEq, Nat.reduceAdd, Nat.reduceLeDiff, Nat.reduceSub, Nat.reduceMul, List.reduceReplicate, Int.reduceEq, Int.reduceLT, Int.reduceLE, Int.reduceAdd, Int.reduceSub, Int.reduceMul, Nat.reduceLT, Int.reduceToNat]) (by simp -implicitDefEqProofs (maxSteps := 2000000) only [wk, act, asV, ↓reduceIte, Nat.reduceEqDiff, reduceCtorEq, Nat.reduceAdd, Nat.reduceLeDiff, Nat.reduceSub, Nat.reduceMul, List.reduceReplicate, Int.reduceEq, Int.reduceLT, Int.reduceLE, Int.reduceAdd, Int.reduceSub, Int.reduceMul, Nat.reduceLT, Int.reduceToNat]), .inr ⟨by simp, _, by rw [List.length_append]; rfl, ?_⟩, h.k7.fr (by simp -implicitDefEqProofs (maxSteps := 2000000) only [wk, act, asV, ↓reduceIte, Nat.reduceEqDiff, reduceCtorEq, Nat.reduceAdd, Nat.reduceLeDiff, Nat.reduceSub, Nat.reduceMul, List.reduceReplicate, Int.reduceEq, Int.reduceLT, Int.reduceLE, Int.reduceAdd, Int.reduceSub, Int.reduceMul, Nat.reduceLT, Int.reduceToNat])⟩
      simp -implicitDefEqProofs (maxSteps := 2000000) only [eA, wk, act, asV, ↓reduceIte, Nat.reduceEqDiff, reduceCtorEq, Nat.reduceAdd, Nat.reduceLeDiff, Nat.reduceSub, Nat.reduceMul, List.reduceReplicate, Int.reduceEq, Int.reduceLT, Int.reduceLE, Int.reduceAdd, Int.reduceSub, Int.reduceMul, Nat.reduceLT, Int.reduceToNat]
  · rw [if_neg h0] at hQ
    simp -implicitDefEqProofs (maxSteps := 2000000) only [m9_18, m9_5, k9, h0, wk, act, asV, ↓reduceIte, Nat.reduceEqDiff, reduceCtorEq, Nat.reduceAdd, Nat.reduceLeDiff, Nat.reduceSub, Nat.reduceMul, List.reduceReplicate, Int.reduceEq, Int.reduceLT, Int.reduceLE, Int.reduceAdd, Int.reduceSub, Int.reduceMul, Nat.reduceLT, Int.reduceToNat]
    exact hQ _ ⟨h.k0, h.k1, h.k5, h.k8, h.ko, h.k6, h.k7⟩
theorem qo_C {y : Int} {q' : List It} (h : QS s ids pops i v5 (mkI y :: q') A B) (hq : ∀ x ∈ q', x.Ok) (hi : i < pops.length) (hB : B.length < 2 ^ 30) (hQ : ∀ s', QS s' ids pops i v5 (if pops[i] = true then q' else mkI y :: q') A (if pops[i] = true then B ++ [y] else B) → Wp (RCs Tryd.prog) m9_16 Q s') : Wp (RCs Tryd.prog) m9_17 Q s := by
  have k7 := h.k7
  have hi' : (i : Int) < pops.length := by omega
  have di := drop_bo hi
  have li := bo_length pops
  have b1 : i + 1 ≤ pops.length := by omega
  have r1 : roomy 1 8 = true := by decide
  have r2 : roomy (B.length + 1) 8 = true := roomy8 (by omega)
  have lB := il_length B
  have hok : ∀ x ∈ mkI y :: q', x.Ok := by
    intro x hx
    rcases List.mem_cons.1 hx with rfl | hx
    · exact mkI_ok y
    · exact hq x hx
  cases hp : pops[i] with
  | false =>
    rw [hp] at di hQ
    simp only [Bool.false_eq_true, if_false] at hQ
    simp -implicitDefEqProofs (maxSteps := 2000000) only [m9_17, m9_12, h.k1, h.k8, hi', di, li, b1, wk, act, asV, ↓reduceIte, Nat.reduceEqDiff, reduceCtorEq, Nat.reduceAdd, Nat.reduceLeDiff, Nat.reduceSub, Nat.reduceMul, List.reduceReplicate, Int.reduceEq, Int.reduceLT, Int.reduceLE, Int.reduceAdd, Int.reduceSub, Int.reduceMul, Nat.reduceLT, Int.reduceToNat]
    exact hQ _ ⟨h.k0, h.k1, h.k5, h.k8, h.ko, h.k6, h.k7⟩
  | true =>
    rw [hp] at di hQ
    simp only [if_true] at hQ
    have l0 := itC_length (mkI_ok y)
    have t0 : List.take 36 (itC (mkI y)) = itC (mkI y) := rfl
    have d0 : List.drop 36 (itC (mkI y)) = [] := rfl
    have s0 := itC_scal (mkI y)
    have t1 : List.take 1 (itC (mkI y)) = [.int .i64 y] := rfl
    have hh : (mkI y :: q').headD it0 = mkI y := rfl
    have he : (!(mkI y :: q').isEmpty) = true := rfl
    have ht : (mkI y :: q').tail = q' := rfl
    have b36 : 1 ≤ (itC (mkI y)).length := by omega
    have eB : il B ++ [.int .i64 y] = il (B ++ [y]) := by simp [il]
    simp -implicitDefEqProofs (maxSteps := 2000000) only [m9_17, m9_12, m9_11, m9_6, h.k1, h.k8, h.k5, hi', di, li, b1, wk, act, asV, ↓reduceIte, Nat.reduceEqDiff, reduceCtorEq, Nat.reduceAdd, Nat.reduceLeDiff, Nat.reduceSub, Nat.reduceMul, List.reduceReplicate, Int.reduceEq, Int.reduceLT, Int.reduceLE, Int.reduceAdd, Int.reduceSub, Int.reduceMul, Nat.reduceLT, Int.reduceToNat]
    refine CallnL.of (by simp -implicitDefEqProofs (maxSteps := 2000000) only [h.k5, wk, act, asV, ↓reduceIte, Nat.reduceEqDiff, reduceCtorEq, Nat.reduceAdd, Nat.reduceLeDiff, Nat.reduceSub, Nat.reduceMul, List.reduceReplicate, Int.reduceEq, Int.reduceLT, Int.reduceLE, Int.reduceAdd, Int.reduceSub, Int.reduceMul, Nat.reduceLT, Int.reduceToNat]; first | done | rfl) (qhead_ok (h := 24) (by decide) hok (h.ko.fr (by simp -implicitDefEqProofs (maxSteps := 2000000) only [wk, act, asV, ↓reduceIte, Nat.reduceEqDiff, reduceCtorEq, Nat.reduceAdd, Nat.reduceLeDiff, Nat.reduceSub, Nat.reduceMul, List.reduceReplicate, Int.reduceEq, Int.reduceLT, Int.reduceLE, Int.reduceAdd, Int.reduceSub, Int.reduceMul, Nat.reduceLT, Int.reduceToNat]) (by simp -implicitDefEqProofs (maxSteps := 2000000) only [wk, act, asV, ↓reduceIte, Nat.reduceEqDiff, reduceCtorEq, Nat.reduceAdd, Nat.reduceLeDiff, Nat.reduceSub, Nat.reduceMul, List.reduceReplicate, Int.reduceEq, Int.reduceLT, Int.reduceLE, Int.reduceAdd, Int.reduceSub, Int.reduceMul, Nat.reduceLT, Int.reduceToNat]))) ?_
    rintro _ h1 ⟨rfl, fr1⟩
    have o1 := h.ko.fr (fr1 24 (by decide)) (fr1 1024 (by decide))
    rw [hh, he]
    simp -implicitDefEqProofs (maxSteps := 2000000) only [l0, t0, d0, s0, m9_10, m9_7, m9_8, m9_9, h.k5, wk, act, asV, ↓reduceIte, Nat.reduceEqDiff, reduceCtorEq, Nat.reduceAdd, Nat.reduceLeDiff, Nat.reduceSub, Nat.reduceMul, List.reduceReplicate, Int.reduceEq, Int.reduceLT, Int.reduceLE, Int.reduceAdd, Int.reduceSub, Int.reduceMul, Nat.reduceLT, Int.reduceToNat]
    refine CallnL.of (by simp -implicitDefEqProofs (maxSteps := 2000000) only [h.k5, wk, act, asV, ↓reduceIte, Nat.reduceEqDiff, reduceCtorEq, Nat.reduceAdd, Nat.reduceLeDiff, Nat.reduceSub, Nat.reduceMul, List.reduceReplicate, Int.reduceEq, Int.reduceLT, Int.reduceLE, Int.reduceAdd, Int.reduceSub, Int.reduceMul, Nat.reduceLT, Int.reduceToNat]; first | done | rfl) (qpop_ok (h := 24) (by decide) hok (o1.fr (by simp -implicitDefEqProofs (maxSteps := 2000000) only [wk, act, asV, ↓reduceIte, Nat.reduceEqDiff, reduceCtorEq, Nat.reduceAdd, Nat.reduceLeDiff, Nat.reduceSub, Nat.reduceMul, List.reduceReplicate, Int.reduceEq, Int.reduceLT, Int.reduceLE, Int.reduceAdd, Int.reduceSub, Int.reduceMul, Nat.reduceLT, Int.reduceToNat]) (by simp -implicitDefEqProofs (maxSteps := 2000000) only [wk, act, asV, ↓reduceIte, Nat.reduceEqDiff, reduceCtorEq, Nat.reduceAdd, Nat.reduceLeDiff, Nat.reduceSub, Nat.reduceMul, List.reduceReplicate, Int.reduceEq, Int.reduceLT, Int.reduceLE, Int.reduceAdd, Int.reduceSub, Int.reduceMul, Nat.reduceLT, Int.reduceToNat]))) ?_
    rintro _ h2 ⟨rfl, o2, fr2⟩
    rw [ht] at o2
    have g10 := fr2 10 (by decide)
    simp -implicitDefEqProofs (maxSteps := 2000000) only [l0, t0, d0, wk, act, asV, ↓reduceIte, Nat.reduceEqDiff, reduceCtorEq, Nat.reduceAdd, Nat.reduceLeDiff, Nat.reduceSub, Nat.reduceMul, List.reduceReplicate, Int.reduceEq, Int.reduceLT, Int.reduceLE, Int.reduceAdd, Int.reduceSub, Int.reduceMul, Nat.reduceLT, Int.reduceToNat] at g10
    rcases k7 with ⟨b0, k7⟩ | ⟨b0, w7, k7, h7⟩
    · have e' : [IV.int .i64 y] = il (B ++ [y]) := by rw [b0]; rfl
      simp -implicitDefEqProofs (maxSteps := 2000000) only [he, l0, t0, t1, b36, g10, m9_7, m9_8, m9_9, k7, r1, wk, act, asV, ↓reduceIte, Nat.reduceEqDiff, reduceCtorEq, Nat.reduceAdd, Nat.reduceLeDiff, Nat.reduceSub, Nat.reduceMul, List.reduceReplicate, Int.reduceEq, Int.reduceLT, Int.reduceLE, Int.reduceAdd, Int.reduceSub, Int.reduceMul, Nat.reduceLT, Int.reduceToNat]
      refine hQ _ ⟨h.k0, h.k1, h.k5, h.k8, o2.fr (by simp -implicitDefEqProofs (maxSteps := 2000000) only [wk, act, asV, ↓reduceIte, Nat.reduceEqDiff, reduceCtorEq, Nat.reduceAdd, Nat.reduceLeDiff, Nat.reduceSub, Nat.reduceMul, List.reduceReplicate, Int.reduceEq, Int.reduceLT, Int.reduceLE, Int.reduceAdd, Int.reduceSub, Int.reduceMul, Nat.reduceLT, Int.reduceToNat]) (by simp -implicitDefEqProofs (maxSteps := 2000000) only [wk, act, asV, ↓reduceIte, Nat.reduceEqDiff, reduceCtorEq, Nat.reduceAdd, Nat.reduceLeDiff, Nat.reduceSub, Nat.reduceMul, List.reduceReplicate, Int.reduceEq, Int.reduceLT, Int.reduceLE, Int.reduceAdd, Int.reduceSub, Int.reduceMul, Nat.reduceLT, Int.reduceToNat]), h.k6.fr ?_, .inr ⟨by simp, _, by rw [b0]; rfl, ?_⟩⟩
      · simp -implicitDefEqProofs (maxSteps := 2000000) only [fr2 56 (by decide), fr1 56 (by decide), wk, act, asV, ↓reduceIte, Nat.reduceEqDiff, reduceCtorEq, Nat.reduceAdd, Nat.reduceLeDiff, Nat.reduceSub, Nat.reduceMul, List.reduceReplicate, Int.reduceEq, Int.reduceLT, Int.reduceLE, Int.reduceAdd, Int.reduceSub, Int.reduceMul, Nat.reduceLT, Int.reduceToNat]
      · simp -implicitDefEqProofs (maxSteps := 2000000) only [e', wk, act, asV, ↓reduceIte, Nat.reduceEqDiff, reduceCtorEq, Nat.reduceAdd, Nat.reduceLeDiff, Nat.reduceSub, Nat.reduceMul, List.reduceReplicate, Int.reduceEq, Int.reduceLT, Int.reduceLE, Int.reduceAdd, Int.reduceSub, Int.reduceMul, Nat.reduceLT, Int.reduceToNat]
    · have g77 := (fr2 77 (by decide)).trans (((by simp -implicitDefEqProofs (maxSteps := 2000000) only [wk, act, asV, ↓reduceIte, Nat.reduceEqDiff, reduceCtorEq, Nat.reduceAdd, Nat.reduceLeDiff, Nat.reduceSub, Nat.reduceMul, List.reduceReplicate, Int.reduceEq, Int.reduceLT, Int.reduceLE, Int.reduceAdd, Int.reduceSub, Int.reduceMul, Nat.reduceLT, Int.reduceToNat]) : _ = h1 77).trans ((fr1 77 (by decide)).trans h7))
      simp -implicitDefEqProofs (maxSteps := 2000000) only [he, l0, t0, t1, b36, g10, g77, m9_7, m9_8, m9_9, k7, r2, lB, wk, act, asV, ↓reduceIte, Nat.reduceEqDiff, reduceCtorEq, Nat.reduceAdd, Nat.reduceLeDiff, Nat.reduceSub, Nat.reduceMul, List.reduceReplicate, Int.reduceEq, Int.reduceLT, Int.reduceLE, Int.reduceAdd, Int.reduceSub, Int.reduceMul, Nat.reduceLT, Int.reduceToNat]
      refine hQ _ ⟨h.k0, h.k1, h.k5, h.k8, o2.fr (by simp -implicitDefEqProofs (maxSteps := 2000000) only [wk, act, asV, ↓reduceIte, Nat.reduceEqDiff, reduceCtorEq, Nat.reduceAdd, Nat.reduceLeDiff, Nat.reduceSub, Nat.reduceMul, List.reduceReplicate, Int.reduceEq, Int.reduceLT, Int.reduceLE, Int.reduceAdd, Int.reduceSub, Int.reduceMul, Nat.reduceLT, Int.reduceToNat]) (by simp -implicitDefEqProofs (maxSteps := 2000000) only [wk, act, asV, ↓reduceIte, Nat.reduceEqDiff, reduceCtorEq, Nat.reduceAdd, Nat.reduceLeDiff, Nat.reduceSub, Nat.reduceMul, List.reduceReplicate, Int.reduceEq, Int.reduceLT, Int.reduceLE, Int.reduceAdd, Int.reduceSub, Int.reduceMul, Nat.reduceLT, Int.reduceToNat]), h.k6.fr ?_, .inr ⟨by simp, _, by rw [List.length_append]; rfl, ?_⟩⟩
      · simp -implicitDefEqProofs (maxSteps := 2000000) only [fr2 56 (by decide), fr1 56 (by decide), wk, act, asV, ↓reduceIte, Nat.reduceEqDiff, reduceCtorEq, Nat.reduceAdd, Nat.reduceLeDiff, Nat.reduceSub, Nat.reduceMul, List.reduceReplicate, Int.reduceEq, Int.reduceLT, Int.reduceLE, Int.reduceAdd, Int.reduceSub, Int.reduceMul, Nat.reduceLT, Int.reduceToNat]
      · simp -implicitDefEqProofs (maxSteps := 2000000) only [eB, wk, act, asV, ↓reduceIte, Nat.reduceEqDiff, reduceCtorEq, Nat.reduceAdd, Nat.reduceLeDiff, Nat.reduceSub, Nat.reduceMul, List.reduceReplicate, Int.reduceEq, Int.reduceLT, Int.reduceLE, Int.reduceAdd, Int.reduceSub, Int.reduceMul, Nat.reduceLT, Int.reduceToNat]
theorem qo_D (h : QS s ids pops i v5 q A B) (hab : B.length + q.length = A.length) (hA : A.length < 2 ^ 30) (h4 : q.length ≤ 4) (hQ : ∀ s', QS s' ids pops i v5 q A B → Q .normal s') : Wp (RCs Tryd.prog) m9_16 Q s := by
  have k6 := h.k6
  have k7 := h.k7
  have wl : IntKind.i64.wrap (((A.length : Nat) : Int) - ((B.length : Nat) : Int)) = ((q.length : Nat) : Int) := by rw [IntKind.wrap_i64]; omega
  have h4' : ¬ (4 : Int) < ((q.length : Nat) : Int) := by omega
  simp -implicitDefEqProofs (maxSteps := 2000000) only [m9_16, h.k5, wk, act, asV, ↓reduceIte, Nat.reduceEqDiff, reduceCtorEq, Nat.reduceAdd, Nat.reduceLeDiff, Nat.reduceSub, Nat.reduceMul, List.reduceReplicate, Int.reduceEq, Int.reduceLT, Int.reduceLE, Int.reduceAdd, Int.reduceSub, Int.reduceMul, Nat.reduceLT, Int.reduceToNat]
  refine CallnL.of (by simp -implicitDefEqProofs (maxSteps := 2000000) only [h.k5, wk, act, asV, ↓reduceIte, Nat.reduceEqDiff, reduceCtorEq, Nat.reduceAdd, Nat.reduceLeDiff, Nat.reduceSub, Nat.reduceMul, List.reduceReplicate, Int.reduceEq, Int.reduceLT, Int.reduceLE, Int.reduceAdd, Int.reduceSub, Int.reduceMul, Nat.reduceLT, Int.reduceToNat]; first | done | rfl) (qlen_ok h.ko) ?_
  rintro _ _ ⟨rfl, rfl⟩
  rcases k6 with ⟨a0, k6⟩ | ⟨a0, w6, k6, h6⟩ <;> rcases k7 with ⟨b0, k7⟩ | ⟨b0, w7, k7, h7⟩
  · have la : A.length = 0 := by rw [a0]; rfl
    have lb : B.length = 0 := by rw [b0]; rfl
    have lq : q.length = 0 := by omega
    have wl' : IntKind.i64.wrap 0 = 0 := by decide
    simp -implicitDefEqProofs (maxSteps := 2000000) only [m9_14, m9_13, m9_15, k6, k7, wl', lq, h.k5, wk, act, asV, ↓reduceIte, Nat.reduceEqDiff, reduceCtorEq, Nat.reduceAdd, Nat.reduceLeDiff, Nat.reduceSub, Nat.reduceMul, List.reduceReplicate, Int.reduceEq, Int.reduceLT, Int.reduceLE, Int.reduceAdd, Int.reduceSub, Int.reduceMul, Nat.reduceLT, Int.reduceToNat]
    refine CallnL.of (by simp -implicitDefEqProofs (maxSteps := 2000000) only [h.k5, wk, act, asV, ↓reduceIte, Nat.reduceEqDiff, reduceCtorEq, Nat.reduceAdd, Nat.reduceLeDiff, Nat.reduceSub, Nat.reduceMul, List.reduceReplicate, Int.reduceEq, Int.reduceLT, Int.reduceLE, Int.reduceAdd, Int.reduceSub, Int.reduceMul, Nat.reduceLT, Int.reduceToNat]; first | done | rfl) (qlen_ok h.ko) ?_
    rintro _ _ ⟨rfl, rfl⟩
    simp -implicitDefEqProofs (maxSteps := 2000000) only [lq, m9_13, m9_15, wk, act, asV, ↓reduceIte, Nat.reduceEqDiff, reduceCtorEq, Nat.reduceAdd, Nat.reduceLeDiff, Nat.reduceSub, Nat.reduceMul, List.reduceReplicate, Int.reduceEq, Int.reduceLT, Int.reduceLE, Int.reduceAdd, Int.reduceSub, Int.reduceMul, Nat.reduceLT, Int.reduceToNat]
    exact hQ _ ⟨h.k0, h.k1, h.k5, h.k8, h.ko, h.k6, h.k7⟩
  · have la : A.length = 0 := by rw [a0]; rfl
    omega
  · have lb : B.length = 0 := by rw [b0]; rfl
    rw [lb] at wl
    have wl' : IntKind.i64.wrap (((A.length : Nat) : Int) - 0) = ((q.length : Nat) : Int) := wl
    simp -implicitDefEqProofs (maxSteps := 2000000) only [m9_14, m9_13, m9_15, k6, k7, h6, wl', h.k5, wk, act, asV, ↓reduceIte, Nat.reduceEqDiff, reduceCtorEq, Nat.reduceAdd, Nat.reduceLeDiff, Nat.reduceSub, Nat.reduceMul, List.reduceReplicate, Int.reduceEq, Int.reduceLT, Int.reduceLE, Int.reduceAdd, Int.reduceSub, Int.reduceMul, Nat.reduceLT, Int.reduceToNat]
    refine CallnL.of (by simp -implicitDefEqProofs (maxSteps := 2000000) only [h.k5, wk, act, asV, ↓reduceIte, Nat.reduceEqDiff, reduceCtorEq, Nat.reduceAdd, Nat.reduceLeDiff, Nat.reduceSub, Nat.reduceMul, List.reduceReplicate, Int.reduceEq, Int.reduceLT, Int.reduceLE, Int.reduceAdd, Int.reduceSub, Int.reduceMul, Nat.reduceLT, Int.reduceToNat]; first | done | rfl) (qlen_ok h.ko) ?_
    rintro _ _ ⟨rfl, rfl⟩
    simp -implicitDefEqProofs (maxSteps := 2000000) only [m9_13, m9_15, h4', wk, act, asV, ↓reduceIte, Nat.reduceEqDiff, reduceCtorEq, Nat.reduceAdd, Nat.reduceLeDiff, Nat.reduceSub, Nat.reduceMul, List.reduceReplicate, Int.reduceEq, Int.reduceLT, Int.reduceLE, Int.reduceAdd, Int.reduceSub, Int.reduceMul, Nat.reduceLT, Int.reduceToNat]
    exact hQ _ ⟨h.k0, h.k1, h.k5, h.k8, h.ko, h.k6, h.k7⟩
  · simp -implicitDefEqProofs (maxSteps := 2000000) only [m9_14, m9_13, m9_15, k6, k7, h6, h7, wl, h.k5, wk, act, asV, ↓reduceIte, Nat.reduceEqDiff, reduceCtorEq, Nat.reduceAdd, Nat.reduceLeDiff, Nat.reduceSub, Nat.reduceMul, List.reduceReplicate, Int.reduceEq, Int.reduceLT, Int.reduceLE, Int.reduceAdd, Int.reduceSub, Int.reduceMul, Nat.reduceLT, Int.reduceToNat]
    refine CallnL.of (by simp -implicitDefEqProofs (maxSteps := 2000000) only [h.k5, wk, act, asV, ↓reduceIte, Nat.reduceEqDiff, reduceCtorEq, Nat.reduceAdd, Nat.reduceLeDiff, Nat.reduceSub, Nat.reduceMul, List.reduceReplicate, Int.reduceEq, Int.reduceLT, Int.reduceLE, Int.reduceAdd, Int.reduceSub, Int.reduceMul, Nat.reduceLT, Int.reduceToNat]; first | done | rfl) (qlen_ok h.ko) ?_
    rintro _ _ ⟨rfl, rfl⟩
    simp -implicitDefEqProofs (maxSteps := 2000000) only [m9_13, m9_15, h4', wk, act, asV, ↓reduceIte, Nat.reduceEqDiff, reduceCtorEq, Nat.reduceAdd, Nat.reduceLeDiff, Nat.reduceSub, Nat.reduceMul, List.reduceReplicate, Int.reduceEq, Int.reduceLT, Int.reduceLE, Int.reduceAdd, Int.reduceSub, Int.reduceMul, Nat.reduceLT, Int.reduceToNat]
    exact hQ _ ⟨h.k0, h.k1, h.k5, h.k8, h.ko, h.k6, h.k7⟩
theorem queueOrder (ids : List Int) (pops : List Bool) (hn : ids.length < 2 ^ 63) (hm : pops.length < 2 ^ 63) : RC Tryd.prog 9 [.sl .plain ids.length (il ids), .sl .plain pops.length (bo pops)] [.bool true] := by
  refine RC.of_wp c9 rfl ?_
  by_cases h1 : (100 : Int) < ids.length
  · repeat' (first | simp -implicitDefEqProofs (maxSteps := 2000000) only [m9_1, m9_2, m9_3, m9_4, m9_5, m9_6, m9_7, m9_8, m9_9, m9_10, m9_11, m9_12, m9_13, m9_14, m9_15, m9_16, m9_17, m9_18, m9_19, m9_20, m9_21, m9_22, m9_23, m9_24, m9_25, m9_26, m9_27, m9_28, m9_29, m9_30, m9_31, m9_r, m9_b, m9, h1, wk, act, asV, ↓reduceIte, Nat.reduceEqDiff, reduceCtorEq, Nat.reduceAdd, Nat.reduceLeDiff, Nat.reduceSub, Nat.reduceMul, List.reduceReplicate, Int.reduceEq, Int.reduceLT, Int.reduceLE, Int.reduceAdd, Int.reduceSub, Int.reduceMul, Nat.reduceLT, Int.reduceToNat] | ((first | ((with_reducible refine CallL.gate ?_); apply CallL.of) | ((with_reducible refine CallP.gate ?_); apply CallP.of)); (case h1 => (simp -implicitDefEqProofs (maxSteps := 2000000) only [m9_1, m9_2, m9_3, m9_4, m9_5, m9_6, m9_7, m9_8, m9_9, m9_10, m9_11, m9_12, m9_13, m9_14, m9_15, m9_16, m9_17, m9_18, m9_19, m9_20, m9_21, m9_22, m9_23, m9_24, m9_25, m9_26, m9_27, m9_28, m9_29, m9_30, m9_31, m9_r, m9_b, m9, h1, wk, act, asV, ↓reduceIte, Nat.reduceEqDiff, reduceCtorEq, Nat.reduceAdd, Nat.reduceLeDiff, Nat.reduceSub, Nat.reduceMul, List.reduceReplicate, Int.reduceEq, Int.reduceLT, Int.reduceLE, Int.reduceAdd, Int.reduceSub, Int.reduceMul, Nat.reduceLT, Int.reduceToNat]; first | done | (with_reducible rfl))); (case h2 => (first | exact wakesQ_ok)); (case h3 => simp -implicitDefEqProofs (maxSteps := 2000000) only [m9_1, m9_2, m9_3, m9_4, m9_5, m9_6, m9_7, m9_8, m9_9, m9_10, m9_11, m9_12, m9_13, m9_14, m9_15, m9_16, m9_17, m9_18, m9_19, m9_20, m9_21, m9_22, m9_23, m9_24, m9_25, m9_26, m9_27, m9_28, m9_29, m9_30, m9_31, m9_r, m9_b, m9, h1, wk, act, asV, ↓reduceIte, Nat.reduceEqDiff, reduceCtorEq, Nat.reduceAdd, Nat.reduceLeDiff, Nat.reduceSub, Nat.reduceMul, List.reduceReplicate, Int.reduceEq, Int.reduceLT, Int.reduceLE, Int.reduceAdd, Int.reduceSub, Int.reduceMul, Nat.reduceLT, Int.reduceToNat])))
  by_cases h2 : (pops.length : Int) < ids.length
  · repeat' (first | simp -implicitDefEqProofs (maxSteps := 2000000) only [m9_1, m9_2, m9_3, m9_4, m9_5, m9_6, m9_7, m9_8, m9_9, m9_10, m9_11, m9_12, m9_13, m9_14, m9_15, m9_16, m9_17, m9_18, m9_19, m9_20, m9_21, m9_22, m9_23, m9_24, m9_25, m9_26, m9_27, m9_28, m9_29, m9_30, m9_31, m9_r, m9_b, m9, h1, h2, wk, act, asV, ↓reduceIte, Nat.reduceEqDiff, reduceCtorEq, Nat.reduceAdd, Nat.reduceLeDiff, Nat.reduceSub, Nat.reduceMul, List.reduceReplicate, Int.reduceEq, Int.reduceLT, Int.reduceLE, Int.reduceAdd, Int.reduceSub, Int.reduceMul, Nat.reduceLT, Int.reduceToNat] | ((first | ((with_reducible refine CallL.gate ?_); apply CallL.of) | ((with_reducible refine CallP.gate ?_); apply CallP.of)); (case h1 => (simp -implicitDefEqProofs (maxSteps := 2000000) only [m9_1, m9_2, m9_3, m9_4, m9_5, m9_6, m9_7, m9_8, m9_9, m9_10, m9_11, m9_12, m9_13, m9_14, m9_15, m9_16, m9_17, m9_18, m9_19, m9_20, m9_21, m9_22, m9_23, m9_24, m9_25, m9_26, m9_27, m9_28, m9_29, m9_30, m9_31, m9_r, m9_b, m9, h1, h2, wk, act, asV, ↓reduceIte, Nat.reduceEqDiff, reduceCtorEq, Nat.reduceAdd, Nat.reduceLeDiff, Nat.reduceSub, Nat.reduceMul, List.reduceReplicate, Int.reduceEq, Int.reduceLT, Int.reduceLE, Int.reduceAdd, Int.reduceSub, Int.reduceMul, Nat.reduceLT, Int.reduceToNat]; first | done | (with_reducible rfl))); (case h2 => (first | exact wakesQ_ok)); (case h3 => simp -implicitDefEqProofs (maxSteps := 2000000) only [m9_1, m9_2, m9_3, m9_4, m9_5, m9_6, m9_7, m9_8, m9_9, m9_10, m9_11, m9_12, m9_13, m9_14, m9_15, m9_16, m9_17, m9_18, m9_19, m9_20, m9_21, m9_22, m9_23, m9_24, m9_25, m9_26, m9_27, m9_28, m9_29, m9_30, m9_31, m9_r, m9_b, m9, h1, h2, wk, act, asV, ↓reduceIte, Nat.reduceEqDiff, reduceCtorEq, Nat.reduceAdd, Nat.reduceLeDiff, Nat.reduceSub, Nat.reduceMul, List.reduceReplicate, Int.reduceEq, Int.reduceLT, Int.reduceLE, Int.reduceAdd, Int.reduceSub, Int.reduceMul, Nat.reduceLT, Int.reduceToNat])))
  simp -implicitDefEqProofs (maxSteps := 2000000) only [m9, m9_r, m9_b, m9_1, m9_2, m9_21, m9_22, m9_28, m9_29, m9_30, m9_31, h1, h2, wk, act, asV, ↓reduceIte, Nat.reduceEqDiff, reduceCtorEq, Nat.reduceAdd, Nat.reduceLeDiff, Nat.reduceSub, Nat.reduceMul, List.reduceReplicate, Int.reduceEq, Int.reduceLT, Int.reduceLE, Int.reduceAdd, Int.reduceSub, Int.reduceMul, Nat.reduceLT, Int.reduceToNat]
  refine Wp_loop (fun m s => ∃ i v5 k L, i ≤ ids.length ∧ m = ids.length - i ∧ k ≤ L.length ∧ L.length ≤ k + 4 ∧ L.length ≤ i ∧ QS s ids pops i v5 ((L.drop k).map mkI) L (L.take k)) ids.length ⟨0, _, 0, [], by omega, rfl, by simp, by simp, by simp, ⟨rfl, rfl, rfl, rfl, ⟨_, rfl, .inl ⟨rfl, rfl⟩⟩, .inl ⟨rfl, rfl⟩, .inl ⟨rfl, rfl⟩⟩⟩ ?_
  rintro m s ⟨i, v5, k, L, hi, rfl, hk, hk4, hLi, hs⟩
  have lt : (L.take k).length = k := by rw [List.length_take]; omega
  have ld : ((L.drop k).map mkI).length = L.length - k := by rw [List.length_map, List.length_drop]
  by_cases hil : i < ids.length
  · have hil' : (i : Int) < ids.length := by omega
    have hip : i < pops.length := by omega
    have wi : IntKind.i64.wrap (((i : Nat) : Int) + 1) = ((i + 1 : Nat) : Int) := by rw [IntKind.wrap_i64]; omega
    have di := drop_il hil
    have li := il_length ids
    have b1 : i + 1 ≤ ids.length := by omega
    obtain ⟨x, hx⟩ : ∃ x, x = ids[i] := ⟨_, rfl⟩
    rw [← hx] at di
    have hpl := mkI_placed x
    have l0 := itC_length (mkI_ok x)
    have t0 : List.take 36 (itC (mkI x)) = itC (mkI x) := rfl
    have s0 := itC_scal (mkI x)
    have a1 := qadd_ok (h := 24) (ys := [mkI x]) (w := .sl .lit 1 (itC (mkI x))) (by decide) (mkIs_ok _) (by rw [ld]; omega) (by intro y hy; rw [List.mem_singleton.1 hy]; exact mkI_ok x) (by simp) (.inl ⟨.lit, by rw [itL_one]; rfl⟩) hs.ko
    have e1 : qE ((L.drop k).map mkI) [mkI x] = if L.length - k < 4 then 0 else 19 := by
      unfold qE
      rw [ld, List.length_singleton]
      by_cases h : L.length - k < 4
      · rw [if_neg (by omega), if_pos h]
      · rw [if_pos (by omega), if_neg h]
    obtain ⟨e, he⟩ : ∃ e : Int, e = qE ((L.drop k).map mkI) [mkI x] := ⟨_, rfl⟩
    rw [← he] at a1 e1
    have hiff : e = 0 ↔ L.length - (L.take k).length < 4 := by
      rw [lt, e1]
      by_cases h : L.length - k < 4
      · rw [if_pos h]; exact ⟨fun _ => h, fun _ => rfl⟩
      · rw [if_neg h]; exact ⟨fun h' => absurd h' (by decide), fun h' => absurd h' h⟩
    obtain ⟨L', hL'⟩ : ∃ L', L' = if e = 0 then L ++ [ids[i]] else L := ⟨_, rfl⟩
    have hq : qL ((L.drop k).map mkI) [mkI x] = (L'.drop k).map mkI := by
      unfold qL
      rw [ld, List.length_singleton, hL']
      by_cases h : L.length - k < 4
      · have e0 : e = 0 := by rw [e1, if_pos h]
        rw [if_neg (by omega), if_pos e0, List.drop_append_of_le_length hk, List.map_append, ← hx]; rfl
      · have e0 : ¬ e = 0 := by rw [e1, if_neg h]; decide
        rw [if_pos (by omega), if_neg e0]
    have ht' : L.take k = L'.take k := by
      rw [hL']
      by_cases e0 : e = 0
      · rw [if_pos e0, List.take_append_of_le_length hk]
      · rw [if_neg e0]
    have hL1 : k < L'.length := by
      rw [hL']
      by_cases e0 : e = 0
      · rw [if_pos e0]; simp; omega
      · rw [if_neg e0]
        have := mt hiff.2 e0
        rw [lt] at this
        omega
    have hL2 : L'.length ≤ k + 4 := by
      rw [hL']
      by_cases e0 : e = 0
      · rw [if_pos e0]
        have := hiff.1 e0
        rw [lt] at this
        simp; omega
      · rw [if_neg e0]; omega
    have hL3 : L'.length ≤ i + 1 := by
      rw [hL']
      split
      · simp; omega
      · omega
    have hdr : (L'.drop k).map mkI = mkI L'[k] :: (L'.drop (k + 1)).map mkI := by rw [List.drop_eq_getElem_cons hL1]; rfl
    rw [hq, hdr] at a1
    obtain ⟨y, hy⟩ : ∃ y, y = L'[k] := ⟨_, rfl⟩
    rw [← hy] at a1 hdr
    have hts : L'.take (k + 1) = L.take k ++ [y] := by rw [List.take_succ_eq_append_getElem hL1, ht', hy]
    simp -implicitDefEqProofs (maxSteps := 2000000) only [m9_20, hs.k0, hs.k8, hs.k5, hil', di, li, b1, hpl, l0, t0, s0, wk, act, asV, ↓reduceIte, Nat.reduceEqDiff, reduceCtorEq, Nat.reduceAdd, Nat.reduceLeDiff, Nat.reduceSub, Nat.reduceMul, List.reduceReplicate, Int.reduceEq, Int.reduceLT, Int.reduceLE, Int.reduceAdd, Int.reduceSub, Int.reduceMul, Nat.reduceLT, Int.reduceToNat]
    refine CallnL.of (by simp -implicitDefEqProofs (maxSteps := 2000000) only [hs.k5, wk, act, asV, ↓reduceIte, Nat.reduceEqDiff, reduceCtorEq, Nat.reduceAdd, Nat.reduceLeDiff, Nat.reduceSub, Nat.reduceMul, List.reduceReplicate, Int.reduceEq, Int.reduceLT, Int.reduceLE, Int.reduceAdd, Int.reduceSub, Int.reduceMul, Nat.reduceLT, Int.reduceToNat]; first | done | rfl) a1 ?_
    rintro _ h1 ⟨rfl, o1, fr1⟩
    simp -implicitDefEqProofs (maxSteps := 2000000) only [wk, act, asV, ↓reduceIte, Nat.reduceEqDiff, reduceCtorEq, Nat.reduceAdd, Nat.reduceLeDiff, Nat.reduceSub, Nat.reduceMul, List.reduceReplicate, Int.reduceEq, Int.reduceLT, Int.reduceLE, Int.reduceAdd, Int.reduceSub, Int.reduceMul, Nat.reduceLT, Int.reduceToNat]
    refine qo_A (e := e) (ids := ids) (pops := pops) (i := i) (v5 := v5) (q := mkI y :: (L'.drop (k + 1)).map mkI) (A := L) (B := L.take k) ⟨by simp -implicitDefEqProofs (maxSteps := 2000000) only [hs.k0, wk, act, asV, ↓reduceIte, Nat.reduceEqDiff, reduceCtorEq, Nat.reduceAdd, Nat.reduceLeDiff, Nat.reduceSub, Nat.reduceMul, List.reduceReplicate, Int.reduceEq, Int.reduceLT, Int.reduceLE, Int.reduceAdd, Int.reduceSub, Int.reduceMul, Nat.reduceLT, Int.reduceToNat], by simp -implicitDefEqProofs (maxSteps := 2000000) only [hs.k1, wk, act, asV, ↓reduceIte, Nat.reduceEqDiff, reduceCtorEq, Nat.reduceAdd, Nat.reduceLeDiff, Nat.reduceSub, Nat.reduceMul, List.reduceReplicate, Int.reduceEq, Int.reduceLT, Int.reduceLE, Int.reduceAdd, Int.reduceSub, Int.reduceMul, Nat.reduceLT, Int.reduceToNat], by simp -implicitDefEqProofs (maxSteps := 2000000) only [hs.k5, wk, act, asV, ↓reduceIte, Nat.reduceEqDiff, reduceCtorEq, Nat.reduceAdd, Nat.reduceLeDiff, Nat.reduceSub, Nat.reduceMul, List.reduceReplicate, Int.reduceEq, Int.reduceLT, Int.reduceLE, Int.reduceAdd, Int.reduceSub, Int.reduceMul, Nat.reduceLT, Int.reduceToNat], by simp -implicitDefEqProofs (maxSteps := 2000000) only [hs.k8, wk, act, asV, ↓reduceIte, Nat.reduceEqDiff, reduceCtorEq, Nat.reduceAdd, Nat.reduceLeDiff, Nat.reduceSub, Nat.reduceMul, List.reduceReplicate, Int.reduceEq, Int.reduceLT, Int.reduceLE, Int.reduceAdd, Int.reduceSub, Int.reduceMul, Nat.reduceLT, Int.reduceToNat], o1, hs.k6.fr (fr1 56 (by decide) (by decide)), hs.k7.fr (fr1 77 (by decide) (by decide))⟩ (by simp -implicitDefEqProofs (maxSteps := 2000000) only [wk, act, asV, ↓reduceIte, Nat.reduceEqDiff, reduceCtorEq, Nat.reduceAdd, Nat.reduceLeDiff, Nat.reduceSub, Nat.reduceMul, List.reduceReplicate, Int.reduceEq, Int.reduceLT, Int.reduceLE, Int.reduceAdd, Int.reduceSub, Int.reduceMul, Nat.reduceLT, Int.reduceToNat]) (by rw [lt]; exact hk) (by omega) hiff ?_
    intro s2 hs2 k92
    refine qo_B hs2 hil k92 (by omega) ?_
    rw [← hL']
    intro s3 hs3
    refine qo_C hs3 (mkIs_ok _) hip (by rw [lt]; omega) ?_
    intro s4 hs4
    cases hp : pops[i] with
    | false =>
      rw [hp] at hs4
      simp only [Bool.false_eq_true, if_false] at hs4
      rw [← hdr, ht'] at hs4
      refine qo_D hs4 (by rw [List.length_take, List.length_map, List.length_drop]; omega) (by omega) (by rw [List.length_map, List.length_drop]; omega) ?_
      intro s5 hs5
      simp -implicitDefEqProofs (maxSteps := 2000000) only [hs5.k8, wi, wk, act, asV, ↓reduceIte, Nat.reduceEqDiff, reduceCtorEq, Nat.reduceAdd, Nat.reduceLeDiff, Nat.reduceSub, Nat.reduceMul, List.reduceReplicate, Int.reduceEq, Int.reduceLT, Int.reduceLE, Int.reduceAdd, Int.reduceSub, Int.reduceMul, Nat.reduceLT, Int.reduceToNat]
      exact ⟨ids.length - (i + 1), by omega, i + 1, v5, k, L', by omega, rfl, by omega, by omega, by omega, ⟨hs5.k0, hs5.k1, hs5.k5, rfl, hs5.ko, hs5.k6, hs5.k7⟩⟩
    | true =>
      rw [hp] at hs4
      simp only [if_true] at hs4
      rw [← hts] at hs4
      refine qo_D hs4 (by rw [List.length_take, List.length_map, List.length_drop]; omega) (by omega) (by rw [List.length_map, List.length_drop]; omega) ?_
      intro s5 hs5
      simp -implicitDefEqProofs (maxSteps := 2000000) only [hs5.k8, wi, wk, act, asV, ↓reduceIte, Nat.reduceEqDiff, reduceCtorEq, Nat.reduceAdd, Nat.reduceLeDiff, Nat.reduceSub, Nat.reduceMul, List.reduceReplicate, Int.reduceEq, Int.reduceLT, Int.reduceLE, Int.reduceAdd, Int.reduceSub, Int.reduceMul, Nat.reduceLT, Int.reduceToNat]
      exact ⟨ids.length - (i + 1), by omega, i + 1, v5, k + 1, L', by omega, rfl, by omega, by omega, by omega, ⟨hs5.k0, hs5.k1, hs5.k5, rfl, hs5.ko, hs5.k6, hs5.k7⟩⟩
  · obtain rfl : i = ids.length := by omega
    have hil' : ¬ ((ids.length : Nat) : Int) < ids.length := by omega
    have k6 := hs.k6
    have k7 := hs.k7
    simp -implicitDefEqProofs (maxSteps := 2000000) only [hs.k0, hs.k8, hs.k5, hil', wk, act, asV, ↓reduceIte, Nat.reduceEqDiff, reduceCtorEq, Nat.reduceAdd, Nat.reduceLeDiff, Nat.reduceSub, Nat.reduceMul, List.reduceReplicate, Int.reduceEq, Int.reduceLT, Int.reduceLE, Int.reduceAdd, Int.reduceSub, Int.reduceMul, Nat.reduceLT, Int.reduceToNat]
    have hids : idsL ((L.drop k).map mkI) = L.drop k := ids_mkI _
    have hL30 : L.length ≤ 100 := by omega
    have r0 : roomy 0 8 = true := by decide
    have c1 := ints_ok .plain .plain L L (by omega)
    have c2 := ints_ok .plain .full L L (by omega)
    rw [decide_eq_true rfl] at c1 c2
    have lL := il_length L
    have lt' := il_length (L.take k)
    have ld' := il_length (L.drop k)
    have tL : List.take L.length (il L) = il L := take_il L
    have tD : List.take (L.drop k).length (il (L.drop k)) = il (L.drop k) := take_il _
    have eL : il (L.take k) ++ il (L.drop k) = il L := by
      rw [← List.take_append_drop k L]; simp [il]
    have eN : (L.take k).length + (L.drop k).length = L.length := by rw [← List.length_append, List.take_append_drop]
    have rN : roomy L.length 8 = true := roomy8 (by omega)
    have pL := il_pur L
    have sL := il_scal L
    have k7U : (s.t 7).isU = false := by rcases hs.k7 with ⟨_, e⟩ | ⟨_, _, e, _⟩ <;> rw [e] <;> rfl
    simp -implicitDefEqProofs (maxSteps := 2000000) only [m9_27, m9_26, m9_25, m9_24, m9_23, hs.k5, k7U, wk, act, asV, ↓reduceIte, Nat.reduceEqDiff, reduceCtorEq, Nat.reduceAdd, Nat.reduceLeDiff, Nat.reduceSub, Nat.reduceMul, List.reduceReplicate, Int.reduceEq, Int.reduceLT, Int.reduceLE, Int.reduceAdd, Int.reduceSub, Int.reduceMul, Nat.reduceLT, Int.reduceToNat]
    refine CallnL.of (by simp -implicitDefEqProofs (maxSteps := 2000000) only [hs.k5, wk, act, asV, ↓reduceIte, Nat.reduceEqDiff, reduceCtorEq, Nat.reduceAdd, Nat.reduceLeDiff, Nat.reduceSub, Nat.reduceMul, List.reduceReplicate, Int.reduceEq, Int.reduceLT, Int.reduceLE, Int.reduceAdd, Int.reduceSub, Int.reduceMul, Nat.reduceLT, Int.reduceToNat]; first | done | rfl) (qclear_ok (h := 24) (by decide) (mkIs_ok _) (by rw [ld]; omega) (hs.ko.fr (by simp -implicitDefEqProofs (maxSteps := 2000000) only [wk, act, asV, ↓reduceIte, Nat.reduceEqDiff, reduceCtorEq, Nat.reduceAdd, Nat.reduceLeDiff, Nat.reduceSub, Nat.reduceMul, List.reduceReplicate, Int.reduceEq, Int.reduceLT, Int.reduceLE, Int.reduceAdd, Int.reduceSub, Int.reduceMul, Nat.reduceLT, Int.reduceToNat]) (by simp -implicitDefEqProofs (maxSteps := 2000000) only [wk, act, asV, ↓reduceIte, Nat.reduceEqDiff, reduceCtorEq, Nat.reduceAdd, Nat.reduceLeDiff, Nat.reduceSub, Nat.reduceMul, List.reduceReplicate, Int.reduceEq, Int.reduceLT, Int.reduceLE, Int.reduceAdd, Int.reduceSub, Int.reduceMul, Nat.reduceLT, Int.reduceToNat]))) ?_
    rintro _ h1 ⟨⟨v, rfl, rv⟩, o1, fr1⟩
    rw [hids] at rv
    have f56 : h1 56 = s.h 56 := (fr1 56 (by decide) (by decide)).trans (by simp -implicitDefEqProofs (maxSteps := 2000000) only [wk, act, asV, ↓reduceIte, Nat.reduceEqDiff, reduceCtorEq, Nat.reduceAdd, Nat.reduceLeDiff, Nat.reduceSub, Nat.reduceMul, List.reduceReplicate, Int.reduceEq, Int.reduceLT, Int.reduceLE, Int.reduceAdd, Int.reduceSub, Int.reduceMul, Nat.reduceLT, Int.reduceToNat])
    have f77 : h1 77 = s.h 77 := (fr1 77 (by decide) (by decide)).trans (by simp -implicitDefEqProofs (maxSteps := 2000000) only [wk, act, asV, ↓reduceIte, Nat.reduceEqDiff, reduceCtorEq, Nat.reduceAdd, Nat.reduceLeDiff, Nat.reduceSub, Nat.reduceMul, List.reduceReplicate, Int.reduceEq, Int.reduceLT, Int.reduceLE, Int.reduceAdd, Int.reduceSub, Int.reduceMul, Nat.reduceLT, Int.reduceToNat])
    rcases k6 with ⟨a0, k6⟩ | ⟨a0, w6, k6, h6⟩
    · have e0 : L = [] := a0
      have k0' : k = 0 := by rw [e0] at hk; simpa using hk
      rcases k7 with ⟨b0, k7⟩ | ⟨b0, w7, k7, h7⟩
      · rcases rv with ⟨v0, rfl⟩ | ⟨v0, w8, rfl, h8⟩
        · have hil0 : il L = [] := by rw [e0]; rfl
          have hl0 : L.length = 0 := by rw [e0]; rfl
          rw [hil0, hl0] at c2
          repeat' (first | simp -implicitDefEqProofs (maxSteps := 2000000) only [m9_26, m9_25, m9_24, m9_23, k6, k7, r0, hs.k5, wk, act, asV, ↓reduceIte, Nat.reduceEqDiff, reduceCtorEq, Nat.reduceAdd, Nat.reduceLeDiff, Nat.reduceSub, Nat.reduceMul, List.reduceReplicate, Int.reduceEq, Int.reduceLT, Int.reduceLE, Int.reduceAdd, Int.reduceSub, Int.reduceMul, Nat.reduceLT, Int.reduceToNat] | ((first | ((with_reducible refine CallL.gate ?_); apply CallL.of) | ((with_reducible refine CallP.gate ?_); apply CallP.of)); (case h1 => (simp -implicitDefEqProofs (maxSteps := 2000000) only [m9_26, m9_25, m9_24, m9_23, k6, k7, r0, hs.k5, wk, act, asV, ↓reduceIte, Nat.reduceEqDiff, reduceCtorEq, Nat.reduceAdd, Nat.reduceLeDiff, Nat.reduceSub, Nat.reduceMul, List.reduceReplicate, Int.reduceEq, Int.reduceLT, Int.reduceLE, Int.reduceAdd, Int.reduceSub, Int.reduceMul, Nat.reduceLT, Int.reduceToNat]; first | done | (with_reducible rfl))); (case h2 => (first | exact c2)); (case h3 => simp -implicitDefEqProofs (maxSteps := 2000000) only [m9_26, m9_25, m9_24, m9_23, k6, k7, r0, hs.k5, wk, act, asV, ↓reduceIte, Nat.reduceEqDiff, reduceCtorEq, Nat.reduceAdd, Nat.reduceLeDiff, Nat.reduceSub, Nat.reduceMul, List.reduceReplicate, Int.reduceEq, Int.reduceLT, Int.reduceLE, Int.reduceAdd, Int.reduceSub, Int.reduceMul, Nat.reduceLT, Int.reduceToNat])))
          refine CallnL.of (by simp -implicitDefEqProofs (maxSteps := 2000000) only [hs.k5, wk, act, asV, ↓reduceIte, Nat.reduceEqDiff, reduceCtorEq, Nat.reduceAdd, Nat.reduceLeDiff, Nat.reduceSub, Nat.reduceMul, List.reduceReplicate, Int.reduceEq, Int.reduceLT, Int.reduceLE, Int.reduceAdd, Int.reduceSub, Int.reduceMul, Nat.reduceLT, Int.reduceToNat]; first | done | rfl) (qlen_ok (o1.fr (by simp -implicitDefEqProofs (maxSteps := 2000000) only [wk, act, asV, ↓reduceIte, Nat.reduceEqDiff, reduceCtorEq, Nat.reduceAdd, Nat.reduceLeDiff, Nat.reduceSub, Nat.reduceMul, List.reduceReplicate, Int.reduceEq, Int.reduceLT, Int.reduceLE, Int.reduceAdd, Int.reduceSub, Int.reduceMul, Nat.reduceLT, Int.reduceToNat]) (by simp -implicitDefEqProofs (maxSteps := 2000000) only [wk, act, asV, ↓reduceIte, Nat.reduceEqDiff, reduceCtorEq, Nat.reduceAdd, Nat.reduceLeDiff, Nat.reduceSub, Nat.reduceMul, List.reduceReplicate, Int.reduceEq, Int.reduceLT, Int.reduceLE, Int.reduceAdd, Int.reduceSub, Int.reduceMul, Nat.reduceLT, Int.reduceToNat]))) ?_
          rintro _ _ ⟨rfl, rfl⟩
          repeat' (first | simp -implicitDefEqProofs (maxSteps := 2000000) only [List.length_nil, Int.natCast_zero, wk, act, asV, ↓reduceIte, Nat.reduceEqDiff, reduceCtorEq, Nat.reduceAdd, Nat.reduceLeDiff, Nat.reduceSub, Nat.reduceMul, List.reduceReplicate, Int.reduceEq, Int.reduceLT, Int.reduceLE, Int.reduceAdd, Int.reduceSub, Int.reduceMul, Nat.reduceLT, Int.reduceToNat] | ((first | ((with_reducible refine CallL.gate ?_); apply CallL.of) | ((with_reducible refine CallP.gate ?_); apply CallP.of)); (case h1 => (simp -implicitDefEqProofs (maxSteps := 2000000) only [List.length_nil, Int.natCast_zero, wk, act, asV, ↓reduceIte, Nat.reduceEqDiff, reduceCtorEq, Nat.reduceAdd, Nat.reduceLeDiff, Nat.reduceSub, Nat.reduceMul, List.reduceReplicate, Int.reduceEq, Int.reduceLT, Int.reduceLE, Int.reduceAdd, Int.reduceSub, Int.reduceMul, Nat.reduceLT, Int.reduceToNat]; first | done | (with_reducible rfl))); (case h2 => (first | exact wakesQ_ok)); (case h3 => simp -implicitDefEqProofs (maxSteps := 2000000) only [List.length_nil, Int.natCast_zero, wk, act, asV, ↓reduceIte, Nat.reduceEqDiff, reduceCtorEq, Nat.reduceAdd, Nat.reduceLeDiff, Nat.reduceSub, Nat.reduceMul, List.reduceReplicate, Int.reduceEq, Int.reduceLT, Int.reduceLE, Int.reduceAdd, Int.reduceSub, Int.reduceMul, Nat.reduceLT, Int.reduceToNat])))
        · rw [e0] at v0; simp at v0
      · rw [e0] at b0; simp at b0
    · rw [← f56] at h6
      rcases k7 with ⟨b0, k7⟩ | ⟨b0, w7, k7, h7⟩
      · have hk0 : k = 0 := by have : (L.take k).length = 0 := by rw [b0]; rfl
                               omega
        rcases rv with ⟨v0, rfl⟩ | ⟨v0, w8, rfl, h8⟩
        · rw [hk0] at v0; simp at v0; rw [v0] at a0; simp at a0
        · have eD : L.drop k = L := by rw [hk0]; rfl
          rw [eD] at h8 v0 tD ⊢
          repeat' (first | simp -implicitDefEqProofs (maxSteps := 2000000) only [m9_26, m9_25, m9_24, m9_23, k6, k7, h6, h8, v0, lL, tL, rN, pL, sL, hs.k5, wk, act, asV, ↓reduceIte, Nat.reduceEqDiff, reduceCtorEq, Nat.reduceAdd, Nat.reduceLeDiff, Nat.reduceSub, Nat.reduceMul, List.reduceReplicate, Int.reduceEq, Int.reduceLT, Int.reduceLE, Int.reduceAdd, Int.reduceSub, Int.reduceMul, Nat.reduceLT, Int.reduceToNat] | ((first | ((with_reducible refine CallL.gate ?_); apply CallL.of) | ((with_reducible refine CallP.gate ?_); apply CallP.of)); (case h1 => (simp -implicitDefEqProofs (maxSteps := 2000000) only [m9_26, m9_25, m9_24, m9_23, k6, k7, h6, h8, v0, lL, tL, rN, pL, sL, hs.k5, wk, act, asV, ↓reduceIte, Nat.reduceEqDiff, reduceCtorEq, Nat.reduceAdd, Nat.reduceLeDiff, Nat.reduceSub, Nat.reduceMul, List.reduceReplicate, Int.reduceEq, Int.reduceLT, Int.reduceLE, Int.reduceAdd, Int.reduceSub, Int.reduceMul, Nat.reduceLT, Int.reduceToNat]; first | done | (with_reducible rfl))); (case h2 => (first | exact c1)); (case h3 => simp -implicitDefEqProofs (maxSteps := 2000000) only [m9_26, m9_25, m9_24, m9_23, k6, k7, h6, h8, v0, lL, tL, rN, pL, sL, hs.k5, wk, act, asV, ↓reduceIte, Nat.reduceEqDiff, reduceCtorEq, Nat.reduceAdd, Nat.reduceLeDiff, Nat.reduceSub, Nat.reduceMul, List.reduceReplicate, Int.reduceEq, Int.reduceLT, Int.reduceLE, Int.reduceAdd, Int.reduceSub, Int.reduceMul, Nat.reduceLT, Int.reduceToNat])))
          refine CallnL.of (by simp -implicitDefEqProofs (maxSteps := 2000000) only [hs.k5, wk, act, asV, ↓reduceIte, Nat.reduceEqDiff, reduceCtorEq, Nat.reduceAdd, Nat.reduceLeDiff, Nat.reduceSub, Nat.reduceMul, List.reduceReplicate, Int.reduceEq, Int.reduceLT, Int.reduceLE, Int.reduceAdd, Int.reduceSub, Int.reduceMul, Nat.reduceLT, Int.reduceToNat]; first | done | rfl) (qlen_ok (o1.fr (by simp -implicitDefEqProofs (maxSteps := 2000000) only [wk, act, asV, ↓reduceIte, Nat.reduceEqDiff, reduceCtorEq, Nat.reduceAdd, Nat.reduceLeDiff, Nat.reduceSub, Nat.reduceMul, List.reduceReplicate, Int.reduceEq, Int.reduceLT, Int.reduceLE, Int.reduceAdd, Int.reduceSub, Int.reduceMul, Nat.reduceLT, Int.reduceToNat]) (by simp -implicitDefEqProofs (maxSteps := 2000000) only [wk, act, asV, ↓reduceIte, Nat.reduceEqDiff, reduceCtorEq, Nat.reduceAdd, Nat.reduceLeDiff, Nat.reduceSub, Nat.reduceMul, List.reduceReplicate, Int.reduceEq, Int.reduceLT, Int.reduceLE, Int.reduceAdd, Int.reduceSub, Int.reduceMul, Nat.reduceLT, Int.reduceToNat]))) ?_
          rintro _ _ ⟨rfl, rfl⟩
          repeat' (first | simp -implicitDefEqProofs (maxSteps := 2000000) only [List.length_nil, Int.natCast_zero, wk, act, asV, ↓reduceIte, Nat.reduceEqDiff, reduceCtorEq, Nat.reduceAdd, Nat.reduceLeDiff, Nat.reduceSub, Nat.reduceMul, List.reduceReplicate, Int.reduceEq, Int.reduceLT, Int.reduceLE, Int.reduceAdd, Int.reduceSub, Int.reduceMul, Nat.reduceLT, Int.reduceToNat] | ((first | ((with_reducible refine CallL.gate ?_); apply CallL.of) | ((with_reducible refine CallP.gate ?_); apply CallP.of)); (case h1 => (simp -implicitDefEqProofs (maxSteps := 2000000) only [List.length_nil, Int.natCast_zero, wk, act, asV, ↓reduceIte, Nat.reduceEqDiff, reduceCtorEq, Nat.reduceAdd, Nat.reduceLeDiff, Nat.reduceSub, Nat.reduceMul, List.reduceReplicate, Int.reduceEq, Int.reduceLT, Int.reduceLE, Int.reduceAdd, Int.reduceSub, Int.reduceMul, Nat.reduceLT, Int.reduceToNat]; first | done | (with_reducible rfl))); (case h2 => (first | exact wakesQ_ok)); (case h3 => simp -implicitDefEqProofs (maxSteps := 2000000) only [List.length_nil, Int.natCast_zero, wk, act, asV, ↓reduceIte, Nat.reduceEqDiff, reduceCtorEq, Nat.reduceAdd, Nat.reduceLeDiff, Nat.reduceSub, Nat.reduceMul, List.reduceReplicate, Int.reduceEq, Int.reduceLT, Int.reduceLE, Int.reduceAdd, Int.reduceSub, Int.reduceMul, Nat.reduceLT, Int.reduceToNat])))
      · rw [← f77] at h7
        rcases rv with ⟨v0, rfl⟩ | ⟨v0, w8, rfl, h8⟩
        · have hT : L.take k = L := by
            have e := List.take_append_drop k L
            rw [v0, List.append_nil] at e
            exact e
          rw [hT] at h7 k7 b0
          repeat' (first | simp -implicitDefEqProofs (maxSteps := 2000000) only [m9_26, m9_25, m9_24, m9_23, k6, k7, h6, h7, b0, lL, tL, rN, pL, sL, hs.k5, wk, act, asV, ↓reduceIte, Nat.reduceEqDiff, reduceCtorEq, Nat.reduceAdd, Nat.reduceLeDiff, Nat.reduceSub, Nat.reduceMul, List.reduceReplicate, Int.reduceEq, Int.reduceLT, Int.reduceLE, Int.reduceAdd, Int.reduceSub, Int.reduceMul, Nat.reduceLT, Int.reduceToNat] | ((first | ((with_reducible refine CallL.gate ?_); apply CallL.of) | ((with_reducible refine CallP.gate ?_); apply CallP.of)); (case h1 => (simp -implicitDefEqProofs (maxSteps := 2000000) only [m9_26, m9_25, m9_24, m9_23, k6, k7, h6, h7, b0, lL, tL, rN, pL, sL, hs.k5, wk, act, asV, ↓reduceIte, Nat.reduceEqDiff, reduceCtorEq, Nat.reduceAdd, Nat.reduceLeDiff, Nat.reduceSub, Nat.reduceMul, List.reduceReplicate, Int.reduceEq, Int.reduceLT, Int.reduceLE, Int.reduceAdd, Int.reduceSub, Int.reduceMul, Nat.reduceLT, Int.reduceToNat]; first | done | (with_reducible rfl))); (case h2 => (first | exact c1)); (case h3 => simp -implicitDefEqProofs (maxSteps := 2000000) only [m9_26, m9_25, m9_24, m9_23, k6, k7, h6, h7, b0, lL, tL, rN, pL, sL, hs.k5, wk, act, asV, ↓reduceIte, Nat.reduceEqDiff, reduceCtorEq, Nat.reduceAdd, Nat.reduceLeDiff, Nat.reduceSub, Nat.reduceMul, List.reduceReplicate, Int.reduceEq, Int.reduceLT, Int.reduceLE, Int.reduceAdd, Int.reduceSub, Int.reduceMul, Nat.reduceLT, Int.reduceToNat])))
          refine CallnL.of (by simp -implicitDefEqProofs (maxSteps := 2000000) only [hs.k5, wk, act, asV, ↓reduceIte, Nat.reduceEqDiff, reduceCtorEq, Nat.reduceAdd, Nat.reduceLeDiff, Nat.reduceSub, Nat.reduceMul, List.reduceReplicate, Int.reduceEq, Int.reduceLT, Int.reduceLE, Int.reduceAdd, Int.reduceSub, Int.reduceMul, Nat.reduceLT, Int.reduceToNat]; first | done | rfl) (qlen_ok (o1.fr (by simp -implicitDefEqProofs (maxSteps := 2000000) only [wk, act, asV, ↓reduceIte, Nat.reduceEqDiff, reduceCtorEq, Nat.reduceAdd, Nat.reduceLeDiff, Nat.reduceSub, Nat.reduceMul, List.reduceReplicate, Int.reduceEq, Int.reduceLT, Int.reduceLE, Int.reduceAdd, Int.reduceSub, Int.reduceMul, Nat.reduceLT, Int.reduceToNat]) (by simp -implicitDefEqProofs (maxSteps := 2000000) only [wk, act, asV, ↓reduceIte, Nat.reduceEqDiff, reduceCtorEq, Nat.reduceAdd, Nat.reduceLeDiff, Nat.reduceSub, Nat.reduceMul, List.reduceReplicate, Int.reduceEq, Int.reduceLT, Int.reduceLE, Int.reduceAdd, Int.reduceSub, Int.reduceMul, Nat.reduceLT, Int.reduceToNat]))) ?_
          rintro _ _ ⟨rfl, rfl⟩
          repeat' (first | simp -implicitDefEqProofs (maxSteps := 2000000) only [List.length_nil, Int.natCast_zero, wk, act, asV, ↓reduceIte, Nat.reduceEqDiff, reduceCtorEq, Nat.reduceAdd, Nat.reduceLeDiff, Nat.reduceSub, Nat.reduceMul, List.reduceReplicate, Int.reduceEq, Int.reduceLT, Int.reduceLE, Int.reduceAdd, Int.reduceSub, Int.reduceMul, Nat.reduceLT, Int.reduceToNat] | ((first | ((with_reducible refine CallL.gate ?_); apply CallL.of) | ((with_reducible refine CallP.gate ?_); apply CallP.of)); (case h1 => (simp -implicitDefEqProofs (maxSteps := 2000000) only [List.length_nil, Int.natCast_zero, wk, act, asV, ↓reduceIte, Nat.reduceEqDiff, reduceCtorEq, Nat.reduceAdd, Nat.reduceLeDiff, Nat.reduceSub, Nat.reduceMul, List.reduceReplicate, Int.reduceEq, Int.reduceLT, Int.reduceLE, Int.reduceAdd, Int.reduceSub, Int.reduceMul, Nat.reduceLT, Int.reduceToNat]; first | done | (with_reducible rfl))); (case h2 => (first | exact wakesQ_ok)); (case h3 => simp -implicitDefEqProofs (maxSteps := 2000000) only [List.length_nil, Int.natCast_zero, wk, act, asV, ↓reduceIte, Nat.reduceEqDiff, reduceCtorEq, Nat.reduceAdd, Nat.reduceLeDiff, Nat.reduceSub, Nat.reduceMul, List.reduceReplicate, Int.reduceEq, Int.reduceLT, Int.reduceLE, Int.reduceAdd, Int.reduceSub, Int.reduceMul, Nat.reduceLT, Int.reduceToNat])))
        · repeat' (first | simp -implicitDefEqProofs (maxSteps := 2000000) only [m9_26, m9_25, m9_24, m9_23, k6, k7, h6, h7, h8, lL, tL, lt', ld', tD, eL, eN, rN, pL, sL, hs.k5, wk, act, asV, ↓reduceIte, Nat.reduceEqDiff, reduceCtorEq, Nat.reduceAdd, Nat.reduceLeDiff, Nat.reduceSub, Nat.reduceMul, List.reduceReplicate, Int.reduceEq, Int.reduceLT, Int.reduceLE, Int.reduceAdd, Int.reduceSub, Int.reduceMul, Nat.reduceLT, Int.reduceToNat] | ((first | ((with_reducible refine CallL.gate ?_); apply CallL.of) | ((with_reducible refine CallP.gate ?_); apply CallP.of)); (case h1 => (simp -implicitDefEqProofs (maxSteps := 2000000) only [m9_26, m9_25, m9_24, m9_23, k6, k7, h6, h7, h8, lL, tL, lt', ld', tD, eL, eN, rN, pL, sL, hs.k5, wk, act, asV, ↓reduceIte, Nat.reduceEqDiff, reduceCtorEq, Nat.reduceAdd, Nat.reduceLeDiff, Nat.reduceSub, Nat.reduceMul, List.reduceReplicate, Int.reduceEq, Int.reduceLT, Int.reduceLE, Int.reduceAdd, Int.reduceSub, Int.reduceMul, Nat.reduceLT, Int.reduceToNat]; first | done | (with_reducible rfl))); (case h2 => (first | exact c1)); (case h3 => simp -implicitDefEqProofs (maxSteps := 2000000) only [m9_26, m9_25, m9_24, m9_23, k6, k7, h6, h7, h8, lL, tL, lt', ld', tD, eL, eN, rN, pL, sL, hs.k5, wk, act, asV, ↓reduceIte, Nat.reduceEqDiff, reduceCtorEq, Nat.reduceAdd, Nat.reduceLeDiff, Nat.reduceSub, Nat.reduceMul, List.reduceReplicate, Int.reduceEq, Int.reduceLT, Int.reduceLE, Int.reduceAdd, Int.reduceSub, Int.reduceMul, Nat.reduceLT, Int.reduceToNat])))
          refine CallnL.of (by simp -implicitDefEqProofs (maxSteps := 2000000) only [hs.k5, wk, act, asV, ↓reduceIte, Nat.reduceEqDiff, reduceCtorEq, Nat.reduceAdd, Nat.reduceLeDiff, Nat.reduceSub, Nat.reduceMul, List.reduceReplicate, Int.reduceEq, Int.reduceLT, Int.reduceLE, Int.reduceAdd, Int.reduceSub, Int.reduceMul, Nat.reduceLT, Int.reduceToNat]; first | done | rfl) (qlen_ok (o1.fr (by simp -implicitDefEqProofs (maxSteps := 2000000) only [wk, act, asV, ↓reduceIte, Nat.reduceEqDiff, reduceCtorEq, Nat.reduceAdd, Nat.reduceLeDiff, Nat.reduceSub, Nat.reduceMul, List.reduceReplicate, Int.reduceEq, Int.reduceLT, Int.reduceLE, Int.reduceAdd, Int.reduceSub, Int.reduceMul, Nat.reduceLT, Int.reduceToNat]) (by simp -implicitDefEqProofs (maxSteps := 2000000) only [wk, act, asV, ↓reduceIte, Nat.reduceEqDiff, reduceCtorEq, Nat.reduceAdd, Nat.reduceLeDiff, Nat.reduceSub, Nat.reduceMul, List.reduceReplicate, Int.reduceEq, Int.reduceLT, Int.reduceLE, Int.reduceAdd, Int.reduceSub, Int.reduceMul, Nat.reduceLT, Int.reduceToNat]))) ?_
          rintro _ _ ⟨rfl, rfl⟩
          repeat' (first | simp -implicitDefEqProofs (maxSteps := 2000000) only [List.length_nil, Int.natCast_zero, wk, act, asV, ↓reduceIte, Nat.reduceEqDiff, reduceCtorEq, Nat.reduceAdd, Nat.reduceLeDiff, Nat.reduceSub, Nat.reduceMul, List.reduceReplicate, Int.reduceEq, Int.reduceLT, Int.reduceLE, Int.reduceAdd, Int.reduceSub, Int.reduceMul, Nat.reduceLT, Int.reduceToNat] | ((first | ((with_reducible refine CallL.gate ?_); apply CallL.of) | ((with_reducible refine CallP.gate ?_); apply CallP.of)); (case h1 => (simp -implicitDefEqProofs (maxSteps := 2000000) only [List.length_nil, Int.natCast_zero, wk, act, asV, ↓reduceIte, Nat.reduceEqDiff, reduceCtorEq, Nat.reduceAdd, Nat.reduceLeDiff, Nat.reduceSub, Nat.reduceMul, List.reduceReplicate, Int.reduceEq, Int.reduceLT, Int.reduceLE, Int.reduceAdd, Int.reduceSub, Int.reduceMul, Nat.reduceLT, Int.reduceToNat]; first | done | (with_reducible rfl))); (case h2 => (first | exact wakesQ_ok)); (case h3 => simp -implicitDefEqProofs (maxSteps := 2000000) only [List.length_nil, Int.natCast_zero, wk, act, asV, ↓reduceIte, Nat.reduceEqDiff, reduceCtorEq, Nat.reduceAdd, Nat.reduceLeDiff, Nat.reduceSub, Nat.reduceMul, List.reduceReplicate, Int.reduceEq, Int.reduceLT, Int.reduceLE, Int.reduceAdd, Int.reduceSub, Int.reduceMul, Nat.reduceLT, Int.reduceToNat])))
end Go.Proofs.YtilbipknodpmmaaDoor
