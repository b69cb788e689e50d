/- Volumes: numbers held against numbers; whether they are few and short. -/
import Derived.Test.YtilbipknodpmmaaDoorE31
import Derived.Test.YtilbipknodpmmaaDoorM6
import Derived.Test.YtilbipknodpmmaaDoorProg
set_option linter.unusedVariables false
set_option linter.unusedSimpArgs false
set_option maxRecDepth 100000
set_option maxHeartbeats 4000000
namespace Go.Proofs.YtilbipknodpmmaaDoor
open Go.RowKit


theorem ints_ok (f f' : Fl) (xs ys : List Int) (hx : xs.length < 2 ^ 63) : RC Tryd.prog 36 [.sl f xs.length (il xs), .sl f' ys.length (il ys)] [.bool (decide (xs = ys))] := by
  refine RC.of_wp c36 rfl ?_
  simp -implicitDefEqProofs (maxSteps := 2000000) only [m36_1, m36_2, m36_3, m36_4, m36_5, m36_6, m36_7, m36_r, m36_b, m36, wk, act, asV, ↓reduceIte, Nat.reduceEqDiff, reduceCtorEq, Nat.reduceAdd, Nat.reduceLeDiff, Nat.reduceSub, Nat.reduceMul, List.reduceReplicate, Int.reduceEq, Int.reduceLT, Int.reduceLE, Int.reduceAdd, Int.reduceSub, Int.reduceMul, Nat.reduceLT, Int.reduceToNat]
  by_cases hl : xs.length = ys.length
  · simp -implicitDefEqProofs (maxSteps := 2000000) only [hl, wk, act, asV, ↓reduceIte, Nat.reduceEqDiff, reduceCtorEq, Nat.reduceAdd, Nat.reduceLeDiff, Nat.reduceSub, Nat.reduceMul, List.reduceReplicate, Int.reduceEq, Int.reduceLT, Int.reduceLE, Int.reduceAdd, Int.reduceSub, Int.reduceMul, Nat.reduceLT, Int.reduceToNat]
    refine Wp_loop (fun k s => ∃ i, i ≤ ys.length ∧ k = ys.length - i ∧ s.t 0 = .sl f ys.length (il xs) ∧ s.t 1 = .sl f' ys.length (il ys) ∧ s.t 5 = .int .i64 i ∧ xs.take i = ys.take i) ys.length ⟨0, by omega, rfl, rfl, rfl, rfl, rfl⟩ ?_
    rintro k s ⟨i, hi, rfl, h0, h1, h5, ht⟩
    simp -implicitDefEqProofs (maxSteps := 2000000) only [h0, h1, h5, wk, act, asV, ↓reduceIte, Nat.reduceEqDiff, reduceCtorEq, Nat.reduceAdd, Nat.reduceLeDiff, Nat.reduceSub, Nat.reduceMul, List.reduceReplicate, Int.reduceEq, Int.reduceLT, Int.reduceLE, Int.reduceAdd, Int.reduceSub, Int.reduceMul, Nat.reduceLT, Int.reduceToNat]
    by_cases hlt : i < ys.length
    · have hltx : i < xs.length := by omega
      simp -implicitDefEqProofs (maxSteps := 2000000) only [Int.ofNat_lt, hlt, hl, h0, h1, h5, drop_il hlt, drop_il hltx, wk, act, asV, ↓reduceIte, Nat.reduceEqDiff, reduceCtorEq, Nat.reduceAdd, Nat.reduceLeDiff, Nat.reduceSub, Nat.reduceMul, List.reduceReplicate, Int.reduceEq, Int.reduceLT, Int.reduceLE, Int.reduceAdd, Int.reduceSub, Int.reduceMul, Nat.reduceLT, Int.reduceToNat]
      by_cases he : xs[i] = ys[i]
      · simp -implicitDefEqProofs (maxSteps := 2000000) only [he, hl, wrap_nat (show i < 2 ^ 63 - 1 by omega), wk, act, asV, ↓reduceIte, Nat.reduceEqDiff, reduceCtorEq, Nat.reduceAdd, Nat.reduceLeDiff, Nat.reduceSub, Nat.reduceMul, List.reduceReplicate, Int.reduceEq, Int.reduceLT, Int.reduceLE, Int.reduceAdd, Int.reduceSub, Int.reduceMul, Nat.reduceLT, Int.reduceToNat]
        refine ⟨ys.length - (i + 1), by omega, i + 1, by omega, rfl, rfl, ?_⟩
        rw [List.take_succ_eq_append_getElem hlt, List.take_succ_eq_append_getElem hltx, ht, he]
      · have : xs ≠ ys := fun e => he (by simp [e])
        simp -implicitDefEqProofs (maxSteps := 2000000) only [he, hl, this, wk, act, asV, ↓reduceIte, Nat.reduceEqDiff, reduceCtorEq, Nat.reduceAdd, Nat.reduceLeDiff, Nat.reduceSub, Nat.reduceMul, List.reduceReplicate, Int.reduceEq, Int.reduceLT, Int.reduceLE, Int.reduceAdd, Int.reduceSub, Int.reduceMul, Nat.reduceLT, Int.reduceToNat]
    · have hi' : i = ys.length := by omega
      have : xs = ys := by
        subst hi'
        rw [List.take_of_length_le (by omega), List.take_of_length_le (by omega)] at ht
        exact ht
      simp -implicitDefEqProofs (maxSteps := 2000000) only [Int.ofNat_lt, hlt, this, wk, act, asV, ↓reduceIte, Nat.reduceEqDiff, reduceCtorEq, Nat.reduceAdd, Nat.reduceLeDiff, Nat.reduceSub, Nat.reduceMul, List.reduceReplicate, Int.reduceEq, Int.reduceLT, Int.reduceLE, Int.reduceAdd, Int.reduceSub, Int.reduceMul, Nat.reduceLT, Int.reduceToNat]
  · have hne : ¬ ((xs.length : Int) = ys.length) := by omega
    have hne' : xs ≠ ys := fun e => hl (by rw [e])
    simp -implicitDefEqProofs (maxSteps := 2000000) only [hne, hne', wk, act, asV, ↓reduceIte, Nat.reduceEqDiff, reduceCtorEq, Nat.reduceAdd, Nat.reduceLeDiff, Nat.reduceSub, Nat.reduceMul, List.reduceReplicate, Int.reduceEq, Int.reduceLT, Int.reduceLE, Int.reduceAdd, Int.reduceSub, Int.reduceMul, Nat.reduceLT, Int.reduceToNat]

/-! ### volumes -/
structure Vol where
  name : List UInt8
  blocks : List Int
  deriving DecidableEq
def vl (vs : List Vol) : List IV := vs.flatMap fun v => [.str v.name, .sl .plain v.blocks.length (il v.blocks)]
theorem vl_length (vs : List Vol) : (vl vs).length = vs.length * 2 := by
  induction vs with
  | nil => rfl
  | cons v vs ih => simp only [vl, List.flatMap_cons, List.length_append, List.length_cons, List.length_nil] at ih ⊢; omega
theorem vl_append (vs ws : List Vol) : vl (vs ++ ws) = vl vs ++ vl ws := by simp [vl]
theorem drop_vl : ∀ {vs : List Vol} {i : Nat} (h : i < vs.length), (vl vs).drop (i * 2) = .str vs[i].name :: .sl .plain vs[i].blocks.length (il vs[i].blocks) :: (vl vs).drop ((i + 1) * 2)
  | v :: vs, 0, h => by simp [vl]
  | v :: vs, i + 1, h => by
    have := drop_vl (vs := vs) (i := i) (by simpa using h)
    have e : ∀ j, (vl (v :: vs)).drop ((j + 1) * 2) = (vl vs).drop (j * 2) := fun j => by
      rw [show (j + 1) * 2 = 2 + j * 2 by omega]
      simp [vl, ← List.drop_drop]
    rw [e, e, this]
    simp

def vOk (v : Vol) : Bool := decide (v.name.length ≤ 100) && decide (v.blocks.length ≤ 50)
def fair (vs : List Vol) : Bool := vs.all vOk && decide (vs.length ≤ 20)

end Go.Proofs.YtilbipknodpmmaaDoor
/- The loaded functions as texts of the ideal machine (written by a program of ours), and that they are the loaded ones. -/
set_option linter.unusedVariables false
set_option linter.unusedSimpArgs false
set_option linter.unusedSectionVars false
namespace Go.Proofs.YtilbipknodpmmaaDoor
open Go.RowKit

/- tollhouse/tollhouselaw21.wakes -/
/- tollhouse/tollhouselaw21.fair -/
/- tollhouse/tollhouselaw21.own -/
/- (*tollhouse/queue.Queue).Add -/
/- (*tollhouse/tollhouseref21.Queue).Add -/
/- (*tollhouse/queue.Queue).Pop -/
/- (*tollhouse/tollhouseref21.Queue).Pop -/
/- (*tollhouse/queue.Queue).Clear -/
/- (*tollhouse/tollhouseref21.Queue).Clear -/
/- (*tollhouse/queue.Queue).Head -/
/- (*tollhouse/queue.Queue).Len -/
/- tollhouse/queue.Puts -/
/- tollhouse/tollhouseref21.Puts -/
end Go.Proofs.YtilbipknodpmmaaDoor
/- Of the queue: items, and what the methods do in place. -/
set_option linter.unusedVariables false
set_option linter.unusedSimpArgs false
set_option linter.unusedSectionVars false
set_option maxRecDepth 100000
set_option maxHeartbeats 8000000
namespace Go.Proofs.YtilbipknodpmmaaDoor
open Go.RowKit

structure It where
  id : Int
  kind : Int
  name : List UInt8
  n : Int
  data : List UInt8
def itC (x : It) : List IV := .int .i64 x.id :: .int .i64 x.kind :: .str x.name :: .int .i64 x.n :: bl x.data
def itL (xs : List It) : List IV := xs.flatMap itC
def HeldQ (x : Nat) (H : Nat → Blk) (v : IV) (xs : List It) : Prop :=
  (xs = [] ∧ v = .sl .full 0 []) ∨ ∃ off ver cs, v = .row x off xs.length 36 ver ∧ H x = ⟨ver, true, true, true, cs⟩ ∧ cs.drop off = itL xs ∧ off + xs.length * 36 = cs.length
def ObjQ (h hv x : Nat) (H : Nat → Blk) (xs : List It) : Prop := ∃ v, H h = ⟨hv, true, true, false, [v]⟩ ∧ HeldQ x H v xs
theorem ObjQ.fr {h hv x : Nat} {H H' : Nat → Blk} {xs : List It} (ho : ObjQ h hv x H xs) (h1 : H' h = H h) (h2 : H' x = H x) : ObjQ h hv x H' xs := by
  obtain ⟨v, e1, e2⟩ := ho
  refine ⟨v, h1.trans e1, ?_⟩
  rcases e2 with ⟨a, b⟩ | ⟨off, ver, cs, a, b, c, d⟩
  · exact .inl ⟨a, b⟩
  · exact .inr ⟨off, ver, cs, a, h2.trans b, c, d⟩
@[reducible] def offQ : Off := ⟨1000⟩
@[reducible] def offH : Off := ⟨2000⟩
@[reducible] def offL : Off := ⟨3000⟩
end Go.Proofs.YtilbipknodpmmaaDoor
/- Of the queue: all items go. -/
set_option linter.unusedVariables false
set_option linter.unusedSimpArgs false
set_option linter.unusedSectionVars false
set_option maxRecDepth 100000
set_option maxHeartbeats 8000000
namespace Go.Proofs.YtilbipknodpmmaaDoor
open Go.RowKit

end Go.Proofs.YtilbipknodpmmaaDoor
/- Volumes: rows of one's own, volumes held against volumes. -/
set_option linter.unusedVariables false
set_option linter.unusedSimpArgs false
set_option maxRecDepth 100000
set_option maxHeartbeats 4000000
namespace Go.Proofs.YtilbipknodpmmaaDoor
open Go.RowKit


theorem vl_nil : vl [] = [] := rfl
theorem vl_pur (vs : List Vol) : IV.purL (vl vs) = true := by
  induction vs with
  | nil => rfl
  | cons v vs ih =>
    have : vl (v :: vs) = .str v.name :: .sl .plain v.blocks.length (il v.blocks) :: vl vs := rfl
    rw [this]
    simp [IV.purL, IV.pur, il_pur, ih]
theorem take_vl (vs : List Vol) : (vl vs).take (vs.length * 2) = vl vs := List.take_of_length_le (by rw [vl_length]; exact Nat.le_refl _)
theorem vl_snoc (vs : List Vol) (v : Vol) : vl vs ++ [.str v.name, .sl .plain v.blocks.length (il v.blocks)] = vl (vs ++ [v]) := by simp [vl]

def ownV (vs : List Vol) : IV := if vs = [] then .sl .full 0 [] else .own vs.length 2 (vl vs)

theorem roomy8 {n : Nat} (h : n < 2 ^ 40) : roomy n 8 = true := by simp [roomy]; omega
theorem roomy40 {n : Nat} (h : n < 2 ^ 38) : roomy n 40 = true := by simp [roomy]; omega

theorem vols_ok (f f' : Fl) (vs ws : List Vol) (hl : vs.length < 2 ^ 63) (hb : ∀ v ∈ vs, v.blocks.length < 2 ^ 63) : RC Tryd.prog 15 [.sl f vs.length (vl vs), .sl f' ws.length (vl ws)] [.bool (decide (vs = ws))] := by
  refine RC.of_wp c15 rfl ?_
  simp -implicitDefEqProofs (maxSteps := 2000000) only [m15_1, m15_2, m15_3, m15_4, m15_5, m15_6, m15_7, m15_r, m15_b, m15, wk, act, asV, ↓reduceIte, Nat.reduceEqDiff, reduceCtorEq, Nat.reduceAdd, Nat.reduceLeDiff, Nat.reduceSub, Nat.reduceMul, List.reduceReplicate, Int.reduceEq, Int.reduceLT, Int.reduceLE, Int.reduceAdd, Int.reduceSub, Int.reduceMul, Nat.reduceLT, Int.reduceToNat]
  by_cases hle : vs.length = ws.length
  · simp -implicitDefEqProofs (maxSteps := 2000000) only [hle, wk, act, asV, ↓reduceIte, Nat.reduceEqDiff, reduceCtorEq, Nat.reduceAdd, Nat.reduceLeDiff, Nat.reduceSub, Nat.reduceMul, List.reduceReplicate, Int.reduceEq, Int.reduceLT, Int.reduceLE, Int.reduceAdd, Int.reduceSub, Int.reduceMul, Nat.reduceLT, Int.reduceToNat]
    refine Wp_loop (fun k s => ∃ i, i ≤ ws.length ∧ k = ws.length - i ∧ s.t 0 = .sl f ws.length (vl vs) ∧ s.t 1 = .sl f' ws.length (vl ws) ∧ s.t 5 = .int .i64 i ∧ vs.take i = ws.take i) ws.length ⟨0, by omega, rfl, rfl, rfl, rfl, rfl⟩ ?_
    rintro k s ⟨i, hi, rfl, h0, h1, h5, ht⟩
    by_cases hlt : i < ws.length
    · have hltv : i < vs.length := by omega
      have h2 : (0 : Nat) < 2 := by omega
      by_cases hn : vs[i].name = ws[i].name
      · simp -implicitDefEqProofs (maxSteps := 2000000) only [Int.ofNat_lt, hlt, h0, h1, h5, h2, hle, hn, vl_length, drop_vl hlt, drop_vl hltv, wk, act, asV, ↓reduceIte, Nat.reduceEqDiff, reduceCtorEq, Nat.reduceAdd, Nat.reduceLeDiff, Nat.reduceSub, Nat.reduceMul, List.reduceReplicate, Int.reduceEq, Int.reduceLT, Int.reduceLE, Int.reduceAdd, Int.reduceSub, Int.reduceMul, Nat.reduceLT, Int.reduceToNat]
        refine CallL.mk (ints_ok .plain .plain vs[i].blocks ws[i].blocks (hb _ (List.getElem_mem hltv))) (by simp -implicitDefEqProofs (maxSteps := 2000000) only [wk, act, asV, ↓reduceIte, Nat.reduceEqDiff, reduceCtorEq, Nat.reduceAdd, Nat.reduceLeDiff, Nat.reduceSub, Nat.reduceMul, List.reduceReplicate, Int.reduceEq, Int.reduceLT, Int.reduceLE, Int.reduceAdd, Int.reduceSub, Int.reduceMul, Nat.reduceLT, Int.reduceToNat]) (.inr (by simp -implicitDefEqProofs (maxSteps := 2000000) only [wk, act, asV, ↓reduceIte, Nat.reduceEqDiff, reduceCtorEq, Nat.reduceAdd, Nat.reduceLeDiff, Nat.reduceSub, Nat.reduceMul, List.reduceReplicate, Int.reduceEq, Int.reduceLT, Int.reduceLE, Int.reduceAdd, Int.reduceSub, Int.reduceMul, Nat.reduceLT, Int.reduceToNat])) ?_
        by_cases he : vs[i].blocks = ws[i].blocks
        · simp -implicitDefEqProofs (maxSteps := 2000000) only [he, h0, h1, h5, wrap_nat (show i < 2 ^ 63 - 1 by omega), wk, act, asV, ↓reduceIte, Nat.reduceEqDiff, reduceCtorEq, Nat.reduceAdd, Nat.reduceLeDiff, Nat.reduceSub, Nat.reduceMul, List.reduceReplicate, Int.reduceEq, Int.reduceLT, Int.reduceLE, Int.reduceAdd, Int.reduceSub, Int.reduceMul, Nat.reduceLT, Int.reduceToNat]
          refine ⟨ws.length - (i + 1), by omega, i + 1, by omega, rfl, rfl, ?_⟩
          have heq : vs[i] = ws[i] := by
            cases hv : vs[i]; cases hw : ws[i]
            simp only [hv, hw] at hn he
            rw [hn, he]
          rw [List.take_succ_eq_append_getElem hlt, List.take_succ_eq_append_getElem hltv, ht, heq]
        · have hne : vs ≠ ws := fun e => he (by simp [e])
          simp -implicitDefEqProofs (maxSteps := 2000000) only [he, hne, wk, act, asV, ↓reduceIte, Nat.reduceEqDiff, reduceCtorEq, Nat.reduceAdd, Nat.reduceLeDiff, Nat.reduceSub, Nat.reduceMul, List.reduceReplicate, Int.reduceEq, Int.reduceLT, Int.reduceLE, Int.reduceAdd, Int.reduceSub, Int.reduceMul, Nat.reduceLT, Int.reduceToNat]
      · have hne : vs ≠ ws := fun e => hn (by simp [e])
        simp -implicitDefEqProofs (maxSteps := 2000000) only [Int.ofNat_lt, hlt, h0, h1, h5, h2, hle, hn, hne, vl_length, drop_vl hlt, drop_vl hltv, wk, act, asV, ↓reduceIte, Nat.reduceEqDiff, reduceCtorEq, Nat.reduceAdd, Nat.reduceLeDiff, Nat.reduceSub, Nat.reduceMul, List.reduceReplicate, Int.reduceEq, Int.reduceLT, Int.reduceLE, Int.reduceAdd, Int.reduceSub, Int.reduceMul, Nat.reduceLT, Int.reduceToNat]
    · have : vs = ws := by
        have : i = ws.length := by omega
        subst this
        rwa [List.take_of_length_le (by omega), List.take_of_length_le (by omega)] at ht
      simp -implicitDefEqProofs (maxSteps := 2000000) only [Int.ofNat_lt, hlt, h0, h1, h5, this, wk, act, asV, ↓reduceIte, Nat.reduceEqDiff, reduceCtorEq, Nat.reduceAdd, Nat.reduceLeDiff, Nat.reduceSub, Nat.reduceMul, List.reduceReplicate, Int.reduceEq, Int.reduceLT, Int.reduceLE, Int.reduceAdd, Int.reduceSub, Int.reduceMul, Nat.reduceLT, Int.reduceToNat]
  · have hne : ¬ ((vs.length : Int) = ws.length) := by omega
    have hne' : vs ≠ ws := fun e => hle (by rw [e])
    simp -implicitDefEqProofs (maxSteps := 2000000) only [hne, hne', wk, act, asV, ↓reduceIte, Nat.reduceEqDiff, reduceCtorEq, Nat.reduceAdd, Nat.reduceLeDiff, Nat.reduceSub, Nat.reduceMul, List.reduceReplicate, Int.reduceEq, Int.reduceLT, Int.reduceLE, Int.reduceAdd, Int.reduceSub, Int.reduceMul, Nat.reduceLT, Int.reduceToNat]

end Go.Proofs.YtilbipknodpmmaaDoor
/- Of the table: which volume has a name. -/
set_option linter.unusedVariables false
set_option linter.unusedSimpArgs false
set_option maxRecDepth 100000
set_option maxHeartbeats 4000000
namespace Go.Proofs.YtilbipknodpmmaaDoor
open Go.RowKit

def isV (nm : List UInt8) (v : Vol) : Bool := decide (v.name = nm)
def findV (nm : List UInt8) (vs : List Vol) : Int := if vs.findIdx (isV nm) < vs.length then (vs.findIdx (isV nm) : Nat) else -1
theorem findV_at {nm : List UInt8} {vs : List Vol} {i : Nat} (h : i < vs.length) (hi : isV nm vs[i] = true) (hn : ∀ j, j < i → ∀ (hj : j < vs.length), isV nm vs[j] = false) : findV nm vs = (i : Nat) := by
  have : vs.findIdx (isV nm) = i := by
    rw [List.findIdx_eq h]
    exact ⟨hi, fun j hj => hn j hj (by omega)⟩
  unfold findV
  rw [this, if_pos h]
theorem findV_no {nm : List UInt8} {vs : List Vol} (h : ∀ v ∈ vs, isV nm v = false) : findV nm vs = -1 := by
  have : vs.findIdx (isV nm) = vs.length := List.findIdx_eq_length.2 h
  unfold findV
  rw [this, if_neg (Nat.lt_irrefl _)]
def noneTo (nm : List UInt8) (vs : List Vol) (i : Nat) : Prop := ∀ j, j < i → ∀ (hj : j < vs.length), isV nm vs[j] = false
theorem noneTo_succ {nm : List UInt8} {vs : List Vol} {i : Nat} (h : noneTo nm vs i) (hi : i < vs.length) (hn : isV nm vs[i] = false) : noneTo nm vs (i + 1) := by
  intro j hj hjl
  rcases Nat.lt_succ_iff_lt_or_eq.1 hj with h' | rfl
  · exact h j h' hjl
  · exact hn
theorem noneTo_all {nm : List UInt8} {vs : List Vol} (h : noneTo nm vs vs.length) : findV nm vs = -1 := by
  refine findV_no fun v hv => ?_
  obtain ⟨i, hi, rfl⟩ := List.mem_iff_getElem.1 hv
  exact h i hi hi

theorem find1_ok (nm n : List UInt8) (k : Nat) (bs : List Int) : RC Tryd.prog 58 [.agg [.str n, .sl .plain k (il bs)], .addr [.str nm]] [.bool (decide (n = nm))] := by
  refine RC.of_wp c58 rfl ?_
  simp -implicitDefEqProofs (maxSteps := 2000000) only [m58_1, m58_r, m58_b, m58, wk, act, asV, ↓reduceIte, Nat.reduceEqDiff, reduceCtorEq, Nat.reduceAdd, Nat.reduceLeDiff, Nat.reduceSub, Nat.reduceMul, List.reduceReplicate, Int.reduceEq, Int.reduceLT, Int.reduceLE, Int.reduceAdd, Int.reduceSub, Int.reduceMul, Nat.reduceLT, Int.reduceToNat]

theorem indexV_ok (f : Fl) (hf : f ≠ .lit) (nm : List UInt8) (vs : List Vol) (hl : vs.length < 2 ^ 63) : RC Tryd.prog 57 [.sl f vs.length (vl vs), .clo 58 [.addr [.str nm]]] [.int .i64 (findV nm vs)] := by
  refine RC.of_wp c57 rfl ?_
  simp -implicitDefEqProofs (maxSteps := 2000000) only [m57_1, m57_2, m57_3, m57_4, m57_5, m57_6, m57_7, m57_8, m57_r, m57_b, m57, wk, act, asV, ↓reduceIte, Nat.reduceEqDiff, reduceCtorEq, Nat.reduceAdd, Nat.reduceLeDiff, Nat.reduceSub, Nat.reduceMul, List.reduceReplicate, Int.reduceEq, Int.reduceLT, Int.reduceLE, Int.reduceAdd, Int.reduceSub, Int.reduceMul, Nat.reduceLT, Int.reduceToNat]
  refine Wp_loop (fun k s => ∃ i, i ≤ vs.length ∧ k = vs.length - i ∧ s.t 0 = .sl f vs.length (vl vs) ∧ s.t 1 = .clo 58 [.addr [.str nm]] ∧ s.t 7 = .int .i64 vs.length ∧ s.t 8 = .int .i64 (i : Nat) ∧ noneTo nm vs i) vs.length ⟨0, by omega, rfl, rfl, rfl, rfl, rfl, fun j h => absurd h (Nat.not_lt_zero j)⟩ ?_
  rintro k s ⟨i, hi, rfl, h0, h1, h7, h8, hn⟩
  by_cases hil : i < vs.length
  · have hil' : (i : Int) < vs.length := by omega
    have h2 : (0 : Nat) < 2 := by omega
    simp -implicitDefEqProofs (maxSteps := 2000000) only [h0, h1, h7, h8, hil', hil, h2, drop_vl hil, vl_length, wk, act, asV, ↓reduceIte, Nat.reduceEqDiff, reduceCtorEq, Nat.reduceAdd, Nat.reduceLeDiff, Nat.reduceSub, Nat.reduceMul, List.reduceReplicate, Int.reduceEq, Int.reduceLT, Int.reduceLE, Int.reduceAdd, Int.reduceSub, Int.reduceMul, Nat.reduceLT, Int.reduceToNat]
    refine CalliL.of (by simp -implicitDefEqProofs (maxSteps := 2000000) only [h1, St.callee, St.snapPL, St.snapP, wk, act, asV, ↓reduceIte, Nat.reduceEqDiff, reduceCtorEq, Nat.reduceAdd, Nat.reduceLeDiff, Nat.reduceSub, Nat.reduceMul, List.reduceReplicate, Int.reduceEq, Int.reduceLT, Int.reduceLE, Int.reduceAdd, Int.reduceSub, Int.reduceMul, Nat.reduceLT, Int.reduceToNat]; first | done | (with_reducible rfl)) (by simp -implicitDefEqProofs (maxSteps := 2000000) only [wk, act, asV, ↓reduceIte, Nat.reduceEqDiff, reduceCtorEq, Nat.reduceAdd, Nat.reduceLeDiff, Nat.reduceSub, Nat.reduceMul, List.reduceReplicate, Int.reduceEq, Int.reduceLT, Int.reduceLE, Int.reduceAdd, Int.reduceSub, Int.reduceMul, Nat.reduceLT, Int.reduceToNat]; first | done | (with_reducible rfl)) (find1_ok nm vs[i].name vs[i].blocks.length vs[i].blocks) (by simp -implicitDefEqProofs (maxSteps := 2000000) only [wk, act, asV, ↓reduceIte, Nat.reduceEqDiff, reduceCtorEq, Nat.reduceAdd, Nat.reduceLeDiff, Nat.reduceSub, Nat.reduceMul, List.reduceReplicate, Int.reduceEq, Int.reduceLT, Int.reduceLE, Int.reduceAdd, Int.reduceSub, Int.reduceMul, Nat.reduceLT, Int.reduceToNat]) ?_
    by_cases hb : vs[i].name = nm
    · rw [findV_at hil (by simp [isV, hb]) hn]
      simp -implicitDefEqProofs (maxSteps := 2000000) only [hb, h0, h1, h7, h8, wk, act, asV, ↓reduceIte, Nat.reduceEqDiff, reduceCtorEq, Nat.reduceAdd, Nat.reduceLeDiff, Nat.reduceSub, Nat.reduceMul, List.reduceReplicate, Int.reduceEq, Int.reduceLT, Int.reduceLE, Int.reduceAdd, Int.reduceSub, Int.reduceMul, Nat.reduceLT, Int.reduceToNat]
    · have hn' := noneTo_succ hn hil (by simp [isV, hb])
      simp -implicitDefEqProofs (maxSteps := 2000000) only [hb, h0, h1, h7, h8, wrap_nat (show i < 2 ^ 63 - 1 by omega), wk, act, asV, ↓reduceIte, Nat.reduceEqDiff, reduceCtorEq, Nat.reduceAdd, Nat.reduceLeDiff, Nat.reduceSub, Nat.reduceMul, List.reduceReplicate, Int.reduceEq, Int.reduceLT, Int.reduceLE, Int.reduceAdd, Int.reduceSub, Int.reduceMul, Nat.reduceLT, Int.reduceToNat]
      exact ⟨vs.length - (i + 1), by omega, i + 1, by omega, rfl, rfl, hn'⟩
  · have hil' : ¬ (i : Int) < vs.length := by omega
    have hie : i = vs.length := by omega
    rw [hie] at hn
    rw [noneTo_all hn]
    simp -implicitDefEqProofs (maxSteps := 2000000) only [h0, h1, h7, h8, hil', wk, act, asV, ↓reduceIte, Nat.reduceEqDiff, reduceCtorEq, Nat.reduceAdd, Nat.reduceLeDiff, Nat.reduceSub, Nat.reduceMul, List.reduceReplicate, Int.reduceEq, Int.reduceLT, Int.reduceLE, Int.reduceAdd, Int.reduceSub, Int.reduceMul, Nat.reduceLT, Int.reduceToNat]

theorem find_ok (f : Fl) (hf : f ≠ .lit) (nm : List UInt8) (vs : List Vol) (hl : vs.length < 2 ^ 63) : RC Tryd.prog 44 [.str nm, .sl f vs.length (vl vs)] [.int .i64 (findV nm vs)] := by
  refine RC.of_wp c44 rfl ?_
  have c := indexV_ok f hf nm vs hl
  cases f with
  | lit => exact absurd rfl hf
  | _ => repeat' (first | simp -implicitDefEqProofs (maxSteps := 2000000) only [m44_1, m44_r, m44_b, m44, St.snapPL, St.snapP, List.mapM_cons, List.mapM_nil, Option.bind_eq_bind, Option.bind_some, Option.pure_def, wk, act, asV, ↓reduceIte, Nat.reduceEqDiff, reduceCtorEq, Nat.reduceAdd, Nat.reduceLeDiff, Nat.reduceSub, Nat.reduceMul, List.reduceReplicate, Int.reduceEq, Int.reduceLT, Int.reduceLE, Int.reduceAdd, Int.reduceSub, Int.reduceMul, Nat.reduceLT, Int.reduceToNat] | ((first | ((with_reducible refine CallL.gate ?_); apply CallL.of) | ((with_reducible refine CallP.gate ?_); apply CallP.of)); (case h1 => (simp -implicitDefEqProofs (maxSteps := 2000000) only [m44_1, m44_r, m44_b, m44, St.snapPL, St.snapP, List.mapM_cons, List.mapM_nil, Option.bind_eq_bind, Option.bind_some, Option.pure_def, wk, act, asV, ↓reduceIte, Nat.reduceEqDiff, reduceCtorEq, Nat.reduceAdd, Nat.reduceLeDiff, Nat.reduceSub, Nat.reduceMul, List.reduceReplicate, Int.reduceEq, Int.reduceLT, Int.reduceLE, Int.reduceAdd, Int.reduceSub, Int.reduceMul, Nat.reduceLT, Int.reduceToNat]; first | done | (with_reducible rfl))); (case h2 => (first | exact c)); (case h3 => simp -implicitDefEqProofs (maxSteps := 2000000) only [m44_1, m44_r, m44_b, m44, St.snapPL, St.snapP, List.mapM_cons, List.mapM_nil, Option.bind_eq_bind, Option.bind_some, Option.pure_def, wk, act, asV, ↓reduceIte, Nat.reduceEqDiff, reduceCtorEq, Nat.reduceAdd, Nat.reduceLeDiff, Nat.reduceSub, Nat.reduceMul, List.reduceReplicate, Int.reduceEq, Int.reduceLT, Int.reduceLE, Int.reduceAdd, Int.reduceSub, Int.reduceMul, Nat.reduceLT, Int.reduceToNat])))

theorem rfind_ok (f : Fl) (nm : List UInt8) (vs : List Vol) (hl : vs.length < 2 ^ 63) : RC Tryd.prog 45 [.str nm, .sl f vs.length (vl vs)] [.int .i64 (findV nm vs)] := by
  refine RC.of_wp c45 rfl ?_
  simp -implicitDefEqProofs (maxSteps := 2000000) only [m45_1, m45_2, m45_3, m45_4, m45_5, m45_6, m45_r, m45_b, m45, wk, act, asV, ↓reduceIte, Nat.reduceEqDiff, reduceCtorEq, Nat.reduceAdd, Nat.reduceLeDiff, Nat.reduceSub, Nat.reduceMul, List.reduceReplicate, Int.reduceEq, Int.reduceLT, Int.reduceLE, Int.reduceAdd, Int.reduceSub, Int.reduceMul, Nat.reduceLT, Int.reduceToNat]
  refine Wp_loop (fun k s => ∃ i, i ≤ vs.length ∧ k = vs.length - i ∧ s.t 0 = .str nm ∧ s.t 1 = .sl f vs.length (vl vs) ∧ s.t 5 = .int .i64 (i : Nat) ∧ noneTo nm vs i) vs.length ⟨0, by omega, rfl, rfl, rfl, rfl, fun j h => absurd h (Nat.not_lt_zero j)⟩ ?_
  rintro k s ⟨i, hi, rfl, h0, h1, h5, hn⟩
  by_cases hil : i < vs.length
  · have hil' : (i : Int) < vs.length := by omega
    have h2 : (0 : Nat) < 2 := by omega
    by_cases hb : vs[i].name = nm
    · rw [findV_at hil (by simp [isV, hb]) hn]
      simp -implicitDefEqProofs (maxSteps := 2000000) only [hb, h0, h1, h5, hil', hil, h2, drop_vl hil, vl_length, wk, act, asV, ↓reduceIte, Nat.reduceEqDiff, reduceCtorEq, Nat.reduceAdd, Nat.reduceLeDiff, Nat.reduceSub, Nat.reduceMul, List.reduceReplicate, Int.reduceEq, Int.reduceLT, Int.reduceLE, Int.reduceAdd, Int.reduceSub, Int.reduceMul, Nat.reduceLT, Int.reduceToNat]
    · have hn' := noneTo_succ hn hil (by simp [isV, hb])
      simp -implicitDefEqProofs (maxSteps := 2000000) only [hb, h0, h1, h5, hil', hil, h2, drop_vl hil, vl_length, wrap_nat (show i < 2 ^ 63 - 1 by omega), wk, act, asV, ↓reduceIte, Nat.reduceEqDiff, reduceCtorEq, Nat.reduceAdd, Nat.reduceLeDiff, Nat.reduceSub, Nat.reduceMul, List.reduceReplicate, Int.reduceEq, Int.reduceLT, Int.reduceLE, Int.reduceAdd, Int.reduceSub, Int.reduceMul, Nat.reduceLT, Int.reduceToNat]
      exact ⟨vs.length - (i + 1), by omega, i + 1, by omega, rfl, rfl, hn'⟩
  · have hil' : ¬ (i : Int) < vs.length := by omega
    have hie : i = vs.length := by omega
    rw [hie] at hn
    rw [noneTo_all hn]
    simp -implicitDefEqProofs (maxSteps := 2000000) only [h0, h1, h5, hil', wk, act, asV, ↓reduceIte, Nat.reduceEqDiff, reduceCtorEq, Nat.reduceAdd, Nat.reduceLeDiff, Nat.reduceSub, Nat.reduceMul, List.reduceReplicate, Int.reduceEq, Int.reduceLT, Int.reduceLE, Int.reduceAdd, Int.reduceSub, Int.reduceMul, Nat.reduceLT, Int.reduceToNat]
end Go.Proofs.YtilbipknodpmmaaDoor
