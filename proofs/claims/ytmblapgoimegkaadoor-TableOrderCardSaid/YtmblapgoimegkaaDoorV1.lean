/- Volumes: rows of one's own, volumes held against volumes. -/
import Derived.Test.YtmblapgoimegkaaDoorE31
import Derived.Test.YtmblapgoimegkaaDoorM6
import Derived.Test.YtmblapgoimegkaaDoorV0
set_option linter.unusedVariables false
set_option linter.unusedSimpArgs false
set_option maxRecDepth 100000
set_option maxHeartbeats 4000000
namespace Go.Proofs.YtmblapgoimegkaaDoor
open Go.RowKit


theorem vl_nil : vl [] = [] := rfl
theorem vl_pur (vs : List Vol) : IV.purL (vl vs) = true := by
  induction vs with
  | nil => rfl
  | cons v vs ih =>
    have : vl (v :: vs) = .str v.name :: .sl .plain v.blocks.length (il v.blocks) :: vl vs := rfl
    rw [this]
    simp [IV.purL, IV.pur, il_pur, ih]
theorem take_vl (vs : List Vol) : (vl vs).take (vs.length * 2) = vl vs := List.take_of_length_le (by rw [vl_length]; exact Nat.le_refl _)
theorem vl_snoc (vs : List Vol) (v : Vol) : vl vs ++ [.str v.name, .sl .plain v.blocks.length (il v.blocks)] = vl (vs ++ [v]) := by simp [vl]

def ownV (vs : List Vol) : IV := if vs = [] then .sl .full 0 [] else .own vs.length 2 (vl vs)

theorem fair_len {vs : List Vol} (h : fair vs = true) : vs.length ≤ 20 ∧ ∀ v ∈ vs, v.name.length ≤ 100 ∧ v.blocks.length ≤ 50 := by
  simp only [fair, Bool.and_eq_true, decide_eq_true_eq, List.all_eq_true, vOk] at h
  exact ⟨h.2, h.1⟩

theorem roomy8 {n : Nat} (h : n < 2 ^ 40) : roomy n 8 = true := by simp [roomy]; omega
theorem roomy40 {n : Nat} (h : n < 2 ^ 38) : roomy n 40 = true := by simp [roomy]; omega

theorem own_ok (f : Fl) (vs : List Vol) (hf : fair vs = true) : RC Tryd.prog 34 [.sl f vs.length (vl vs)] [ownV vs] := by
  refine RC.of_wp c34 rfl ?_
  obtain ⟨hl, hv⟩ := fair_len hf
  simp -implicitDefEqProofs (maxSteps := 2000000) only [m34_1, m34_2, m34_3, m34_4, m34_5, m34_6, m34_r, m34_b, m34, wk, act, asV, ↓reduceIte, Nat.reduceEqDiff, reduceCtorEq, Nat.reduceAdd, Nat.reduceLeDiff, Nat.reduceSub, Nat.reduceMul, List.reduceReplicate, Int.reduceEq, Int.reduceLT, Int.reduceLE, Int.reduceAdd, Int.reduceSub, Int.reduceMul, Nat.reduceLT, Int.reduceToNat]
  refine Wp_loop (fun k s => ∃ i, i ≤ vs.length ∧ k = vs.length - i ∧ s.t 0 = .sl f vs.length (vl vs) ∧ s.t 4 = .int .i64 i ∧ ((i = 0 ∧ s.t 3 = .sl .full 0 []) ∨ (0 < i ∧ ∃ ver, s.t 3 = .row 26 0 i 2 ver ∧ s.h 26 = ⟨ver, true, true, true, vl (vs.take i)⟩))) vs.length ⟨0, by omega, rfl, rfl, rfl, .inl ⟨rfl, rfl⟩⟩ ?_
  rintro k s ⟨i, hi, rfl, h0, h4, h3⟩
  by_cases hlt : i < vs.length
  · have h2 : (0 : Nat) < 2 := by omega
    obtain ⟨_, hb⟩ := hv _ (List.getElem_mem hlt)
    have hr1 : roomy vs[i].blocks.length 8 = true := roomy8 (by omega)
    have htl : (vl (vs.take i)).length = i * 2 := by rw [vl_length, List.length_take]; omega
    have hsn := vl_snoc (vs.take i) vs[i]
    rw [← List.take_succ_eq_append_getElem hlt] at hsn
    rcases h3 with ⟨hi0, h3⟩ | ⟨hpos, ver, h3, h26⟩
    · have hr2 : roomy 1 40 = true := by decide
      have e1 : vl (vs.take (i + 1)) = [.str vs[i].name, .sl .plain vs[i].blocks.length (il vs[i].blocks)] := by rw [← hsn]; subst hi0; rfl
      simp -implicitDefEqProofs (maxSteps := 2000000) only [h0, h3, h4, h2, hlt, hr1, hr2, Int.ofNat_lt, il_length, vl_length, drop_vl hlt, wrap_nat (show i < 2 ^ 63 - 1 by omega), wk, act, asV, ↓reduceIte, Nat.reduceEqDiff, reduceCtorEq, Nat.reduceAdd, Nat.reduceLeDiff, Nat.reduceSub, Nat.reduceMul, List.reduceReplicate, Int.reduceEq, Int.reduceLT, Int.reduceLE, Int.reduceAdd, Int.reduceSub, Int.reduceMul, Nat.reduceLT, Int.reduceToNat]
      refine ⟨vs.length - (i + 1), by omega, i + 1, by omega, rfl, rfl, by omega, ?_⟩
      rw [e1]
      subst hi0
      exact ⟨_, rfl, rfl⟩
    · have hr2 : roomy (i + 1) 40 = true := roomy40 (by omega)
      simp -implicitDefEqProofs (maxSteps := 2000000) only [h0, h3, h4, h26, h2, hlt, hr1, hr2, htl, Int.ofNat_lt, il_length, vl_length, drop_vl hlt, wrap_nat (show i < 2 ^ 63 - 1 by omega), wk, act, asV, ↓reduceIte, Nat.reduceEqDiff, reduceCtorEq, Nat.reduceAdd, Nat.reduceLeDiff, Nat.reduceSub, Nat.reduceMul, List.reduceReplicate, Int.reduceEq, Int.reduceLT, Int.reduceLE, Int.reduceAdd, Int.reduceSub, Int.reduceMul, Nat.reduceLT, Int.reduceToNat]
      refine ⟨vs.length - (i + 1), by omega, i + 1, by omega, rfl, rfl, by omega, ?_⟩
      rw [hsn]
      exact ⟨_, rfl, rfl⟩
  · have hin : i = vs.length := by omega
    subst hin
    rcases h3 with ⟨e0, h3⟩ | ⟨hpos, ver, h3, h26⟩
    · have hvs : vs = [] := List.eq_nil_of_length_eq_zero e0
      subst hvs
      simp -implicitDefEqProofs (maxSteps := 2000000) only [h0, h3, h4, ownV, vl, List.flatMap_nil, List.take_nil, Int.lt_irrefl, wk, act, asV, ↓reduceIte, Nat.reduceEqDiff, reduceCtorEq, Nat.reduceAdd, Nat.reduceLeDiff, Nat.reduceSub, Nat.reduceMul, List.reduceReplicate, Int.reduceEq, Int.reduceLT, Int.reduceLE, Int.reduceAdd, Int.reduceSub, Int.reduceMul, Nat.reduceLT, Int.reduceToNat]
    · have hvs : vs ≠ [] := by intro e; subst e; simp at hpos
      rw [List.take_length] at h26
      simp -implicitDefEqProofs (maxSteps := 2000000) only [h0, h3, h4, h26, hvs, ownV, take_vl, Int.lt_irrefl, wk, act, asV, ↓reduceIte, Nat.reduceEqDiff, reduceCtorEq, Nat.reduceAdd, Nat.reduceLeDiff, Nat.reduceSub, Nat.reduceMul, List.reduceReplicate, Int.reduceEq, Int.reduceLT, Int.reduceLE, Int.reduceAdd, Int.reduceSub, Int.reduceMul, Nat.reduceLT, Int.reduceToNat]

theorem vols_ok (f f' : Fl) (vs ws : List Vol) (hl : vs.length < 2 ^ 63) (hb : ∀ v ∈ vs, v.blocks.length < 2 ^ 63) : RC Tryd.prog 41 [.sl f vs.length (vl vs), .sl f' ws.length (vl ws)] [.bool (decide (vs = ws))] := by
  refine RC.of_wp c41 rfl ?_
  simp -implicitDefEqProofs (maxSteps := 2000000) only [m41_1, m41_2, m41_3, m41_4, m41_5, m41_6, m41_7, m41_r, m41_b, m41, wk, act, asV, ↓reduceIte, Nat.reduceEqDiff, reduceCtorEq, Nat.reduceAdd, Nat.reduceLeDiff, Nat.reduceSub, Nat.reduceMul, List.reduceReplicate, Int.reduceEq, Int.reduceLT, Int.reduceLE, Int.reduceAdd, Int.reduceSub, Int.reduceMul, Nat.reduceLT, Int.reduceToNat]
  by_cases hle : vs.length = ws.length
  · simp -implicitDefEqProofs (maxSteps := 2000000) only [hle, wk, act, asV, ↓reduceIte, Nat.reduceEqDiff, reduceCtorEq, Nat.reduceAdd, Nat.reduceLeDiff, Nat.reduceSub, Nat.reduceMul, List.reduceReplicate, Int.reduceEq, Int.reduceLT, Int.reduceLE, Int.reduceAdd, Int.reduceSub, Int.reduceMul, Nat.reduceLT, Int.reduceToNat]
    refine Wp_loop (fun k s => ∃ i, i ≤ ws.length ∧ k = ws.length - i ∧ s.t 0 = .sl f ws.length (vl vs) ∧ s.t 1 = .sl f' ws.length (vl ws) ∧ s.t 5 = .int .i64 i ∧ vs.take i = ws.take i) ws.length ⟨0, by omega, rfl, rfl, rfl, rfl, rfl⟩ ?_
    rintro k s ⟨i, hi, rfl, h0, h1, h5, ht⟩
    by_cases hlt : i < ws.length
    · have hltv : i < vs.length := by omega
      have h2 : (0 : Nat) < 2 := by omega
      by_cases hn : vs[i].name = ws[i].name
      · simp -implicitDefEqProofs (maxSteps := 2000000) only [Int.ofNat_lt, hlt, h0, h1, h5, h2, hle, hn, vl_length, drop_vl hlt, drop_vl hltv, wk, act, asV, ↓reduceIte, Nat.reduceEqDiff, reduceCtorEq, Nat.reduceAdd, Nat.reduceLeDiff, Nat.reduceSub, Nat.reduceMul, List.reduceReplicate, Int.reduceEq, Int.reduceLT, Int.reduceLE, Int.reduceAdd, Int.reduceSub, Int.reduceMul, Nat.reduceLT, Int.reduceToNat]
        refine CallL.mk (ints_ok .plain .plain vs[i].blocks ws[i].blocks (hb _ (List.getElem_mem hltv))) (by simp -implicitDefEqProofs (maxSteps := 2000000) only [wk, act, asV, ↓reduceIte, Nat.reduceEqDiff, reduceCtorEq, Nat.reduceAdd, Nat.reduceLeDiff, Nat.reduceSub, Nat.reduceMul, List.reduceReplicate, Int.reduceEq, Int.reduceLT, Int.reduceLE, Int.reduceAdd, Int.reduceSub, Int.reduceMul, Nat.reduceLT, Int.reduceToNat]) (.inr (by simp -implicitDefEqProofs (maxSteps := 2000000) only [wk, act, asV, ↓reduceIte, Nat.reduceEqDiff, reduceCtorEq, Nat.reduceAdd, Nat.reduceLeDiff, Nat.reduceSub, Nat.reduceMul, List.reduceReplicate, Int.reduceEq, Int.reduceLT, Int.reduceLE, Int.reduceAdd, Int.reduceSub, Int.reduceMul, Nat.reduceLT, Int.reduceToNat])) ?_
        by_cases he : vs[i].blocks = ws[i].blocks
        · simp -implicitDefEqProofs (maxSteps := 2000000) only [he, h0, h1, h5, wrap_nat (show i < 2 ^ 63 - 1 by omega), wk, act, asV, ↓reduceIte, Nat.reduceEqDiff, reduceCtorEq, Nat.reduceAdd, Nat.reduceLeDiff, Nat.reduceSub, Nat.reduceMul, List.reduceReplicate, Int.reduceEq, Int.reduceLT, Int.reduceLE, Int.reduceAdd, Int.reduceSub, Int.reduceMul, Nat.reduceLT, Int.reduceToNat]
          refine ⟨ws.length - (i + 1), by omega, i + 1, by omega, rfl, rfl, ?_⟩
          have heq : vs[i] = ws[i] := by
            cases hv : vs[i]; cases hw : ws[i]
            simp only [hv, hw] at hn he
            rw [hn, he]
          rw [List.take_succ_eq_append_getElem hlt, List.take_succ_eq_append_getElem hltv, ht, heq]
        · have hne : vs ≠ ws := fun e => he (by simp [e])
          simp -implicitDefEqProofs (maxSteps := 2000000) only [he, hne, wk, act, asV, ↓reduceIte, Nat.reduceEqDiff, reduceCtorEq, Nat.reduceAdd, Nat.reduceLeDiff, Nat.reduceSub, Nat.reduceMul, List.reduceReplicate, Int.reduceEq, Int.reduceLT, Int.reduceLE, Int.reduceAdd, Int.reduceSub, Int.reduceMul, Nat.reduceLT, Int.reduceToNat]
      · have hne : vs ≠ ws := fun e => hn (by simp [e])
        simp -implicitDefEqProofs (maxSteps := 2000000) only [Int.ofNat_lt, hlt, h0, h1, h5, h2, hle, hn, hne, vl_length, drop_vl hlt, drop_vl hltv, wk, act, asV, ↓reduceIte, Nat.reduceEqDiff, reduceCtorEq, Nat.reduceAdd, Nat.reduceLeDiff, Nat.reduceSub, Nat.reduceMul, List.reduceReplicate, Int.reduceEq, Int.reduceLT, Int.reduceLE, Int.reduceAdd, Int.reduceSub, Int.reduceMul, Nat.reduceLT, Int.reduceToNat]
    · have : vs = ws := by
        have : i = ws.length := by omega
        subst this
        rwa [List.take_of_length_le (by omega), List.take_of_length_le (by omega)] at ht
      simp -implicitDefEqProofs (maxSteps := 2000000) only [Int.ofNat_lt, hlt, h0, h1, h5, this, wk, act, asV, ↓reduceIte, Nat.reduceEqDiff, reduceCtorEq, Nat.reduceAdd, Nat.reduceLeDiff, Nat.reduceSub, Nat.reduceMul, List.reduceReplicate, Int.reduceEq, Int.reduceLT, Int.reduceLE, Int.reduceAdd, Int.reduceSub, Int.reduceMul, Nat.reduceLT, Int.reduceToNat]
  · have hne : ¬ ((vs.length : Int) = ws.length) := by omega
    have hne' : vs ≠ ws := fun e => hle (by rw [e])
    simp -implicitDefEqProofs (maxSteps := 2000000) only [hne, hne', wk, act, asV, ↓reduceIte, Nat.reduceEqDiff, reduceCtorEq, Nat.reduceAdd, Nat.reduceLeDiff, Nat.reduceSub, Nat.reduceMul, List.reduceReplicate, Int.reduceEq, Int.reduceLT, Int.reduceLE, Int.reduceAdd, Int.reduceSub, Int.reduceMul, Nat.reduceLT, Int.reduceToNat]

end Go.Proofs.YtmblapgoimegkaaDoor
