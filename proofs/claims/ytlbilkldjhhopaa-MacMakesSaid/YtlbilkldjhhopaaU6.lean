/- Whether bytes are alike. -/
import Derived.Test.YtlbilkldjhhopaaU3
import Derived.Test.YtlbilkldjhhopaaE31
import Derived.Test.YtlbilkldjhhopaaM8
set_option linter.unusedVariables false
set_option linter.unusedSimpArgs false
set_option linter.unusedSectionVars false
set_option maxRecDepth 100000
set_option maxHeartbeats 4000000
namespace Go.Proofs.Ytlbilkldjhhopaa
open Go.RowKit

theorem b_xor (x y : UInt8) : bitsI .xor .u8 (x.toNat : Int) (y.toNat : Int) = some (((x ^^^ y).toNat : Nat) : Int) := by
  rw [UInt8.toNat_xor]
  exact bitsI_xor .u8 (by have := x.toNat_lt; simpa [vbits, IntKind.signed, IntKind.bits] using this) (by have := y.toNat_lt; simpa [vbits, IntKind.signed, IntKind.bits] using this)
theorem b_or (x y : UInt8) : bitsI .or .u8 (x.toNat : Int) (y.toNat : Int) = some (((x ||| y).toNat : Nat) : Int) := by
  rw [UInt8.toNat_or]
  exact bitsI_or .u8 (by have := x.toNat_lt; simpa [vbits, IntKind.signed, IntKind.bits] using this) (by have := y.toNat_lt; simpa [vbits, IntKind.signed, IntKind.bits] using this)
def accX (a b : List UInt8) : Nat → UInt8
  | 0 => 0
  | i + 1 => accX a b i ||| (a.getD i 0 ^^^ b.getD i 0)
theorem accX_zero (a b : List UInt8) : ∀ n, accX a b n = 0 ↔ ∀ j, j < n → a.getD j 0 = b.getD j 0
  | 0 => by simp [accX]
  | n + 1 => by
    have key : ∀ x y z : UInt8, (x ||| (y ^^^ z) = 0) ↔ (x = 0 ∧ y = z) := by
      intro x y z
      rw [UInt8.or_eq_zero_iff, UInt8.xor_eq_zero_iff]
    rw [accX, key, accX_zero a b n]
    constructor
    · rintro ⟨h1, h2⟩ j hj
      by_cases hjn : j < n
      · exact h1 j hjn
      · obtain rfl : j = n := by omega
        exact h2
    · intro h
      exact ⟨fun j hj => h j (by omega), h n (by omega)⟩
theorem eq_of_getD {a b : List UInt8} (hl : a.length = b.length) (h : ∀ j, j < a.length → a.getD j 0 = b.getD j 0) : a = b := by
  refine List.ext_getElem hl fun j h1 h2 => ?_
  have := h j h1
  rwa [List.getD_eq_getElem?_getD, List.getD_eq_getElem?_getD, List.getElem?_eq_getElem h1, List.getElem?_eq_getElem h2] at this
theorem same_ok (f g : Fl) (a b : List UInt8) (ha : a.length < 2 ^ 62) (hb : b.length < 2 ^ 62) : RC Try.prog 35 [.sl f a.length (bl a), .sl g b.length (bl b)] [.bool (decide (a = b))] := by
  refine RC.of_wp c35 rfl ?_
  by_cases hl : a.length = b.length
  · obtain ⟨n, hn⟩ : ∃ n, n = a.length := ⟨_, rfl⟩
    have hbn : b.length = n := by omega
    rw [← hn, hbn]
    have hla : (bl a).length = n := by rw [bl_length, hn]
    have hlb : (bl b).length = n := by rw [bl_length, hbn]
    simp -implicitDefEqProofs (maxSteps := 2000000) only [m35_1, m35_2, m35_3, m35_4, m35_5, m35_6, m35_7, m35_8, m35_9, m35_10, m35_r, m35_b, m35, wk, act, asV, ↓reduceIte, Nat.reduceEqDiff, reduceCtorEq, Nat.reduceAdd, Nat.reduceLeDiff, Nat.reduceSub, Nat.reduceMul, List.reduceReplicate, Int.reduceEq, Int.reduceLT, Int.reduceLE, Int.reduceAdd, Int.reduceSub, Int.reduceMul, Nat.reduceLT, Int.reduceToNat]
    refine Wp_loop (fun m s => ∃ i, i ≤ n ∧ m = n - i ∧ s.t 0 = .sl f n (bl a) ∧ s.t 1 = .sl g n (bl b) ∧ s.t 5 = .int .u8 ((accX a b i).toNat : Nat) ∧ s.t 14 = .int .i64 (i : Nat) ∧ s.t 13 = .int .i64 (n : Nat)) n ⟨0, by omega, rfl, rfl, rfl, rfl, rfl, by simp -implicitDefEqProofs (maxSteps := 2000000) only [wk, act, asV, ↓reduceIte, Nat.reduceEqDiff, reduceCtorEq, Nat.reduceAdd, Nat.reduceLeDiff, Nat.reduceSub, Nat.reduceMul, List.reduceReplicate, Int.reduceEq, Int.reduceLT, Int.reduceLE, Int.reduceAdd, Int.reduceSub, Int.reduceMul, Nat.reduceLT, Int.reduceToNat]⟩ ?_
    rintro k s ⟨i, hi, rfl, g0, g1, g5, g14, g13⟩
    by_cases hia : i < n
    · have b1 : ((i : Nat) : Int) < ((n : Nat) : Int) := by omega
      have b3 := at_b (b := a) (k := i) (by omega)
      have b4 := at_b (b := b) (k := i) (by omega)
      have x1 := b_xor (a.getD i 0) (b.getD i 0)
      have x2 := b_or (accX a b i) (a.getD i 0 ^^^ b.getD i 0)
      have wi : IntKind.i64.wrap (((i : Nat) : Int) + 1) = ((i + 1 : Nat) : Int) := by rw [IntKind.wrap_i64]; omega
      have l1 : 1 ≤ (List.drop i (bl a)).length := by rw [List.length_drop, hla]; omega
      have l2 : 1 ≤ (List.drop i (bl b)).length := by rw [List.length_drop, hlb]; omega
      simp -implicitDefEqProofs (maxSteps := 2000000) only [g0, g1, g5, g14, g13, b1, b3, b4, x1, x2, wi, l1, l2, hla, hlb, wk, act, asV, ↓reduceIte, Nat.reduceEqDiff, reduceCtorEq, Nat.reduceAdd, Nat.reduceLeDiff, Nat.reduceSub, Nat.reduceMul, List.reduceReplicate, Int.reduceEq, Int.reduceLT, Int.reduceLE, Int.reduceAdd, Int.reduceSub, Int.reduceMul, Nat.reduceLT, Int.reduceToNat]
      exact ⟨n - (i + 1), by omega, i + 1, by omega, rfl, rfl, rfl⟩
    · obtain rfl : i = n := by omega
      have b1 : ¬ ((i : Nat) : Int) < ((i : Nat) : Int) := by omega
      have hfin : (((accX a b i).toNat : Int) = 0) = (a = b) := by
        apply propext
        have e1 : (((accX a b i).toNat : Int) = 0) ↔ accX a b i = 0 := by
          rw [← UInt8.toNat_inj]
          simp only [UInt8.toNat_zero]
          omega
        rw [e1, accX_zero]
        exact ⟨fun h => eq_of_getD hl fun j hj => h j (by omega), fun h j _ => by rw [h]⟩
      simp -implicitDefEqProofs (maxSteps := 2000000) only [g5, g13, g14, b1, hfin, wk, act, asV, ↓reduceIte, Nat.reduceEqDiff, reduceCtorEq, Nat.reduceAdd, Nat.reduceLeDiff, Nat.reduceSub, Nat.reduceMul, List.reduceReplicate, Int.reduceEq, Int.reduceLT, Int.reduceLE, Int.reduceAdd, Int.reduceSub, Int.reduceMul, Nat.reduceLT, Int.reduceToNat]
  · have hl2 : ¬ ((a.length : Nat) : Int) = (b.length : Nat) := by omega
    have hne : ¬ a = b := fun e => hl (by rw [e])
    rw [decide_eq_false hne]
    simp -implicitDefEqProofs (maxSteps := 2000000) only [m35_1, m35_2, m35_3, m35_4, m35_5, m35_6, m35_7, m35_8, m35_9, m35_10, m35_r, m35_b, m35, hl2, wk, act, asV, ↓reduceIte, Nat.reduceEqDiff, reduceCtorEq, Nat.reduceAdd, Nat.reduceLeDiff, Nat.reduceSub, Nat.reduceMul, List.reduceReplicate, Int.reduceEq, Int.reduceLT, Int.reduceLE, Int.reduceAdd, Int.reduceSub, Int.reduceMul, Nat.reduceLT, Int.reduceToNat]
end Go.Proofs.Ytlbilkldjhhopaa

/-! A chain. -/
set_option linter.unusedVariables false
set_option linter.unusedSimpArgs false
set_option linter.unusedSectionVars false
set_option maxRecDepth 100000
set_option maxHeartbeats 4000000
namespace Go.Proofs.Ytlbilkldjhhopaa
open Go.RowKit

def linkB (h : List UInt8) (ps : List (Fl × List UInt8)) : Nat → List UInt8
  | 0 => h
  | i + 1 => shaB (linkB h ps i ++ (ps.getD i (.plain, [])).2)
theorem linkB_length {h : List UInt8} (hh : h.length = 32) (ps : List (Fl × List UInt8)) : ∀ i, (linkB h ps i).length = 32
  | 0 => hh
  | i + 1 => digest_length _
def chainF (h : List UInt8) (ps : List (Fl × List UInt8)) : Nat → List UInt8
  | 0 => []
  | i + 1 => chainF h ps i ++ linkB h ps (i + 1)
theorem chainF_length {h : List UInt8} (hh : h.length = 32) (ps : List (Fl × List UInt8)) : ∀ i, (chainF h ps i).length = i * 32
  | 0 => rfl
  | i + 1 => by rw [chainF, List.length_append, chainF_length hh ps i, linkB_length hh]; omega
/-- links, as a row -/
def ownC (n : Nat) (c : List UInt8) : IV := if n = 0 then .sl .full 0 [] else .own n 32 (bl c)
theorem roomy32 {n : Nat} (h : n ≤ 2 ^ 30) : roomy n 32 = true := by simp [roomy]; omega
theorem part_le (ps : List (Fl × List UInt8)) {i : Nat} (h : i < ps.length) : ps[i].2.length ≤ (joined ps).length := by
  have hall := joined_le ps (i + 1)
  have ej : (joined (ps.take (i + 1))).length = (joined (ps.take i)).length + ps[i].2.length := by rw [List.take_succ_eq_append_getElem h, joined_snoc, List.length_append]
  omega
theorem one_part (p : List UInt8) : joined [(Fl.plain, p)] = p := by simp [joined]

theorem chain_ok (f : Fl) (hf : ¬ f = .lit) (h : List UInt8) (ps : List (Fl × List UInt8)) (hh : h.length = 32) (hn : ps.length ≤ 2 ^ 30) (hl : (joined ps).length ≤ 2 ^ 39) (hp : ∀ p ∈ ps, p.1 = .plain) : RC Try.prog 33 [.agg (bl h), .sl f ps.length (pl ps)] [ownC ps.length (chainF h ps ps.length)] := by
  refine RC.of_wp c33 rfl ?_
  have hlb : (bl h).length = 32 := by rw [bl_length, hh]
  have hx := bl_scal h
  simp -implicitDefEqProofs (maxSteps := 2000000) only [m33_1, m33_2, m33_3, m33_4, m33_5, m33_6, m33_7, m33_8, m33_9, m33_r, m33_b, m33, hlb, hx, wk, act, asV, ↓reduceIte, Nat.reduceEqDiff, reduceCtorEq, Nat.reduceAdd, Nat.reduceLeDiff, Nat.reduceSub, Nat.reduceMul, List.reduceReplicate, Int.reduceEq, Int.reduceLT, Int.reduceLE, Int.reduceAdd, Int.reduceSub, Int.reduceMul, Nat.reduceLT, Int.reduceToNat]
  refine Wp_loop (fun m s => ∃ i, i ≤ ps.length ∧ m = ps.length - i ∧ s.t 8 = .sl f ps.length (pl ps) ∧ s.t 9 = .int .i64 (ps.length : Nat) ∧ s.t 10 = .int .i64 (i : Nat) ∧ (∃ v2, s.t 2 = .ptr 2 0 v2 ∧ s.h 2 = ⟨v2, true, true, false, bl (linkB h ps i)⟩) ∧ ((i = 0 ∧ s.t 5 = .sl .full 0 []) ∨ (0 < i ∧ ∃ ver, s.t 5 = .row 21 0 i 32 ver ∧ s.h 21 = ⟨ver, true, true, true, bl (chainF h ps i)⟩))) ps.length ⟨0, by omega, rfl, by simp -implicitDefEqProofs (maxSteps := 2000000) only [wk, act, asV, ↓reduceIte, Nat.reduceEqDiff, reduceCtorEq, Nat.reduceAdd, Nat.reduceLeDiff, Nat.reduceSub, Nat.reduceMul, List.reduceReplicate, Int.reduceEq, Int.reduceLT, Int.reduceLE, Int.reduceAdd, Int.reduceSub, Int.reduceMul, Nat.reduceLT, Int.reduceToNat], by simp -implicitDefEqProofs (maxSteps := 2000000) only [wk, act, asV, ↓reduceIte, Nat.reduceEqDiff, reduceCtorEq, Nat.reduceAdd, Nat.reduceLeDiff, Nat.reduceSub, Nat.reduceMul, List.reduceReplicate, Int.reduceEq, Int.reduceLT, Int.reduceLE, Int.reduceAdd, Int.reduceSub, Int.reduceMul, Nat.reduceLT, Int.reduceToNat], by simp -implicitDefEqProofs (maxSteps := 2000000) only [wk, act, asV, ↓reduceIte, Nat.reduceEqDiff, reduceCtorEq, Nat.reduceAdd, Nat.reduceLeDiff, Nat.reduceSub, Nat.reduceMul, List.reduceReplicate, Int.reduceEq, Int.reduceLT, Int.reduceLE, Int.reduceAdd, Int.reduceSub, Int.reduceMul, Nat.reduceLT, Int.reduceToNat], ⟨_, by simp -implicitDefEqProofs (maxSteps := 2000000) only [wk, act, asV, ↓reduceIte, Nat.reduceEqDiff, reduceCtorEq, Nat.reduceAdd, Nat.reduceLeDiff, Nat.reduceSub, Nat.reduceMul, List.reduceReplicate, Int.reduceEq, Int.reduceLT, Int.reduceLE, Int.reduceAdd, Int.reduceSub, Int.reduceMul, Nat.reduceLT, Int.reduceToNat]; first | done | rfl, by simp -implicitDefEqProofs (maxSteps := 2000000) only [wk, act, asV, ↓reduceIte, Nat.reduceEqDiff, reduceCtorEq, Nat.reduceAdd, Nat.reduceLeDiff, Nat.reduceSub, Nat.reduceMul, List.reduceReplicate, Int.reduceEq, Int.reduceLT, Int.reduceLE, Int.reduceAdd, Int.reduceSub, Int.reduceMul, Nat.reduceLT, Int.reduceToNat]; first | done | rfl⟩, .inl ⟨rfl, by simp -implicitDefEqProofs (maxSteps := 2000000) only [wk, act, asV, ↓reduceIte, Nat.reduceEqDiff, reduceCtorEq, Nat.reduceAdd, Nat.reduceLeDiff, Nat.reduceSub, Nat.reduceMul, List.reduceReplicate, Int.reduceEq, Int.reduceLT, Int.reduceLE, Int.reduceAdd, Int.reduceSub, Int.reduceMul, Nat.reduceLT, Int.reduceToNat]⟩⟩ ?_
  rintro m s ⟨i, hi, rfl, k8, k9, k10, ⟨v2, k2, kh2⟩, k5⟩
  by_cases hil : i < ps.length
  · have hil' : (i : Int) < ps.length := by omega
    have c1 := step_ok .full (by decide) (linkB h ps i) [(.plain, ps[i].2)] (linkB_length hh ps i) (by simp) (by rw [one_part]; have := part_le ps hil; omega)
    have dp := drop_pl hil
    rw [hp _ (List.getElem_mem hil)] at dp
    have eL : linkB h ps (i + 1) = shaB (linkB h ps i ++ ps[i].2) := by
      have : ps.getD i (.plain, []) = ps[i] := by rw [List.getD_eq_getElem?_getD, List.getElem?_eq_getElem hil]; rfl
      rw [linkB, this]
    rw [one_part, ← eL] at c1
    have ep : pl [(Fl.plain, ps[i].2)] = [.sl .plain ps[i].2.length (bl ps[i].2)] := rfl
    rw [ep, List.length_cons, List.length_nil] at c1
    have dG : (bl (linkB h ps (i + 1))).length = 32 := by rw [bl_length, linkB_length hh]
    have dH : (bl (linkB h ps i)).length = 32 := by rw [bl_length, linkB_length hh]
    have tH : List.take 32 (bl (linkB h ps i)) = bl (linkB h ps i) := List.take_of_length_le (by omega)
    have tG : List.take 32 (bl (linkB h ps (i + 1))) = bl (linkB h ps (i + 1)) := List.take_of_length_le (by omega)
    have xH : List.drop 32 (bl (linkB h ps i)) = [] := List.drop_of_length_le (by omega)
    have xG : List.drop 32 (bl (linkB h ps (i + 1))) = [] := List.drop_of_length_le (by omega)
    have wi : IntKind.i64.wrap (((i : Nat) : Int) + 1) = ((i + 1 : Nat) : Int) := by rw [IntKind.wrap_i64]; omega
    have r1 : roomy 1 32 = true := by decide
    have r2 : roomy (i + 1) 32 = true := roomy32 (by omega)
    have hc := chainF_length hh ps i
    have hcl : (bl (chainF h ps i)).length = i * 32 := by rw [bl_length, hc]
    rcases k5 with ⟨hi0, k5⟩ | ⟨hi0, ver, k5, kh⟩
    · repeat' (first | simp -implicitDefEqProofs (maxSteps := 2000000) only [k8, k9, k10, k2, kh2, k5, hil', hil, dp, pl_length, bl_length, tH, tG, xH, xG, dG, dH, wi, r1, bl_scal, wk, act, asV, ↓reduceIte, Nat.reduceEqDiff, reduceCtorEq, Nat.reduceAdd, Nat.reduceLeDiff, Nat.reduceSub, Nat.reduceMul, List.reduceReplicate, Int.reduceEq, Int.reduceLT, Int.reduceLE, Int.reduceAdd, Int.reduceSub, Int.reduceMul, Nat.reduceLT, Int.reduceToNat] | ((with_reducible refine CallL.gate ?_); refine CallL.of (by simp -implicitDefEqProofs (maxSteps := 2000000) only [k8, k9, k10, k2, kh2, k5, hil', hil, dp, pl_length, bl_length, tH, tG, xH, xG, dG, dH, wi, r1, bl_scal, wk, act, asV, ↓reduceIte, Nat.reduceEqDiff, reduceCtorEq, Nat.reduceAdd, Nat.reduceLeDiff, Nat.reduceSub, Nat.reduceMul, List.reduceReplicate, Int.reduceEq, Int.reduceLT, Int.reduceLE, Int.reduceAdd, Int.reduceSub, Int.reduceMul, Nat.reduceLT, Int.reduceToNat]; first | done | (with_reducible rfl)) (by first | exact c1) (by simp -implicitDefEqProofs (maxSteps := 2000000) only [k8, k9, k10, k2, kh2, k5, hil', hil, dp, pl_length, bl_length, tH, tG, xH, xG, dG, dH, wi, r1, bl_scal, wk, act, asV, ↓reduceIte, Nat.reduceEqDiff, reduceCtorEq, Nat.reduceAdd, Nat.reduceLeDiff, Nat.reduceSub, Nat.reduceMul, List.reduceReplicate, Int.reduceEq, Int.reduceLT, Int.reduceLE, Int.reduceAdd, Int.reduceSub, Int.reduceMul, Nat.reduceLT, Int.reduceToNat]) ?_) | ((with_reducible refine CallpL.gate ?_); refine CallpL.of (by simp -implicitDefEqProofs (maxSteps := 2000000) only [k8, k9, k10, k2, kh2, k5, hil', hil, dp, pl_length, bl_length, tH, tG, xH, xG, dG, dH, wi, r1, bl_scal, wk, act, asV, ↓reduceIte, Nat.reduceEqDiff, reduceCtorEq, Nat.reduceAdd, Nat.reduceLeDiff, Nat.reduceSub, Nat.reduceMul, List.reduceReplicate, Int.reduceEq, Int.reduceLT, Int.reduceLE, Int.reduceAdd, Int.reduceSub, Int.reduceMul, Nat.reduceLT, Int.reduceToNat]; first | done | (with_reducible rfl)) (by first | exact c1) (by simp -implicitDefEqProofs (maxSteps := 2000000) only [k8, k9, k10, k2, kh2, k5, hil', hil, dp, pl_length, bl_length, tH, tG, xH, xG, dG, dH, wi, r1, bl_scal, wk, act, asV, ↓reduceIte, Nat.reduceEqDiff, reduceCtorEq, Nat.reduceAdd, Nat.reduceLeDiff, Nat.reduceSub, Nat.reduceMul, List.reduceReplicate, Int.reduceEq, Int.reduceLT, Int.reduceLE, Int.reduceAdd, Int.reduceSub, Int.reduceMul, Nat.reduceLT, Int.reduceToNat]) ?_) | ((with_reducible refine CallP.gate ?_); refine CallP.of (by simp -implicitDefEqProofs (maxSteps := 2000000) only [k8, k9, k10, k2, kh2, k5, hil', hil, dp, pl_length, bl_length, tH, tG, xH, xG, dG, dH, wi, r1, bl_scal, wk, act, asV, ↓reduceIte, Nat.reduceEqDiff, reduceCtorEq, Nat.reduceAdd, Nat.reduceLeDiff, Nat.reduceSub, Nat.reduceMul, List.reduceReplicate, Int.reduceEq, Int.reduceLT, Int.reduceLE, Int.reduceAdd, Int.reduceSub, Int.reduceMul, Nat.reduceLT, Int.reduceToNat]; first | done | (with_reducible rfl)) (by first | exact c1) (by simp -implicitDefEqProofs (maxSteps := 2000000) only [k8, k9, k10, k2, kh2, k5, hil', hil, dp, pl_length, bl_length, tH, tG, xH, xG, dG, dH, wi, r1, bl_scal, wk, act, asV, ↓reduceIte, Nat.reduceEqDiff, reduceCtorEq, Nat.reduceAdd, Nat.reduceLeDiff, Nat.reduceSub, Nat.reduceMul, List.reduceReplicate, Int.reduceEq, Int.reduceLT, Int.reduceLE, Int.reduceAdd, Int.reduceSub, Int.reduceMul, Nat.reduceLT, Int.reduceToNat]) ?_) | ((with_reducible refine CallpP.gate ?_); refine CallpP.of (by simp -implicitDefEqProofs (maxSteps := 2000000) only [k8, k9, k10, k2, kh2, k5, hil', hil, dp, pl_length, bl_length, tH, tG, xH, xG, dG, dH, wi, r1, bl_scal, wk, act, asV, ↓reduceIte, Nat.reduceEqDiff, reduceCtorEq, Nat.reduceAdd, Nat.reduceLeDiff, Nat.reduceSub, Nat.reduceMul, List.reduceReplicate, Int.reduceEq, Int.reduceLT, Int.reduceLE, Int.reduceAdd, Int.reduceSub, Int.reduceMul, Nat.reduceLT, Int.reduceToNat]; first | done | (with_reducible rfl)) (by first | exact c1) (by simp -implicitDefEqProofs (maxSteps := 2000000) only [k8, k9, k10, k2, kh2, k5, hil', hil, dp, pl_length, bl_length, tH, tG, xH, xG, dG, dH, wi, r1, bl_scal, wk, act, asV, ↓reduceIte, Nat.reduceEqDiff, reduceCtorEq, Nat.reduceAdd, Nat.reduceLeDiff, Nat.reduceSub, Nat.reduceMul, List.reduceReplicate, Int.reduceEq, Int.reduceLT, Int.reduceLE, Int.reduceAdd, Int.reduceSub, Int.reduceMul, Nat.reduceLT, Int.reduceToNat]) ?_))
      subst hi0
      have ec : chainF h ps (0 + 1) = linkB h ps (0 + 1) := by rw [chainF, chainF, List.nil_append]
      refine ⟨ps.length - (0 + 1), by omega, 0 + 1, by omega, rfl, rfl, ⟨_, rfl, rfl⟩, by omega, _, rfl, ?_⟩
      rw [ec]
    · repeat' (first | simp -implicitDefEqProofs (maxSteps := 2000000) only [k8, k9, k10, k2, kh2, k5, kh, hil', hil, dp, pl_length, bl_length, tH, tG, xH, xG, dG, dH, wi, r2, hcl, hc, bl_scal, wk, act, asV, ↓reduceIte, Nat.reduceEqDiff, reduceCtorEq, Nat.reduceAdd, Nat.reduceLeDiff, Nat.reduceSub, Nat.reduceMul, List.reduceReplicate, Int.reduceEq, Int.reduceLT, Int.reduceLE, Int.reduceAdd, Int.reduceSub, Int.reduceMul, Nat.reduceLT, Int.reduceToNat] | ((with_reducible refine CallL.gate ?_); refine CallL.of (by simp -implicitDefEqProofs (maxSteps := 2000000) only [k8, k9, k10, k2, kh2, k5, kh, hil', hil, dp, pl_length, bl_length, tH, tG, xH, xG, dG, dH, wi, r2, hcl, hc, bl_scal, wk, act, asV, ↓reduceIte, Nat.reduceEqDiff, reduceCtorEq, Nat.reduceAdd, Nat.reduceLeDiff, Nat.reduceSub, Nat.reduceMul, List.reduceReplicate, Int.reduceEq, Int.reduceLT, Int.reduceLE, Int.reduceAdd, Int.reduceSub, Int.reduceMul, Nat.reduceLT, Int.reduceToNat]; first | done | (with_reducible rfl)) (by first | exact c1) (by simp -implicitDefEqProofs (maxSteps := 2000000) only [k8, k9, k10, k2, kh2, k5, kh, hil', hil, dp, pl_length, bl_length, tH, tG, xH, xG, dG, dH, wi, r2, hcl, hc, bl_scal, wk, act, asV, ↓reduceIte, Nat.reduceEqDiff, reduceCtorEq, Nat.reduceAdd, Nat.reduceLeDiff, Nat.reduceSub, Nat.reduceMul, List.reduceReplicate, Int.reduceEq, Int.reduceLT, Int.reduceLE, Int.reduceAdd, Int.reduceSub, Int.reduceMul, Nat.reduceLT, Int.reduceToNat]) ?_) | ((with_reducible refine CallpL.gate ?_); refine CallpL.of (by simp -implicitDefEqProofs (maxSteps := 2000000) only [k8, k9, k10, k2, kh2, k5, kh, hil', hil, dp, pl_length, bl_length, tH, tG, xH, xG, dG, dH, wi, r2, hcl, hc, bl_scal, wk, act, asV, ↓reduceIte, Nat.reduceEqDiff, reduceCtorEq, Nat.reduceAdd, Nat.reduceLeDiff, Nat.reduceSub, Nat.reduceMul, List.reduceReplicate, Int.reduceEq, Int.reduceLT, Int.reduceLE, Int.reduceAdd, Int.reduceSub, Int.reduceMul, Nat.reduceLT, Int.reduceToNat]; first | done | (with_reducible rfl)) (by first | exact c1) (by simp -implicitDefEqProofs (maxSteps := 2000000) only [k8, k9, k10, k2, kh2, k5, kh, hil', hil, dp, pl_length, bl_length, tH, tG, xH, xG, dG, dH, wi, r2, hcl, hc, bl_scal, wk, act, asV, ↓reduceIte, Nat.reduceEqDiff, reduceCtorEq, Nat.reduceAdd, Nat.reduceLeDiff, Nat.reduceSub, Nat.reduceMul, List.reduceReplicate, Int.reduceEq, Int.reduceLT, Int.reduceLE, Int.reduceAdd, Int.reduceSub, Int.reduceMul, Nat.reduceLT, Int.reduceToNat]) ?_) | ((with_reducible refine CallP.gate ?_); refine CallP.of (by simp -implicitDefEqProofs (maxSteps := 2000000) only [k8, k9, k10, k2, kh2, k5, kh, hil', hil, dp, pl_length, bl_length, tH, tG, xH, xG, dG, dH, wi, r2, hcl, hc, bl_scal, wk, act, asV, ↓reduceIte, Nat.reduceEqDiff, reduceCtorEq, Nat.reduceAdd, Nat.reduceLeDiff, Nat.reduceSub, Nat.reduceMul, List.reduceReplicate, Int.reduceEq, Int.reduceLT, Int.reduceLE, Int.reduceAdd, Int.reduceSub, Int.reduceMul, Nat.reduceLT, Int.reduceToNat]; first | done | (with_reducible rfl)) (by first | exact c1) (by simp -implicitDefEqProofs (maxSteps := 2000000) only [k8, k9, k10, k2, kh2, k5, kh, hil', hil, dp, pl_length, bl_length, tH, tG, xH, xG, dG, dH, wi, r2, hcl, hc, bl_scal, wk, act, asV, ↓reduceIte, Nat.reduceEqDiff, reduceCtorEq, Nat.reduceAdd, Nat.reduceLeDiff, Nat.reduceSub, Nat.reduceMul, List.reduceReplicate, Int.reduceEq, Int.reduceLT, Int.reduceLE, Int.reduceAdd, Int.reduceSub, Int.reduceMul, Nat.reduceLT, Int.reduceToNat]) ?_) | ((with_reducible refine CallpP.gate ?_); refine CallpP.of (by simp -implicitDefEqProofs (maxSteps := 2000000) only [k8, k9, k10, k2, kh2, k5, kh, hil', hil, dp, pl_length, bl_length, tH, tG, xH, xG, dG, dH, wi, r2, hcl, hc, bl_scal, wk, act, asV, ↓reduceIte, Nat.reduceEqDiff, reduceCtorEq, Nat.reduceAdd, Nat.reduceLeDiff, Nat.reduceSub, Nat.reduceMul, List.reduceReplicate, Int.reduceEq, Int.reduceLT, Int.reduceLE, Int.reduceAdd, Int.reduceSub, Int.reduceMul, Nat.reduceLT, Int.reduceToNat]; first | done | (with_reducible rfl)) (by first | exact c1) (by simp -implicitDefEqProofs (maxSteps := 2000000) only [k8, k9, k10, k2, kh2, k5, kh, hil', hil, dp, pl_length, bl_length, tH, tG, xH, xG, dG, dH, wi, r2, hcl, hc, bl_scal, wk, act, asV, ↓reduceIte, Nat.reduceEqDiff, reduceCtorEq, Nat.reduceAdd, Nat.reduceLeDiff, Nat.reduceSub, Nat.reduceMul, List.reduceReplicate, Int.reduceEq, Int.reduceLT, Int.reduceLE, Int.reduceAdd, Int.reduceSub, Int.reduceMul, Nat.reduceLT, Int.reduceToNat]) ?_))
      have ec : bl (chainF h ps i) ++ bl (linkB h ps (i + 1)) = bl (chainF h ps (i + 1)) := by rw [chainF, bl_append]
      refine ⟨ps.length - (i + 1), by omega, i + 1, by omega, rfl, rfl, ⟨_, rfl, rfl⟩, by omega, _, rfl, ?_⟩
      rw [ec]
  · have hie : i = ps.length := by omega
    have hil' : ¬ (i : Int) < ps.length := by omega
    rcases k5 with ⟨hi0, k5⟩ | ⟨hi0, ver, k5, kh⟩
    · have h0 : ps.length = 0 := by omega
      have ho : ownC ps.length (chainF h ps ps.length) = .sl .full 0 [] := by unfold ownC; rw [if_pos h0]
      rw [ho]
      simp -implicitDefEqProofs (maxSteps := 2000000) only [k8, k9, k10, k5, hil', wk, act, asV, ↓reduceIte, Nat.reduceEqDiff, reduceCtorEq, Nat.reduceAdd, Nat.reduceLeDiff, Nat.reduceSub, Nat.reduceMul, List.reduceReplicate, Int.reduceEq, Int.reduceLT, Int.reduceLE, Int.reduceAdd, Int.reduceSub, Int.reduceMul, Nat.reduceLT, Int.reduceToNat]
    · subst hie
      have hc := chainF_length hh ps ps.length
      have ho : ownC ps.length (chainF h ps ps.length) = .own ps.length 32 (bl (chainF h ps ps.length)) := by unfold ownC; rw [if_neg (by omega)]
      have tk : List.take (ps.length * 32) (bl (chainF h ps ps.length)) = bl (chainF h ps ps.length) := List.take_of_length_le (by rw [bl_length, hc]; exact Nat.le_refl _)
      rw [ho]
      simp -implicitDefEqProofs (maxSteps := 2000000) only [k8, k9, k10, k5, kh, hil', tk, wk, act, asV, ↓reduceIte, Nat.reduceEqDiff, reduceCtorEq, Nat.reduceAdd, Nat.reduceLeDiff, Nat.reduceSub, Nat.reduceMul, List.reduceReplicate, Int.reduceEq, Int.reduceLT, Int.reduceLE, Int.reduceAdd, Int.reduceSub, Int.reduceMul, Nat.reduceLT, Int.reduceToNat]
end Go.Proofs.Ytlbilkldjhhopaa

/-! The reference's chain. -/
set_option linter.unusedVariables false
set_option linter.unusedSimpArgs false
set_option linter.unusedSectionVars false
set_option maxRecDepth 100000
set_option maxHeartbeats 4000000
namespace Go.Proofs.Ytlbilkldjhhopaa
open Go.RowKit

theorem chainR_ok (f : Fl) (hf : ¬ f = .lit) (h : List UInt8) (ps : List (Fl × List UInt8)) (hh : h.length = 32) (hn : ps.length ≤ 2 ^ 30) (hl : (joined ps).length ≤ 2 ^ 39) (hp : ∀ p ∈ ps, p.1 = .plain) : RC Try.prog 34 [.agg (bl h), .sl f ps.length (pl ps)] [ownC ps.length (chainF h ps ps.length)] := by
  refine RC.of_wp c34 rfl ?_
  have hlb : (bl h).length = 32 := by rw [bl_length, hh]
  have hx := bl_scal h
  simp -implicitDefEqProofs (maxSteps := 2000000) only [m34_1, m34_2, m34_3, m34_4, m34_5, m34_6, m34_7, m34_r, m34_b, m34, hlb, hx, wk, act, asV, ↓reduceIte, Nat.reduceEqDiff, reduceCtorEq, Nat.reduceAdd, Nat.reduceLeDiff, Nat.reduceSub, Nat.reduceMul, List.reduceReplicate, Int.reduceEq, Int.reduceLT, Int.reduceLE, Int.reduceAdd, Int.reduceSub, Int.reduceMul, Nat.reduceLT, Int.reduceToNat]
  refine Wp_loop (fun m s => ∃ i, i ≤ ps.length ∧ m = ps.length - i ∧ s.t 1 = .sl f ps.length (pl ps) ∧ s.t 6 = .int .i64 (i : Nat) ∧ (∃ v2, s.t 2 = .ptr 2 0 v2 ∧ s.h 2 = ⟨v2, true, true, false, bl (linkB h ps i)⟩) ∧ ((i = 0 ∧ s.t 5 = .sl .full 0 []) ∨ (0 < i ∧ ∃ ver, s.t 5 = .row 23 0 i 32 ver ∧ s.h 23 = ⟨ver, true, true, true, bl (chainF h ps i)⟩))) ps.length ⟨0, by omega, rfl, by simp -implicitDefEqProofs (maxSteps := 2000000) only [wk, act, asV, ↓reduceIte, Nat.reduceEqDiff, reduceCtorEq, Nat.reduceAdd, Nat.reduceLeDiff, Nat.reduceSub, Nat.reduceMul, List.reduceReplicate, Int.reduceEq, Int.reduceLT, Int.reduceLE, Int.reduceAdd, Int.reduceSub, Int.reduceMul, Nat.reduceLT, Int.reduceToNat], by simp -implicitDefEqProofs (maxSteps := 2000000) only [wk, act, asV, ↓reduceIte, Nat.reduceEqDiff, reduceCtorEq, Nat.reduceAdd, Nat.reduceLeDiff, Nat.reduceSub, Nat.reduceMul, List.reduceReplicate, Int.reduceEq, Int.reduceLT, Int.reduceLE, Int.reduceAdd, Int.reduceSub, Int.reduceMul, Nat.reduceLT, Int.reduceToNat], ⟨_, by simp -implicitDefEqProofs (maxSteps := 2000000) only [wk, act, asV, ↓reduceIte, Nat.reduceEqDiff, reduceCtorEq, Nat.reduceAdd, Nat.reduceLeDiff, Nat.reduceSub, Nat.reduceMul, List.reduceReplicate, Int.reduceEq, Int.reduceLT, Int.reduceLE, Int.reduceAdd, Int.reduceSub, Int.reduceMul, Nat.reduceLT, Int.reduceToNat]; first | done | rfl, by simp -implicitDefEqProofs (maxSteps := 2000000) only [wk, act, asV, ↓reduceIte, Nat.reduceEqDiff, reduceCtorEq, Nat.reduceAdd, Nat.reduceLeDiff, Nat.reduceSub, Nat.reduceMul, List.reduceReplicate, Int.reduceEq, Int.reduceLT, Int.reduceLE, Int.reduceAdd, Int.reduceSub, Int.reduceMul, Nat.reduceLT, Int.reduceToNat]; first | done | rfl⟩, .inl ⟨rfl, by simp -implicitDefEqProofs (maxSteps := 2000000) only [wk, act, asV, ↓reduceIte, Nat.reduceEqDiff, reduceCtorEq, Nat.reduceAdd, Nat.reduceLeDiff, Nat.reduceSub, Nat.reduceMul, List.reduceReplicate, Int.reduceEq, Int.reduceLT, Int.reduceLE, Int.reduceAdd, Int.reduceSub, Int.reduceMul, Nat.reduceLT, Int.reduceToNat]⟩⟩ ?_
  rintro m s ⟨i, hi, rfl, k8, k10, ⟨v2, k2, kh2⟩, k5⟩
  by_cases hil : i < ps.length
  · have hil' : (i : Int) < ps.length := by omega
    have d1 : 1 ≤ (List.drop i (pl ps)).length := by rw [List.length_drop, pl_length]; omega
    have c1 := stepR_ok .full (by decide) (linkB h ps i) [(.plain, ps[i].2)] (linkB_length hh ps i) (by simp) (by rw [one_part]; have := part_le ps hil; omega)
    have dp := drop_pl hil
    rw [hp _ (List.getElem_mem hil)] at dp
    have eL : linkB h ps (i + 1) = shaB (linkB h ps i ++ ps[i].2) := by
      have : ps.getD i (.plain, []) = ps[i] := by rw [List.getD_eq_getElem?_getD, List.getElem?_eq_getElem hil]; rfl
      rw [linkB, this]
    rw [one_part, ← eL] at c1
    have ep : pl [(Fl.plain, ps[i].2)] = [.sl .plain ps[i].2.length (bl ps[i].2)] := rfl
    rw [ep, List.length_cons, List.length_nil] at c1
    have dG : (bl (linkB h ps (i + 1))).length = 32 := by rw [bl_length, linkB_length hh]
    have dH : (bl (linkB h ps i)).length = 32 := by rw [bl_length, linkB_length hh]
    have tH : List.take 32 (bl (linkB h ps i)) = bl (linkB h ps i) := List.take_of_length_le (by omega)
    have tG : List.take 32 (bl (linkB h ps (i + 1))) = bl (linkB h ps (i + 1)) := List.take_of_length_le (by omega)
    have xH : List.drop 32 (bl (linkB h ps i)) = [] := List.drop_of_length_le (by omega)
    have xG : List.drop 32 (bl (linkB h ps (i + 1))) = [] := List.drop_of_length_le (by omega)
    have wi : IntKind.i64.wrap (((i : Nat) : Int) + 1) = ((i + 1 : Nat) : Int) := by rw [IntKind.wrap_i64]; omega
    have r1 : roomy 1 32 = true := by decide
    have r2 : roomy (i + 1) 32 = true := roomy32 (by omega)
    have hc := chainF_length hh ps i
    have hcl : (bl (chainF h ps i)).length = i * 32 := by rw [bl_length, hc]
    rcases k5 with ⟨hi0, k5⟩ | ⟨hi0, ver, k5, kh⟩
    · repeat' (first | simp -implicitDefEqProofs (maxSteps := 2000000) only [k8, k10, k2, kh2, k5, hil', hil, dp, pl_length, bl_length, tH, tG, xH, xG, dG, dH, wi, r1, bl_scal, wk, act, asV, ↓reduceIte, Nat.reduceEqDiff, reduceCtorEq, Nat.reduceAdd, Nat.reduceLeDiff, Nat.reduceSub, Nat.reduceMul, List.reduceReplicate, Int.reduceEq, Int.reduceLT, Int.reduceLE, Int.reduceAdd, Int.reduceSub, Int.reduceMul, Nat.reduceLT, Int.reduceToNat] | ((with_reducible refine CallL.gate ?_); refine CallL.of (by simp -implicitDefEqProofs (maxSteps := 2000000) only [k8, k10, k2, kh2, k5, hil', hil, dp, pl_length, bl_length, tH, tG, xH, xG, dG, dH, wi, r1, bl_scal, wk, act, asV, ↓reduceIte, Nat.reduceEqDiff, reduceCtorEq, Nat.reduceAdd, Nat.reduceLeDiff, Nat.reduceSub, Nat.reduceMul, List.reduceReplicate, Int.reduceEq, Int.reduceLT, Int.reduceLE, Int.reduceAdd, Int.reduceSub, Int.reduceMul, Nat.reduceLT, Int.reduceToNat]; first | done | (with_reducible rfl)) (by first | exact c1) (by simp -implicitDefEqProofs (maxSteps := 2000000) only [k8, k10, k2, kh2, k5, hil', hil, dp, pl_length, bl_length, tH, tG, xH, xG, dG, dH, wi, r1, bl_scal, wk, act, asV, ↓reduceIte, Nat.reduceEqDiff, reduceCtorEq, Nat.reduceAdd, Nat.reduceLeDiff, Nat.reduceSub, Nat.reduceMul, List.reduceReplicate, Int.reduceEq, Int.reduceLT, Int.reduceLE, Int.reduceAdd, Int.reduceSub, Int.reduceMul, Nat.reduceLT, Int.reduceToNat]) ?_) | ((with_reducible refine CallpL.gate ?_); refine CallpL.of (by simp -implicitDefEqProofs (maxSteps := 2000000) only [k8, k10, k2, kh2, k5, hil', hil, dp, pl_length, bl_length, tH, tG, xH, xG, dG, dH, wi, r1, bl_scal, wk, act, asV, ↓reduceIte, Nat.reduceEqDiff, reduceCtorEq, Nat.reduceAdd, Nat.reduceLeDiff, Nat.reduceSub, Nat.reduceMul, List.reduceReplicate, Int.reduceEq, Int.reduceLT, Int.reduceLE, Int.reduceAdd, Int.reduceSub, Int.reduceMul, Nat.reduceLT, Int.reduceToNat]; first | done | (with_reducible rfl)) (by first | exact c1) (by simp -implicitDefEqProofs (maxSteps := 2000000) only [k8, k10, k2, kh2, k5, hil', hil, dp, pl_length, bl_length, tH, tG, xH, xG, dG, dH, wi, r1, bl_scal, wk, act, asV, ↓reduceIte, Nat.reduceEqDiff, reduceCtorEq, Nat.reduceAdd, Nat.reduceLeDiff, Nat.reduceSub, Nat.reduceMul, List.reduceReplicate, Int.reduceEq, Int.reduceLT, Int.reduceLE, Int.reduceAdd, Int.reduceSub, Int.reduceMul, Nat.reduceLT, Int.reduceToNat]) ?_) | ((with_reducible refine CallP.gate ?_); refine CallP.of (by simp -implicitDefEqProofs (maxSteps := 2000000) only [k8, k10, k2, kh2, k5, hil', hil, dp, pl_length, bl_length, tH, tG, xH, xG, dG, dH, wi, r1, bl_scal, wk, act, asV, ↓reduceIte, Nat.reduceEqDiff, reduceCtorEq, Nat.reduceAdd, Nat.reduceLeDiff, Nat.reduceSub, Nat.reduceMul, List.reduceReplicate, Int.reduceEq, Int.reduceLT, Int.reduceLE, Int.reduceAdd, Int.reduceSub, Int.reduceMul, Nat.reduceLT, Int.reduceToNat]; first | done | (with_reducible rfl)) (by first | exact c1) (by simp -implicitDefEqProofs (maxSteps := 2000000) only [k8, k10, k2, kh2, k5, hil', hil, dp, pl_length, bl_length, tH, tG, xH, xG, dG, dH, wi, r1, bl_scal, wk, act, asV, ↓reduceIte, Nat.reduceEqDiff, reduceCtorEq, Nat.reduceAdd, Nat.reduceLeDiff, Nat.reduceSub, Nat.reduceMul, List.reduceReplicate, Int.reduceEq, Int.reduceLT, Int.reduceLE, Int.reduceAdd, Int.reduceSub, Int.reduceMul, Nat.reduceLT, Int.reduceToNat]) ?_) | ((with_reducible refine CallpP.gate ?_); refine CallpP.of (by simp -implicitDefEqProofs (maxSteps := 2000000) only [k8, k10, k2, kh2, k5, hil', hil, dp, pl_length, bl_length, tH, tG, xH, xG, dG, dH, wi, r1, bl_scal, wk, act, asV, ↓reduceIte, Nat.reduceEqDiff, reduceCtorEq, Nat.reduceAdd, Nat.reduceLeDiff, Nat.reduceSub, Nat.reduceMul, List.reduceReplicate, Int.reduceEq, Int.reduceLT, Int.reduceLE, Int.reduceAdd, Int.reduceSub, Int.reduceMul, Nat.reduceLT, Int.reduceToNat]; first | done | (with_reducible rfl)) (by first | exact c1) (by simp -implicitDefEqProofs (maxSteps := 2000000) only [k8, k10, k2, kh2, k5, hil', hil, dp, pl_length, bl_length, tH, tG, xH, xG, dG, dH, wi, r1, bl_scal, wk, act, asV, ↓reduceIte, Nat.reduceEqDiff, reduceCtorEq, Nat.reduceAdd, Nat.reduceLeDiff, Nat.reduceSub, Nat.reduceMul, List.reduceReplicate, Int.reduceEq, Int.reduceLT, Int.reduceLE, Int.reduceAdd, Int.reduceSub, Int.reduceMul, Nat.reduceLT, Int.reduceToNat]) ?_))
      subst hi0
      have ec : chainF h ps (0 + 1) = linkB h ps (0 + 1) := by rw [chainF, chainF, List.nil_append]
      refine ⟨ps.length - (0 + 1), by omega, 0 + 1, by omega, rfl, rfl, ⟨_, rfl, rfl⟩, by omega, _, rfl, ?_⟩
      rw [ec]
    · repeat' (first | simp -implicitDefEqProofs (maxSteps := 2000000) only [k8, k10, k2, kh2, k5, kh, hil', hil, dp, pl_length, bl_length, tH, tG, xH, xG, dG, dH, wi, r2, hcl, hc, bl_scal, wk, act, asV, ↓reduceIte, Nat.reduceEqDiff, reduceCtorEq, Nat.reduceAdd, Nat.reduceLeDiff, Nat.reduceSub, Nat.reduceMul, List.reduceReplicate, Int.reduceEq, Int.reduceLT, Int.reduceLE, Int.reduceAdd, Int.reduceSub, Int.reduceMul, Nat.reduceLT, Int.reduceToNat] | ((with_reducible refine CallL.gate ?_); refine CallL.of (by simp -implicitDefEqProofs (maxSteps := 2000000) only [k8, k10, k2, kh2, k5, kh, hil', hil, dp, pl_length, bl_length, tH, tG, xH, xG, dG, dH, wi, r2, hcl, hc, bl_scal, wk, act, asV, ↓reduceIte, Nat.reduceEqDiff, reduceCtorEq, Nat.reduceAdd, Nat.reduceLeDiff, Nat.reduceSub, Nat.reduceMul, List.reduceReplicate, Int.reduceEq, Int.reduceLT, Int.reduceLE, Int.reduceAdd, Int.reduceSub, Int.reduceMul, Nat.reduceLT, Int.reduceToNat]; first | done | (with_reducible rfl)) (by first | exact c1) (by simp -implicitDefEqProofs (maxSteps := 2000000) only [k8, k10, k2, kh2, k5, kh, hil', hil, dp, pl_length, bl_length, tH, tG, xH, xG, dG, dH, wi, r2, hcl, hc, bl_scal, wk, act, asV, ↓reduceIte, Nat.reduceEqDiff, reduceCtorEq, Nat.reduceAdd, Nat.reduceLeDiff, Nat.reduceSub, Nat.reduceMul, List.reduceReplicate, Int.reduceEq, Int.reduceLT, Int.reduceLE, Int.reduceAdd, Int.reduceSub, Int.reduceMul, Nat.reduceLT, Int.reduceToNat]) ?_) | ((with_reducible refine CallpL.gate ?_); refine CallpL.of (by simp -implicitDefEqProofs (maxSteps := 2000000) only [k8, k10, k2, kh2, k5, kh, hil', hil, dp, pl_length, bl_length, tH, tG, xH, xG, dG, dH, wi, r2, hcl, hc, bl_scal, wk, act, asV, ↓reduceIte, Nat.reduceEqDiff, reduceCtorEq, Nat.reduceAdd, Nat.reduceLeDiff, Nat.reduceSub, Nat.reduceMul, List.reduceReplicate, Int.reduceEq, Int.reduceLT, Int.reduceLE, Int.reduceAdd, Int.reduceSub, Int.reduceMul, Nat.reduceLT, Int.reduceToNat]; first | done | (with_reducible rfl)) (by first | exact c1) (by simp -implicitDefEqProofs (maxSteps := 2000000) only [k8, k10, k2, kh2, k5, kh, hil', hil, dp, pl_length, bl_length, tH, tG, xH, xG, dG, dH, wi, r2, hcl, hc, bl_scal, wk, act, asV, ↓reduceIte, Nat.reduceEqDiff, reduceCtorEq, Nat.reduceAdd, Nat.reduceLeDiff, Nat.reduceSub, Nat.reduceMul, List.reduceReplicate, Int.reduceEq, Int.reduceLT, Int.reduceLE, Int.reduceAdd, Int.reduceSub, Int.reduceMul, Nat.reduceLT, Int.reduceToNat]) ?_) | ((with_reducible refine CallP.gate ?_); refine CallP.of (by simp -implicitDefEqProofs (maxSteps := 2000000) only [k8, k10, k2, kh2, k5, kh, hil', hil, dp, pl_length, bl_length, tH, tG, xH, xG, dG, dH, wi, r2, hcl, hc, bl_scal, wk, act, asV, ↓reduceIte, Nat.reduceEqDiff, reduceCtorEq, Nat.reduceAdd, Nat.reduceLeDiff, Nat.reduceSub, Nat.reduceMul, List.reduceReplicate, Int.reduceEq, Int.reduceLT, Int.reduceLE, Int.reduceAdd, Int.reduceSub, Int.reduceMul, Nat.reduceLT, Int.reduceToNat]; first | done | (with_reducible rfl)) (by first | exact c1) (by simp -implicitDefEqProofs (maxSteps := 2000000) only [k8, k10, k2, kh2, k5, kh, hil', hil, dp, pl_length, bl_length, tH, tG, xH, xG, dG, dH, wi, r2, hcl, hc, bl_scal, wk, act, asV, ↓reduceIte, Nat.reduceEqDiff, reduceCtorEq, Nat.reduceAdd, Nat.reduceLeDiff, Nat.reduceSub, Nat.reduceMul, List.reduceReplicate, Int.reduceEq, Int.reduceLT, Int.reduceLE, Int.reduceAdd, Int.reduceSub, Int.reduceMul, Nat.reduceLT, Int.reduceToNat]) ?_) | ((with_reducible refine CallpP.gate ?_); refine CallpP.of (by simp -implicitDefEqProofs (maxSteps := 2000000) only [k8, k10, k2, kh2, k5, kh, hil', hil, dp, pl_length, bl_length, tH, tG, xH, xG, dG, dH, wi, r2, hcl, hc, bl_scal, wk, act, asV, ↓reduceIte, Nat.reduceEqDiff, reduceCtorEq, Nat.reduceAdd, Nat.reduceLeDiff, Nat.reduceSub, Nat.reduceMul, List.reduceReplicate, Int.reduceEq, Int.reduceLT, Int.reduceLE, Int.reduceAdd, Int.reduceSub, Int.reduceMul, Nat.reduceLT, Int.reduceToNat]; first | done | (with_reducible rfl)) (by first | exact c1) (by simp -implicitDefEqProofs (maxSteps := 2000000) only [k8, k10, k2, kh2, k5, kh, hil', hil, dp, pl_length, bl_length, tH, tG, xH, xG, dG, dH, wi, r2, hcl, hc, bl_scal, wk, act, asV, ↓reduceIte, Nat.reduceEqDiff, reduceCtorEq, Nat.reduceAdd, Nat.reduceLeDiff, Nat.reduceSub, Nat.reduceMul, List.reduceReplicate, Int.reduceEq, Int.reduceLT, Int.reduceLE, Int.reduceAdd, Int.reduceSub, Int.reduceMul, Nat.reduceLT, Int.reduceToNat]) ?_))
      have ec : bl (chainF h ps i) ++ bl (linkB h ps (i + 1)) = bl (chainF h ps (i + 1)) := by rw [chainF, bl_append]
      refine ⟨ps.length - (i + 1), by omega, i + 1, by omega, rfl, rfl, ⟨_, rfl, rfl⟩, by omega, _, rfl, ?_⟩
      rw [ec]
  · have hie : i = ps.length := by omega
    have hil' : ¬ (i : Int) < ps.length := by omega
    rcases k5 with ⟨hi0, k5⟩ | ⟨hi0, ver, k5, kh⟩
    · have h0 : ps.length = 0 := by omega
      have ho : ownC ps.length (chainF h ps ps.length) = .sl .full 0 [] := by unfold ownC; rw [if_pos h0]
      rw [ho]
      simp -implicitDefEqProofs (maxSteps := 2000000) only [k8, k10, k5, hil', wk, act, asV, ↓reduceIte, Nat.reduceEqDiff, reduceCtorEq, Nat.reduceAdd, Nat.reduceLeDiff, Nat.reduceSub, Nat.reduceMul, List.reduceReplicate, Int.reduceEq, Int.reduceLT, Int.reduceLE, Int.reduceAdd, Int.reduceSub, Int.reduceMul, Nat.reduceLT, Int.reduceToNat]
    · subst hie
      have hc := chainF_length hh ps ps.length
      have ho : ownC ps.length (chainF h ps ps.length) = .own ps.length 32 (bl (chainF h ps ps.length)) := by unfold ownC; rw [if_neg (by omega)]
      have tk : List.take (ps.length * 32) (bl (chainF h ps ps.length)) = bl (chainF h ps ps.length) := List.take_of_length_le (by rw [bl_length, hc]; exact Nat.le_refl _)
      rw [ho]
      simp -implicitDefEqProofs (maxSteps := 2000000) only [k8, k10, k5, kh, hil', tk, wk, act, asV, ↓reduceIte, Nat.reduceEqDiff, reduceCtorEq, Nat.reduceAdd, Nat.reduceLeDiff, Nat.reduceSub, Nat.reduceMul, List.reduceReplicate, Int.reduceEq, Int.reduceLT, Int.reduceLE, Int.reduceAdd, Int.reduceSub, Int.reduceMul, Nat.reduceLT, Int.reduceToNat]
end Go.Proofs.Ytlbilkldjhhopaa
