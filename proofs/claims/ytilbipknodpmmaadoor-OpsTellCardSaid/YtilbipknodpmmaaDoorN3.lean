/- Names: the name of four bytes. -/
import Derived.Test.YtilbipknodpmmaaDoorE31
import Derived.Test.YtilbipknodpmmaaDoorM4
import Derived.Test.YtilbipknodpmmaaDoorB2
set_option linter.unusedVariables false
set_option linter.unusedSimpArgs false
set_option maxRecDepth 100000
set_option maxHeartbeats 4000000
namespace Go.Proofs.YtilbipknodpmmaaDoor
open Go.RowKit

theorem bytes_back {f : IV → Option UInt8} (hf : ∀ b : UInt8, f (.int .u8 (b.toNat : Int)) = some b) (xs : List UInt8) : (bl xs).mapM f = some xs := by
  induction xs with
  | nil => rfl
  | cons x xs ih =>
    rw [show bl (x :: xs) = .int .u8 (x.toNat : Int) :: bl xs from rfl, List.mapM_cons, ih, hf]
    rfl
theorem eqL_bl : ∀ (x y : List UInt8), x.length = y.length → eqL (bl x) (bl y) = some (decide (x = y))
  | [], [], _ => by simp [bl, eqL]
  | a :: x, b :: y, h => by
    have ih := eqL_bl x y (by simpa using h)
    rw [bl_cons, bl_cons]
    simp only [eqL, eqC, if_true, ih]
    congr 1
    by_cases h1 : a = b
    · subst h1; simp
    · have : ¬ ((a.toNat : Nat) : Int) = (b.toNat : Nat) := by intro e; exact h1 (UInt8.toNat_inj.1 (by omega))
      simp [h1, this]
  | [], b :: y, h => by simp at h
  | a :: x, [], h => by simp at h
theorem fitR_bl {x : List UInt8} {n : Nat} (h : x.length = n) : fitR [(n, .i)] (bl x) = true := by
  simp only [fitR, bl_length, h, Nat.le_refl, decide_true, Bool.true_and]
  have e1 : List.take n (bl x) = bl x := List.take_of_length_le (by rw [bl_length]; omega)
  have e2 : List.drop n (bl x) = [] := List.drop_of_length_le (by rw [bl_length]; omega)
  rw [e1, e2]
  simp [bl, CK.fit]

def isZ (b : UInt8) : Bool := decide (b = 0)
def cutN (b : List UInt8) : Option (List UInt8) := if trimR isZ b = [] ∨ goodN (trimR isZ b) = true then some (trimR isZ b) else none
def cutS (b : List UInt8) : List UInt8 := (cutN b).getD []
def cutO (b : List UInt8) : Bool := (cutN b).isSome
theorem low_ne {x : UInt8} (h : low x = true) : x ≠ 0 := by rintro rfl; exact absurd h (by decide)

theorem cut_ok (b : List UInt8) (hb : b.length = 4) : RC Tryd.prog 56 [.agg (bl b)] [.str (cutS b), .bool (cutO b)] := by
  refine RC.of_wp c56 rfl ?_
  have ct := trimRight_ok b (by omega)
  have hz : (fun b : UInt8 => decide (b = 0)) = isZ := rfl
  rw [hz] at ct
  have htl := trimR_le isZ b
  obtain ⟨s, hs⟩ : ∃ s, s = trimR isZ b := ⟨_, rfl⟩
  rw [← hs] at ct htl
  have cg := good_ok .full [s] (by simp) (by simp; omega)
  simp only [List.all_cons, List.all_nil, Bool.and_true] at cg
  by_cases h0 : s = []
  · have hc : cutN b = some [] := by unfold cutN; rw [← hs, h0]; rfl
    have e1 : cutS b = [] := by unfold cutS; rw [hc]; rfl
    have e2 : cutO b = true := by unfold cutO; rw [hc]; rfl
    rw [e1, e2]
    repeat' (first | simp -implicitDefEqProofs (maxSteps := 2000000) only [m56_1, m56_2, m56_3, m56_4, m56_5, m56_6, m56_r, m56_b, m56, bl_take4 hb, bl_length, hb, bl_pur, bytes_back, UInt8.ofNat_toNat, h0, wk, act, asV, ↓reduceIte, Nat.reduceEqDiff, reduceCtorEq, Nat.reduceAdd, Nat.reduceLeDiff, Nat.reduceSub, Nat.reduceMul, List.reduceReplicate, Int.reduceEq, Int.reduceLT, Int.reduceLE, Int.reduceAdd, Int.reduceSub, Int.reduceMul, Nat.reduceLT, Int.reduceToNat] | ((first | ((with_reducible refine CallL.gate ?_); apply CallL.of) | ((with_reducible refine CallP.gate ?_); apply CallP.of)); (case h1 => (simp -implicitDefEqProofs (maxSteps := 2000000) only [m56_1, m56_2, m56_3, m56_4, m56_5, m56_6, m56_r, m56_b, m56, bl_take4 hb, bl_length, hb, bl_pur, bytes_back, UInt8.ofNat_toNat, h0, wk, act, asV, ↓reduceIte, Nat.reduceEqDiff, reduceCtorEq, Nat.reduceAdd, Nat.reduceLeDiff, Nat.reduceSub, Nat.reduceMul, List.reduceReplicate, Int.reduceEq, Int.reduceLT, Int.reduceLE, Int.reduceAdd, Int.reduceSub, Int.reduceMul, Nat.reduceLT, Int.reduceToNat]; first | done | (with_reducible rfl))); (case h2 => (first | exact ct)); (case h3 => simp -implicitDefEqProofs (maxSteps := 2000000) only [m56_1, m56_2, m56_3, m56_4, m56_5, m56_6, m56_r, m56_b, m56, bl_take4 hb, bl_length, hb, bl_pur, bytes_back, UInt8.ofNat_toNat, h0, wk, act, asV, ↓reduceIte, Nat.reduceEqDiff, reduceCtorEq, Nat.reduceAdd, Nat.reduceLeDiff, Nat.reduceSub, Nat.reduceMul, List.reduceReplicate, Int.reduceEq, Int.reduceLT, Int.reduceLE, Int.reduceAdd, Int.reduceSub, Int.reduceMul, Nat.reduceLT, Int.reduceToNat])))
  · by_cases hg : goodN s = true
    · have hc : cutN b = some s := by unfold cutN; rw [← hs, if_pos (.inr hg)]
      have e1 : cutS b = s := by unfold cutS; rw [hc]; rfl
      have e2 : cutO b = true := by unfold cutO; rw [hc]; rfl
      rw [e1, e2]
      rw [hg] at cg
      repeat' (first | simp -implicitDefEqProofs (maxSteps := 2000000) only [m56_1, m56_2, m56_3, m56_4, m56_5, m56_6, m56_r, m56_b, m56, bl_take4 hb, bl_length, hb, bl_pur, bytes_back, UInt8.ofNat_toNat, h0, wk, act, asV, ↓reduceIte, Nat.reduceEqDiff, reduceCtorEq, Nat.reduceAdd, Nat.reduceLeDiff, Nat.reduceSub, Nat.reduceMul, List.reduceReplicate, Int.reduceEq, Int.reduceLT, Int.reduceLE, Int.reduceAdd, Int.reduceSub, Int.reduceMul, Nat.reduceLT, Int.reduceToNat] | ((first | ((with_reducible refine CallL.gate ?_); apply CallL.of) | ((with_reducible refine CallP.gate ?_); apply CallP.of)); (case h1 => (simp -implicitDefEqProofs (maxSteps := 2000000) only [m56_1, m56_2, m56_3, m56_4, m56_5, m56_6, m56_r, m56_b, m56, bl_take4 hb, bl_length, hb, bl_pur, bytes_back, UInt8.ofNat_toNat, h0, wk, act, asV, ↓reduceIte, Nat.reduceEqDiff, reduceCtorEq, Nat.reduceAdd, Nat.reduceLeDiff, Nat.reduceSub, Nat.reduceMul, List.reduceReplicate, Int.reduceEq, Int.reduceLT, Int.reduceLE, Int.reduceAdd, Int.reduceSub, Int.reduceMul, Nat.reduceLT, Int.reduceToNat]; first | done | (with_reducible rfl))); (case h2 => (first | exact ct | exact cg)); (case h3 => simp -implicitDefEqProofs (maxSteps := 2000000) only [m56_1, m56_2, m56_3, m56_4, m56_5, m56_6, m56_r, m56_b, m56, bl_take4 hb, bl_length, hb, bl_pur, bytes_back, UInt8.ofNat_toNat, h0, wk, act, asV, ↓reduceIte, Nat.reduceEqDiff, reduceCtorEq, Nat.reduceAdd, Nat.reduceLeDiff, Nat.reduceSub, Nat.reduceMul, List.reduceReplicate, Int.reduceEq, Int.reduceLT, Int.reduceLE, Int.reduceAdd, Int.reduceSub, Int.reduceMul, Nat.reduceLT, Int.reduceToNat])))
    · have hc : cutN b = none := by unfold cutN; rw [← hs, if_neg (by simp [h0, hg])]
      have e1 : cutS b = [] := by unfold cutS; rw [hc]; rfl
      have e2 : cutO b = false := by unfold cutO; rw [hc]; rfl
      rw [e1, e2]
      rw [show goodN s = false by simpa using hg] at cg
      repeat' (first | simp -implicitDefEqProofs (maxSteps := 2000000) only [m56_1, m56_2, m56_3, m56_4, m56_5, m56_6, m56_r, m56_b, m56, bl_take4 hb, bl_length, hb, bl_pur, bytes_back, UInt8.ofNat_toNat, h0, wk, act, asV, ↓reduceIte, Nat.reduceEqDiff, reduceCtorEq, Nat.reduceAdd, Nat.reduceLeDiff, Nat.reduceSub, Nat.reduceMul, List.reduceReplicate, Int.reduceEq, Int.reduceLT, Int.reduceLE, Int.reduceAdd, Int.reduceSub, Int.reduceMul, Nat.reduceLT, Int.reduceToNat] | ((first | ((with_reducible refine CallL.gate ?_); apply CallL.of) | ((with_reducible refine CallP.gate ?_); apply CallP.of)); (case h1 => (simp -implicitDefEqProofs (maxSteps := 2000000) only [m56_1, m56_2, m56_3, m56_4, m56_5, m56_6, m56_r, m56_b, m56, bl_take4 hb, bl_length, hb, bl_pur, bytes_back, UInt8.ofNat_toNat, h0, wk, act, asV, ↓reduceIte, Nat.reduceEqDiff, reduceCtorEq, Nat.reduceAdd, Nat.reduceLeDiff, Nat.reduceSub, Nat.reduceMul, List.reduceReplicate, Int.reduceEq, Int.reduceLT, Int.reduceLE, Int.reduceAdd, Int.reduceSub, Int.reduceMul, Nat.reduceLT, Int.reduceToNat]; first | done | (with_reducible rfl))); (case h2 => (first | exact ct | exact cg)); (case h3 => simp -implicitDefEqProofs (maxSteps := 2000000) only [m56_1, m56_2, m56_3, m56_4, m56_5, m56_6, m56_r, m56_b, m56, bl_take4 hb, bl_length, hb, bl_pur, bytes_back, UInt8.ofNat_toNat, h0, wk, act, asV, ↓reduceIte, Nat.reduceEqDiff, reduceCtorEq, Nat.reduceAdd, Nat.reduceLeDiff, Nat.reduceSub, Nat.reduceMul, List.reduceReplicate, Int.reduceEq, Int.reduceLT, Int.reduceLE, Int.reduceAdd, Int.reduceSub, Int.reduceMul, Nat.reduceLT, Int.reduceToNat])))

theorem cut_first {b : List UInt8} (hb : b.length = 4) {i : Nat} (hi : i ≤ 4) (hn : ∀ x ∈ b.take i, x ≠ 0) (hz : i < 4 → b[i]? = some 0) :
    cutN b = if pad4 (b.take i) = b ∧ (i = 0 ∨ goodN (b.take i) = true) then some (b.take i) else none := by
  match b, hb with
  | [b0, b1, b2, b3], _ =>
    have hl0 : low 0 = false := by decide
    rcases (show i = 0 ∨ i = 1 ∨ i = 2 ∨ i = 3 ∨ i = 4 by omega) with rfl | rfl | rfl | rfl | rfl
    · have e0 : b0 = 0 := by have := hz (by omega); simpa using this
      subst e0
      by_cases h3 : b3 = 0
      · by_cases h2 : b2 = 0
        · by_cases h1 : b1 = 0
          · simp [cutN, trimR, isZ, pad4, h1, h2, h3]
          · simp [cutN, trimR, isZ, pad4, goodN, h1, h2, h3, hl0, Ne.symm h1]
        · simp [cutN, trimR, isZ, pad4, goodN, h2, h3, hl0, Ne.symm h2]
      · simp [cutN, trimR, isZ, pad4, goodN, h3, hl0, Ne.symm h3]
    · have e0 : b1 = 0 := by have := hz (by omega); simpa using this
      subst e0
      have n0 : b0 ≠ 0 := hn b0 (by simp)
      by_cases h3 : b3 = 0
      · by_cases h2 : b2 = 0
        · simp [cutN, trimR, isZ, pad4, goodN, h2, h3, n0]
        · simp [cutN, trimR, isZ, pad4, goodN, h2, h3, hl0, Ne.symm h2]
      · simp [cutN, trimR, isZ, pad4, goodN, h3, hl0, Ne.symm h3]
    · have e0 : b2 = 0 := by have := hz (by omega); simpa using this
      subst e0
      have n1 : b1 ≠ 0 := hn b1 (by simp)
      by_cases h3 : b3 = 0
      · simp [cutN, trimR, isZ, pad4, goodN, h3, n1]
      · simp [cutN, trimR, isZ, pad4, goodN, h3, hl0, Ne.symm h3]
    · have e0 : b3 = 0 := by have := hz (by omega); simpa using this
      subst e0
      have n2 : b2 ≠ 0 := hn b2 (by simp)
      simp [cutN, trimR, isZ, pad4, goodN, n2]
    · have n3 : b3 ≠ 0 := hn b3 (by simp)
      simp [cutN, trimR, isZ, pad4, goodN, n3]

theorem rcut_ok (b : List UInt8) (hb : b.length = 4) : RC Tryd.prog 59 [.agg (bl b)] [.agg [.str (cutS b), .bool (cutO b)]] := by
  refine RC.of_wp c59 rfl ?_
  have h4 := pad4_length
  simp -implicitDefEqProofs (maxSteps := 2000000) only [m59_1, m59_2, m59_3, m59_4, m59_5, m59_6, m59_7, m59_8, m59_9, m59_r, m59_b, m59, wk, act, asV, ↓reduceIte, Nat.reduceEqDiff, reduceCtorEq, Nat.reduceAdd, Nat.reduceLeDiff, Nat.reduceSub, Nat.reduceMul, List.reduceReplicate, Int.reduceEq, Int.reduceLT, Int.reduceLE, Int.reduceAdd, Int.reduceSub, Int.reduceMul, Nat.reduceLT, Int.reduceToNat]
  refine Wp_loop (fun j st => ∃ i, i ≤ 4 ∧ j = 4 - i ∧ st.t 3 = .int .i64 (i : Nat) ∧ (∃ ver, st.t 1 = .ptr 1 0 ver ∧ st.h 1 = ⟨ver, true, true, false, bl b⟩) ∧ (∃ ver, st.t 2 = .ptr 2 0 ver ∧ st.h 2 = ⟨ver, true, true, false, [.str [], .bool false]⟩) ∧ ∀ x ∈ b.take i, x ≠ 0) 4 ⟨0, by omega, rfl, by simp -implicitDefEqProofs (maxSteps := 2000000) only [wk, act, asV, ↓reduceIte, Nat.reduceEqDiff, reduceCtorEq, Nat.reduceAdd, Nat.reduceLeDiff, Nat.reduceSub, Nat.reduceMul, List.reduceReplicate, Int.reduceEq, Int.reduceLT, Int.reduceLE, Int.reduceAdd, Int.reduceSub, Int.reduceMul, Nat.reduceLT, Int.reduceToNat], ⟨_, by simp -implicitDefEqProofs (maxSteps := 2000000) only [wk, act, asV, ↓reduceIte, Nat.reduceEqDiff, reduceCtorEq, Nat.reduceAdd, Nat.reduceLeDiff, Nat.reduceSub, Nat.reduceMul, List.reduceReplicate, Int.reduceEq, Int.reduceLT, Int.reduceLE, Int.reduceAdd, Int.reduceSub, Int.reduceMul, Nat.reduceLT, Int.reduceToNat]; first | done | rfl, by simp -implicitDefEqProofs (maxSteps := 2000000) only [wk, act, asV, ↓reduceIte, Nat.reduceEqDiff, reduceCtorEq, Nat.reduceAdd, Nat.reduceLeDiff, Nat.reduceSub, Nat.reduceMul, List.reduceReplicate, Int.reduceEq, Int.reduceLT, Int.reduceLE, Int.reduceAdd, Int.reduceSub, Int.reduceMul, Nat.reduceLT, Int.reduceToNat]; first | done | rfl⟩, ⟨_, by simp -implicitDefEqProofs (maxSteps := 2000000) only [wk, act, asV, ↓reduceIte, Nat.reduceEqDiff, reduceCtorEq, Nat.reduceAdd, Nat.reduceLeDiff, Nat.reduceSub, Nat.reduceMul, List.reduceReplicate, Int.reduceEq, Int.reduceLT, Int.reduceLE, Int.reduceAdd, Int.reduceSub, Int.reduceMul, Nat.reduceLT, Int.reduceToNat]; first | done | rfl, by simp -implicitDefEqProofs (maxSteps := 2000000) only [wk, act, asV, ↓reduceIte, Nat.reduceEqDiff, reduceCtorEq, Nat.reduceAdd, Nat.reduceLeDiff, Nat.reduceSub, Nat.reduceMul, List.reduceReplicate, Int.reduceEq, Int.reduceLT, Int.reduceLE, Int.reduceAdd, Int.reduceSub, Int.reduceMul, Nat.reduceLT, Int.reduceToNat]; first | done | rfl⟩, by simp⟩ ?_
  rintro j st ⟨i, hi, rfl, g3, ⟨ver, g1, gh⟩, ⟨ver2, g2, gh2⟩, hn⟩
  have fin : (i < 4 → b[i]? = some 0) → cutN b = if pad4 (b.take i) = b ∧ (i = 0 ∨ goodN (b.take i) = true) then some (b.take i) else none := fun hz => cut_first hb hi hn hz
  have cp := rpad_ok (b.take i) (by rw [List.length_take]; omega)
  have hti : (b.take i).length = i := by rw [List.length_take]; omega
  have cg := rgood_ok .full [b.take i] (by simp)
  simp only [List.all_cons, List.all_nil, Bool.and_true] at cg
  have hbt : List.take i (bl b) = bl (b.take i) := bl_take b i
  have hq := eqL_bl (pad4 (b.take i)) b (by rw [h4, hb])
  have hf := fitR_bl (h4 (b.take i))
  have hgt : ((0 : Int) < (i : Int)) = (0 < i) := by apply propext; omega
  by_cases hi4 : i < 4
  · have hi4' : (i : Int) < 4 := by omega
    have hi3 : i ≤ 3 := by omega
    have hib : i < b.length := by omega
    have hdr := drop_bl hib
    by_cases hz : b[i] = 0
    · have hz' : ((b[i].toNat : Nat) : Int) = 0 := by rw [hz]; rfl
      have fin' := fin (fun _ => by rw [List.getElem?_eq_getElem hib, hz])
      by_cases hp : pad4 (b.take i) = b
      · by_cases h0 : 0 < i
        · have hi0 : ¬ i = 0 := by omega
          by_cases hg : goodN (b.take i) = true
          · rw [if_pos ⟨hp, .inr hg⟩] at fin'
            have e1 : cutS b = b.take i := by unfold cutS; rw [fin']; rfl
            have e2 : cutO b = true := by unfold cutO; rw [fin']; rfl
            rw [e1, e2]
            rw [hg] at cg
            rw [decide_eq_true hp] at hq
            repeat' (first | simp -implicitDefEqProofs (maxSteps := 2000000) only [g1, g2, g3, gh, gh2, hi4', hi3, hdr, hz', hb, bl_length, bl_pur, bl_take4 hb, hbt, hi, bytes_back, UInt8.ofNat_toNat, hq, hf, hgt, h0, wk, act, asV, ↓reduceIte, Nat.reduceEqDiff, reduceCtorEq, Nat.reduceAdd, Nat.reduceLeDiff, Nat.reduceSub, Nat.reduceMul, List.reduceReplicate, Int.reduceEq, Int.reduceLT, Int.reduceLE, Int.reduceAdd, Int.reduceSub, Int.reduceMul, Nat.reduceLT, Int.reduceToNat] | ((first | ((with_reducible refine CallL.gate ?_); apply CallL.of) | ((with_reducible refine CallP.gate ?_); apply CallP.of)); (case h1 => (simp -implicitDefEqProofs (maxSteps := 2000000) only [g1, g2, g3, gh, gh2, hi4', hi3, hdr, hz', hb, bl_length, bl_pur, bl_take4 hb, hbt, hi, bytes_back, UInt8.ofNat_toNat, hq, hf, hgt, h0, wk, act, asV, ↓reduceIte, Nat.reduceEqDiff, reduceCtorEq, Nat.reduceAdd, Nat.reduceLeDiff, Nat.reduceSub, Nat.reduceMul, List.reduceReplicate, Int.reduceEq, Int.reduceLT, Int.reduceLE, Int.reduceAdd, Int.reduceSub, Int.reduceMul, Nat.reduceLT, Int.reduceToNat]; first | done | (with_reducible rfl))); (case h2 => (first | exact cp | exact cg)); (case h3 => simp -implicitDefEqProofs (maxSteps := 2000000) only [g1, g2, g3, gh, gh2, hi4', hi3, hdr, hz', hb, bl_length, bl_pur, bl_take4 hb, hbt, hi, bytes_back, UInt8.ofNat_toNat, hq, hf, hgt, h0, wk, act, asV, ↓reduceIte, Nat.reduceEqDiff, reduceCtorEq, Nat.reduceAdd, Nat.reduceLeDiff, Nat.reduceSub, Nat.reduceMul, List.reduceReplicate, Int.reduceEq, Int.reduceLT, Int.reduceLE, Int.reduceAdd, Int.reduceSub, Int.reduceMul, Nat.reduceLT, Int.reduceToNat])))
          · rw [if_neg (by simp [hi0, hg])] at fin'
            have e1 : cutS b = [] := by unfold cutS; rw [fin']; rfl
            have e2 : cutO b = false := by unfold cutO; rw [fin']; rfl
            rw [e1, e2]
            rw [show goodN (b.take i) = false by simpa using hg] at cg
            rw [decide_eq_true hp] at hq
            repeat' (first | simp -implicitDefEqProofs (maxSteps := 2000000) only [g1, g2, g3, gh, gh2, hi4', hi3, hdr, hz', hb, bl_length, bl_pur, bl_take4 hb, hbt, hi, bytes_back, UInt8.ofNat_toNat, hq, hf, hgt, h0, wk, act, asV, ↓reduceIte, Nat.reduceEqDiff, reduceCtorEq, Nat.reduceAdd, Nat.reduceLeDiff, Nat.reduceSub, Nat.reduceMul, List.reduceReplicate, Int.reduceEq, Int.reduceLT, Int.reduceLE, Int.reduceAdd, Int.reduceSub, Int.reduceMul, Nat.reduceLT, Int.reduceToNat] | ((first | ((with_reducible refine CallL.gate ?_); apply CallL.of) | ((with_reducible refine CallP.gate ?_); apply CallP.of)); (case h1 => (simp -implicitDefEqProofs (maxSteps := 2000000) only [g1, g2, g3, gh, gh2, hi4', hi3, hdr, hz', hb, bl_length, bl_pur, bl_take4 hb, hbt, hi, bytes_back, UInt8.ofNat_toNat, hq, hf, hgt, h0, wk, act, asV, ↓reduceIte, Nat.reduceEqDiff, reduceCtorEq, Nat.reduceAdd, Nat.reduceLeDiff, Nat.reduceSub, Nat.reduceMul, List.reduceReplicate, Int.reduceEq, Int.reduceLT, Int.reduceLE, Int.reduceAdd, Int.reduceSub, Int.reduceMul, Nat.reduceLT, Int.reduceToNat]; first | done | (with_reducible rfl))); (case h2 => (first | exact cp | exact cg)); (case h3 => simp -implicitDefEqProofs (maxSteps := 2000000) only [g1, g2, g3, gh, gh2, hi4', hi3, hdr, hz', hb, bl_length, bl_pur, bl_take4 hb, hbt, hi, bytes_back, UInt8.ofNat_toNat, hq, hf, hgt, h0, wk, act, asV, ↓reduceIte, Nat.reduceEqDiff, reduceCtorEq, Nat.reduceAdd, Nat.reduceLeDiff, Nat.reduceSub, Nat.reduceMul, List.reduceReplicate, Int.reduceEq, Int.reduceLT, Int.reduceLE, Int.reduceAdd, Int.reduceSub, Int.reduceMul, Nat.reduceLT, Int.reduceToNat])))
        · have hi0 : i = 0 := by omega
          rw [if_pos ⟨hp, .inl hi0⟩] at fin'
          have e1 : cutS b = b.take i := by unfold cutS; rw [fin']; rfl
          have e2 : cutO b = true := by unfold cutO; rw [fin']; rfl
          rw [e1, e2]
          rw [decide_eq_true hp] at hq
          repeat' (first | simp -implicitDefEqProofs (maxSteps := 2000000) only [g1, g2, g3, gh, gh2, hi4', hi3, hdr, hz', hb, bl_length, bl_pur, bl_take4 hb, hbt, hi, bytes_back, UInt8.ofNat_toNat, hq, hf, hgt, h0, wk, act, asV, ↓reduceIte, Nat.reduceEqDiff, reduceCtorEq, Nat.reduceAdd, Nat.reduceLeDiff, Nat.reduceSub, Nat.reduceMul, List.reduceReplicate, Int.reduceEq, Int.reduceLT, Int.reduceLE, Int.reduceAdd, Int.reduceSub, Int.reduceMul, Nat.reduceLT, Int.reduceToNat] | ((first | ((with_reducible refine CallL.gate ?_); apply CallL.of) | ((with_reducible refine CallP.gate ?_); apply CallP.of)); (case h1 => (simp -implicitDefEqProofs (maxSteps := 2000000) only [g1, g2, g3, gh, gh2, hi4', hi3, hdr, hz', hb, bl_length, bl_pur, bl_take4 hb, hbt, hi, bytes_back, UInt8.ofNat_toNat, hq, hf, hgt, h0, wk, act, asV, ↓reduceIte, Nat.reduceEqDiff, reduceCtorEq, Nat.reduceAdd, Nat.reduceLeDiff, Nat.reduceSub, Nat.reduceMul, List.reduceReplicate, Int.reduceEq, Int.reduceLT, Int.reduceLE, Int.reduceAdd, Int.reduceSub, Int.reduceMul, Nat.reduceLT, Int.reduceToNat]; first | done | (with_reducible rfl))); (case h2 => (first | exact cp)); (case h3 => simp -implicitDefEqProofs (maxSteps := 2000000) only [g1, g2, g3, gh, gh2, hi4', hi3, hdr, hz', hb, bl_length, bl_pur, bl_take4 hb, hbt, hi, bytes_back, UInt8.ofNat_toNat, hq, hf, hgt, h0, wk, act, asV, ↓reduceIte, Nat.reduceEqDiff, reduceCtorEq, Nat.reduceAdd, Nat.reduceLeDiff, Nat.reduceSub, Nat.reduceMul, List.reduceReplicate, Int.reduceEq, Int.reduceLT, Int.reduceLE, Int.reduceAdd, Int.reduceSub, Int.reduceMul, Nat.reduceLT, Int.reduceToNat])))
      · rw [if_neg (by simp [hp])] at fin'
        have e1 : cutS b = [] := by unfold cutS; rw [fin']; rfl
        have e2 : cutO b = false := by unfold cutO; rw [fin']; rfl
        rw [e1, e2]
        rw [decide_eq_false hp] at hq
        repeat' (first | simp -implicitDefEqProofs (maxSteps := 2000000) only [g1, g2, g3, gh, gh2, hi4', hi3, hdr, hz', hb, bl_length, bl_pur, bl_take4 hb, hbt, hi, bytes_back, UInt8.ofNat_toNat, hq, hf, wk, act, asV, ↓reduceIte, Nat.reduceEqDiff, reduceCtorEq, Nat.reduceAdd, Nat.reduceLeDiff, Nat.reduceSub, Nat.reduceMul, List.reduceReplicate, Int.reduceEq, Int.reduceLT, Int.reduceLE, Int.reduceAdd, Int.reduceSub, Int.reduceMul, Nat.reduceLT, Int.reduceToNat] | ((first | ((with_reducible refine CallL.gate ?_); apply CallL.of) | ((with_reducible refine CallP.gate ?_); apply CallP.of)); (case h1 => (simp -implicitDefEqProofs (maxSteps := 2000000) only [g1, g2, g3, gh, gh2, hi4', hi3, hdr, hz', hb, bl_length, bl_pur, bl_take4 hb, hbt, hi, bytes_back, UInt8.ofNat_toNat, hq, hf, wk, act, asV, ↓reduceIte, Nat.reduceEqDiff, reduceCtorEq, Nat.reduceAdd, Nat.reduceLeDiff, Nat.reduceSub, Nat.reduceMul, List.reduceReplicate, Int.reduceEq, Int.reduceLT, Int.reduceLE, Int.reduceAdd, Int.reduceSub, Int.reduceMul, Nat.reduceLT, Int.reduceToNat]; first | done | (with_reducible rfl))); (case h2 => (first | exact cp)); (case h3 => simp -implicitDefEqProofs (maxSteps := 2000000) only [g1, g2, g3, gh, gh2, hi4', hi3, hdr, hz', hb, bl_length, bl_pur, bl_take4 hb, hbt, hi, bytes_back, UInt8.ofNat_toNat, hq, hf, wk, act, asV, ↓reduceIte, Nat.reduceEqDiff, reduceCtorEq, Nat.reduceAdd, Nat.reduceLeDiff, Nat.reduceSub, Nat.reduceMul, List.reduceReplicate, Int.reduceEq, Int.reduceLT, Int.reduceLE, Int.reduceAdd, Int.reduceSub, Int.reduceMul, Nat.reduceLT, Int.reduceToNat])))
    · have hz' : ¬ ((b[i].toNat : Nat) : Int) = 0 := by intro e; exact hz (UInt8.toNat_inj.1 (by simpa using e))
      have hw := wrap_nat (show i < 2 ^ 63 - 1 by omega)
      simp -implicitDefEqProofs (maxSteps := 2000000) only [g1, g2, g3, gh, gh2, hi4', hi3, hdr, hz', hb, bl_length, hw, hi4, wk, act, asV, ↓reduceIte, Nat.reduceEqDiff, reduceCtorEq, Nat.reduceAdd, Nat.reduceLeDiff, Nat.reduceSub, Nat.reduceMul, List.reduceReplicate, Int.reduceEq, Int.reduceLT, Int.reduceLE, Int.reduceAdd, Int.reduceSub, Int.reduceMul, Nat.reduceLT, Int.reduceToNat]
      refine ⟨4 - (i + 1), by omega, i + 1, by omega, rfl, rfl, ⟨_, rfl, rfl⟩, ⟨_, rfl, rfl⟩, ?_⟩
      intro x hx
      rw [List.take_succ_eq_append_getElem hib, List.mem_append, List.mem_singleton] at hx
      rcases hx with hx | rfl
      · exact hn x hx
      · exact hz
  · have hie : i = 4 := by omega
    subst hie
    have fin' := fin (by omega)
    have htf : b.take 4 = b := List.take_of_length_le (by omega)
    have hp : pad4 b = b := by
      match b, hb with
      | [a, b, c, d], _ => rfl
    rw [htf] at fin' cp cg hq hf hbt
    have h0 : (0 : Int) < 4 := by decide
    have g3' : st.t 3 = .int .i64 4 := g3
    by_cases hg : goodN b = true
    · rw [if_pos ⟨hp, .inr hg⟩] at fin'
      have e1 : cutS b = b := by unfold cutS; rw [fin']; rfl
      have e2 : cutO b = true := by unfold cutO; rw [fin']; rfl
      rw [e1, e2]
      rw [hg] at cg
      rw [decide_eq_true hp] at hq
      repeat' (first | simp -implicitDefEqProofs (maxSteps := 2000000) only [g1, g2, g3', gh, gh2, hb, bl_length, bl_pur, bl_take4 hb, bytes_back, UInt8.ofNat_toNat, hq, hf, wk, act, asV, ↓reduceIte, Nat.reduceEqDiff, reduceCtorEq, Nat.reduceAdd, Nat.reduceLeDiff, Nat.reduceSub, Nat.reduceMul, List.reduceReplicate, Int.reduceEq, Int.reduceLT, Int.reduceLE, Int.reduceAdd, Int.reduceSub, Int.reduceMul, Nat.reduceLT, Int.reduceToNat] | ((first | ((with_reducible refine CallL.gate ?_); apply CallL.of) | ((with_reducible refine CallP.gate ?_); apply CallP.of)); (case h1 => (simp -implicitDefEqProofs (maxSteps := 2000000) only [g1, g2, g3', gh, gh2, hb, bl_length, bl_pur, bl_take4 hb, bytes_back, UInt8.ofNat_toNat, hq, hf, wk, act, asV, ↓reduceIte, Nat.reduceEqDiff, reduceCtorEq, Nat.reduceAdd, Nat.reduceLeDiff, Nat.reduceSub, Nat.reduceMul, List.reduceReplicate, Int.reduceEq, Int.reduceLT, Int.reduceLE, Int.reduceAdd, Int.reduceSub, Int.reduceMul, Nat.reduceLT, Int.reduceToNat]; first | done | (with_reducible rfl))); (case h2 => (first | exact cp | exact cg)); (case h3 => simp -implicitDefEqProofs (maxSteps := 2000000) only [g1, g2, g3', gh, gh2, hb, bl_length, bl_pur, bl_take4 hb, bytes_back, UInt8.ofNat_toNat, hq, hf, wk, act, asV, ↓reduceIte, Nat.reduceEqDiff, reduceCtorEq, Nat.reduceAdd, Nat.reduceLeDiff, Nat.reduceSub, Nat.reduceMul, List.reduceReplicate, Int.reduceEq, Int.reduceLT, Int.reduceLE, Int.reduceAdd, Int.reduceSub, Int.reduceMul, Nat.reduceLT, Int.reduceToNat])))
    · rw [if_neg (by simp [hg])] at fin'
      have e1 : cutS b = [] := by unfold cutS; rw [fin']; rfl
      have e2 : cutO b = false := by unfold cutO; rw [fin']; rfl
      rw [e1, e2]
      rw [show goodN b = false by simpa using hg] at cg
      rw [decide_eq_true hp] at hq
      repeat' (first | simp -implicitDefEqProofs (maxSteps := 2000000) only [g1, g2, g3', gh, gh2, hb, bl_length, bl_pur, bl_take4 hb, bytes_back, UInt8.ofNat_toNat, hq, hf, wk, act, asV, ↓reduceIte, Nat.reduceEqDiff, reduceCtorEq, Nat.reduceAdd, Nat.reduceLeDiff, Nat.reduceSub, Nat.reduceMul, List.reduceReplicate, Int.reduceEq, Int.reduceLT, Int.reduceLE, Int.reduceAdd, Int.reduceSub, Int.reduceMul, Nat.reduceLT, Int.reduceToNat] | ((first | ((with_reducible refine CallL.gate ?_); apply CallL.of) | ((with_reducible refine CallP.gate ?_); apply CallP.of)); (case h1 => (simp -implicitDefEqProofs (maxSteps := 2000000) only [g1, g2, g3', gh, gh2, hb, bl_length, bl_pur, bl_take4 hb, bytes_back, UInt8.ofNat_toNat, hq, hf, wk, act, asV, ↓reduceIte, Nat.reduceEqDiff, reduceCtorEq, Nat.reduceAdd, Nat.reduceLeDiff, Nat.reduceSub, Nat.reduceMul, List.reduceReplicate, Int.reduceEq, Int.reduceLT, Int.reduceLE, Int.reduceAdd, Int.reduceSub, Int.reduceMul, Nat.reduceLT, Int.reduceToNat]; first | done | (with_reducible rfl))); (case h2 => (first | exact cp | exact cg)); (case h3 => simp -implicitDefEqProofs (maxSteps := 2000000) only [g1, g2, g3', gh, gh2, hb, bl_length, bl_pur, bl_take4 hb, bytes_back, UInt8.ofNat_toNat, hq, hf, wk, act, asV, ↓reduceIte, Nat.reduceEqDiff, reduceCtorEq, Nat.reduceAdd, Nat.reduceLeDiff, Nat.reduceSub, Nat.reduceMul, List.reduceReplicate, Int.reduceEq, Int.reduceLT, Int.reduceLE, Int.reduceAdd, Int.reduceSub, Int.reduceMul, Nat.reduceLT, Int.reduceToNat])))
end Go.Proofs.YtilbipknodpmmaaDoor
