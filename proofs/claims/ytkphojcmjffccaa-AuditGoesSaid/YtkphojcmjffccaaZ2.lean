/- The check of bytes. -/
import Derived.Test.YtkphojcmjffccaaE31
import Derived.Test.YtkphojcmjffccaaK0
import Derived.RangeFuncNested
import Derived.RangeFuncBound
import Derived.RangeFuncCalls
import Derived.RangeFuncLeaves
import Derived.Shelf.Abstract
import Derived.Shelf.RegionOpen
import Derived.WalkKit
import Derived.OwnWalkIn
import Derived.TacticsInMore
import Derived.LoopNIn
import Derived.LoopIn
import Derived.Test.YtkphojcmjffccaaProg
set_option linter.unusedVariables false
set_option linter.unusedSimpArgs false
set_option maxRecDepth 100000
set_option maxHeartbeats 2000000
namespace Go.Proofs.Ytkphojcmjffccaa
open Go.RowKit

def sealed (b : List UInt8) : List UInt8 := b ++ [u8 (crc b), u8 (crc b >>> 8)]
theorem sealed_length (b : List UInt8) : (sealed b).length = b.length + 2 := by simp [sealed]
theorem bl_sealed (b : List UInt8) : bl (sealed b) = bl b ++ [.int .u8 ((u8 (crc b)).toNat : Int), .int .u8 ((u8 (crc b >>> 8)).toNat : Int)] := by simp [sealed, bl]
theorem take_sealed (b : List UInt8) : List.take (b.length + 2) (bl b ++ [.int .u8 ((u8 (crc b)).toNat : Int), .int .u8 ((u8 (crc b >>> 8)).toNat : Int)]) = bl b ++ [.int .u8 ((u8 (crc b)).toNat : Int), .int .u8 ((u8 (crc b >>> 8)).toNat : Int)] := List.take_of_length_le (by simp [bl])

theorem not16 {n : Nat} (h : n < 65536) : bitsI .xor .u16 65535 (n : Int) = some ((65535 - n : Nat) : Int) := by
  have h1 := bitsI_xor .u16 (x := 65535) (y := n) (by decide) (by simpa [vbits, IntKind.signed, IntKind.bits] using h)
  have h2 : 65535 ^^^ n = 65535 - n := by
    have := congrArg BitVec.toNat (BitVec.allOnes_xor (x := BitVec.ofNat 16 n))
    simp [Nat.mod_eq_of_lt h] at this
    omega
  rw [h2] at h1
  exact h1

theorem more_ok (f : Fl) {c : Nat} (hc : c < 65536) (b : List UInt8) (hl : b.length < 2 ^ 63) : RC Try.prog 53 [.int .u16 c, .sl f b.length (bl b)] [.int .u16 (cmore c b)] := by
  refine RC.of_wp c53 rfl ?_
  simp -implicitDefEqProofs (maxSteps := 2000000) only [m53_1, m53_2, m53_3, m53_4, m53_5, m53_6, m53_7, m53_8, m53_9, m53_10, m53_11, m53_12, m53_13, m53_r, m53_b, m53, wk, act, asV, ↓reduceIte, Nat.reduceEqDiff, reduceCtorEq, Nat.reduceAdd, Nat.reduceLeDiff, Nat.reduceSub, Nat.reduceMul, List.reduceReplicate, Int.reduceEq, Int.reduceLT, Int.reduceLE, Int.reduceAdd, Int.reduceSub, Int.reduceMul, Nat.reduceLT, Int.reduceToNat]
  refine Wp_loop (fun j s => ∃ i, i ≤ b.length ∧ j = b.length - i ∧ s.t 8 = .sl f b.length (bl b) ∧ s.t 9 = .int .i64 b.length ∧ s.t 10 = .int .i64 (i : Nat) ∧ s.t 0 = .int .u16 (cmore c (b.take i))) b.length ⟨0, by omega, rfl, rfl, rfl, rfl, rfl⟩ ?_
  rintro j s ⟨i, hi, rfl, g8, g9, g10, g0⟩
  by_cases hil : i < b.length
  · have hil' : (i : Int) < b.length := by omega
    have hm := cmore_lt (b.take i) hc
    have wb : IntKind.u16.wrap ((b[i].toNat : Nat) : Int) = b[i].toNat := wrapN .u16 (by have := b[i].toNat_lt; simp [vbits, IntKind.signed, IntKind.bits]; omega)
    have hx : bitsI .xor .u16 (cmore c (b.take i) : Int) ((b[i].toNat : Nat) : Int) = some ((cmore c (b.take i) ^^^ b[i].toNat : Nat) : Int) := bitsI_xor .u16 hm (by have := b[i].toNat_lt; simp [vbits, IntKind.signed, IntKind.bits]; omega)
    have hx2 : cmore c (b.take i) ^^^ b[i].toNat < 65536 := byte_xor_lt hm _
    simp -implicitDefEqProofs (maxSteps := 2000000) only [g8, g9, g10, g0, hil', hil, drop_bl hil, bl_length, wb, hx, wk, act, asV, ↓reduceIte, Nat.reduceEqDiff, reduceCtorEq, Nat.reduceAdd, Nat.reduceLeDiff, Nat.reduceSub, Nat.reduceMul, List.reduceReplicate, Int.reduceEq, Int.reduceLT, Int.reduceLE, Int.reduceAdd, Int.reduceSub, Int.reduceMul, Nat.reduceLT, Int.reduceToNat]
    refine Wp_loop (fun j s => ∃ k, k ≤ 8 ∧ j = 8 - k ∧ s.t 8 = .sl f b.length (bl b) ∧ s.t 9 = .int .i64 b.length ∧ s.t 10 = .int .i64 (i : Nat) ∧ s.t 18 = .int .i64 (k : Nat) ∧ s.t 0 = .int .u16 (cbits k (cmore c (b.take i) ^^^ b[i].toNat) : Nat)) 8 ⟨0, by omega, rfl, by simp -implicitDefEqProofs (maxSteps := 2000000) only [g8, wk, act, asV, ↓reduceIte, Nat.reduceEqDiff, reduceCtorEq, Nat.reduceAdd, Nat.reduceLeDiff, Nat.reduceSub, Nat.reduceMul, List.reduceReplicate, Int.reduceEq, Int.reduceLT, Int.reduceLE, Int.reduceAdd, Int.reduceSub, Int.reduceMul, Nat.reduceLT, Int.reduceToNat], by simp -implicitDefEqProofs (maxSteps := 2000000) only [g9, wk, act, asV, ↓reduceIte, Nat.reduceEqDiff, reduceCtorEq, Nat.reduceAdd, Nat.reduceLeDiff, Nat.reduceSub, Nat.reduceMul, List.reduceReplicate, Int.reduceEq, Int.reduceLT, Int.reduceLE, Int.reduceAdd, Int.reduceSub, Int.reduceMul, Nat.reduceLT, Int.reduceToNat], by simp -implicitDefEqProofs (maxSteps := 2000000) only [g10, wk, act, asV, ↓reduceIte, Nat.reduceEqDiff, reduceCtorEq, Nat.reduceAdd, Nat.reduceLeDiff, Nat.reduceSub, Nat.reduceMul, List.reduceReplicate, Int.reduceEq, Int.reduceLT, Int.reduceLE, Int.reduceAdd, Int.reduceSub, Int.reduceMul, Nat.reduceLT, Int.reduceToNat], by simp -implicitDefEqProofs (maxSteps := 2000000) only [wk, act, asV, ↓reduceIte, Nat.reduceEqDiff, reduceCtorEq, Nat.reduceAdd, Nat.reduceLeDiff, Nat.reduceSub, Nat.reduceMul, List.reduceReplicate, Int.reduceEq, Int.reduceLT, Int.reduceLE, Int.reduceAdd, Int.reduceSub, Int.reduceMul, Nat.reduceLT, Int.reduceToNat], by simp -implicitDefEqProofs (maxSteps := 2000000) only [cbits, wk, act, asV, ↓reduceIte, Nat.reduceEqDiff, reduceCtorEq, Nat.reduceAdd, Nat.reduceLeDiff, Nat.reduceSub, Nat.reduceMul, List.reduceReplicate, Int.reduceEq, Int.reduceLT, Int.reduceLE, Int.reduceAdd, Int.reduceSub, Int.reduceMul, Nat.reduceLT, Int.reduceToNat]⟩ ?_
    rintro j s ⟨k, hk, rfl, g8, g9, g10, g18, g0⟩
    by_cases hk8 : k < 8
    · have hk8' : (k : Int) < 8 := by omega
      obtain ⟨d, hd⟩ : ∃ d, d = cbits k (cmore c (b.take i) ^^^ b[i].toNat) := ⟨_, rfl⟩
      rw [← hd] at g0
      have hdl : d < 65536 := by rw [hd]; exact cbits_lt hx2 k
      have ha : bitsI .and .u16 (d : Int) 1 = some ((d &&& 1 : Nat) : Int) := bitsI_and .u16 (x := d) (y := 1) hdl (by decide)
      have hs : shI .shr .u16 (d : Int) 1 = some (.int .u16 ((d >>> 1 : Nat) : Int)) := shI_shr .u16 (x := d) (y := 1) (by decide)
      have hmul : IntKind.u16.wrap (33800 * ((d &&& 1 : Nat) : Int)) = ((33800 * (d &&& 1) : Nat) : Int) := by
        have : (33800 : Int) * ((d &&& 1 : Nat) : Int) = ((33800 * (d &&& 1) : Nat) : Int) := by simp
        rw [this]
        exact wrapN .u16 (by rcases low_cases d with e | e <;> rw [e] <;> decide)
      have hxo : bitsI .xor .u16 ((d >>> 1 : Nat) : Int) ((33800 * (d &&& 1) : Nat) : Int) = some ((cbit d : Nat) : Int) := by
        rw [bitsI_xor .u16 (show _ < 2 ^ vbits .u16 from by rw [Nat.shiftRight_eq_div_pow]; simp [vbits, IntKind.signed, IntKind.bits]; omega) (by rcases low_cases d with e | e <;> rw [e] <;> decide)]
        rfl
      have hcb : cbit d = cbits (k + 1) (cmore c (b.take i) ^^^ b[i].toNat) := by rw [hd]; rfl
      simp -implicitDefEqProofs (maxSteps := 2000000) only [g8, g9, g10, g18, g0, hk8', ha, hs, hmul, hxo, wrap_nat (show k < 2 ^ 63 - 1 by omega), wk, act, asV, ↓reduceIte, Nat.reduceEqDiff, reduceCtorEq, Nat.reduceAdd, Nat.reduceLeDiff, Nat.reduceSub, Nat.reduceMul, List.reduceReplicate, Int.reduceEq, Int.reduceLT, Int.reduceLE, Int.reduceAdd, Int.reduceSub, Int.reduceMul, Nat.reduceLT, Int.reduceToNat]
      rw [hcb]
      exact ⟨8 - (k + 1), by omega, k + 1, by omega, rfl, by and_intros <;> rfl⟩
    · have hke : k = 8 := by omega
      subst hke
      have hby : cbits 8 (cmore c (b.take i) ^^^ b[i].toNat) = cmore c (b.take (i + 1)) := by
        rw [List.take_succ_eq_append_getElem hil, cmore_snoc]; rfl
      rw [hby] at g0
      simp -implicitDefEqProofs (maxSteps := 2000000) only [g8, g9, g10, g18, g0, Int.lt_irrefl, wrap_nat (show i < 2 ^ 63 - 1 by omega), wk, act, asV, ↓reduceIte, Nat.reduceEqDiff, reduceCtorEq, Nat.reduceAdd, Nat.reduceLeDiff, Nat.reduceSub, Nat.reduceMul, List.reduceReplicate, Int.reduceEq, Int.reduceLT, Int.reduceLE, Int.reduceAdd, Int.reduceSub, Int.reduceMul, Nat.reduceLT, Int.reduceToNat]
      exact ⟨b.length - (i + 1), by omega, i + 1, by omega, rfl, by and_intros <;> rfl⟩
  · have hie : i = b.length := by omega
    subst hie
    rw [List.take_length] at g0
    simp -implicitDefEqProofs (maxSteps := 2000000) only [g8, g9, g10, g0, Int.lt_irrefl, wk, act, asV, ↓reduceIte, Nat.reduceEqDiff, reduceCtorEq, Nat.reduceAdd, Nat.reduceLeDiff, Nat.reduceSub, Nat.reduceMul, List.reduceReplicate, Int.reduceEq, Int.reduceLT, Int.reduceLE, Int.reduceAdd, Int.reduceSub, Int.reduceMul, Nat.reduceLT, Int.reduceToNat]

theorem check_ok (f : Fl) (ps : List (Fl × List UInt8)) (hl : ∀ p ∈ ps, ¬ p.1 = .lit ∧ p.2.length < 2 ^ 63) (hn : ps.length < 2 ^ 63) : RC Try.prog 41 [.sl f ps.length (pl ps)] [.int .u16 (crc (joined ps))] := by
  refine RC.of_wp c41 rfl ?_
  simp -implicitDefEqProofs (maxSteps := 2000000) only [m41_1, m41_2, m41_3, m41_4, m41_5, m41_6, m41_7, m41_8, m41_r, m41_b, m41, wk, act, asV, ↓reduceIte, Nat.reduceEqDiff, reduceCtorEq, Nat.reduceAdd, Nat.reduceLeDiff, Nat.reduceSub, Nat.reduceMul, List.reduceReplicate, Int.reduceEq, Int.reduceLT, Int.reduceLE, Int.reduceAdd, Int.reduceSub, Int.reduceMul, Nat.reduceLT, Int.reduceToNat]
  refine Wp_loop (fun j s => ∃ i, i ≤ ps.length ∧ j = ps.length - i ∧ s.t 6 = .sl f ps.length (pl ps) ∧ s.t 7 = .int .i64 ps.length ∧ s.t 8 = .int .i64 (i : Nat) ∧ s.t 3 = .int .u16 (cmore 65535 (joined (ps.take i)))) ps.length ⟨0, by omega, rfl, rfl, rfl, rfl, rfl⟩ ?_
  rintro j s ⟨i, hi, rfl, g6, g7, g8, g3⟩
  by_cases hil : i < ps.length
  · have hil' : (i : Int) < ps.length := by omega
    have hm := cmore_lt (joined (ps.take i)) (c := 65535) (by omega)
    have hmo := more_ok ps[i].1 hm ps[i].2 (hl _ (List.getElem_mem hil)).2
    have hfl := (hl _ (List.getElem_mem hil)).1
    rw [← cmore_append, ← joined_snoc, ← List.take_succ_eq_append_getElem hil] at hmo
    repeat' (first | simp -implicitDefEqProofs (maxSteps := 2000000) only [hfl, g6, g7, g8, g3, hil', hil, drop_pl hil, pl_length, wrap_nat (show i < 2 ^ 63 - 1 by omega), wk, act, asV, ↓reduceIte, Nat.reduceEqDiff, reduceCtorEq, Nat.reduceAdd, Nat.reduceLeDiff, Nat.reduceSub, Nat.reduceMul, List.reduceReplicate, Int.reduceEq, Int.reduceLT, Int.reduceLE, Int.reduceAdd, Int.reduceSub, Int.reduceMul, Nat.reduceLT, Int.reduceToNat] | ((first | ((with_reducible refine CallL.gate ?_); apply CallL.of) | ((with_reducible refine CallP.gate ?_); apply CallP.of)); (case h1 => (simp -implicitDefEqProofs (maxSteps := 2000000) only [hfl, g6, g7, g8, g3, hil', hil, drop_pl hil, pl_length, wrap_nat (show i < 2 ^ 63 - 1 by omega), wk, act, asV, ↓reduceIte, Nat.reduceEqDiff, reduceCtorEq, Nat.reduceAdd, Nat.reduceLeDiff, Nat.reduceSub, Nat.reduceMul, List.reduceReplicate, Int.reduceEq, Int.reduceLT, Int.reduceLE, Int.reduceAdd, Int.reduceSub, Int.reduceMul, Nat.reduceLT, Int.reduceToNat]; first | done | (with_reducible rfl))); (case h2 => (first | exact hmo)); (case h3 => simp -implicitDefEqProofs (maxSteps := 2000000) only [hfl, g6, g7, g8, g3, hil', hil, drop_pl hil, pl_length, wrap_nat (show i < 2 ^ 63 - 1 by omega), wk, act, asV, ↓reduceIte, Nat.reduceEqDiff, reduceCtorEq, Nat.reduceAdd, Nat.reduceLeDiff, Nat.reduceSub, Nat.reduceMul, List.reduceReplicate, Int.reduceEq, Int.reduceLT, Int.reduceLE, Int.reduceAdd, Int.reduceSub, Int.reduceMul, Nat.reduceLT, Int.reduceToNat])))
    exact ⟨ps.length - (i + 1), by omega, i + 1, by omega, rfl, by and_intros <;> rfl⟩
  · have hie : i = ps.length := by omega
    subst hie
    rw [List.take_length] at g3
    have hnt := not16 (cmore_lt (joined ps) (c := 65535) (by omega))
    have hmax : IntKind.u16.max = 65535 := rfl
    have hsg : IntKind.u16.signed = false := rfl
    simp -implicitDefEqProofs (maxSteps := 2000000) only [g6, g7, g8, g3, Int.lt_irrefl, hnt, hmax, hsg, wk, act, asV, ↓reduceIte, Nat.reduceEqDiff, reduceCtorEq, Nat.reduceAdd, Nat.reduceLeDiff, Nat.reduceSub, Nat.reduceMul, List.reduceReplicate, Int.reduceEq, Int.reduceLT, Int.reduceLE, Int.reduceAdd, Int.reduceSub, Int.reduceMul, Nat.reduceLT, Int.reduceToNat]
    rfl
end Go.Proofs.Ytkphojcmjffccaa
/- The reference of the check of bytes. -/
set_option linter.unusedVariables false
set_option linter.unusedSimpArgs false
set_option maxRecDepth 100000
set_option maxHeartbeats 2000000
namespace Go.Proofs.Ytkphojcmjffccaa
open Go.RowKit

end Go.Proofs.Ytkphojcmjffccaa
/- Rows joined, cloned, held against one another. -/
set_option linter.unusedVariables false
set_option linter.unusedSimpArgs false
set_option maxRecDepth 100000
set_option maxHeartbeats 2000000
namespace Go.Proofs.Ytkphojcmjffccaa
open Go.RowKit

theorem grow_ok {n : Nat} (hn : n ≤ 2 ^ 44) : RC Try.prog 46 [.sl .full 0 [], .int .i64 (n : Nat)] [.own 0 1 []] := by
  refine RC.of_wpW c46 rfl ?_
  have h0 : IntKind.i64.wrap (n : Int) = n := by rw [IntKind.wrap_i64]; omega
  have hz : IntKind.i64.wrap 0 = 0 := by decide
  have hge : ¬ (n : Int) < 0 := by omega
  have hr := roomyB hn
  by_cases hp : 0 < n
  · have hp' : (0 : Int) < n := by omega
    simp -implicitDefEqProofs (maxSteps := 2000000) only [m46_1, m46_2, m46_3, m46_4, m46_5, m46_6, m46_7, m46_r, m46_b, m46, h0, hz, hge, hp, hp', hr, Int.sub_zero, wk, act, asV, ↓reduceIte, Nat.reduceEqDiff, reduceCtorEq, Nat.reduceAdd, Nat.reduceLeDiff, Nat.reduceSub, Nat.reduceMul, List.reduceReplicate, Int.reduceEq, Int.reduceLT, Int.reduceLE, Int.reduceAdd, Int.reduceSub, Int.reduceMul, Nat.reduceLT, Int.reduceToNat]
    exact PostW.mk (r' := [.own 0 1 []]) (by simp -implicitDefEqProofs (maxSteps := 2000000) only [wk, act, asV, ↓reduceIte, Nat.reduceEqDiff, reduceCtorEq, Nat.reduceAdd, Nat.reduceLeDiff, Nat.reduceSub, Nat.reduceMul, List.reduceReplicate, Int.reduceEq, Int.reduceLT, Int.reduceLE, Int.reduceAdd, Int.reduceSub, Int.reduceMul, Nat.reduceLT, Int.reduceToNat]) (.cons (.inl rfl) .nil) (by decide) (by decide)
  · have hz0 : n = 0 := by omega
    subst hz0
    simp -implicitDefEqProofs (maxSteps := 2000000) only [m46_1, m46_2, m46_3, m46_4, m46_5, m46_6, m46_7, m46_r, m46_b, m46, h0, hz, hge, hr, Int.sub_zero, Int.lt_irrefl, wk, act, asV, ↓reduceIte, Nat.reduceEqDiff, reduceCtorEq, Nat.reduceAdd, Nat.reduceLeDiff, Nat.reduceSub, Nat.reduceMul, List.reduceReplicate, Int.reduceEq, Int.reduceLT, Int.reduceLE, Int.reduceAdd, Int.reduceSub, Int.reduceMul, Nat.reduceLT, Int.reduceToNat]
    exact PostW.mk (r' := [.sl .full 0 []]) (by simp -implicitDefEqProofs (maxSteps := 2000000) only [wk, act, asV, ↓reduceIte, Nat.reduceEqDiff, reduceCtorEq, Nat.reduceAdd, Nat.reduceLeDiff, Nat.reduceSub, Nat.reduceMul, List.reduceReplicate, Int.reduceEq, Int.reduceLT, Int.reduceLE, Int.reduceAdd, Int.reduceSub, Int.reduceMul, Nat.reduceLT, Int.reduceToNat]) (.cons (.inr ⟨rfl, 1, rfl⟩) .nil) (by decide) (by decide)

theorem joined_take_le (ps : List (Fl × List UInt8)) (i : Nat) : (joined (ps.take i)).length ≤ (joined ps).length := by
  have : joined ps = joined (ps.take i) ++ joined (ps.drop i) := by rw [joined, joined, joined, ← List.flatten_append, ← List.map_append, List.take_append_drop]
  rw [this, List.length_append]; omega

theorem concat_ok (f : Fl) (ps : List (Fl × List UInt8)) (hl : (joined ps).length ≤ 2 ^ 43) (hn : ps.length < 2 ^ 63) : RC Try.prog 33 [.sl f ps.length (pl ps)] [.own (joined ps).length 1 (bl (joined ps))] := by
  refine RC.of_wp c33 rfl ?_
  simp -implicitDefEqProofs (maxSteps := 2000000) only [m33_1, m33_2, m33_3, m33_4, m33_5, m33_6, m33_7, m33_8, m33_9, m33_10, m33_11, m33_12, m33_13, m33_14, m33_15, m33_16, m33_17, m33_r, m33_b, m33, wk, act, asV, ↓reduceIte, Nat.reduceEqDiff, reduceCtorEq, Nat.reduceAdd, Nat.reduceLeDiff, Nat.reduceSub, Nat.reduceMul, List.reduceReplicate, Int.reduceEq, Int.reduceLT, Int.reduceLE, Int.reduceAdd, Int.reduceSub, Int.reduceMul, Nat.reduceLT, Int.reduceToNat]
  refine Wp_loop (fun j s => ∃ i, i ≤ ps.length ∧ j = ps.length - i ∧ s.t 0 = .sl f ps.length (pl ps) ∧ s.t 9 = .sl f ps.length (pl ps) ∧ s.t 10 = .int .i64 ps.length ∧ s.t 11 = .int .i64 (i : Nat) ∧ s.t 3 = .int .i64 ((joined (ps.take i)).length : Nat)) ps.length ⟨0, by omega, rfl, rfl, rfl, rfl, rfl, rfl⟩ ?_
  rintro j s ⟨i, hi, rfl, g0, g9, g10, g11, g3⟩
  by_cases hil : i < ps.length
  · have hil' : (i : Int) < ps.length := by omega
    have htl := joined_take_le ps (i + 1)
    have hsn : (joined (ps.take (i + 1))).length = (joined (ps.take i)).length + ps[i].2.length := by rw [List.take_succ_eq_append_getElem hil, joined_snoc, List.length_append]
    have hw : IntKind.i64.wrap (((joined (ps.take i)).length : Int) + (ps[i].2.length : Int)) = ((joined (ps.take (i + 1))).length : Nat) := by rw [IntKind.wrap_i64, hsn]; omega
    have hng : ¬ (((joined (ps.take (i + 1))).length : Nat) : Int) < 0 := by omega
    simp -implicitDefEqProofs (maxSteps := 2000000) only [g0, g9, g10, g11, g3, hil', hil, drop_pl hil, pl_length, hw, hng, wrap_nat (show i < 2 ^ 63 - 1 by omega), wk, act, asV, ↓reduceIte, Nat.reduceEqDiff, reduceCtorEq, Nat.reduceAdd, Nat.reduceLeDiff, Nat.reduceSub, Nat.reduceMul, List.reduceReplicate, Int.reduceEq, Int.reduceLT, Int.reduceLE, Int.reduceAdd, Int.reduceSub, Int.reduceMul, Nat.reduceLT, Int.reduceToNat]
    exact ⟨ps.length - (i + 1), by omega, i + 1, by omega, rfl, by and_intros <;> rfl⟩
  · have hie : i = ps.length := by omega
    subst hie
    rw [List.take_length] at g3
    have hgr := grow_ok (n := (joined ps).length) (by omega)
    repeat' (first | simp -implicitDefEqProofs (maxSteps := 2000000) only [g0, g9, g10, g11, g3, Int.lt_irrefl, wk, act, asV, ↓reduceIte, Nat.reduceEqDiff, reduceCtorEq, Nat.reduceAdd, Nat.reduceLeDiff, Nat.reduceSub, Nat.reduceMul, List.reduceReplicate, Int.reduceEq, Int.reduceLT, Int.reduceLE, Int.reduceAdd, Int.reduceSub, Int.reduceMul, Nat.reduceLT, Int.reduceToNat] | ((first | ((with_reducible refine CallL.gate ?_); apply CallL.of) | ((with_reducible refine CallP.gate ?_); apply CallP.of)); (case h1 => (simp -implicitDefEqProofs (maxSteps := 2000000) only [g0, g9, g10, g11, g3, Int.lt_irrefl, wk, act, asV, ↓reduceIte, Nat.reduceEqDiff, reduceCtorEq, Nat.reduceAdd, Nat.reduceLeDiff, Nat.reduceSub, Nat.reduceMul, List.reduceReplicate, Int.reduceEq, Int.reduceLT, Int.reduceLE, Int.reduceAdd, Int.reduceSub, Int.reduceMul, Nat.reduceLT, Int.reduceToNat]; first | done | (with_reducible rfl))); (case h2 => (first | exact hgr)); (case h3 => simp -implicitDefEqProofs (maxSteps := 2000000) only [g0, g9, g10, g11, g3, Int.lt_irrefl, wk, act, asV, ↓reduceIte, Nat.reduceEqDiff, reduceCtorEq, Nat.reduceAdd, Nat.reduceLeDiff, Nat.reduceSub, Nat.reduceMul, List.reduceReplicate, Int.reduceEq, Int.reduceLT, Int.reduceLE, Int.reduceAdd, Int.reduceSub, Int.reduceMul, Nat.reduceLT, Int.reduceToNat])))
    refine Wp_loop (fun j s => ∃ i, i ≤ ps.length ∧ j = ps.length - i ∧ s.t 25 = .sl f ps.length (pl ps) ∧ s.t 26 = .int .i64 ps.length ∧ s.t 27 = .int .i64 (i : Nat) ∧ ∃ hm ver, (hm = 24 ∨ hm = 33) ∧ s.t 6 = .row hm 0 (joined (ps.take i)).length 1 ver ∧ s.h hm = ⟨ver, true, true, true, bl (joined (ps.take i))⟩) ps.length ⟨0, by omega, rfl, by simp -implicitDefEqProofs (maxSteps := 2000000) only [g0, wk, act, asV, ↓reduceIte, Nat.reduceEqDiff, reduceCtorEq, Nat.reduceAdd, Nat.reduceLeDiff, Nat.reduceSub, Nat.reduceMul, List.reduceReplicate, Int.reduceEq, Int.reduceLT, Int.reduceLE, Int.reduceAdd, Int.reduceSub, Int.reduceMul, Nat.reduceLT, Int.reduceToNat], by simp -implicitDefEqProofs (maxSteps := 2000000) only [wk, act, asV, ↓reduceIte, Nat.reduceEqDiff, reduceCtorEq, Nat.reduceAdd, Nat.reduceLeDiff, Nat.reduceSub, Nat.reduceMul, List.reduceReplicate, Int.reduceEq, Int.reduceLT, Int.reduceLE, Int.reduceAdd, Int.reduceSub, Int.reduceMul, Nat.reduceLT, Int.reduceToNat], by simp -implicitDefEqProofs (maxSteps := 2000000) only [wk, act, asV, ↓reduceIte, Nat.reduceEqDiff, reduceCtorEq, Nat.reduceAdd, Nat.reduceLeDiff, Nat.reduceSub, Nat.reduceMul, List.reduceReplicate, Int.reduceEq, Int.reduceLT, Int.reduceLE, Int.reduceAdd, Int.reduceSub, Int.reduceMul, Nat.reduceLT, Int.reduceToNat], 24, _, .inl rfl, by simp -implicitDefEqProofs (maxSteps := 2000000) only [wk, act, asV, ↓reduceIte, Nat.reduceEqDiff, reduceCtorEq, Nat.reduceAdd, Nat.reduceLeDiff, Nat.reduceSub, Nat.reduceMul, List.reduceReplicate, Int.reduceEq, Int.reduceLT, Int.reduceLE, Int.reduceAdd, Int.reduceSub, Int.reduceMul, Nat.reduceLT, Int.reduceToNat]; first | done | rfl, by simp -implicitDefEqProofs (maxSteps := 2000000) only [wk, act, asV, ↓reduceIte, Nat.reduceEqDiff, reduceCtorEq, Nat.reduceAdd, Nat.reduceLeDiff, Nat.reduceSub, Nat.reduceMul, List.reduceReplicate, Int.reduceEq, Int.reduceLT, Int.reduceLE, Int.reduceAdd, Int.reduceSub, Int.reduceMul, Nat.reduceLT, Int.reduceToNat]; first | done | rfl⟩ ?_
    rintro j s ⟨i, hi, rfl, g25, g26, g27, hm, ver, hhm, g6, gh⟩
    by_cases hil : i < ps.length
    · have hil' : (i : Int) < ps.length := by omega
      have htl := joined_take_le ps (i + 1)
      have hsn0 : joined (ps.take (i + 1)) = joined (ps.take i) ++ ps[i].2 := by rw [List.take_succ_eq_append_getElem hil, joined_snoc]
      have hsn : (joined (ps.take (i + 1))).length = (joined (ps.take i)).length + ps[i].2.length := by rw [hsn0, List.length_append]
      have hr : roomy ((joined (ps.take i)).length + ps[i].2.length) 1 = true := roomyB (by omega)
      have hb : bl (joined (ps.take i)) ++ bl ps[i].2 = bl (joined (ps.take (i + 1))) := by rw [hsn0, bl_append]
      rcases hhm with rfl | rfl
      all_goals
        simp -implicitDefEqProofs (maxSteps := 2000000) only [g25, g26, g27, g6, gh, hil', hil, drop_pl hil, pl_length, bl_length, hr, hb, wrap_nat (show i < 2 ^ 63 - 1 by omega), wk, act, asV, ↓reduceIte, Nat.reduceEqDiff, reduceCtorEq, Nat.reduceAdd, Nat.reduceLeDiff, Nat.reduceSub, Nat.reduceMul, List.reduceReplicate, Int.reduceEq, Int.reduceLT, Int.reduceLE, Int.reduceAdd, Int.reduceSub, Int.reduceMul, Nat.reduceLT, Int.reduceToNat]
        refine ⟨ps.length - (i + 1), by omega, i + 1, by omega, rfl, rfl, 33, _, .inr rfl, by rw [hsn], by simp -implicitDefEqProofs (maxSteps := 2000000) only [wk, act, asV, ↓reduceIte, Nat.reduceEqDiff, reduceCtorEq, Nat.reduceAdd, Nat.reduceLeDiff, Nat.reduceSub, Nat.reduceMul, List.reduceReplicate, Int.reduceEq, Int.reduceLT, Int.reduceLE, Int.reduceAdd, Int.reduceSub, Int.reduceMul, Nat.reduceLT, Int.reduceToNat]; first | done | rfl⟩
    · have hie : i = ps.length := by omega
      subst hie
      rw [List.take_length] at g6 gh
      rcases hhm with rfl | rfl
      all_goals simp -implicitDefEqProofs (maxSteps := 2000000) only [g25, g26, g27, g6, gh, Int.lt_irrefl, take_bl, wk, act, asV, ↓reduceIte, Nat.reduceEqDiff, reduceCtorEq, Nat.reduceAdd, Nat.reduceLeDiff, Nat.reduceSub, Nat.reduceMul, List.reduceReplicate, Int.reduceEq, Int.reduceLT, Int.reduceLE, Int.reduceAdd, Int.reduceSub, Int.reduceMul, Nat.reduceLT, Int.reduceToNat]
end Go.Proofs.Ytkphojcmjffccaa
/- Numbers put into bytes, and read out of them. -/
set_option linter.unusedVariables false
set_option linter.unusedSimpArgs false
set_option maxRecDepth 100000
set_option maxHeartbeats 2000000
namespace Go.Proofs.Ytkphojcmjffccaa
open Go.RowKit

end Go.Proofs.Ytkphojcmjffccaa
/- Of the replies: what they are, and their bytes. -/
set_option linter.unusedSectionVars false
set_option linter.unusedVariables false
set_option linter.unusedSimpArgs false
set_option maxRecDepth 100000
set_option maxHeartbeats 4000000
namespace Go.Proofs.Ytkphojcmjffccaa
open Go.RowKit

structure Rp where
  id : Int
  e : Int
  f : Fl
  d : List UInt8
def rc (r : Rp) : List IV := [.int .i64 r.id, .int .i64 r.e, .sl r.f r.d.length (bl r.d)]
def rl (rs : List Rp) : List IV := rs.flatMap rc
def good (r : Rp) : Bool := decide (0 ≤ r.id) && decide (r.id ≤ 2147483647) && decide (0 ≤ r.e) && decide (r.e ≤ 255) && decide (r.d.length ≤ 255)
def rbody (id e : Nat) (d : List UInt8) : List UInt8 := [u8 id, u8 (id >>> 8), u8 (id >>> 16), u8 (id >>> 24), u8 e, u8 d.length] ++ d
def renc (r : Rp) : List UInt8 := sealed (rbody r.id.toNat r.e.toNat r.d)
def encB (r : Rp) : List UInt8 := if good r = true then renc r else []
def encE (r : Rp) : Int := if good r = true then 0 else 11
theorem rbody_length (id e : Nat) (d : List UInt8) : (rbody id e d).length = d.length + 6 := by simp [rbody]
theorem renc_length (r : Rp) : (renc r).length = r.d.length + 8 := by rw [renc, sealed_length, rbody_length]
theorem good_of {id e : Int} {f : Fl} {d : List UInt8} (h1 : ¬ id < 0) (h2 : ¬ (2147483647 : Int) < id) (h3 : ¬ e < 0) (h4 : ¬ (255 : Int) < e) (h5 : ¬ (255 : Int) < d.length) : good ⟨id, e, f, d⟩ = true := by
  simp only [good, Bool.and_eq_true, decide_eq_true_eq]
  omega
theorem bad_of {id e : Int} {f : Fl} {d : List UInt8} (h : id < 0 ∨ (2147483647 : Int) < id ∨ e < 0 ∨ (255 : Int) < e ∨ (255 : Int) < d.length) : ¬ good ⟨id, e, f, d⟩ = true := by
  intro hg
  simp only [good, Bool.and_eq_true, decide_eq_true_eq] at hg
  omega

theorem reply_ok (r : Rp) (hf : ¬ r.f = .lit) : RC Try.prog 28 [.agg (rc r)] [.own (encB r).length 1 (bl (encB r)), .int .i64 (encE r)] := by
  obtain ⟨id, e, f, d⟩ := r
  refine RC.of_wpW c28 rfl ?_
  have bad : ∀ s : St, id < 0 ∨ (2147483647 : Int) < id ∨ e < 0 ∨ (255 : Int) < e ∨ (255 : Int) < d.length → s.ress [MRes.tmp 2, MRes.tmp 3] = some [.sl .full 0 [], .int .i64 11] → PostW [MRes.tmp 2, MRes.tmp 3] [.own (encB ⟨id, e, f, d⟩).length 1 (bl (encB ⟨id, e, f, d⟩)), .int .i64 (encE ⟨id, e, f, d⟩)] .ret s := by
    intro s hb hs
    have hb' := bad_of (f := f) hb
    have e1 : encB ⟨id, e, f, d⟩ = [] := if_neg hb'
    have e2 : encE ⟨id, e, f, d⟩ = 11 := if_neg hb'
    rw [e1, e2]
    exact PostW.mk (r' := [.sl .full 0 [], .int .i64 11]) hs (.cons (.inr ⟨rfl, 1, rfl⟩) (.cons (.inl rfl) .nil)) (by decide) (by decide)
  by_cases h1 : id < 0
  · simp -implicitDefEqProofs (maxSteps := 2000000) only [m28_1, m28_2, m28_3, m28_4, m28_5, m28_6, m28_7, m28_r, m28_b, m28, rc, h1, wk, act, asV, ↓reduceIte, Nat.reduceEqDiff, reduceCtorEq, Nat.reduceAdd, Nat.reduceLeDiff, Nat.reduceSub, Nat.reduceMul, List.reduceReplicate, Int.reduceEq, Int.reduceLT, Int.reduceLE, Int.reduceAdd, Int.reduceSub, Int.reduceMul, Nat.reduceLT, Int.reduceToNat]
    exact bad _ (.inl h1) (by simp -implicitDefEqProofs (maxSteps := 2000000) only [wk, act, asV, ↓reduceIte, Nat.reduceEqDiff, reduceCtorEq, Nat.reduceAdd, Nat.reduceLeDiff, Nat.reduceSub, Nat.reduceMul, List.reduceReplicate, Int.reduceEq, Int.reduceLT, Int.reduceLE, Int.reduceAdd, Int.reduceSub, Int.reduceMul, Nat.reduceLT, Int.reduceToNat])
  by_cases h2 : (2147483647 : Int) < id
  · simp -implicitDefEqProofs (maxSteps := 2000000) only [m28_1, m28_2, m28_3, m28_4, m28_5, m28_6, m28_7, m28_r, m28_b, m28, rc, h1, h2, wk, act, asV, ↓reduceIte, Nat.reduceEqDiff, reduceCtorEq, Nat.reduceAdd, Nat.reduceLeDiff, Nat.reduceSub, Nat.reduceMul, List.reduceReplicate, Int.reduceEq, Int.reduceLT, Int.reduceLE, Int.reduceAdd, Int.reduceSub, Int.reduceMul, Nat.reduceLT, Int.reduceToNat]
    exact bad _ (.inr (.inl h2)) (by simp -implicitDefEqProofs (maxSteps := 2000000) only [wk, act, asV, ↓reduceIte, Nat.reduceEqDiff, reduceCtorEq, Nat.reduceAdd, Nat.reduceLeDiff, Nat.reduceSub, Nat.reduceMul, List.reduceReplicate, Int.reduceEq, Int.reduceLT, Int.reduceLE, Int.reduceAdd, Int.reduceSub, Int.reduceMul, Nat.reduceLT, Int.reduceToNat])
  by_cases h3 : e < 0
  · simp -implicitDefEqProofs (maxSteps := 2000000) only [m28_1, m28_2, m28_3, m28_4, m28_5, m28_6, m28_7, m28_r, m28_b, m28, rc, h1, h2, h3, wk, act, asV, ↓reduceIte, Nat.reduceEqDiff, reduceCtorEq, Nat.reduceAdd, Nat.reduceLeDiff, Nat.reduceSub, Nat.reduceMul, List.reduceReplicate, Int.reduceEq, Int.reduceLT, Int.reduceLE, Int.reduceAdd, Int.reduceSub, Int.reduceMul, Nat.reduceLT, Int.reduceToNat]
    exact bad _ (.inr (.inr (.inl h3))) (by simp -implicitDefEqProofs (maxSteps := 2000000) only [wk, act, asV, ↓reduceIte, Nat.reduceEqDiff, reduceCtorEq, Nat.reduceAdd, Nat.reduceLeDiff, Nat.reduceSub, Nat.reduceMul, List.reduceReplicate, Int.reduceEq, Int.reduceLT, Int.reduceLE, Int.reduceAdd, Int.reduceSub, Int.reduceMul, Nat.reduceLT, Int.reduceToNat])
  by_cases h4 : (255 : Int) < e
  · simp -implicitDefEqProofs (maxSteps := 2000000) only [m28_1, m28_2, m28_3, m28_4, m28_5, m28_6, m28_7, m28_r, m28_b, m28, rc, h1, h2, h3, h4, wk, act, asV, ↓reduceIte, Nat.reduceEqDiff, reduceCtorEq, Nat.reduceAdd, Nat.reduceLeDiff, Nat.reduceSub, Nat.reduceMul, List.reduceReplicate, Int.reduceEq, Int.reduceLT, Int.reduceLE, Int.reduceAdd, Int.reduceSub, Int.reduceMul, Nat.reduceLT, Int.reduceToNat]
    exact bad _ (.inr (.inr (.inr (.inl h4)))) (by simp -implicitDefEqProofs (maxSteps := 2000000) only [wk, act, asV, ↓reduceIte, Nat.reduceEqDiff, reduceCtorEq, Nat.reduceAdd, Nat.reduceLeDiff, Nat.reduceSub, Nat.reduceMul, List.reduceReplicate, Int.reduceEq, Int.reduceLT, Int.reduceLE, Int.reduceAdd, Int.reduceSub, Int.reduceMul, Nat.reduceLT, Int.reduceToNat])
  by_cases h5 : (255 : Int) < d.length
  · simp -implicitDefEqProofs (maxSteps := 2000000) only [m28_1, m28_2, m28_3, m28_4, m28_5, m28_6, m28_7, m28_r, m28_b, m28, rc, h1, h2, h3, h4, h5, wk, act, asV, ↓reduceIte, Nat.reduceEqDiff, reduceCtorEq, Nat.reduceAdd, Nat.reduceLeDiff, Nat.reduceSub, Nat.reduceMul, List.reduceReplicate, Int.reduceEq, Int.reduceLT, Int.reduceLE, Int.reduceAdd, Int.reduceSub, Int.reduceMul, Nat.reduceLT, Int.reduceToNat]
    exact bad _ (.inr (.inr (.inr (.inr h5)))) (by simp -implicitDefEqProofs (maxSteps := 2000000) only [wk, act, asV, ↓reduceIte, Nat.reduceEqDiff, reduceCtorEq, Nat.reduceAdd, Nat.reduceLeDiff, Nat.reduceSub, Nat.reduceMul, List.reduceReplicate, Int.reduceEq, Int.reduceLT, Int.reduceLE, Int.reduceAdd, Int.reduceSub, Int.reduceMul, Nat.reduceLT, Int.reduceToNat])
  have hg := good_of (f := f) h1 h2 h3 h4 h5
  have e1 : encB ⟨id, e, f, d⟩ = renc ⟨id, e, f, d⟩ := if_pos hg
  have e2 : encE ⟨id, e, f, d⟩ = 0 := if_pos hg
  rw [e1, e2]
  obtain ⟨n, rfl⟩ : ∃ n : Nat, id = n := ⟨id.toNat, by omega⟩
  obtain ⟨m, rfl⟩ : ∃ n : Nat, e = n := ⟨e.toNat, by omega⟩
  have hn : n < 2 ^ 31 := by omega
  obtain ⟨body, hbody⟩ : ∃ body, body = rbody n m d := ⟨_, rfl⟩
  have hre : renc ⟨n, m, f, d⟩ = sealed body := by rw [hbody]; rfl
  rw [hre, sealed_length, bl_sealed]
  have hbl : body.length ≤ 300 := by rw [hbody, rbody_length]; omega
  have w32 : IntKind.u32.wrap ((n : Nat) : Int) = n := wrapN .u32 (by simp [vbits, IntKind.signed, IntKind.bits]; omega)
  have s8 : shI .shr .u32 (n : Int) 8 = some (.int .u32 ((n >>> 8 : Nat) : Int)) := shI_shr .u32 (x := n) (y := 8) (by decide)
  have s16 : shI .shr .u32 (n : Int) 16 = some (.int .u32 ((n >>> 16 : Nat) : Int)) := shI_shr .u32 (x := n) (y := 16) (by decide)
  have s24 : shI .shr .u32 (n : Int) 24 = some (.int .u32 ((n >>> 24 : Nat) : Int)) := shI_shr .u32 (x := n) (y := 24) (by decide)
  have s2 : shI .shr .u16 ((crc body : Nat) : Int) 8 = some (.int .u16 ((crc body >>> 8 : Nat) : Int)) := shI_shr .u16 (x := crc body) (y := 8) (by decide)
  have hcc : RC Try.prog 33 [.sl .full 2 [.sl .plain 6 [.int .u8 ((u8 n).toNat : Int), .int .u8 ((u8 (n >>> 8)).toNat : Int), .int .u8 ((u8 (n >>> 16)).toNat : Int), .int .u8 ((u8 (n >>> 24)).toNat : Int), .int .u8 ((u8 m).toNat : Int), .int .u8 ((u8 d.length).toNat : Int)], .sl .plain d.length (bl d)]] [.own body.length 1 (bl body)] := by
    have := concat_ok .full [(.plain, [u8 n, u8 (n >>> 8), u8 (n >>> 16), u8 (n >>> 24), u8 m, u8 d.length]), (.plain, d)] (by simp [joined]; omega) (by simp)
    have ej : joined [(Fl.plain, [u8 n, u8 (n >>> 8), u8 (n >>> 16), u8 (n >>> 24), u8 m, u8 d.length]), (.plain, d)] = body := by rw [hbody]; simp [joined, rbody]
    rw [ej] at this
    exact this
  have hck := check_ok .full [(.plain, body)] (by intro p hp; simp only [List.mem_singleton] at hp; subst hp; exact ⟨by simp, by simp only; omega⟩) (by simp)
  have ej : joined [(Fl.plain, body)] = body := by simp [joined]
  rw [ej] at hck
  have r2 : roomy (body.length + 2) 1 = true := roomyB (by omega)
  cases f with
  | lit => exact absurd rfl hf
  | _ =>
    repeat' (first | simp -implicitDefEqProofs (maxSteps := 2000000) only [m28_1, m28_2, m28_3, m28_4, m28_5, m28_6, m28_7, m28_r, m28_b, m28, rc, h1, h2, h3, h4, h5, w32, wrap_u8, s8, s16, s24, s2, pl, take_bl, r2, bl_length, List.length_singleton, wk, act, asV, ↓reduceIte, Nat.reduceEqDiff, reduceCtorEq, Nat.reduceAdd, Nat.reduceLeDiff, Nat.reduceSub, Nat.reduceMul, List.reduceReplicate, Int.reduceEq, Int.reduceLT, Int.reduceLE, Int.reduceAdd, Int.reduceSub, Int.reduceMul, Nat.reduceLT, Int.reduceToNat] | ((first | ((with_reducible refine CallL.gate ?_); apply CallL.of) | ((with_reducible refine CallP.gate ?_); apply CallP.of)); (case h1 => (simp -implicitDefEqProofs (maxSteps := 2000000) only [m28_1, m28_2, m28_3, m28_4, m28_5, m28_6, m28_7, m28_r, m28_b, m28, rc, h1, h2, h3, h4, h5, w32, wrap_u8, s8, s16, s24, s2, pl, take_bl, r2, bl_length, List.length_singleton, wk, act, asV, ↓reduceIte, Nat.reduceEqDiff, reduceCtorEq, Nat.reduceAdd, Nat.reduceLeDiff, Nat.reduceSub, Nat.reduceMul, List.reduceReplicate, Int.reduceEq, Int.reduceLT, Int.reduceLE, Int.reduceAdd, Int.reduceSub, Int.reduceMul, Nat.reduceLT, Int.reduceToNat]; first | done | (with_reducible rfl))); (case h2 => (first | exact hcc | exact hck)); (case h3 => simp -implicitDefEqProofs (maxSteps := 2000000) only [m28_1, m28_2, m28_3, m28_4, m28_5, m28_6, m28_7, m28_r, m28_b, m28, rc, h1, h2, h3, h4, h5, w32, wrap_u8, s8, s16, s24, s2, pl, take_bl, r2, bl_length, List.length_singleton, wk, act, asV, ↓reduceIte, Nat.reduceEqDiff, reduceCtorEq, Nat.reduceAdd, Nat.reduceLeDiff, Nat.reduceSub, Nat.reduceMul, List.reduceReplicate, Int.reduceEq, Int.reduceLT, Int.reduceLE, Int.reduceAdd, Int.reduceSub, Int.reduceMul, Nat.reduceLT, Int.reduceToNat])))
    exact PostW.mk (r' := [.own (body.length + 2) 1 (bl body ++ [.int .u8 ((u8 (crc body)).toNat : Int), .int .u8 ((u8 (crc body >>> 8)).toNat : Int)]), .int .i64 0]) (by simp -implicitDefEqProofs (maxSteps := 2000000) only [take_sealed, wk, act, asV, ↓reduceIte, Nat.reduceEqDiff, reduceCtorEq, Nat.reduceAdd, Nat.reduceLeDiff, Nat.reduceSub, Nat.reduceMul, List.reduceReplicate, Int.reduceEq, Int.reduceLT, Int.reduceLE, Int.reduceAdd, Int.reduceSub, Int.reduceMul, Nat.reduceLT, Int.reduceToNat]) (.cons (.inl rfl) (.cons (.inl rfl) .nil)) (Nat.le_refl 1) (Nat.le_refl 1)

end Go.Proofs.Ytkphojcmjffccaa
/- Of the replies: the document's bytes; replies joined. -/
set_option linter.unusedSectionVars false
set_option linter.unusedVariables false
set_option linter.unusedSimpArgs false
set_option maxRecDepth 100000
set_option maxHeartbeats 4000000
namespace Go.Proofs.Ytkphojcmjffccaa
open Go.RowKit

end Go.Proofs.Ytkphojcmjffccaa
/- slices.Chunk's closure over bytes, 64 by 64. -/
set_option linter.unusedSimpArgs false
set_option linter.unusedSectionVars false
set_option linter.unusedVariables false
namespace Go.Proofs.Ytkphojcmjffccaa
open Go.RowKit Go.Shelf
attribute [local go_sem] Oper.semAt_some

def upN (N k : Nat) : List (Fin N) := (List.finRange N).take k
theorem upN_length {N k : Nat} (h : k ≤ N) : (upN N k).length = k := by simp [upN, h]
theorem upN_succ {N k : Nat} (h : k < N) : upN N (k + 1) = upN N k ++ [⟨k, h⟩] := by
  unfold upN
  rw [List.take_succ_eq_append_getElem (by simpa using h)]
  simp
theorem upN_all (N : Nat) : upN N N = List.finRange N := List.take_of_length_le (by simp)

set_option maxRecDepth 100000 in
set_option maxHeartbeats 4000000 in
theorem chunk1_in (n : Nat) (hn : 1 ≤ n) (l Bs os Bn on_ b off N cap : Nat) (hcap : 64 * N ≤ cap) (hreach : 64 * N ≤ 140737488351232) (Kp : World → World → Prop)
    (hKs : ∀ W W', Kp W W' → W'.cell? ⟨Bs, os, none⟩ = W.cell? ⟨Bs, os, none⟩) (hKn : ∀ W W', Kp W W' → W'.cell? ⟨Bn, on_, none⟩ = W.cell? ⟨Bn, on_, none⟩) (J Jx : List (Fin N) → World → Prop)
    (hY : ∀ pre (x : Fin N) W, J pre W → pre.length < N → YieldAt Fence.wide (n - 1) Try.prog l #[.slice (some ⟨b, off + 64 * x.1, none⟩) 64 64] W fun e W' =>
      (e = .returned (.bool true) ∧ J (pre ++ [x]) W' ∧ Kp W W') ∨ (e = .returned (.bool false) ∧ Jx (pre ++ [x]) W'))
    (W : World) (hJ : ∀ s A, J s A → J s A.drew) (hBs : W.cell? ⟨Bs, os, none⟩ = some (.slice (some ⟨b, off, none⟩) (64 * N) cap)) (hBn : W.cell? ⟨Bn, on_, none⟩ = some (.int .i64 64)) (h0 : J [] W) :
    CallsIn Fence.wide n Try.prog 47 #[.func (.yield l) #[] #[], .pointer (some ⟨Bs, os, none⟩), .pointer (some ⟨Bn, on_, none⟩)] W fun e W' => (∃ v, e = .returned v) ∧
      ((∃ ys, ys = List.finRange N ∧ J ys W') ∨ (∃ pre, Jx pre W')) := by
  refine callsIn_of_wp Try.func47 rfl trivial ?_ rfl
  simp only [Try.ntmps47, List.size_toArray, List.length_cons, List.length_nil, Nat.reduceAdd, Nat.reduceSub, Array.replicate_succ, Array.replicate_zero, List.push_toArray, List.append_toArray, List.nil_append, List.cons_append]
  have hmx : Try.prog.follows .mixedOrders = true := by kernel_rfl
  gi_wp2
  gi_loopw [4] (fun i wr => ∃ k : Nat, k ≤ N ∧ i = .int .i64 ((64 * k : Nat) : Int) ∧ J (upN N k) wr ∧ wr.cell? ⟨Bs, os, none⟩ = some (.slice (some ⟨b, off, none⟩) (64 * N) cap) ∧ wr.cell? ⟨Bn, on_, none⟩ = some (.int .i64 64))
    (fun i _ => 64 * N - (intOf i).toNat)
  case atStart => exact ⟨0, Nat.zero_le _, rfl, h0, hBs, hBn⟩
  case round =>
    obtain ⟨k, hk, rfl, hJs, hbs, hbn⟩ := hrel
    by_cases hlt : k < N
    · have hY' := hY _ ⟨k, hlt⟩ wr.drew (hJ _ _ hJs) (by rw [upN_length hk]; exact hlt)
      obtain ⟨fn, tmps, assign, body, hy, hR⟩ := hY'
      dsimp only at hy
      gi_wp2
      gi_region_with_o (fail)
      all_goals gi_wp2
      all_goals (try go_bits)
      all_goals refine hR.mono ?_
      all_goals rintro e W3 (⟨rfl, hJ3, hk3⟩ | ⟨rfl, hJx3⟩)
      all_goals try have hbs3 := (hKs _ _ hk3).trans ((show wr.drew.cell? ⟨Bs, os, none⟩ = _ from hbs))
      all_goals try have hbn3 := (hKn _ _ hk3).trans ((show wr.drew.cell? ⟨Bn, on_, none⟩ = _ from hbn))
      all_goals gi_wp2
      all_goals first
        | (refine bodyPost_ret (results_none rfl _ _ _) rfl ?_
           exact ⟨⟨_, rfl⟩, .inr ⟨_, hJx3⟩⟩)
        | exact ⟨⟨k + 1, by omega, by rw [show ((64 * (k + 1) : Nat) : Int) = 64 * (k : Int) + 64 by omega], by rw [upN_succ hlt]; exact hJ3, hbs3, hbn3⟩, by simp only [intOf]; omega⟩
    · have hkN : N = k := by omega
      subst hkN
      gi_wp2
      go_end0
      exact ⟨⟨_, rfl⟩, .inl ⟨_, rfl, by rw [← upN_all]; exact hJs⟩⟩
end Go.Proofs.Ytkphojcmjffccaa
/- slices.Chunk over bytes, 64 by 64: what it hands back. -/
set_option linter.unusedSimpArgs false
set_option linter.unusedSectionVars false
set_option linter.unusedVariables false
namespace Go.Proofs.Ytkphojcmjffccaa
open Go.RowKit Go.Shelf
attribute [local go_sem] Oper.semAt_some

set_option maxRecDepth 100000 in
set_option maxHeartbeats 1000000 in
theorem chunk_in (n : Nat) (a : Option Addr) (len cap : Nat) (w : World) : CallsIn Fence.wide n Try.prog 35 #[.slice a len cap, .int .i64 64] w fun e w' =>
    e = .returned (.func (.func 47) #[] #[.pointer (some ⟨w.heap.size, 0, none⟩), .pointer (some ⟨w.heap.size + 1, 0, none⟩)]) ∧ w' = (w.alloc (.cells #[.slice a len cap] 35)).alloc (.cells #[.int .i64 64] 3) := by
  refine callsIn_of_wp Try.func35 rfl trivial ?_ rfl
  simp only [Try.ntmps35, List.size_toArray, List.length_cons, List.length_nil, Nat.reduceAdd, Nat.reduceSub, Array.replicate_succ, Array.replicate_zero, List.push_toArray, List.append_toArray, List.nil_append, List.cons_append]
  gi_wp2
  go_ret
  exact ⟨rfl, rfl⟩

theorem chunk_ok (f : Fl) (n : Nat) (cs : List IV) : RC Try.prog 35 [.sl f n cs, .int .i64 64] [.clo 47 [.addr [.sl f n cs], .addr [.int .i64 64]]] := by
  refine ⟨by kernel_rfl, ?_⟩
  intro w A vals hA hnl hpu hv
  simp only [VRL] at hv
  obtain ⟨u, _, rfl, h1, u2, _, rfl, h2, rfl⟩ := hv
  have h1' := h1
  simp only [VR] at h1 h2
  obtain ⟨Aa, k, us, rfl, hk, hfk, hfb, hp, ho, hus, hat⟩ := h1
  subst h2
  have hfl : ¬ f = .lit := by rintro rfl; simp [IV.nlit] at hnl
  refine Calls.mono ((callsIn_wide (n := 3)).1 (chunk_in 3 Aa n k w)) ?_
  rintro e w' ⟨rfl, rfl⟩
  have hb : Below w.heap.size w ((w.alloc (.cells #[.slice Aa n k] 35)).alloc (.cells #[.int .i64 64] 3)) := ((Below.refl _ w).alloc (Nat.le_refl _) _).alloc (by simp) _
  have hone : (IV.sl f n cs).one = true := by cases f <;> first | rfl | exact absurd rfl hfl
  have hnl1 : (IV.sl f n cs).nlit = true := by cases f <;> first | rfl | exact absurd rfl hfl
  refine ⟨_, rfl, ⟨fun b => A b ∨ b = w.heap.size ∨ b = w.heap.size + 1, [_], rfl, ?_, ?_, by simp [isOwn]⟩, hb⟩
  · rintro b (h | rfl | rfl)
    · exact ⟨fun _ => h, by have := hA b h; simp; omega⟩
    · exact ⟨fun h => absurd h (Nat.lt_irrefl _), by simp; omega⟩
    · exact ⟨fun h => by omega, by simp⟩
  · refine .cons ⟨by simp [IV.pur, IV.purL, hp], rfl, ?_⟩ .nil
    have hev : EvoP (cArg A w) ⟨(w.alloc (.cells #[.slice Aa n k] 35)).alloc (.cells #[.int .i64 64] 3), fun b => A b ∨ b = w.heap.size ∨ b = w.heap.size + 1, deadH, fun _ => none, w.heap.size⟩ :=
      ⟨fun b h => .inl h, fun b h i => hb.cell (p := ⟨b, i, none⟩) (hA b h)⟩
    have hvv := h1'.evoP hev (by simp [IV.pur, hp]) hnl1
    simp only [VR, VRL]
    refine ⟨[_, _], rfl, rfl, _, _, rfl, ⟨_, [_], rfl, rfl, by simp [IV.purL, IV.pur, hp], by simp [hone], ⟨_, _, rfl, hvv, rfl⟩, ?_⟩, _, _, rfl, ⟨_, [_], rfl, rfl, by decide, by decide, ⟨_, _, rfl, rfl, rfl⟩, ?_⟩, rfl⟩
    · intro i hi
      obtain rfl : i = 0 := by simpa using hi
      refine ⟨_, rfl, rfl, .inr (.inl rfl), ?_⟩
      simp
    · intro i hi
      obtain rfl : i = 0 := by simpa using hi
      refine ⟨_, rfl, rfl, .inr (.inr rfl), ?_⟩
      simp
end Go.Proofs.Ytkphojcmjffccaa
