/- Of the pool: which blocks are used. -/
import Derived.Test.YtilbipknodpmmaaDoorE31
import Derived.Test.YtilbipknodpmmaaDoorM1
import Derived.Test.YtilbipknodpmmaaDoorB1
import Derived.Test.YtilbipknodpmmaaDoorB2
set_option linter.unusedSectionVars false
set_option linter.unusedVariables false
set_option linter.unusedSimpArgs false
set_option maxRecDepth 100000
namespace Go.Proofs.YtilbipknodpmmaaDoor
open Go.RowKit

def ustep (u : Nat) (b : Int) : Nat := if 0 ≤ b ∧ b < 12 then u ||| 2 ^ b.toNat else u
def uvol (u : Nat) (v : Vol) : Nat := v.blocks.foldl ustep u
def used (vs : List Vol) : Nat := vs.foldl uvol 1

theorem ustep_lt {u : Nat} {b : Int} (h : u < 4096) : ustep u b < 4096 := by
  unfold ustep
  split
  · rename_i hb
    have : 2 ^ b.toNat < 2 ^ 12 := Nat.pow_lt_pow_right (by omega) (by omega)
    exact Nat.or_lt_two_pow (n := 12) h this
  · exact h
theorem ufold_lt : ∀ (bs : List Int) {u : Nat}, u < 4096 → bs.foldl ustep u < 4096
  | [], u, h => h
  | b :: bs, u, h => ufold_lt bs (ustep_lt h)
theorem used_lt' : ∀ (vs : List Vol) {u : Nat}, u < 4096 → vs.foldl uvol u < 4096
  | [], u, h => h
  | v :: vs, u, h => used_lt' vs (ufold_lt v.blocks h)
theorem used_lt (vs : List Vol) : used vs < 4096 := used_lt' vs (by omega)

theorem foldl_at {α β : Type} (g : β → α → β) (u : β) {l : List α} {i : Nat} (h : i < l.length) : (l.take (i + 1)).foldl g u = g ((l.take i).foldl g u) l[i] := by
  rw [List.take_succ_eq_append_getElem h, List.foldl_append]; rfl
theorem foldl_end {α β : Type} (g : β → α → β) (u : β) {l : List α} {i : Nat} (h : l.length ≤ i) : (l.take i).foldl g u = l.foldl g u := by
  rw [List.take_of_length_le h]

theorem or_step {u : Nat} {b : Int} (hu : u < 4096) (h0 : 0 ≤ b) (h1 : b < 12) : shI .shl .u16 1 b = some (.int .u16 ((2 ^ b.toNat : Nat) : Int)) ∧ bitsI .or .u16 (u : Int) ((2 ^ b.toNat : Nat) : Int) = some ((ustep u b : Nat) : Int) := by
  obtain ⟨k, rfl⟩ : ∃ k : Nat, b = k := ⟨b.toNat, by omega⟩
  have hk : k < 12 := by omega
  have hp : 2 ^ k < 2 ^ 12 := Nat.pow_lt_pow_right (by omega) hk
  have hv : vbits .u16 = 16 := rfl
  constructor
  · have := shI_shl (x := 1) (y := k) .u16 (show k ≤ 16 by omega) (by rw [hv]; omega)
    simpa using this
  · have := bitsI_or (x := u) (y := 2 ^ k) .u16 (by rw [hv]; omega) (by rw [hv]; omega)
    simp only [Int.toNat_natCast, ustep, show (0 : Int) ≤ k from by omega, show (k : Int) < 12 from by omega, and_self, if_true, this]

theorem usedP_ok (f : Fl) (vs : List Vol) (hb : vs.length < 2 ^ 63) (hbb : ∀ v ∈ vs, v.blocks.length < 2 ^ 63) : RC Tryd.prog 62 [.sl f vs.length (vl vs)] [.int .u16 (used vs)] := by
  refine RC.of_wp c62 rfl ?_
  simp -implicitDefEqProofs (maxSteps := 2000000) only [m62_1, m62_2, m62_3, m62_4, m62_5, m62_6, m62_7, m62_8, m62_9, m62_10, m62_11, m62_12, m62_13, m62_14, m62_15, m62_r, m62_b, m62, wk, act, asV, ↓reduceIte, Nat.reduceEqDiff, reduceCtorEq, Nat.reduceAdd, Nat.reduceLeDiff, Nat.reduceSub, Nat.reduceMul, List.reduceReplicate, Int.reduceEq, Int.reduceLT, Int.reduceLE, Int.reduceAdd, Int.reduceSub, Int.reduceMul, Nat.reduceLT, Int.reduceToNat]
  refine Wp_loop (fun k s => ∃ i, i ≤ vs.length ∧ k = vs.length - i ∧ s.t 8 = .sl f vs.length (vl vs) ∧ s.t 9 = .int .i64 vs.length ∧ s.t 10 = .int .i64 i ∧ s.t 3 = .int .u16 (((vs.take i).foldl uvol 1 : Nat) : Int)) vs.length ⟨0, by omega, rfl, rfl, rfl, rfl, rfl⟩ ?_
  rintro k s ⟨i, hi, rfl, h8, h9, h10, h3⟩
  simp -implicitDefEqProofs (maxSteps := 2000000) only [h8, h9, h10, wk, act, asV, ↓reduceIte, Nat.reduceEqDiff, reduceCtorEq, Nat.reduceAdd, Nat.reduceLeDiff, Nat.reduceSub, Nat.reduceMul, List.reduceReplicate, Int.reduceEq, Int.reduceLT, Int.reduceLE, Int.reduceAdd, Int.reduceSub, Int.reduceMul, Nat.reduceLT, Int.reduceToNat]
  by_cases hlt : i < vs.length
  · have h2 : (0 : Nat) < 2 := by omega
    have hbi := hbb _ (List.getElem_mem hlt)
    have hu1 : (vs.take i).foldl uvol 1 < 4096 := used_lt' _ (by omega)
    simp -implicitDefEqProofs (maxSteps := 2000000) only [Int.ofNat_lt, hlt, h8, h9, h10, h2, vl_length, drop_vl hlt, wk, act, asV, ↓reduceIte, Nat.reduceEqDiff, reduceCtorEq, Nat.reduceAdd, Nat.reduceLeDiff, Nat.reduceSub, Nat.reduceMul, List.reduceReplicate, Int.reduceEq, Int.reduceLT, Int.reduceLE, Int.reduceAdd, Int.reduceSub, Int.reduceMul, Nat.reduceLT, Int.reduceToNat]
    refine Wp_loop (fun k s => ∃ j, j ≤ vs[i].blocks.length ∧ k = vs[i].blocks.length - j ∧ s.t 8 = .sl f vs.length (vl vs) ∧ s.t 9 = .int .i64 vs.length ∧ s.t 10 = .int .i64 i ∧ s.t 15 = .sl .plain vs[i].blocks.length (il vs[i].blocks) ∧ s.t 16 = .int .i64 vs[i].blocks.length ∧ s.t 17 = .int .i64 j ∧ s.t 3 = .int .u16 (((vs[i].blocks.take j).foldl ustep ((vs.take i).foldl uvol 1) : Nat) : Int)) vs[i].blocks.length ⟨0, by omega, rfl, by simp [upd, h8], by simp [upd, h9], by simp [upd, h10], by simp [upd], by simp [upd], by simp [upd], by simp [upd, h3]⟩ ?_
    clear h8 h9 h10 h3 s
    rintro k s ⟨j, hj, rfl, h8, h9, h10, h15, h16, h17, h3⟩
    have hu := ufold_lt (vs[i].blocks.take j) hu1
    simp -implicitDefEqProofs (maxSteps := 2000000) only [h16, h17, wk, act, asV, ↓reduceIte, Nat.reduceEqDiff, reduceCtorEq, Nat.reduceAdd, Nat.reduceLeDiff, Nat.reduceSub, Nat.reduceMul, List.reduceReplicate, Int.reduceEq, Int.reduceLT, Int.reduceLE, Int.reduceAdd, Int.reduceSub, Int.reduceMul, Nat.reduceLT, Int.reduceToNat]
    by_cases hjl : j < vs[i].blocks.length
    · have h1' : (0 : Nat) < 1 := by omega
      by_cases hp : 0 ≤ vs[i].blocks[j]
      · by_cases hq : vs[i].blocks[j] < 12
        · obtain ⟨o1, o2⟩ := or_step hu hp hq
          simp -implicitDefEqProofs (maxSteps := 2000000) only [Int.ofNat_lt, hjl, h8, h9, h10, h15, h16, h17, h3, h1', drop_il hjl, hp, hq, o1, o2, wrap_nat (show j < 2 ^ 63 - 1 by omega), wk, act, asV, ↓reduceIte, Nat.reduceEqDiff, reduceCtorEq, Nat.reduceAdd, Nat.reduceLeDiff, Nat.reduceSub, Nat.reduceMul, List.reduceReplicate, Int.reduceEq, Int.reduceLT, Int.reduceLE, Int.reduceAdd, Int.reduceSub, Int.reduceMul, Nat.reduceLT, Int.reduceToNat]
          refine ⟨vs[i].blocks.length - (j + 1), by omega, j + 1, by omega, rfl, rfl, ?_⟩
          rw [foldl_at _ _ hjl]
        · simp -implicitDefEqProofs (maxSteps := 2000000) only [Int.ofNat_lt, hjl, h8, h9, h10, h15, h16, h17, h3, h1', drop_il hjl, hp, hq, wrap_nat (show j < 2 ^ 63 - 1 by omega), wk, act, asV, ↓reduceIte, Nat.reduceEqDiff, reduceCtorEq, Nat.reduceAdd, Nat.reduceLeDiff, Nat.reduceSub, Nat.reduceMul, List.reduceReplicate, Int.reduceEq, Int.reduceLT, Int.reduceLE, Int.reduceAdd, Int.reduceSub, Int.reduceMul, Nat.reduceLT, Int.reduceToNat]
          refine ⟨vs[i].blocks.length - (j + 1), by omega, j + 1, by omega, rfl, rfl, ?_⟩
          rw [foldl_at _ _ hjl, ustep, if_neg (by omega)]
      · simp -implicitDefEqProofs (maxSteps := 2000000) only [Int.ofNat_lt, hjl, h8, h9, h10, h15, h16, h17, h3, h1', drop_il hjl, hp, wrap_nat (show j < 2 ^ 63 - 1 by omega), wk, act, asV, ↓reduceIte, Nat.reduceEqDiff, reduceCtorEq, Nat.reduceAdd, Nat.reduceLeDiff, Nat.reduceSub, Nat.reduceMul, List.reduceReplicate, Int.reduceEq, Int.reduceLT, Int.reduceLE, Int.reduceAdd, Int.reduceSub, Int.reduceMul, Nat.reduceLT, Int.reduceToNat]
        refine ⟨vs[i].blocks.length - (j + 1), by omega, j + 1, by omega, rfl, rfl, ?_⟩
        rw [foldl_at _ _ hjl, ustep, if_neg (by omega)]
    · simp -implicitDefEqProofs (maxSteps := 2000000) only [Int.ofNat_lt, hjl, h8, h9, h10, h3, wrap_nat (show i < 2 ^ 63 - 1 by omega), wk, act, asV, ↓reduceIte, Nat.reduceEqDiff, reduceCtorEq, Nat.reduceAdd, Nat.reduceLeDiff, Nat.reduceSub, Nat.reduceMul, List.reduceReplicate, Int.reduceEq, Int.reduceLT, Int.reduceLE, Int.reduceAdd, Int.reduceSub, Int.reduceMul, Nat.reduceLT, Int.reduceToNat]
      refine ⟨vs.length - (i + 1), by omega, i + 1, by omega, rfl, rfl, ?_⟩
      rw [foldl_at _ _ hlt, foldl_end _ _ (by omega)]
      rfl
  · simp -implicitDefEqProofs (maxSteps := 2000000) only [Int.ofNat_lt, hlt, h3, wk, act, asV, ↓reduceIte, Nat.reduceEqDiff, reduceCtorEq, Nat.reduceAdd, Nat.reduceLeDiff, Nat.reduceSub, Nat.reduceMul, List.reduceReplicate, Int.reduceEq, Int.reduceLT, Int.reduceLE, Int.reduceAdd, Int.reduceSub, Int.reduceMul, Nat.reduceLT, Int.reduceToNat]
    rw [foldl_end _ _ (by omega)]
    rfl

/-! ### how many -/
def pop8 : List UInt8 := [0, 1, 1, 2, 1, 2, 2, 3, 1, 2, 2, 3, 2, 3, 3, 4, 1, 2, 2, 3, 2, 3, 3, 4, 2, 3, 3, 4, 3, 4, 4, 5, 1, 2, 2, 3, 2, 3, 3, 4, 2, 3, 3, 4, 3, 4, 4, 5, 2, 3, 3, 4, 3, 4, 4, 5, 3, 4, 4, 5, 4, 5, 5, 6, 1, 2, 2, 3, 2, 3, 3, 4, 2, 3, 3, 4, 3, 4, 4, 5, 2, 3, 3, 4, 3, 4, 4, 5, 3, 4, 4, 5, 4, 5, 5, 6, 2, 3, 3, 4, 3, 4, 4, 5, 3, 4, 4, 5, 4, 5, 5, 6, 3, 4, 4, 5, 4, 5, 5, 6, 4, 5, 5, 6, 5, 6, 6, 7, 1, 2, 2, 3, 2, 3, 3, 4, 2, 3, 3, 4, 3, 4, 4, 5, 2, 3, 3, 4, 3, 4, 4, 5, 3, 4, 4, 5, 4, 5, 5, 6, 2, 3, 3, 4, 3, 4, 4, 5, 3, 4, 4, 5, 4, 5, 5, 6, 3, 4, 4, 5, 4, 5, 5, 6, 4, 5, 5, 6, 5, 6, 6, 7, 2, 3, 3, 4, 3, 4, 4, 5, 3, 4, 4, 5, 4, 5, 5, 6, 3, 4, 4, 5, 4, 5, 5, 6, 4, 5, 5, 6, 5, 6, 6, 7, 3, 4, 4, 5, 4, 5, 5, 6, 4, 5, 5, 6, 5, 6, 6, 7, 4, 5, 5, 6, 5, 6, 6, 7, 5, 6, 6, 7, 6, 7, 7, 8]
def ones (u : Nat) : Nat := (pop8.getD (u >>> 8) 0).toNat + (pop8.getD (u &&& 255) 0).toNat
theorem pop8_length : pop8.length = 256 := by decide +kernel
theorem pop8_le (i : Nat) : (pop8.getD i 0).toNat ≤ 8 := by
  by_cases h : i < 256
  · have : ∀ j : Fin 256, (pop8.getD j.val 0).toNat ≤ 8 := by decide +kernel
    exact this ⟨i, h⟩
  · rw [List.getD_eq_getElem?_getD, List.getElem?_eq_none (by rw [pop8_length]; omega)]; decide

theorem ones_le (u : Nat) : ones u ≤ 16 := by
  have l1 := pop8_le (u >>> 8)
  have l2 := pop8_le (u &&& 255)
  unfold ones
  omega

theorem ones_ok (u : Nat) (hu : u < 65536) : RC Tryd.prog 74 [.int .u16 u] [.int .i64 (ones u)] := by
  refine RC.of_wp c74 rfl ?_
  have hs : shI .shr .u16 (u : Int) (8 : Int) = some (.int .u16 ((u >>> 8 : Nat) : Int)) := shI_shr .u16 (y := 8) (by decide)
  have ha : bitsI .and .u16 (u : Int) (255 : Int) = some ((u &&& 255 : Nat) : Int) := bitsI_and .u16 (y := 255) (by simpa [vbits, IntKind.signed, IntKind.bits] using hu) (by decide)
  have h1 : u >>> 8 < 256 := by rw [Nat.shiftRight_eq_div_pow]; omega
  have h2 : u &&& 255 < 256 := Nat.and_lt_two_pow (n := 8) _ (by omega)
  have l1 := pop8_le (u >>> 8)
  have l2 := pop8_le (u &&& 255)
  have hw : IntKind.i64.wrap (IntKind.u8.wrap (((pop8.getD (u >>> 8) 0).toNat : Int) + ((pop8.getD (u &&& 255) 0).toNat : Int))) = ((ones u : Nat) : Int) := by
    unfold ones
    have e : (((pop8.getD (u >>> 8) 0).toNat : Int) + ((pop8.getD (u &&& 255) 0).toNat : Int)) = (((pop8.getD (u >>> 8) 0).toNat + (pop8.getD (u &&& 255) 0).toNat : Nat) : Int) := by simp
    rw [e, wrapN .u8 (by have : 2 ^ vbits .u8 = 256 := rfl; omega), wrapN .i64 (by have : 2 ^ vbits .i64 = 9223372036854775808 := rfl; omega)]
  have hm : m74 = ⟨1, 11, [.tmp 2],
 (.seq
  (.reg
   [.op (some 2) (.mov (.c (.int .i64 0))) none])
  (.seq
   (.drw
    [.op (some 3) (.mov (.tmp 0)) none,
     .op (some 4) (.bin .shr (.tmp 3) (.c (.int .u64 8))) none,
     .op (some 5) (.idxStr (.c (.str pop8)) (.tmp 4)) none,
     .op (some 6) (.mov (.tmp 0)) none,
     .op (some 7) (.bin .and (.tmp 6) (.c (.int .u16 255))) none,
     .op (some 8) (.idxStr (.c (.str pop8)) (.tmp 7)) none]
    [.op (some 9) (.bin .add (.tmp 5) (.tmp 8)) none,
     .op (some 10) (.toInt .i64 (.tmp 9)) none,
     .op (some 2) (.mov (.tmp 10)) none])
   .ret))⟩ := rfl
  rw [hm]
  simp -implicitDefEqProofs (maxSteps := 2000000) only [hs, ha, pop8_length, h1, h2, hw, Int.ofNat_lt, show ((256 : Nat) : Int) = 256 from rfl, show ∀ n : Nat, (n : Int) < 256 ↔ n < 256 from fun n => by omega, wk, act, asV, ↓reduceIte, Nat.reduceEqDiff, reduceCtorEq, Nat.reduceAdd, Nat.reduceLeDiff, Nat.reduceSub, Nat.reduceMul, List.reduceReplicate, Int.reduceEq, Int.reduceLT, Int.reduceLE, Int.reduceAdd, Int.reduceSub, Int.reduceMul, Nat.reduceLT, Int.reduceToNat]

theorem freeP_ok (f : Fl) (vs : List Vol) (hf : f ≠ .lit) (hb : vs.length < 2 ^ 63) (hbb : ∀ v ∈ vs, v.blocks.length < 2 ^ 63) : RC Tryd.prog 61 [.sl f vs.length (vl vs)] [.int .i64 (12 - (ones (used vs) : Int))] := by
  refine RC.of_wp c61 rfl ?_
  have hu := used_lt vs
  simp -implicitDefEqProofs (maxSteps := 2000000) only [m61_1, m61_2, m61_3, m61_r, m61_b, m61, wk, act, asV, ↓reduceIte, Nat.reduceEqDiff, reduceCtorEq, Nat.reduceAdd, Nat.reduceLeDiff, Nat.reduceSub, Nat.reduceMul, List.reduceReplicate, Int.reduceEq, Int.reduceLT, Int.reduceLE, Int.reduceAdd, Int.reduceSub, Int.reduceMul, Nat.reduceLT, Int.reduceToNat]
  refine CallL.mk (usedP_ok f vs hb hbb) (by cases f <;> first | exact absurd rfl hf | simp -implicitDefEqProofs (maxSteps := 2000000) only [wk, act, asV, ↓reduceIte, Nat.reduceEqDiff, reduceCtorEq, Nat.reduceAdd, Nat.reduceLeDiff, Nat.reduceSub, Nat.reduceMul, List.reduceReplicate, Int.reduceEq, Int.reduceLT, Int.reduceLE, Int.reduceAdd, Int.reduceSub, Int.reduceMul, Nat.reduceLT, Int.reduceToNat]) (by simp -implicitDefEqProofs (maxSteps := 2000000) only [wk, act, asV, ↓reduceIte, Nat.reduceEqDiff, reduceCtorEq, Nat.reduceAdd, Nat.reduceLeDiff, Nat.reduceSub, Nat.reduceMul, List.reduceReplicate, Int.reduceEq, Int.reduceLT, Int.reduceLE, Int.reduceAdd, Int.reduceSub, Int.reduceMul, Nat.reduceLT, Int.reduceToNat]) ?_
  simp -implicitDefEqProofs (maxSteps := 2000000) only [wk, act, asV, ↓reduceIte, Nat.reduceEqDiff, reduceCtorEq, Nat.reduceAdd, Nat.reduceLeDiff, Nat.reduceSub, Nat.reduceMul, List.reduceReplicate, Int.reduceEq, Int.reduceLT, Int.reduceLE, Int.reduceAdd, Int.reduceSub, Int.reduceMul, Nat.reduceLT, Int.reduceToNat]
  refine CallL.mk (ones_ok (used vs) (by omega)) (by simp -implicitDefEqProofs (maxSteps := 2000000) only [wk, act, asV, ↓reduceIte, Nat.reduceEqDiff, reduceCtorEq, Nat.reduceAdd, Nat.reduceLeDiff, Nat.reduceSub, Nat.reduceMul, List.reduceReplicate, Int.reduceEq, Int.reduceLT, Int.reduceLE, Int.reduceAdd, Int.reduceSub, Int.reduceMul, Nat.reduceLT, Int.reduceToNat]) (by simp -implicitDefEqProofs (maxSteps := 2000000) only [wk, act, asV, ↓reduceIte, Nat.reduceEqDiff, reduceCtorEq, Nat.reduceAdd, Nat.reduceLeDiff, Nat.reduceSub, Nat.reduceMul, List.reduceReplicate, Int.reduceEq, Int.reduceLT, Int.reduceLE, Int.reduceAdd, Int.reduceSub, Int.reduceMul, Nat.reduceLT, Int.reduceToNat]) ?_
  have ho := ones_le (used vs)
  have hw : IntKind.i64.wrap (12 - (ones (used vs) : Int)) = 12 - (ones (used vs) : Int) := by rw [IntKind.wrap_i64]; omega
  simp -implicitDefEqProofs (maxSteps := 2000000) only [hw, wk, act, asV, ↓reduceIte, Nat.reduceEqDiff, reduceCtorEq, Nat.reduceAdd, Nat.reduceLeDiff, Nat.reduceSub, Nat.reduceMul, List.reduceReplicate, Int.reduceEq, Int.reduceLT, Int.reduceLE, Int.reduceAdd, Int.reduceSub, Int.reduceMul, Nat.reduceLT, Int.reduceToNat]
end Go.Proofs.YtilbipknodpmmaaDoor
/- Of the pool: which blocks are free. -/
set_option linter.unusedSectionVars false
set_option linter.unusedVariables false
set_option linter.unusedSimpArgs false
set_option maxRecDepth 100000
namespace Go.Proofs.YtilbipknodpmmaaDoor
open Go.RowKit

def freesTo (u b : Nat) : List Int := ((List.range b).filter fun k => (u >>> k) &&& 1 == 0).map fun k : Nat => (k : Int)
def frees (u : Nat) : List Int := freesTo u 12
theorem freesTo_succ (u b : Nat) : freesTo u (b + 1) = freesTo u b ++ if (u >>> b) &&& 1 = 0 then [(b : Int)] else [] := by
  simp only [freesTo, List.range_succ, List.filter_append, List.map_append]
  congr 1
  by_cases h : (u >>> b) &&& 1 = 0
  · simp only [List.filter_cons, h, BEq.rfl, if_true, List.filter_nil, List.map_cons, List.map_nil]
  · have h' : ((u >>> b) &&& 1 == 0) = false := by simpa using h
    simp only [List.filter_cons, h, h', Bool.false_eq_true, if_false, List.filter_nil, List.map_nil]
theorem freesTo_le (u b : Nat) : (freesTo u b).length ≤ b := by
  induction b with
  | zero => simp [freesTo]
  | succ b ih =>
    rw [freesTo_succ, List.length_append]
    split <;> simp <;> omega
theorem roomy8P {n : Nat} (h : n < 2 ^ 40) : roomy n 8 = true := by simp [roomy]; omega

theorem bit_step {u b : Nat} (hu : u < 65536) (hb : b < 16) : shI .shr .u16 (u : Int) (b : Int) = some (.int .u16 ((u >>> b : Nat) : Int)) ∧ bitsI .and .u16 ((u >>> b : Nat) : Int) 1 = some (((u >>> b) &&& 1 : Nat) : Int) := by
  constructor
  · exact shI_shr .u16 (y := b) (by have : IntKind.u16.bits = 16 := rfl; omega)
  · have : u >>> b ≤ u := by rw [Nat.shiftRight_eq_div_pow]; exact Nat.div_le_self _ _
    exact bitsI_and .u16 (y := 1) (by have : 2 ^ vbits .u16 = 65536 := rfl; omega) (by decide)

def takeR (n : Int) (u : Nat) : List IV := if n < 1 ∨ 4 < n then [.sl .full 0 [], .int .i64 1] else if ((frees u).length : Int) < n then [.sl .full 0 [], .int .i64 18] else [.own n.toNat 1 (il ((frees u).take n.toNat)), .int .i64 0]

end Go.Proofs.YtilbipknodpmmaaDoor
/- Of the pool: taking. -/
set_option linter.unusedSectionVars false
set_option linter.unusedVariables false
set_option linter.unusedSimpArgs false
set_option maxRecDepth 100000
namespace Go.Proofs.YtilbipknodpmmaaDoor
open Go.RowKit

theorem frees_ones {u : Nat} (h : u < 4096) : (frees u).length + ones u = 12 := by
  have : (List.range 4096).all (fun u => (frees u).length + ones u == 12) = true := by decide +kernel
  rw [List.all_eq_true] at this
  simpa using this u (List.mem_range.2 h)

theorem freeP_ok' (f : Fl) (vs : List Vol) (hf : f ≠ .lit) (hb : vs.length < 2 ^ 63) (hbb : ∀ v ∈ vs, v.blocks.length < 2 ^ 63) : RC Tryd.prog 61 [.sl f vs.length (vl vs)] [.int .i64 (frees (used vs)).length] := by
  have h := freeP_ok f vs hf hb hbb
  have := frees_ones (used_lt vs)
  rwa [show (12 - (ones (used vs) : Int)) = ((frees (used vs)).length : Int) by omega] at h

theorem freesTo_prefix (u b c : Nat) (h : b ≤ c) : freesTo u b <+: freesTo u c := by
  induction c with
  | zero => have : b = 0 := by omega
            subst this; exact List.prefix_rfl
  | succ c ih =>
    by_cases hb : b ≤ c
    · rw [freesTo_succ]; exact (ih hb).trans (List.prefix_append _ _)
    · have : b = c + 1 := by omega
      subst this; exact List.prefix_rfl

theorem takeP_ok (n : Int) (f : Fl) (vs : List Vol) (hf : f ≠ .lit) (hb : vs.length < 2 ^ 63) (hbb : ∀ v ∈ vs, v.blocks.length < 2 ^ 63) : RC Tryd.prog 48 [.int .i64 n, .sl f vs.length (vl vs)] (takeR n (used vs)) := by
  refine RC.of_wp c48 rfl ?_
  by_cases h1 : n < 1
  · simp -implicitDefEqProofs (maxSteps := 2000000) only [m48_1, m48_2, m48_3, m48_4, m48_5, m48_6, m48_7, m48_8, m48_9, m48_10, m48_11, m48_12, m48_13, m48_14, m48_15, m48_16, m48_r, m48_b, m48, h1, takeR, wk, act, asV, ↓reduceIte, Nat.reduceEqDiff, reduceCtorEq, Nat.reduceAdd, Nat.reduceLeDiff, Nat.reduceSub, Nat.reduceMul, List.reduceReplicate, Int.reduceEq, Int.reduceLT, Int.reduceLE, Int.reduceAdd, Int.reduceSub, Int.reduceMul, Nat.reduceLT, Int.reduceToNat]
  · by_cases h4 : 4 < n
    · simp -implicitDefEqProofs (maxSteps := 2000000) only [m48_1, m48_2, m48_3, m48_4, m48_5, m48_6, m48_7, m48_8, m48_9, m48_10, m48_11, m48_12, m48_13, m48_14, m48_15, m48_16, m48_r, m48_b, m48, h1, h4, takeR, wk, act, asV, ↓reduceIte, Nat.reduceEqDiff, reduceCtorEq, Nat.reduceAdd, Nat.reduceLeDiff, Nat.reduceSub, Nat.reduceMul, List.reduceReplicate, Int.reduceEq, Int.reduceLT, Int.reduceLE, Int.reduceAdd, Int.reduceSub, Int.reduceMul, Nat.reduceLT, Int.reduceToNat]
    · simp -implicitDefEqProofs (maxSteps := 2000000) only [m48_1, m48_2, m48_3, m48_4, m48_5, m48_6, m48_7, m48_8, m48_9, m48_10, m48_11, m48_12, m48_13, m48_14, m48_15, m48_16, m48_r, m48_b, m48, h1, h4, wk, act, asV, ↓reduceIte, Nat.reduceEqDiff, reduceCtorEq, Nat.reduceAdd, Nat.reduceLeDiff, Nat.reduceSub, Nat.reduceMul, List.reduceReplicate, Int.reduceEq, Int.reduceLT, Int.reduceLE, Int.reduceAdd, Int.reduceSub, Int.reduceMul, Nat.reduceLT, Int.reduceToNat]
      have hu := used_lt vs
      refine CallL.mk (freeP_ok' f vs hf hb hbb) (by cases f <;> first | exact absurd rfl hf | simp -implicitDefEqProofs (maxSteps := 2000000) only [wk, act, asV, ↓reduceIte, Nat.reduceEqDiff, reduceCtorEq, Nat.reduceAdd, Nat.reduceLeDiff, Nat.reduceSub, Nat.reduceMul, List.reduceReplicate, Int.reduceEq, Int.reduceLT, Int.reduceLE, Int.reduceAdd, Int.reduceSub, Int.reduceMul, Nat.reduceLT, Int.reduceToNat]) (.inr (by simp -implicitDefEqProofs (maxSteps := 2000000) only [wk, act, asV, ↓reduceIte, Nat.reduceEqDiff, reduceCtorEq, Nat.reduceAdd, Nat.reduceLeDiff, Nat.reduceSub, Nat.reduceMul, List.reduceReplicate, Int.reduceEq, Int.reduceLT, Int.reduceLE, Int.reduceAdd, Int.reduceSub, Int.reduceMul, Nat.reduceLT, Int.reduceToNat])) ?_
      obtain ⟨k, rfl⟩ : ∃ k : Nat, n = k := ⟨n.toNat, by omega⟩
      by_cases hlt : ((frees (used vs)).length : Int) < k
      · simp -implicitDefEqProofs (maxSteps := 2000000) only [takeR, h1, h4, hlt, wk, act, asV, ↓reduceIte, Nat.reduceEqDiff, reduceCtorEq, Nat.reduceAdd, Nat.reduceLeDiff, Nat.reduceSub, Nat.reduceMul, List.reduceReplicate, Int.reduceEq, Int.reduceLT, Int.reduceLE, Int.reduceAdd, Int.reduceSub, Int.reduceMul, Nat.reduceLT, Int.reduceToNat]
      · have hle : k ≤ (frees (used vs)).length := by omega
        simp -implicitDefEqProofs (maxSteps := 2000000) only [h1, h4, hlt, wk, act, asV, ↓reduceIte, Nat.reduceEqDiff, reduceCtorEq, Nat.reduceAdd, Nat.reduceLeDiff, Nat.reduceSub, Nat.reduceMul, List.reduceReplicate, Int.reduceEq, Int.reduceLT, Int.reduceLE, Int.reduceAdd, Int.reduceSub, Int.reduceMul, Nat.reduceLT, Int.reduceToNat]
        refine CallL.mk (usedP_ok f vs hb hbb) (by cases f <;> first | exact absurd rfl hf | simp -implicitDefEqProofs (maxSteps := 2000000) only [wk, act, asV, ↓reduceIte, Nat.reduceEqDiff, reduceCtorEq, Nat.reduceAdd, Nat.reduceLeDiff, Nat.reduceSub, Nat.reduceMul, List.reduceReplicate, Int.reduceEq, Int.reduceLT, Int.reduceLE, Int.reduceAdd, Int.reduceSub, Int.reduceMul, Nat.reduceLT, Int.reduceToNat]) (.inr (by simp -implicitDefEqProofs (maxSteps := 2000000) only [wk, act, asV, ↓reduceIte, Nat.reduceEqDiff, reduceCtorEq, Nat.reduceAdd, Nat.reduceLeDiff, Nat.reduceSub, Nat.reduceMul, List.reduceReplicate, Int.reduceEq, Int.reduceLT, Int.reduceLE, Int.reduceAdd, Int.reduceSub, Int.reduceMul, Nat.reduceLT, Int.reduceToNat])) ?_
        simp -implicitDefEqProofs (maxSteps := 2000000) only [wk, act, asV, ↓reduceIte, Nat.reduceEqDiff, reduceCtorEq, Nat.reduceAdd, Nat.reduceLeDiff, Nat.reduceSub, Nat.reduceMul, List.reduceReplicate, Int.reduceEq, Int.reduceLT, Int.reduceLE, Int.reduceAdd, Int.reduceSub, Int.reduceMul, Nat.reduceLT, Int.reduceToNat]
        refine Wp_loop (fun j s => ∃ b, b ≤ 12 ∧ j = 12 - b ∧ (freesTo (used vs) b).length ≤ k ∧ s.t 0 = .int .i64 k ∧ s.t 7 = .int .u16 (used vs) ∧ s.t 8 = .int .i64 b ∧ ((freesTo (used vs) b = [] ∧ s.t 6 = .sl .full 0 []) ∨ (freesTo (used vs) b ≠ [] ∧ ∃ ver, s.t 6 = .row 37 0 (freesTo (used vs) b).length 1 ver ∧ s.h 37 = ⟨ver, true, true, true, il (freesTo (used vs) b)⟩))) 12 ⟨0, by omega, rfl, by simp [freesTo], rfl, rfl, rfl, .inl ⟨rfl, rfl⟩⟩ ?_
        rintro j s ⟨b, hb, rfl, hbk, h0, h7, h8, h6⟩
        by_cases hl : (freesTo (used vs) b).length < k
        · have hb12 : b < 12 := by
            rcases Nat.lt_or_ge b 12 with h | h
            · exact h
            · have : b = 12 := by omega
              subst this
              have : (freesTo (used vs) 12).length = (frees (used vs)).length := rfl
              omega
          obtain ⟨o1, o2⟩ := bit_step (u := used vs) (b := b) (by omega) (by omega)
          have hle' := freesTo_le (used vs) b
          by_cases hz : (used vs >>> b) &&& 1 = 0
          · have hz' : (((used vs >>> b) &&& 1 : Nat) : Int) = 0 := by omega
            have e1 : freesTo (used vs) (b + 1) = freesTo (used vs) b ++ [(b : Int)] := by rw [freesTo_succ, if_pos hz]
            rcases h6 with ⟨e0, h6⟩ | ⟨e0, ver, h6, h37⟩
            · have hr : roomy 1 8 = true := by decide
              have hl' : (0 : Int) < k := by omega
              simp -implicitDefEqProofs (maxSteps := 2000000) only [h0, h6, h7, h8, o1, o2, hz', hr, hl', wrap_nat (show b < 2 ^ 63 - 1 by omega), wk, act, asV, ↓reduceIte, Nat.reduceEqDiff, reduceCtorEq, Nat.reduceAdd, Nat.reduceLeDiff, Nat.reduceSub, Nat.reduceMul, List.reduceReplicate, Int.reduceEq, Int.reduceLT, Int.reduceLE, Int.reduceAdd, Int.reduceSub, Int.reduceMul, Nat.reduceLT, Int.reduceToNat]
              refine ⟨12 - (b + 1), by omega, b + 1, by omega, rfl, by rw [e1, e0]; simp; omega, rfl, ?_⟩
              rw [e1, e0]
              exact ⟨by simp, _, rfl, rfl⟩
            · have hr : roomy ((freesTo (used vs) b).length + 1) 8 = true := roomy8P (by omega)
              have hl' : ((freesTo (used vs) b).length : Int) < k := by omega
              simp -implicitDefEqProofs (maxSteps := 2000000) only [h0, h6, h7, h8, h37, o1, o2, hz', hr, hl', wrap_nat (show b < 2 ^ 63 - 1 by omega), wk, act, asV, ↓reduceIte, Nat.reduceEqDiff, reduceCtorEq, Nat.reduceAdd, Nat.reduceLeDiff, Nat.reduceSub, Nat.reduceMul, List.reduceReplicate, Int.reduceEq, Int.reduceLT, Int.reduceLE, Int.reduceAdd, Int.reduceSub, Int.reduceMul, Nat.reduceLT, Int.reduceToNat]
              refine ⟨12 - (b + 1), by omega, b + 1, by omega, rfl, by rw [e1]; simp; omega, rfl, ?_⟩
              rw [e1, List.length_append, il_snoc]
              exact ⟨by simp, _, rfl, rfl⟩
          · have hz' : ¬ (((used vs >>> b) &&& 1 : Nat) : Int) = 0 := by omega
            have e1 : freesTo (used vs) (b + 1) = freesTo (used vs) b := by rw [freesTo_succ, if_neg hz]; simp
            rcases h6 with ⟨e0, h6⟩ | ⟨e0, ver, h6, h37⟩
            · have hl' : (0 : Int) < k := by omega
              simp -implicitDefEqProofs (maxSteps := 2000000) only [h0, h6, h7, h8, o1, o2, hz', hl', wrap_nat (show b < 2 ^ 63 - 1 by omega), wk, act, asV, ↓reduceIte, Nat.reduceEqDiff, reduceCtorEq, Nat.reduceAdd, Nat.reduceLeDiff, Nat.reduceSub, Nat.reduceMul, List.reduceReplicate, Int.reduceEq, Int.reduceLT, Int.reduceLE, Int.reduceAdd, Int.reduceSub, Int.reduceMul, Nat.reduceLT, Int.reduceToNat]
              refine ⟨12 - (b + 1), by omega, b + 1, by omega, rfl, by rw [e1]; omega, rfl, ?_⟩
              rw [e1]
              first | exact .inl ⟨e0, rfl⟩ | exact .inl e0
            · have hl' : ((freesTo (used vs) b).length : Int) < k := by omega
              simp -implicitDefEqProofs (maxSteps := 2000000) only [h0, h6, h7, h8, h37, o1, o2, hz', hl', wrap_nat (show b < 2 ^ 63 - 1 by omega), wk, act, asV, ↓reduceIte, Nat.reduceEqDiff, reduceCtorEq, Nat.reduceAdd, Nat.reduceLeDiff, Nat.reduceSub, Nat.reduceMul, List.reduceReplicate, Int.reduceEq, Int.reduceLT, Int.reduceLE, Int.reduceAdd, Int.reduceSub, Int.reduceMul, Nat.reduceLT, Int.reduceToNat]
              refine ⟨12 - (b + 1), by omega, b + 1, by omega, rfl, by rw [e1]; omega, rfl, ?_⟩
              rw [e1]
              exact And.intro e0 ⟨ver, rfl, rfl⟩
        · have hk : (freesTo (used vs) b).length = k := by omega
          have hpre := List.prefix_iff_eq_take.1 (freesTo_prefix (used vs) b 12 hb)
          rw [hk, show freesTo (used vs) 12 = frees (used vs) from rfl] at hpre
          have hne : freesTo (used vs) b ≠ [] := by intro e; rw [e] at hk; simp at hk; omega
          rcases h6 with ⟨e0, h6⟩ | ⟨e0, ver, h6, h37⟩
          · exact absurd e0 hne
          · have hl' : ¬ ((freesTo (used vs) b).length : Int) < k := by omega
            have hfin : takeR k (used vs) = [.own (freesTo (used vs) b).length 1 (il (freesTo (used vs) b)), .int .i64 0] := by
              simp only [takeR, h1, h4, hlt, or_self, if_false, Int.toNat_natCast]
              rw [hk, ← hpre]
            simp -implicitDefEqProofs (maxSteps := 2000000) only [h0, h6, h7, h8, h37, hl', hfin, take_il, wk, act, asV, ↓reduceIte, Nat.reduceEqDiff, reduceCtorEq, Nat.reduceAdd, Nat.reduceLeDiff, Nat.reduceSub, Nat.reduceMul, List.reduceReplicate, Int.reduceEq, Int.reduceLT, Int.reduceLE, Int.reduceAdd, Int.reduceSub, Int.reduceMul, Nat.reduceLT, Int.reduceToNat]
end Go.Proofs.YtilbipknodpmmaaDoor
/- Of the pool: which blocks are free, in plain words; a volume that is made of them is right. -/

set_option linter.unusedSectionVars false
set_option linter.unusedVariables false
set_option linter.unusedSimpArgs false
set_option maxRecDepth 100000
namespace Go.Proofs.YtilbipknodpmmaaDoor
open Go.RowKit

theorem free_bit (u k : Nat) : ((u >>> k) &&& 1 == 0) = !u.testBit k := by
  unfold Nat.testBit
  rw [Nat.and_comm]
  cases h : (1 &&& u >>> k) == 0 <;> simp_all [bne]
theorem freesTo_eq (u n : Nat) : freesTo u n = ((List.range n).filter fun k => !u.testBit k).map fun k : Nat => (k : Int) := by
  unfold freesTo
  congr 1
  apply List.filter_congr
  intro k _
  exact free_bit u k
theorem frees_or (u b : Nat) : frees (u ||| 2 ^ b) = (frees u).filter fun x => decide (x ≠ (b : Int)) := by
  unfold frees
  rw [freesTo_eq, freesTo_eq, List.filter_map, List.filter_filter]
  congr 1
  apply List.filter_congr
  intro k _
  simp only [Nat.testBit_or, Nat.testBit_two_pow, Function.comp]
  cases h : u.testBit k <;> simp [eq_comm, Int.natCast_inj]
theorem ustep_in {u : Nat} {b : Int} (h0 : 0 ≤ b) (h1 : b < 12) : frees (ustep u b) = (frees u).filter fun x => decide (x ≠ b) := by
  unfold ustep
  rw [if_pos ⟨h0, h1⟩, frees_or, Int.toNat_of_nonneg h0]
theorem ufold_frees : ∀ (L : List Int) (u : Nat), (∀ b ∈ L, 0 ≤ b ∧ b < 12) → frees (L.foldl ustep u) = (frees u).filter fun x => decide (x ∉ L)
  | [], u, _ => (List.filter_eq_self.2 (by simp)).symm
  | b :: L, u, h => by
    have hb := h b (by simp)
    rw [List.foldl_cons, ufold_frees L _ fun x hx => h x (by simp [hx]), ustep_in hb.1 hb.2, List.filter_filter]
    apply List.filter_congr
    intro x _
    by_cases h1 : x = b <;> simp [h1]
theorem frees_nodup (u : Nat) : (frees u).Nodup := by
  unfold frees
  rw [freesTo_eq]
  unfold List.Nodup
  rw [List.pairwise_map]
  refine List.Pairwise.imp ?_ (List.Pairwise.filter _ List.nodup_range)
  intro a b h he
  exact h (by omega)
/-! ### a volume that is made -/
theorem used_eq (vs : List Vol) : used vs = (allB vs).foldl ustep 1 := by
  have key : ∀ (vs : List Vol) (u : Nat), vs.foldl uvol u = (allB vs).foldl ustep u := by
    intro vs
    induction vs with
    | nil => intro u; rfl
    | cons v vs ih =>
      intro u
      rw [List.foldl_cons, ih]
      simp only [allB, List.flatMap_cons, List.foldl_append, uvol]
  exact key vs 1
theorem frees_one : frees 1 = [1, 2, 3, 4, 5, 6, 7, 8, 9, 10, 11] := by decide +kernel
theorem allB_in {vs : List Vol} (h : vs.all volP = true) : ∀ b ∈ allB vs, 0 ≤ b ∧ b < 12 := by
  intro b hb
  unfold allB at hb
  obtain ⟨v, hv, hb⟩ := List.mem_flatMap.1 hb
  have h1 := (volP_bl (List.all_eq_true.1 h v hv)).2.2.2
  have h2 := List.all_eq_true.1 h1 b hb
  unfold inB at h2
  simp only [Bool.and_eq_true, decide_eq_true_eq] at h2
  omega
theorem frees_used {vs : List Vol} (h : vs.all volP = true) : frees (used vs) = (frees 1).filter fun x => decide (x ∉ allB vs) := by
  rw [used_eq]
  exact ufold_frees _ _ (allB_in h)
theorem frees_inB {vs : List Vol} (h : vs.all volP = true) : ∀ b ∈ frees (used vs), inB b = true ∧ b ∉ allB vs := by
  intro b hb
  rw [frees_used h, List.mem_filter] at hb
  refine ⟨?_, by simpa using hb.2⟩
  have h1 := hb.1
  rw [frees_one] at h1
  simp only [List.mem_cons, List.mem_nil_iff, or_false] at h1
  unfold inB
  simp only [Bool.and_eq_true, decide_eq_true_eq]
  omega
theorem find_none {nm : List UInt8} {vs : List Vol} (h : findV nm vs < 0) : nm ∉ nmsV vs := by
  intro hm
  unfold nmsV at hm
  obtain ⟨v, hv, hn⟩ := List.mem_map.1 hm
  have hlt : vs.findIdx (isV nm) < vs.length := List.findIdx_lt_length_of_exists ⟨v, hv, by simp [isV, hn]⟩
  unfold findV at h
  rw [if_pos hlt] at h
  omega
theorem good_make {vs : List Vol} {nm : List UInt8} {n : Nat} (hg : goodV vs = true) (h3 : vs.length < 3) (hnm : goodN nm = true) (hf : findV nm vs < 0) (h1 : 1 ≤ n) (h4 : n ≤ 4) (hl : n ≤ (frees (used vs)).length) :
    goodV (vs ++ [⟨nm, (frees (used vs)).take n⟩]) = true := by
  have gp := goodV_P hg
  have hb := frees_inB gp.each
  have hlen : ((frees (used vs)).take n).length = n := by rw [List.length_take]; omega
  refine goodV_yes (by simp; omega) ⟨?_, ?_, ?_⟩
  · rw [List.all_append, gp.each, Bool.true_and]
    simp only [List.all_cons, List.all_nil, Bool.and_true]
    exact volP_of hnm (by simp only [hlen]; omega) (by simp only [hlen]; omega) (List.all_eq_true.2 fun b hb' => (hb b (List.mem_of_mem_take hb')).1)
  · have e : nmsV (vs ++ [⟨nm, (frees (used vs)).take n⟩]) = nmsV vs ++ [nm] := by simp [nmsV]
    rw [e]
    exact nodup_snoc gp.nms (find_none hf)
  · have e : allB (vs ++ [⟨nm, (frees (used vs)).take n⟩]) = allB vs ++ (frees (used vs)).take n := by simp [allB]
    rw [e]
    refine List.nodup_append.2 ⟨gp.bls, (List.take_sublist _ _).nodup (frees_nodup _), ?_⟩
    intro a ha b hb' e
    subst e
    exact (hb a (List.mem_of_mem_take hb')).2 ha
end Go.Proofs.YtilbipknodpmmaaDoor
