/- The hash: its beginning, its end. -/
import Derived.Test.YtlbilkldjhhopaaS9
import Derived.Test.YtlbilkldjhhopaaE31
import Derived.Test.YtlbilkldjhhopaaM7
set_option linter.unusedSectionVars false
set_option linter.unusedVariables false
set_option linter.unusedSimpArgs false
set_option maxRecDepth 100000
set_option maxHeartbeats 8000000
namespace Go.Proofs.Ytlbilkldjhhopaa
open Go.RowKit

def start8 : H8 := ⟨0x6a09e667, 0xbb67ae85, 0x3c6ef372, 0xa54ff53a, 0x510e527f, 0x9b05688c, 0x1f83d9ab, 0x5be0cd19⟩
theorem start_ok : RC Try.prog 24 [] [.agg (wl start8.l)] := by
  refine RC.of_wp c24 rfl ?_
  simp -implicitDefEqProofs (maxSteps := 2000000) only [m24_1, m24_r, m24_b, m24, wk, act, asV, ↓reduceIte, Nat.reduceEqDiff, reduceCtorEq, Nat.reduceAdd, Nat.reduceLeDiff, Nat.reduceSub, Nat.reduceMul, List.reduceReplicate, Int.reduceEq, Int.reduceLT, Int.reduceLE, Int.reduceAdd, Int.reduceSub, Int.reduceMul, Nat.reduceLT, Int.reduceToNat]
  first | done | kernel_rfl
theorem startR_ok : RC Try.prog 25 [] [.agg (wl start8.l)] := by
  refine RC.of_wp c25 rfl ?_
  simp -implicitDefEqProofs (maxSteps := 2000000) only [m25_1, m25_r, m25_b, m25, wk, act, asV, ↓reduceIte, Nat.reduceEqDiff, reduceCtorEq, Nat.reduceAdd, Nat.reduceLeDiff, Nat.reduceSub, Nat.reduceMul, List.reduceReplicate, Int.reduceEq, Int.reduceLT, Int.reduceLE, Int.reduceAdd, Int.reduceSub, Int.reduceMul, Nat.reduceLT, Int.reduceToNat]
  first | done | kernel_rfl
def toH8 (L : List UInt32) : H8 := ⟨L.getD 0 0, L.getD 1 0, L.getD 2 0, L.getD 3 0, L.getD 4 0, L.getD 5 0, L.getD 6 0, L.getD 7 0⟩
theorem toH8_l {L : List UInt32} (h : L.length = 8) : (toH8 L).l = L := by
  match L, h with
  | [a, b, c, d, e, f, g, i], _ => rfl
theorem turnH_length (h : H8) (b : List UInt8) : (turnH h b).length = 8 := addTo_length _ _ _
/-- H behind k times 64 bytes of m -/
def hashN (m : List UInt8) : Nat → H8
  | 0 => start8
  | k + 1 => toH8 (turnH (hashN m k) ((m.drop (64 * k)).take 64))
theorem hashN_succ (m : List UInt8) (k : Nat) : (hashN m (k + 1)).l = turnH (hashN m k) ((m.drop (64 * k)).take 64) := toH8_l (turnH_length _ _)
def digest (L : List UInt32) : List UInt8 := (List.range 32).map fun i => u8 ((L.getD (i / 4) 0).toNat >>> (24 - 8 * (i % 4)))
/-- the hash of a message -/
def shaB (m : List UInt8) : List UInt8 := digest (hashN (m ++ padB m.length) ((m.length + 9 + padZ m.length) / 64)).l
theorem digest_length (L : List UInt32) : (digest L).length = 32 := by simp [digest]
theorem digest_take (L : List UInt32) {i : Nat} (h : i < 32) : (digest L).take (i + 1) = (digest L).take i ++ [u8 ((L.getD (i / 4) 0).toNat >>> (24 - 8 * (i % 4)))] := by
  rw [List.take_succ_eq_append_getElem (by rw [digest_length]; exact h)]
  simp [digest]
def zb (n : Nat) : List UInt8 := List.replicate n 0
theorem grow8 (W : List UInt8) (m p : Nat) (hp : W.length = p) (x : UInt8) : List.take p (bl (W ++ zb (m + 1))) ++ [IV.int .u8 (x.toNat : Int)] ++ List.drop (p + 1) (bl (W ++ zb (m + 1))) = bl ((W ++ [x]) ++ zb m) := by
  subst hp
  have e : bl (W ++ zb (m + 1)) = bl W ++ (IV.int .u8 0 :: bl (zb m)) := by rw [bl_append]; rfl
  rw [e, List.take_left' (bl_length W), ← List.drop_drop, List.drop_left' (bl_length W)]
  simp [bl]

theorem sumR_out (L : List UInt32) (hL : L.length = 8) {v5 : Nat} (Q : Ex → St → Prop) (s1 : St)
    (q1 : ∀ s2 : St, s2.t 2 = s1.t 2 → s2.h 2 = s1.h 2 → (∃ v8, s2.t 8 = .ptr 8 0 v8 ∧ s2.h 8 = ⟨v8, true, true, false, bl (digest L)⟩) → Q (.exit 4) s2)
    (k5 : s1.t 5 = .ptr 5 0 v5) (kh5 : s1.h 5 = ⟨v5, true, true, false, wl L⟩) (k8 : ∃ v8, s1.t 8 = .ptr 8 0 v8 ∧ s1.h 8 = ⟨v8, true, true, false, bl (zb 32)⟩) (k9 : s1.t 9 = .int .i64 0) :
    Wp (RCs Try.prog) (.loop m19_12) Q s1 := by
  refine Wp_loop (fun m s => ∃ i, i ≤ 32 ∧ m = 32 - i ∧ s.t 2 = s1.t 2 ∧ s.h 2 = s1.h 2 ∧ s.t 5 = .ptr 5 0 v5 ∧ s.h 5 = ⟨v5, true, true, false, wl L⟩ ∧ s.t 9 = .int .i64 i ∧ ∃ v8, s.t 8 = .ptr 8 0 v8 ∧ s.h 8 = ⟨v8, true, true, false, bl ((digest L).take i ++ zb (32 - i))⟩) 32 ⟨0, by omega, rfl, rfl, rfl, k5, kh5, k9, by simpa using k8⟩ ?_
  clear k5 kh5 k8 k9
  rintro m s ⟨i, hi, rfl, k2, kh2, k5, kh5, k9, v8, k8, kh8⟩
  by_cases hi32 : i < 32
  · have hi32' : (i : Int) < 32 := by omega
    have hi31 : i ≤ 31 := by omega
    have hq : (i : Int).tdiv 4 = ((i / 4 : Nat) : Int) := by rw [Int.tdiv_eq_ediv_of_nonneg (by omega)]; omega
    have hm : (i : Int).tmod 4 = ((i % 4 : Nat) : Int) := by rw [Int.tmod_eq_emod_of_nonneg (by omega)]; omega
    obtain ⟨q, hq'⟩ : ∃ q, q = i / 4 := ⟨_, rfl⟩
    obtain ⟨r, hr'⟩ : ∃ r, r = i % 4 := ⟨_, rfl⟩
    have hq8 : q < 8 := by omega
    have hq8' : (q : Int) < 8 := by omega
    have hq7 : q ≤ 7 := by omega
    have hr4 : r < 4 := by omega
    rw [← hq'] at hq
    rw [← hr'] at hm
    have wq : IntKind.i64.wrap (q : Int) = q := by rw [IntKind.wrap_i64]; omega
    have wr : IntKind.i64.wrap (r : Int) = r := by rw [IntKind.wrap_i64]; omega
    have w8 : IntKind.i64.wrap (8 * (r : Int)) = ((8 * r : Nat) : Int) := by rw [IntKind.wrap_i64]; omega
    have w24 : IntKind.i64.wrap (24 - ((8 * r : Nat) : Int)) = ((24 - 8 * r : Nat) : Int) := by rw [IntKind.wrap_i64]; omega
    have wu : IntKind.u64.wrap ((24 - 8 * r : Nat) : Int) = ((24 - 8 * r : Nat) : Int) := wrapN .u64 (by simp [vbits, IntKind.signed, IntKind.bits]; omega)
    have aw := at_wl (xs := L) (k := q) (by omega)
    have lw : (wl L).length = 8 := by rw [wl_length, hL]
    have hx : (L.getD q 0).toNat >>> (24 - 8 * r) = (L.getD (i / 4) 0).toNat >>> (24 - 8 * (i % 4)) := by rw [hq', hr']
    obtain ⟨y, hy⟩ : ∃ y, y = L.getD q 0 := ⟨_, rfl⟩
    rw [← hy] at aw hx
    have sr : shI .shr .u32 (y.toNat : Int) ((24 - 8 * r : Nat) : Int) = some (.int .u32 ((y.toNat >>> (24 - 8 * r) : Nat) : Int)) := shI_shr .u32 (by show 24 - 8 * r ≤ 32; omega)
    have wb : IntKind.u8.wrap ((y.toNat >>> (24 - 8 * r) : Nat) : Int) = ((u8 (y.toNat >>> (24 - 8 * r))).toNat : Int) := wrap_u8 _
    have et : (digest L).take (i + 1) = (digest L).take i ++ [u8 (y.toNat >>> (24 - 8 * r))] := by rw [digest_take L hi32, hx]
    have hWl : ((digest L).take i).length = i := by rw [List.length_take, digest_length]; omega
    rw [show 32 - i = (32 - (i + 1)) + 1 by omega] at kh8
    have gr := grow8 ((digest L).take i) (32 - (i + 1)) i hWl (u8 (y.toNat >>> (24 - 8 * r)))
    rw [← et] at gr
    have hcl : (bl ((digest L).take i ++ zb (32 - (i + 1) + 1))).length = 32 := by rw [bl_length, List.length_append, hWl]; simp [zb]; omega
    simp -implicitDefEqProofs (maxSteps := 2000000) only [k2, kh2, k5, kh5, k9, k8, kh8, hi32', hi31, hq, hm, hq8, hq8', hq7, wq, wr, w8, w24, wu, aw, lw, sr, wb, gr, hcl, m19_1, m19_2, m19_3, m19_4, m19_5, m19_6, m19_7, m19_8, m19_9, m19_10, m19_11, m19_12, m19_13, m19_14, m19_15, m19_16, m19_17, m19_18, m19_19, m19_20, m19_21, m19_r, m19_b, m19, wrap_nat (show i < 2 ^ 63 - 1 by omega), wk, act, asV, ↓reduceIte, Nat.reduceEqDiff, reduceCtorEq, Nat.reduceAdd, Nat.reduceLeDiff, Nat.reduceSub, Nat.reduceMul, List.reduceReplicate, Int.reduceEq, Int.reduceLT, Int.reduceLE, Int.reduceAdd, Int.reduceSub, Int.reduceMul, Nat.reduceLT, Int.reduceToNat]
    exact ⟨32 - (i + 1), by omega, i + 1, by omega, rfl, rfl, v8, rfl, rfl⟩
  · obtain rfl : i = 32 := by omega
    have e : (digest L).take 32 ++ zb (32 - 32) = digest L := by rw [List.take_of_length_le (by rw [digest_length]; exact Nat.le_refl _)]; simp [zb]
    rw [e] at kh8
    simp -implicitDefEqProofs (maxSteps := 2000000) only [k9, m19_1, m19_2, m19_3, m19_4, m19_5, m19_6, m19_7, m19_8, m19_9, m19_10, m19_11, m19_12, m19_13, m19_14, m19_15, m19_16, m19_17, m19_18, m19_19, m19_20, m19_21, m19_r, m19_b, m19, wk, act, asV, ↓reduceIte, Nat.reduceEqDiff, reduceCtorEq, Nat.reduceAdd, Nat.reduceLeDiff, Nat.reduceSub, Nat.reduceMul, List.reduceReplicate, Int.reduceEq, Int.reduceLT, Int.reduceLE, Int.reduceAdd, Int.reduceSub, Int.reduceMul, Nat.reduceLT, Int.reduceToNat]
    exact q1 _ (by simp -implicitDefEqProofs (maxSteps := 2000000) only [k2, wk, act, asV, ↓reduceIte, Nat.reduceEqDiff, reduceCtorEq, Nat.reduceAdd, Nat.reduceLeDiff, Nat.reduceSub, Nat.reduceMul, List.reduceReplicate, Int.reduceEq, Int.reduceLT, Int.reduceLE, Int.reduceAdd, Int.reduceSub, Int.reduceMul, Nat.reduceLT, Int.reduceToNat]) (by simp -implicitDefEqProofs (maxSteps := 2000000) only [kh2, wk, act, asV, ↓reduceIte, Nat.reduceEqDiff, reduceCtorEq, Nat.reduceAdd, Nat.reduceLeDiff, Nat.reduceSub, Nat.reduceMul, List.reduceReplicate, Int.reduceEq, Int.reduceLT, Int.reduceLE, Int.reduceAdd, Int.reduceSub, Int.reduceMul, Nat.reduceLT, Int.reduceToNat]) ⟨v8, by simp -implicitDefEqProofs (maxSteps := 2000000) only [k8, wk, act, asV, ↓reduceIte, Nat.reduceEqDiff, reduceCtorEq, Nat.reduceAdd, Nat.reduceLeDiff, Nat.reduceSub, Nat.reduceMul, List.reduceReplicate, Int.reduceEq, Int.reduceLT, Int.reduceLE, Int.reduceAdd, Int.reduceSub, Int.reduceMul, Nat.reduceLT, Int.reduceToNat], by simp -implicitDefEqProofs (maxSteps := 2000000) only [kh8, wk, act, asV, ↓reduceIte, Nat.reduceEqDiff, reduceCtorEq, Nat.reduceAdd, Nat.reduceLeDiff, Nat.reduceSub, Nat.reduceMul, List.reduceReplicate, Int.reduceEq, Int.reduceLT, Int.reduceLE, Int.reduceAdd, Int.reduceSub, Int.reduceMul, Nat.reduceLT, Int.reduceToNat]⟩
end Go.Proofs.Ytlbilkldjhhopaa
