/- Of the table: the volumes' block, by the program. -/
import Derived.Test.YtilbipknodpmmaaDoorE31
import Derived.Test.YtilbipknodpmmaaDoorM6
import Derived.Test.YtilbipknodpmmaaDoorB3
set_option linter.unusedVariables false
set_option linter.unusedSimpArgs false
set_option maxRecDepth 100000
set_option maxHeartbeats 8000000
namespace Go.Proofs.YtilbipknodpmmaaDoor
open Go.RowKit

def bk4 (bs : List Int) : List UInt8 := [u8 (bs.getD 0 0).toNat, u8 (bs.getD 1 0).toNat, u8 (bs.getD 2 0).toNat, u8 (bs.getD 3 0).toNat]
def entV (v : Vol) : List UInt8 := pad4 v.name ++ (u8 v.blocks.length :: bk4 v.blocks)
theorem entV_length (v : Vol) : (entV v).length = 9 := by simp [entV, pad4_length, bk4]
def entsV (vs : List Vol) : List UInt8 := vs.flatMap entV
theorem entsV_length (vs : List Vol) : (entsV vs).length = 9 * vs.length := by
  induction vs with
  | nil => rfl
  | cons v vs ih =>
    simp only [entsV, List.flatMap_cons, List.length_append, List.length_cons] at ih ⊢
    rw [entV_length, ih]; omega
def zs (n : Nat) : List UInt8 := List.replicate n 0
def tabB (vs : List Vol) : List UInt8 := u8 vs.length :: (entsV vs ++ zs (31 - 9 * vs.length))
def tabR (vs : List Vol) : List UInt8 := if goodV vs = true then tabB vs else zs 32
def tabE (vs : List Vol) : Int := if goodV vs = true then 0 else 11
theorem tabB_length {vs : List Vol} (h : vs.length ≤ 3) : (tabB vs).length = 32 := by
  simp [tabB, entsV_length, zs]; omega
theorem tabR_length (vs : List Vol) : (tabR vs).length = 32 := by
  unfold tabR
  split
  · rename_i h; exact tabB_length (goodV_len h)
  · rfl
theorem zs_cells : List.replicate 32 (IV.int .u8 0) = bl (zs 32) := rfl
theorem entsV_take {vs : List Vol} {i : Nat} (h : i < vs.length) : entsV (vs.take (i + 1)) = entsV (vs.take i) ++ entV vs[i] := by
  rw [List.take_succ_eq_append_getElem h]; simp only [entsV, List.flatMap_append, List.flatMap_cons, List.flatMap_nil, List.append_nil]
theorem set_grow (W : List UInt8) (m : Nat) (x : UInt8) : (W ++ zs (m + 1)).set W.length x = (W ++ [x]) ++ zs m := by
  simp [zs, List.replicate_succ]
theorem bl_set' {b : List UInt8} {k : Nat} (h : k < b.length) (x : UInt8) : List.take k (bl b) ++ [IV.int .u8 (x.toNat : Int)] ++ List.drop (k + 1) (bl b) = bl (b.set k x) := by
  rw [List.set_eq_take_append_cons_drop, if_pos h]; simp [bl]
theorem grow1 (W : List UInt8) (m p : Nat) (hp : W.length = p) (x : UInt8) : List.take p (bl (W ++ zs (m + 1))) ++ [IV.int .u8 (x.toNat : Int)] ++ List.drop (p + 1) (bl (W ++ zs (m + 1))) = bl ((W ++ [x]) ++ zs m) := by
  subst hp
  rw [bl_set' (by simp [zs]), set_grow]
theorem grow4 (W X : List UInt8) (m p : Nat) (hp : W.length = p) (hx : X.length = 4) : List.take p (bl (W ++ zs (m + 4))) ++ bl X ++ List.drop (p + 4) (bl (W ++ zs (m + 4))) = bl ((W ++ X) ++ zs m) := by
  subst hp
  have e : bl (W ++ zs (m + 4)) = bl W ++ bl (zs (m + 4)) := bl_append ..
  rw [e, List.take_left' (bl_length W), ← List.drop_drop, List.drop_left' (bl_length W), bl_drop]
  simp only [zs, List.drop_replicate, Nat.add_sub_cancel, bl_append]
theorem bk4_zs {bs : List Int} (h : bs.length ≤ 4) : bk4 bs = bs.map (fun b => u8 b.toNat) ++ zs (4 - bs.length) := by
  match bs, h with
  | [], _ => rfl
  | [a], _ => rfl
  | [a, b], _ => rfl
  | [a, b, c], _ => rfl
  | [a, b, c, d], _ => rfl
  | _ :: _ :: _ :: _ :: _ :: _, h => simp at h
theorem u8_wrap {b : Int} (h : inB b = true) : IntKind.u8.wrap b = ((u8 b.toNat).toNat : Int) := by
  have : 1 ≤ b ∧ b < 12 := by simpa [inB] using h
  obtain ⟨n, rfl⟩ : ∃ n : Nat, b = n := ⟨b.toNat, by omega⟩
  rw [Int.toNat_natCast]
  exact wrap_u8 n

theorem encT_in (P : List UInt8) (v : Vol) (a n m : Nat) (ver : Nat) (i nn : Nat) (f : Fl) (vs : List Vol) (hP : P.length = a) (ha : a + n = 32) (hn : 9 ≤ n) (hv : volP v = true)
    (Q : Ex → St → Prop) (s1 : St) (q1 : ∀ s2 : St, s2.t 0 = .sl f vs.length (vl vs) → s2.t 19 = .sl f vs.length (vl vs) → s2.t 20 = .int .i64 vs.length → s2.t 21 = .int .i64 i → s2.t 2 = s1.t 2 → s2.h 2 = s1.h 2 → s2.t 4 = .ptr 4 0 ver → s2.h 4 = ⟨ver, true, true, false, bl (P ++ pad4 v.name ++ [u8 v.blocks.length] ++ v.blocks.map (fun b => u8 b.toNat) ++ zs (n - 5 - v.blocks.length))⟩ → Q (.exit 2) s2)
    (k0 : s1.t 0 = .sl f vs.length (vl vs)) (k19 : s1.t 19 = .sl f vs.length (vl vs)) (k20 : s1.t 20 = .int .i64 vs.length) (k21 : s1.t 21 = .int .i64 i) (k4 : s1.t 4 = .ptr 4 0 ver) (kh : s1.h 4 = ⟨ver, true, true, false, bl (P ++ pad4 v.name ++ [u8 v.blocks.length] ++ zs (n - 5))⟩)
    (k7 : s1.t 7 = .row 4 a n 1 ver) (k43 : s1.t 43 = .sl .plain v.blocks.length (il v.blocks)) (k44 : s1.t 44 = .int .i64 v.blocks.length) (k45 : s1.t 45 = .int .i64 0) :
    Wp (RCs Tryd.prog) (.loop m26_7) Q s1 := by
  obtain ⟨hnm, hb1, hb4, hin⟩ := volP_bl hv
  refine Wp_loop (fun m s => ∃ j, j ≤ v.blocks.length ∧ m = v.blocks.length - j ∧ s.t 0 = .sl f vs.length (vl vs) ∧ s.t 19 = .sl f vs.length (vl vs) ∧ s.t 20 = .int .i64 vs.length ∧ s.t 21 = .int .i64 i ∧ s.t 2 = s1.t 2 ∧ s.h 2 = s1.h 2 ∧ s.t 4 = .ptr 4 0 ver ∧ s.t 7 = .row 4 a n 1 ver ∧ s.t 43 = .sl .plain v.blocks.length (il v.blocks) ∧ s.t 44 = .int .i64 v.blocks.length ∧ s.t 45 = .int .i64 j ∧ s.h 4 = ⟨ver, true, true, false, bl (P ++ pad4 v.name ++ [u8 v.blocks.length] ++ (v.blocks.take j).map (fun b => u8 b.toNat) ++ zs (n - 5 - j))⟩) v.blocks.length ⟨0, by omega, rfl, k0, k19, k20, k21, rfl, rfl, k4, k7, k43, k44, k45, by simpa using kh⟩ ?_
  clear k0 k19 k20 k21 k4 k7 k43 k44 k45 kh
  rintro m s ⟨j, hj, rfl, k0, k19, k20, k21, k2, kh2, k4, k7, k43, k44, k45, kh⟩
  by_cases hjl : j < v.blocks.length
  · have hjl' : (j : Int) < v.blocks.length := by omega
    have hx := u8_wrap (List.all_eq_true.1 hin _ (List.getElem_mem hjl))
    have w1 : IntKind.i64.wrap (5 + (j : Int)) = ((5 + j : Nat) : Int) := by rw [IntKind.wrap_i64]; omega
    have hjn : 5 + j < n := by omega
    have hjn' : ((5 + j : Nat) : Int) < n := by omega
    obtain ⟨W, hW⟩ : ∃ W, W = P ++ pad4 v.name ++ [u8 v.blocks.length] ++ (v.blocks.take j).map (fun b => u8 b.toNat) := ⟨_, rfl⟩
    have hWl : W.length = a + (5 + j) := by rw [hW]; simp [pad4_length, hP]; omega
    have ez : n - 5 - j = (n - 5 - (j + 1)) + 1 := by omega
    rw [← hW, ez] at kh
    have gr := grow1 W (n - 5 - (j + 1)) (a + (5 + j)) hWl (u8 v.blocks[j].toNat)
    have hcl : (bl (W ++ zs (n - 5 - (j + 1) + 1))).length = 32 := by rw [bl_length]; simp [hWl, zs]; omega
    have hle : a + (5 + j) + 1 ≤ 32 := by omega
    have hle' : a + (5 + j) ≤ 31 := by omega
    simp -implicitDefEqProofs (maxSteps := 2000000) only [k0, k19, k20, k21, k2, kh2, k4, k7, k43, k44, k45, kh, hjl', hjl, drop_il hjl, hx, w1, hjn, hjn', hcl, hle, hle', gr, m26_1, m26_2, m26_3, m26_4, m26_5, m26_6, m26_7, m26_8, m26_9, m26_10, m26_11, m26_12, m26_13, m26_14, m26_15, m26_16, m26_17, m26_18, m26_19, m26_20, m26_21, m26_r, m26_b, m26, wrap_nat (show j < 2 ^ 63 - 1 by omega), wk, act, asV, ↓reduceIte, Nat.reduceEqDiff, reduceCtorEq, Nat.reduceAdd, Nat.reduceLeDiff, Nat.reduceSub, Nat.reduceMul, List.reduceReplicate, Int.reduceEq, Int.reduceLT, Int.reduceLE, Int.reduceAdd, Int.reduceSub, Int.reduceMul, Nat.reduceLT, Int.reduceToNat]
    refine ⟨v.blocks.length - (j + 1), by omega, j + 1, by omega, rfl, rfl, ?_⟩
    rw [List.take_succ_eq_append_getElem hjl, List.map_append, ← List.append_assoc, ← hW]
    rfl
  · have hje : j = v.blocks.length := by omega
    have hjl' : ¬ (j : Int) < v.blocks.length := by omega
    rw [hje, List.take_length] at kh
    simp -implicitDefEqProofs (maxSteps := 2000000) only [k44, k45, hjl', m26_1, m26_2, m26_3, m26_4, m26_5, m26_6, m26_7, m26_8, m26_9, m26_10, m26_11, m26_12, m26_13, m26_14, m26_15, m26_16, m26_17, m26_18, m26_19, m26_20, m26_21, m26_r, m26_b, m26, wk, act, asV, ↓reduceIte, Nat.reduceEqDiff, reduceCtorEq, Nat.reduceAdd, Nat.reduceLeDiff, Nat.reduceSub, Nat.reduceMul, List.reduceReplicate, Int.reduceEq, Int.reduceLT, Int.reduceLE, Int.reduceAdd, Int.reduceSub, Int.reduceMul, Nat.reduceLT, Int.reduceToNat]
    exact q1 _ (by simp -implicitDefEqProofs (maxSteps := 2000000) only [k0, wk, act, asV, ↓reduceIte, Nat.reduceEqDiff, reduceCtorEq, Nat.reduceAdd, Nat.reduceLeDiff, Nat.reduceSub, Nat.reduceMul, List.reduceReplicate, Int.reduceEq, Int.reduceLT, Int.reduceLE, Int.reduceAdd, Int.reduceSub, Int.reduceMul, Nat.reduceLT, Int.reduceToNat]) (by simp -implicitDefEqProofs (maxSteps := 2000000) only [k19, wk, act, asV, ↓reduceIte, Nat.reduceEqDiff, reduceCtorEq, Nat.reduceAdd, Nat.reduceLeDiff, Nat.reduceSub, Nat.reduceMul, List.reduceReplicate, Int.reduceEq, Int.reduceLT, Int.reduceLE, Int.reduceAdd, Int.reduceSub, Int.reduceMul, Nat.reduceLT, Int.reduceToNat]) (by simp -implicitDefEqProofs (maxSteps := 2000000) only [k20, wk, act, asV, ↓reduceIte, Nat.reduceEqDiff, reduceCtorEq, Nat.reduceAdd, Nat.reduceLeDiff, Nat.reduceSub, Nat.reduceMul, List.reduceReplicate, Int.reduceEq, Int.reduceLT, Int.reduceLE, Int.reduceAdd, Int.reduceSub, Int.reduceMul, Nat.reduceLT, Int.reduceToNat]) (by simp -implicitDefEqProofs (maxSteps := 2000000) only [k21, wk, act, asV, ↓reduceIte, Nat.reduceEqDiff, reduceCtorEq, Nat.reduceAdd, Nat.reduceLeDiff, Nat.reduceSub, Nat.reduceMul, List.reduceReplicate, Int.reduceEq, Int.reduceLT, Int.reduceLE, Int.reduceAdd, Int.reduceSub, Int.reduceMul, Nat.reduceLT, Int.reduceToNat]) (by simp -implicitDefEqProofs (maxSteps := 2000000) only [k2, wk, act, asV, ↓reduceIte, Nat.reduceEqDiff, reduceCtorEq, Nat.reduceAdd, Nat.reduceLeDiff, Nat.reduceSub, Nat.reduceMul, List.reduceReplicate, Int.reduceEq, Int.reduceLT, Int.reduceLE, Int.reduceAdd, Int.reduceSub, Int.reduceMul, Nat.reduceLT, Int.reduceToNat]) (by simp -implicitDefEqProofs (maxSteps := 2000000) only [kh2, wk, act, asV, ↓reduceIte, Nat.reduceEqDiff, reduceCtorEq, Nat.reduceAdd, Nat.reduceLeDiff, Nat.reduceSub, Nat.reduceMul, List.reduceReplicate, Int.reduceEq, Int.reduceLT, Int.reduceLE, Int.reduceAdd, Int.reduceSub, Int.reduceMul, Nat.reduceLT, Int.reduceToNat]) (by simp -implicitDefEqProofs (maxSteps := 2000000) only [k4, wk, act, asV, ↓reduceIte, Nat.reduceEqDiff, reduceCtorEq, Nat.reduceAdd, Nat.reduceLeDiff, Nat.reduceSub, Nat.reduceMul, List.reduceReplicate, Int.reduceEq, Int.reduceLT, Int.reduceLE, Int.reduceAdd, Int.reduceSub, Int.reduceMul, Nat.reduceLT, Int.reduceToNat]) (by simp -implicitDefEqProofs (maxSteps := 2000000) only [kh, wk, act, asV, ↓reduceIte, Nat.reduceEqDiff, reduceCtorEq, Nat.reduceAdd, Nat.reduceLeDiff, Nat.reduceSub, Nat.reduceMul, List.reduceReplicate, Int.reduceEq, Int.reduceLT, Int.reduceLE, Int.reduceAdd, Int.reduceSub, Int.reduceMul, Nat.reduceLT, Int.reduceToNat])
end Go.Proofs.YtilbipknodpmmaaDoor
