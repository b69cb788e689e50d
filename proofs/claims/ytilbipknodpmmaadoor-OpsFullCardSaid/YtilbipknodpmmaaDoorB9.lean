/- Of the table: the volumes' block, by the program. -/
import Derived.Test.YtilbipknodpmmaaDoorE31
import Derived.Test.YtilbipknodpmmaaDoorM6
import Derived.Test.YtilbipknodpmmaaDoorB3
import Derived.Test.YtilbipknodpmmaaDoorM4
import Derived.Test.YtilbipknodpmmaaDoorB2
set_option linter.unusedVariables false
set_option linter.unusedSimpArgs false
set_option maxRecDepth 100000
set_option maxHeartbeats 8000000
namespace Go.Proofs.YtilbipknodpmmaaDoor
open Go.RowKit

def bk4 (bs : List Int) : List UInt8 := [u8 (bs.getD 0 0).toNat, u8 (bs.getD 1 0).toNat, u8 (bs.getD 2 0).toNat, u8 (bs.getD 3 0).toNat]
def entV (v : Vol) : List UInt8 := pad4 v.name ++ (u8 v.blocks.length :: bk4 v.blocks)
theorem entV_length (v : Vol) : (entV v).length = 9 := by simp [entV, pad4_length, bk4]
def entsV (vs : List Vol) : List UInt8 := vs.flatMap entV
theorem entsV_length (vs : List Vol) : (entsV vs).length = 9 * vs.length := by
  induction vs with
  | nil => rfl
  | cons v vs ih =>
    simp only [entsV, List.flatMap_cons, List.length_append, List.length_cons] at ih ⊢
    rw [entV_length, ih]; omega
def zs (n : Nat) : List UInt8 := List.replicate n 0
def tabB (vs : List Vol) : List UInt8 := u8 vs.length :: (entsV vs ++ zs (31 - 9 * vs.length))
def tabR (vs : List Vol) : List UInt8 := if goodV vs = true then tabB vs else zs 32
def tabE (vs : List Vol) : Int := if goodV vs = true then 0 else 11
theorem tabB_length {vs : List Vol} (h : vs.length ≤ 3) : (tabB vs).length = 32 := by
  simp [tabB, entsV_length, zs]; omega
theorem tabR_length (vs : List Vol) : (tabR vs).length = 32 := by
  unfold tabR
  split
  · rename_i h; exact tabB_length (goodV_len h)
  · rfl
theorem zs_cells : List.replicate 32 (IV.int .u8 0) = bl (zs 32) := rfl
theorem entsV_take {vs : List Vol} {i : Nat} (h : i < vs.length) : entsV (vs.take (i + 1)) = entsV (vs.take i) ++ entV vs[i] := by
  rw [List.take_succ_eq_append_getElem h]; simp only [entsV, List.flatMap_append, List.flatMap_cons, List.flatMap_nil, List.append_nil]
theorem set_grow (W : List UInt8) (m : Nat) (x : UInt8) : (W ++ zs (m + 1)).set W.length x = (W ++ [x]) ++ zs m := by
  simp [zs, List.replicate_succ]
theorem bl_set' {b : List UInt8} {k : Nat} (h : k < b.length) (x : UInt8) : List.take k (bl b) ++ [IV.int .u8 (x.toNat : Int)] ++ List.drop (k + 1) (bl b) = bl (b.set k x) := by
  rw [List.set_eq_take_append_cons_drop, if_pos h]; simp [bl]
theorem grow1 (W : List UInt8) (m p : Nat) (hp : W.length = p) (x : UInt8) : List.take p (bl (W ++ zs (m + 1))) ++ [IV.int .u8 (x.toNat : Int)] ++ List.drop (p + 1) (bl (W ++ zs (m + 1))) = bl ((W ++ [x]) ++ zs m) := by
  subst hp
  rw [bl_set' (by simp [zs]), set_grow]
theorem grow4 (W X : List UInt8) (m p : Nat) (hp : W.length = p) (hx : X.length = 4) : List.take p (bl (W ++ zs (m + 4))) ++ bl X ++ List.drop (p + 4) (bl (W ++ zs (m + 4))) = bl ((W ++ X) ++ zs m) := by
  subst hp
  have e : bl (W ++ zs (m + 4)) = bl W ++ bl (zs (m + 4)) := bl_append ..
  rw [e, List.take_left' (bl_length W), ← List.drop_drop, List.drop_left' (bl_length W), bl_drop]
  simp only [zs, List.drop_replicate, Nat.add_sub_cancel, bl_append]
theorem bk4_zs {bs : List Int} (h : bs.length ≤ 4) : bk4 bs = bs.map (fun b => u8 b.toNat) ++ zs (4 - bs.length) := by
  match bs, h with
  | [], _ => rfl
  | [a], _ => rfl
  | [a, b], _ => rfl
  | [a, b, c], _ => rfl
  | [a, b, c, d], _ => rfl
  | _ :: _ :: _ :: _ :: _ :: _, h => simp at h
theorem u8_wrap {b : Int} (h : inB b = true) : IntKind.u8.wrap b = ((u8 b.toNat).toNat : Int) := by
  have : 1 ≤ b ∧ b < 12 := by simpa [inB] using h
  obtain ⟨n, rfl⟩ : ∃ n : Nat, b = n := ⟨b.toNat, by omega⟩
  rw [Int.toNat_natCast]
  exact wrap_u8 n

theorem encT_in (P : List UInt8) (v : Vol) (a n m : Nat) (ver : Nat) (i nn : Nat) (f : Fl) (vs : List Vol) (hP : P.length = a) (ha : a + n = 32) (hn : 9 ≤ n) (hv : volP v = true)
    (Q : Ex → St → Prop) (s1 : St) (q1 : ∀ s2 : St, s2.t 0 = .sl f vs.length (vl vs) → s2.t 19 = .sl f vs.length (vl vs) → s2.t 20 = .int .i64 vs.length → s2.t 21 = .int .i64 i → s2.t 2 = s1.t 2 → s2.h 2 = s1.h 2 → s2.t 4 = .ptr 4 0 ver → s2.h 4 = ⟨ver, true, true, false, bl (P ++ pad4 v.name ++ [u8 v.blocks.length] ++ v.blocks.map (fun b => u8 b.toNat) ++ zs (n - 5 - v.blocks.length))⟩ → Q (.exit 2) s2)
    (k0 : s1.t 0 = .sl f vs.length (vl vs)) (k19 : s1.t 19 = .sl f vs.length (vl vs)) (k20 : s1.t 20 = .int .i64 vs.length) (k21 : s1.t 21 = .int .i64 i) (k4 : s1.t 4 = .ptr 4 0 ver) (kh : s1.h 4 = ⟨ver, true, true, false, bl (P ++ pad4 v.name ++ [u8 v.blocks.length] ++ zs (n - 5))⟩)
    (k7 : s1.t 7 = .row 4 a n 1 ver) (k43 : s1.t 43 = .sl .plain v.blocks.length (il v.blocks)) (k44 : s1.t 44 = .int .i64 v.blocks.length) (k45 : s1.t 45 = .int .i64 0) :
    Wp (RCs Tryd.prog) (.loop m26_7) Q s1 := by
  obtain ⟨hnm, hb1, hb4, hin⟩ := volP_bl hv
  refine Wp_loop (fun m s => ∃ j, j ≤ v.blocks.length ∧ m = v.blocks.length - j ∧ s.t 0 = .sl f vs.length (vl vs) ∧ s.t 19 = .sl f vs.length (vl vs) ∧ s.t 20 = .int .i64 vs.length ∧ s.t 21 = .int .i64 i ∧ s.t 2 = s1.t 2 ∧ s.h 2 = s1.h 2 ∧ s.t 4 = .ptr 4 0 ver ∧ s.t 7 = .row 4 a n 1 ver ∧ s.t 43 = .sl .plain v.blocks.length (il v.blocks) ∧ s.t 44 = .int .i64 v.blocks.length ∧ s.t 45 = .int .i64 j ∧ s.h 4 = ⟨ver, true, true, false, bl (P ++ pad4 v.name ++ [u8 v.blocks.length] ++ (v.blocks.take j).map (fun b => u8 b.toNat) ++ zs (n - 5 - j))⟩) v.blocks.length ⟨0, by omega, rfl, k0, k19, k20, k21, rfl, rfl, k4, k7, k43, k44, k45, by simpa using kh⟩ ?_
  clear k0 k19 k20 k21 k4 k7 k43 k44 k45 kh
  rintro m s ⟨j, hj, rfl, k0, k19, k20, k21, k2, kh2, k4, k7, k43, k44, k45, kh⟩
  by_cases hjl : j < v.blocks.length
  · have hjl' : (j : Int) < v.blocks.length := by omega
    have hx := u8_wrap (List.all_eq_true.1 hin _ (List.getElem_mem hjl))
    have w1 : IntKind.i64.wrap (5 + (j : Int)) = ((5 + j : Nat) : Int) := by rw [IntKind.wrap_i64]; omega
    have hjn : 5 + j < n := by omega
    have hjn' : ((5 + j : Nat) : Int) < n := by omega
    obtain ⟨W, hW⟩ : ∃ W, W = P ++ pad4 v.name ++ [u8 v.blocks.length] ++ (v.blocks.take j).map (fun b => u8 b.toNat) := ⟨_, rfl⟩
    have hWl : W.length = a + (5 + j) := by rw [hW]; simp [pad4_length, hP]; omega
    have ez : n - 5 - j = (n - 5 - (j + 1)) + 1 := by omega
    rw [← hW, ez] at kh
    have gr := grow1 W (n - 5 - (j + 1)) (a + (5 + j)) hWl (u8 v.blocks[j].toNat)
    have hcl : (bl (W ++ zs (n - 5 - (j + 1) + 1))).length = 32 := by rw [bl_length]; simp [hWl, zs]; omega
    have hle : a + (5 + j) + 1 ≤ 32 := by omega
    have hle' : a + (5 + j) ≤ 31 := by omega
    simp -implicitDefEqProofs (maxSteps := 2000000) only [k0, k19, k20, k21, k2, kh2, k4, k7, k43, k44, k45, kh, hjl', hjl, drop_il hjl, hx, w1, hjn, hjn', hcl, hle, hle', gr, m26_1, m26_2, m26_3, m26_4, m26_5, m26_6, m26_7, m26_8, m26_9, m26_10, m26_11, m26_12, m26_13, m26_14, m26_15, m26_16, m26_17, m26_18, m26_19, m26_20, m26_21, m26_r, m26_b, m26, wrap_nat (show j < 2 ^ 63 - 1 by omega), wk, act, asV, ↓reduceIte, Nat.reduceEqDiff, reduceCtorEq, Nat.reduceAdd, Nat.reduceLeDiff, Nat.reduceSub, Nat.reduceMul, List.reduceReplicate, Int.reduceEq, Int.reduceLT, Int.reduceLE, Int.reduceAdd, Int.reduceSub, Int.reduceMul, Nat.reduceLT, Int.reduceToNat]
    refine ⟨v.blocks.length - (j + 1), by omega, j + 1, by omega, rfl, rfl, ?_⟩
    rw [List.take_succ_eq_append_getElem hjl, List.map_append, ← List.append_assoc, ← hW]
    rfl
  · have hje : j = v.blocks.length := by omega
    have hjl' : ¬ (j : Int) < v.blocks.length := by omega
    rw [hje, List.take_length] at kh
    simp -implicitDefEqProofs (maxSteps := 2000000) only [k44, k45, hjl', m26_1, m26_2, m26_3, m26_4, m26_5, m26_6, m26_7, m26_8, m26_9, m26_10, m26_11, m26_12, m26_13, m26_14, m26_15, m26_16, m26_17, m26_18, m26_19, m26_20, m26_21, m26_r, m26_b, m26, wk, act, asV, ↓reduceIte, Nat.reduceEqDiff, reduceCtorEq, Nat.reduceAdd, Nat.reduceLeDiff, Nat.reduceSub, Nat.reduceMul, List.reduceReplicate, Int.reduceEq, Int.reduceLT, Int.reduceLE, Int.reduceAdd, Int.reduceSub, Int.reduceMul, Nat.reduceLT, Int.reduceToNat]
    exact q1 _ (by simp -implicitDefEqProofs (maxSteps := 2000000) only [k0, wk, act, asV, ↓reduceIte, Nat.reduceEqDiff, reduceCtorEq, Nat.reduceAdd, Nat.reduceLeDiff, Nat.reduceSub, Nat.reduceMul, List.reduceReplicate, Int.reduceEq, Int.reduceLT, Int.reduceLE, Int.reduceAdd, Int.reduceSub, Int.reduceMul, Nat.reduceLT, Int.reduceToNat]) (by simp -implicitDefEqProofs (maxSteps := 2000000) only [k19, wk, act, asV, ↓reduceIte, Nat.reduceEqDiff, reduceCtorEq, Nat.reduceAdd, Nat.reduceLeDiff, Nat.reduceSub, Nat.reduceMul, List.reduceReplicate, Int.reduceEq, Int.reduceLT, Int.reduceLE, Int.reduceAdd, Int.reduceSub, Int.reduceMul, Nat.reduceLT, Int.reduceToNat]) (by simp -implicitDefEqProofs (maxSteps := 2000000) only [k20, wk, act, asV, ↓reduceIte, Nat.reduceEqDiff, reduceCtorEq, Nat.reduceAdd, Nat.reduceLeDiff, Nat.reduceSub, Nat.reduceMul, List.reduceReplicate, Int.reduceEq, Int.reduceLT, Int.reduceLE, Int.reduceAdd, Int.reduceSub, Int.reduceMul, Nat.reduceLT, Int.reduceToNat]) (by simp -implicitDefEqProofs (maxSteps := 2000000) only [k21, wk, act, asV, ↓reduceIte, Nat.reduceEqDiff, reduceCtorEq, Nat.reduceAdd, Nat.reduceLeDiff, Nat.reduceSub, Nat.reduceMul, List.reduceReplicate, Int.reduceEq, Int.reduceLT, Int.reduceLE, Int.reduceAdd, Int.reduceSub, Int.reduceMul, Nat.reduceLT, Int.reduceToNat]) (by simp -implicitDefEqProofs (maxSteps := 2000000) only [k2, wk, act, asV, ↓reduceIte, Nat.reduceEqDiff, reduceCtorEq, Nat.reduceAdd, Nat.reduceLeDiff, Nat.reduceSub, Nat.reduceMul, List.reduceReplicate, Int.reduceEq, Int.reduceLT, Int.reduceLE, Int.reduceAdd, Int.reduceSub, Int.reduceMul, Nat.reduceLT, Int.reduceToNat]) (by simp -implicitDefEqProofs (maxSteps := 2000000) only [kh2, wk, act, asV, ↓reduceIte, Nat.reduceEqDiff, reduceCtorEq, Nat.reduceAdd, Nat.reduceLeDiff, Nat.reduceSub, Nat.reduceMul, List.reduceReplicate, Int.reduceEq, Int.reduceLT, Int.reduceLE, Int.reduceAdd, Int.reduceSub, Int.reduceMul, Nat.reduceLT, Int.reduceToNat]) (by simp -implicitDefEqProofs (maxSteps := 2000000) only [k4, wk, act, asV, ↓reduceIte, Nat.reduceEqDiff, reduceCtorEq, Nat.reduceAdd, Nat.reduceLeDiff, Nat.reduceSub, Nat.reduceMul, List.reduceReplicate, Int.reduceEq, Int.reduceLT, Int.reduceLE, Int.reduceAdd, Int.reduceSub, Int.reduceMul, Nat.reduceLT, Int.reduceToNat]) (by simp -implicitDefEqProofs (maxSteps := 2000000) only [kh, wk, act, asV, ↓reduceIte, Nat.reduceEqDiff, reduceCtorEq, Nat.reduceAdd, Nat.reduceLeDiff, Nat.reduceSub, Nat.reduceMul, List.reduceReplicate, Int.reduceEq, Int.reduceLT, Int.reduceLE, Int.reduceAdd, Int.reduceSub, Int.reduceMul, Nat.reduceLT, Int.reduceToNat])
end Go.Proofs.YtilbipknodpmmaaDoor
/- Names: the name of four bytes. -/
set_option linter.unusedVariables false
set_option linter.unusedSimpArgs false
set_option maxRecDepth 100000
set_option maxHeartbeats 4000000
namespace Go.Proofs.YtilbipknodpmmaaDoor
open Go.RowKit

theorem bytes_back {f : IV → Option UInt8} (hf : ∀ b : UInt8, f (.int .u8 (b.toNat : Int)) = some b) (xs : List UInt8) : (bl xs).mapM f = some xs := by
  induction xs with
  | nil => rfl
  | cons x xs ih =>
    rw [show bl (x :: xs) = .int .u8 (x.toNat : Int) :: bl xs from rfl, List.mapM_cons, ih, hf]
    rfl
theorem eqL_bl : ∀ (x y : List UInt8), x.length = y.length → eqL (bl x) (bl y) = some (decide (x = y))
  | [], [], _ => by simp [bl, eqL]
  | a :: x, b :: y, h => by
    have ih := eqL_bl x y (by simpa using h)
    rw [bl_cons, bl_cons]
    simp only [eqL, eqC, if_true, ih]
    congr 1
    by_cases h1 : a = b
    · subst h1; simp
    · have : ¬ ((a.toNat : Nat) : Int) = (b.toNat : Nat) := by intro e; exact h1 (UInt8.toNat_inj.1 (by omega))
      simp [h1, this]
  | [], b :: y, h => by simp at h
  | a :: x, [], h => by simp at h
theorem fitR_bl {x : List UInt8} {n : Nat} (h : x.length = n) : fitR [(n, .i)] (bl x) = true := by
  simp only [fitR, bl_length, h, Nat.le_refl, decide_true, Bool.true_and]
  have e1 : List.take n (bl x) = bl x := List.take_of_length_le (by rw [bl_length]; omega)
  have e2 : List.drop n (bl x) = [] := List.drop_of_length_le (by rw [bl_length]; omega)
  rw [e1, e2]
  simp [bl, CK.fit]

def isZ (b : UInt8) : Bool := decide (b = 0)
def cutN (b : List UInt8) : Option (List UInt8) := if trimR isZ b = [] ∨ goodN (trimR isZ b) = true then some (trimR isZ b) else none
def cutS (b : List UInt8) : List UInt8 := (cutN b).getD []
def cutO (b : List UInt8) : Bool := (cutN b).isSome
theorem low_ne {x : UInt8} (h : low x = true) : x ≠ 0 := by rintro rfl; exact absurd h (by decide)

theorem cut_ok (b : List UInt8) (hb : b.length = 4) : RC Tryd.prog 56 [.agg (bl b)] [.str (cutS b), .bool (cutO b)] := by
  refine RC.of_wp c56 rfl ?_
  have ct := trimRight_ok b (by omega)
  have hz : (fun b : UInt8 => decide (b = 0)) = isZ := rfl
  rw [hz] at ct
  have htl := trimR_le isZ b
  obtain ⟨s, hs⟩ : ∃ s, s = trimR isZ b := ⟨_, rfl⟩
  rw [← hs] at ct htl
  have cg := good_ok .full [s] (by simp) (by simp; omega)
  simp only [List.all_cons, List.all_nil, Bool.and_true] at cg
  by_cases h0 : s = []
  · have hc : cutN b = some [] := by unfold cutN; rw [← hs, h0]; rfl
    have e1 : cutS b = [] := by unfold cutS; rw [hc]; rfl
    have e2 : cutO b = true := by unfold cutO; rw [hc]; rfl
    rw [e1, e2]
    repeat' (first | simp -implicitDefEqProofs (maxSteps := 2000000) only [m56_1, m56_2, m56_3, m56_4, m56_5, m56_6, m56_r, m56_b, m56, bl_take4 hb, bl_length, hb, bl_pur, bytes_back, UInt8.ofNat_toNat, h0, wk, act, asV, ↓reduceIte, Nat.reduceEqDiff, reduceCtorEq, Nat.reduceAdd, Nat.reduceLeDiff, Nat.reduceSub, Nat.reduceMul, List.reduceReplicate, Int.reduceEq, Int.reduceLT, Int.reduceLE, Int.reduceAdd, Int.reduceSub, Int.reduceMul, Nat.reduceLT, Int.reduceToNat] | ((first | ((with_reducible refine CallL.gate ?_); apply CallL.of) | ((with_reducible refine CallP.gate ?_); apply CallP.of)); (case h1 => (simp -implicitDefEqProofs (maxSteps := 2000000) only [m56_1, m56_2, m56_3, m56_4, m56_5, m56_6, m56_r, m56_b, m56, bl_take4 hb, bl_length, hb, bl_pur, bytes_back, UInt8.ofNat_toNat, h0, wk, act, asV, ↓reduceIte, Nat.reduceEqDiff, reduceCtorEq, Nat.reduceAdd, Nat.reduceLeDiff, Nat.reduceSub, Nat.reduceMul, List.reduceReplicate, Int.reduceEq, Int.reduceLT, Int.reduceLE, Int.reduceAdd, Int.reduceSub, Int.reduceMul, Nat.reduceLT, Int.reduceToNat]; first | done | (with_reducible rfl))); (case h2 => (first | exact ct)); (case h3 => simp -implicitDefEqProofs (maxSteps := 2000000) only [m56_1, m56_2, m56_3, m56_4, m56_5, m56_6, m56_r, m56_b, m56, bl_take4 hb, bl_length, hb, bl_pur, bytes_back, UInt8.ofNat_toNat, h0, wk, act, asV, ↓reduceIte, Nat.reduceEqDiff, reduceCtorEq, Nat.reduceAdd, Nat.reduceLeDiff, Nat.reduceSub, Nat.reduceMul, List.reduceReplicate, Int.reduceEq, Int.reduceLT, Int.reduceLE, Int.reduceAdd, Int.reduceSub, Int.reduceMul, Nat.reduceLT, Int.reduceToNat])))
  · by_cases hg : goodN s = true
    · have hc : cutN b = some s := by unfold cutN; rw [← hs, if_pos (.inr hg)]
      have e1 : cutS b = s := by unfold cutS; rw [hc]; rfl
      have e2 : cutO b = true := by unfold cutO; rw [hc]; rfl
      rw [e1, e2]
      rw [hg] at cg
      repeat' (first | simp -implicitDefEqProofs (maxSteps := 2000000) only [m56_1, m56_2, m56_3, m56_4, m56_5, m56_6, m56_r, m56_b, m56, bl_take4 hb, bl_length, hb, bl_pur, bytes_back, UInt8.ofNat_toNat, h0, wk, act, asV, ↓reduceIte, Nat.reduceEqDiff, reduceCtorEq, Nat.reduceAdd, Nat.reduceLeDiff, Nat.reduceSub, Nat.reduceMul, List.reduceReplicate, Int.reduceEq, Int.reduceLT, Int.reduceLE, Int.reduceAdd, Int.reduceSub, Int.reduceMul, Nat.reduceLT, Int.reduceToNat] | ((first | ((with_reducible refine CallL.gate ?_); apply CallL.of) | ((with_reducible refine CallP.gate ?_); apply CallP.of)); (case h1 => (simp -implicitDefEqProofs (maxSteps := 2000000) only [m56_1, m56_2, m56_3, m56_4, m56_5, m56_6, m56_r, m56_b, m56, bl_take4 hb, bl_length, hb, bl_pur, bytes_back, UInt8.ofNat_toNat, h0, wk, act, asV, ↓reduceIte, Nat.reduceEqDiff, reduceCtorEq, Nat.reduceAdd, Nat.reduceLeDiff, Nat.reduceSub, Nat.reduceMul, List.reduceReplicate, Int.reduceEq, Int.reduceLT, Int.reduceLE, Int.reduceAdd, Int.reduceSub, Int.reduceMul, Nat.reduceLT, Int.reduceToNat]; first | done | (with_reducible rfl))); (case h2 => (first | exact ct | exact cg)); (case h3 => simp -implicitDefEqProofs (maxSteps := 2000000) only [m56_1, m56_2, m56_3, m56_4, m56_5, m56_6, m56_r, m56_b, m56, bl_take4 hb, bl_length, hb, bl_pur, bytes_back, UInt8.ofNat_toNat, h0, wk, act, asV, ↓reduceIte, Nat.reduceEqDiff, reduceCtorEq, Nat.reduceAdd, Nat.reduceLeDiff, Nat.reduceSub, Nat.reduceMul, List.reduceReplicate, Int.reduceEq, Int.reduceLT, Int.reduceLE, Int.reduceAdd, Int.reduceSub, Int.reduceMul, Nat.reduceLT, Int.reduceToNat])))
    · have hc : cutN b = none := by unfold cutN; rw [← hs, if_neg (by simp [h0, hg])]
      have e1 : cutS b = [] := by unfold cutS; rw [hc]; rfl
      have e2 : cutO b = false := by unfold cutO; rw [hc]; rfl
      rw [e1, e2]
      rw [show goodN s = false by simpa using hg] at cg
      repeat' (first | simp -implicitDefEqProofs (maxSteps := 2000000) only [m56_1, m56_2, m56_3, m56_4, m56_5, m56_6, m56_r, m56_b, m56, bl_take4 hb, bl_length, hb, bl_pur, bytes_back, UInt8.ofNat_toNat, h0, wk, act, asV, ↓reduceIte, Nat.reduceEqDiff, reduceCtorEq, Nat.reduceAdd, Nat.reduceLeDiff, Nat.reduceSub, Nat.reduceMul, List.reduceReplicate, Int.reduceEq, Int.reduceLT, Int.reduceLE, Int.reduceAdd, Int.reduceSub, Int.reduceMul, Nat.reduceLT, Int.reduceToNat] | ((first | ((with_reducible refine CallL.gate ?_); apply CallL.of) | ((with_reducible refine CallP.gate ?_); apply CallP.of)); (case h1 => (simp -implicitDefEqProofs (maxSteps := 2000000) only [m56_1, m56_2, m56_3, m56_4, m56_5, m56_6, m56_r, m56_b, m56, bl_take4 hb, bl_length, hb, bl_pur, bytes_back, UInt8.ofNat_toNat, h0, wk, act, asV, ↓reduceIte, Nat.reduceEqDiff, reduceCtorEq, Nat.reduceAdd, Nat.reduceLeDiff, Nat.reduceSub, Nat.reduceMul, List.reduceReplicate, Int.reduceEq, Int.reduceLT, Int.reduceLE, Int.reduceAdd, Int.reduceSub, Int.reduceMul, Nat.reduceLT, Int.reduceToNat]; first | done | (with_reducible rfl))); (case h2 => (first | exact ct | exact cg)); (case h3 => simp -implicitDefEqProofs (maxSteps := 2000000) only [m56_1, m56_2, m56_3, m56_4, m56_5, m56_6, m56_r, m56_b, m56, bl_take4 hb, bl_length, hb, bl_pur, bytes_back, UInt8.ofNat_toNat, h0, wk, act, asV, ↓reduceIte, Nat.reduceEqDiff, reduceCtorEq, Nat.reduceAdd, Nat.reduceLeDiff, Nat.reduceSub, Nat.reduceMul, List.reduceReplicate, Int.reduceEq, Int.reduceLT, Int.reduceLE, Int.reduceAdd, Int.reduceSub, Int.reduceMul, Nat.reduceLT, Int.reduceToNat])))

end Go.Proofs.YtilbipknodpmmaaDoor
/- Names: plain laws; plain. -/
set_option linter.unusedVariables false
set_option linter.unusedSimpArgs false
set_option maxRecDepth 100000
set_option maxHeartbeats 4000000
namespace Go.Proofs.YtilbipknodpmmaaDoor
open Go.RowKit

theorem pad4_trim {b : List UInt8} (hb : b.length = 4) : pad4 (trimR isZ b) = b := by
  match b, hb with
  | [b0, b1, b2, b3], _ =>
    by_cases h3 : b3 = 0
    · by_cases h2 : b2 = 0
      · by_cases h1 : b1 = 0
        · by_cases h0 : b0 = 0
          · simp [trimR, isZ, pad4, h0, h1, h2, h3]
          · simp [trimR, isZ, pad4, h0, h1, h2, h3]
        · simp [trimR, isZ, pad4, h1, h2, h3]
      · simp [trimR, isZ, pad4, h2, h3]
    · simp [trimR, isZ, pad4, h3]
theorem cutN_some {b s : List UInt8} (hb : b.length = 4) (h : cutN b = some s) : pad4 s = b ∧ (s = [] ∨ goodN s = true) ∧ s.length ≤ 4 := by
  unfold cutN at h
  split at h
  · rename_i hc
    injection h with h
    subst h
    exact ⟨pad4_trim hb, hc, by have := trimR_le isZ b; omega⟩
  · cases h
theorem trim_pad {s : List UInt8} (h : goodN s = true) : trimR isZ (pad4 s) = s := by
  simp only [goodN, Bool.and_eq_true, decide_eq_true_eq] at h
  obtain ⟨⟨h1, h2⟩, h3⟩ := h
  have hz : ∀ x ∈ s, x ≠ 0 := fun x hx => low_ne (List.all_eq_true.1 h3 x hx)
  match s with
  | [] => simp at h1
  | [a] => have := hz a (by simp); simp [trimR, isZ, pad4, this]
  | [a, b] => have := hz b (by simp); simp [trimR, isZ, pad4, this]
  | [a, b, c] => have := hz c (by simp); simp [trimR, isZ, pad4, this]
  | [a, b, c, d] => have := hz d (by simp); simp [trimR, isZ, pad4, this]
  | a :: b :: c :: d :: e :: s => simp at h2
theorem cutN_pad {s : List UInt8} (h : goodN s = true) : cutN (pad4 s) = some s := by
  unfold cutN
  rw [trim_pad h, if_pos (.inr h)]
theorem cutS_le {b : List UInt8} (hb : b.length = 4) : (cutS b).length ≤ 4 := by
  unfold cutS
  cases h : cutN b with
  | none => simp
  | some s => exact (cutN_some hb h).2.2
end Go.Proofs.YtilbipknodpmmaaDoor
/- Of the table: the volumes of a block. -/

set_option linter.unusedVariables false
set_option linter.unusedSimpArgs false
set_option maxRecDepth 100000
set_option maxHeartbeats 8000000
namespace Go.Proofs.YtilbipknodpmmaaDoor
open Go.RowKit

def nm4 (b : List UInt8) (o : Nat) : List UInt8 := [b.getD o 0, b.getD (o + 1) 0, b.getD (o + 2) 0, b.getD (o + 3) 0]
def blksAt (b : List UInt8) (o c : Nat) : List Int := (List.range c).map fun k => ((b.getD (o + k) 0).toNat : Int)
theorem blksAt_length (b : List UInt8) (o c : Nat) : (blksAt b o c).length = c := by simp [blksAt]
theorem blksAt_succ (b : List UInt8) (o c : Nat) : blksAt b o (c + 1) = blksAt b o c ++ [((b.getD (o + c) 0).toNat : Int)] := by simp [blksAt, List.range_succ]
def cntAt (b : List UInt8) (i : Nat) : Nat := (b.getD (1 + 9 * i + 4) 0).toNat
def volAt (b : List UInt8) (i : Nat) : Vol := ⟨cutS (nm4 b (1 + 9 * i)), blksAt b (1 + 9 * i + 5) (min (cntAt b i) 4)⟩
def volsTo (b : List UInt8) (n : Nat) : List Vol := (List.range n).map (volAt b)
theorem volsTo_length (b : List UInt8) (n : Nat) : (volsTo b n).length = n := by simp [volsTo]
theorem volsTo_succ (b : List UInt8) (n : Nat) : volsTo b (n + 1) = volsTo b n ++ [volAt b n] := by simp [volsTo, List.range_succ]
theorem volsTo_get (b : List UInt8) {n i : Nat} (h : i < (volsTo b n).length) : (volsTo b n)[i] = volAt b i := by simp [volsTo]
def saidV (b : List UInt8) : List Vol := volsTo b (b.getD 0 0).toNat
def isB (b : List UInt8) : Bool := decide ((b.getD 0 0).toNat ≤ 3) && goodV (saidV b) && decide (tabB (saidV b) = b)
def decV (b : List UInt8) : List Vol := if isB b = true then saidV b else []
def decVE (b : List UInt8) : Int := if isB b = true then 0 else 11
theorem decV_no {b : List UInt8} (h : isB b = false) : decV b = [] ∧ decVE b = 11 := by
  constructor
  · unfold decV; rw [if_neg (by rw [h]; decide)]
  · unfold decVE; rw [if_neg (by rw [h]; decide)]
theorem decV_yes {b : List UInt8} (h : isB b = true) : decV b = saidV b ∧ decVE b = 0 := by
  constructor
  · unfold decV; rw [if_pos h]
  · unfold decVE; rw [if_pos h]
theorem isB_of {b : List UInt8} (h1 : (b.getD 0 0).toNat ≤ 3) (h2 : goodV (saidV b) = true) (h3 : tabB (saidV b) = b) : isB b = true := by
  unfold isB; rw [decide_eq_true h1, h2, decide_eq_true h3]; rfl
theorem isB_split {b : List UInt8} (h : isB b = true) : (b.getD 0 0).toNat ≤ 3 ∧ goodV (saidV b) = true ∧ tabB (saidV b) = b := by
  simp only [isB, Bool.and_eq_true, decide_eq_true_eq] at h
  exact ⟨h.1.1, h.1.2, h.2⟩
theorem isB_no {b : List UInt8} (h : ¬ ((b.getD 0 0).toNat ≤ 3 ∧ goodV (saidV b) = true ∧ tabB (saidV b) = b)) : isB b = false := by
  cases hb : isB b with
  | true => exact absurd (isB_split hb) h
  | false => rfl
theorem tabB_get {vs : List Vol} {i r : Nat} (hi : i < vs.length) (hr : r < 9) : (tabB vs).getD (1 + 9 * i + r) 0 = (entV vs[i]).getD r 0 := by
  have e : entsV vs = entsV (vs.take i) ++ (entV vs[i] ++ entsV (vs.drop (i + 1))) := by
    conv => lhs; rw [← List.take_append_drop i vs, List.drop_eq_getElem_cons hi]
    simp only [entsV, List.flatMap_append, List.flatMap_cons]
  have l : (entsV (vs.take i)).length = 9 * i := by rw [entsV_length, List.length_take]; omega
  have l2 : (entV vs[i]).length = 9 := entV_length _
  unfold tabB
  rw [e, show 1 + 9 * i + r = (9 * i + r) + 1 by omega, List.getD_cons_succ]
  simp only [List.getD_eq_getElem?_getD]
  rw [List.append_assoc, List.getElem?_append_right (by omega), l, show 9 * i + r - 9 * i = r by omega, List.append_assoc, List.getElem?_append_left (by omega)]
theorem pad4_nm (v : Vol) : nm4 (entV v) 0 = pad4 v.name := by
  have hl := pad4_length v.name
  match hp : pad4 v.name, hl with
  | [a, b, c, d], _ => simp [nm4, entV, hp]
theorem entV_cnt (v : Vol) : (entV v).getD 4 0 = u8 v.blocks.length := by
  have hl := pad4_length v.name
  match hp : pad4 v.name, hl with
  | [a, b, c, d], _ => simp [entV, hp]
theorem entV_blk (v : Vol) {k : Nat} (h : k < 4) : (entV v).getD (5 + k) 0 = u8 (v.blocks.getD k 0).toNat := by
  have hl := pad4_length v.name
  match hp : pad4 v.name, hl with
  | [a, b, c, d], _ =>
    have : k = 0 ∨ k = 1 ∨ k = 2 ∨ k = 3 := by omega
    rcases this with rfl | rfl | rfl | rfl <;> simp [entV, hp, bk4]
theorem tabB_nm {vs : List Vol} {i : Nat} (hi : i < vs.length) : nm4 (tabB vs) (1 + 9 * i) = pad4 vs[i].name := by
  rw [← pad4_nm]
  have h0 := tabB_get hi (r := 0) (by decide)
  have h1 := tabB_get hi (r := 1) (by decide)
  have h2 := tabB_get hi (r := 2) (by decide)
  have h3 := tabB_get hi (r := 3) (by decide)
  simp only [Nat.add_zero] at h0
  simp only [nm4, h0, h1, h2, h3, Nat.zero_add]
theorem tabB_cnt {vs : List Vol} {i : Nat} (hi : i < vs.length) : (tabB vs).getD (1 + 9 * i + 4) 0 = u8 vs[i].blocks.length := by
  rw [tabB_get hi (by decide), entV_cnt]
theorem tabB_blk {vs : List Vol} {i k : Nat} (hi : i < vs.length) (hk : k < 4) : (tabB vs).getD (1 + 9 * i + (5 + k)) 0 = u8 (vs[i].blocks.getD k 0).toNat := by
  rw [tabB_get hi (by omega), entV_blk _ hk]
theorem cutO_pad {s : List UInt8} (h : goodN s = true) : cutO (pad4 s) = true ∧ cutS (pad4 s) = s := by
  have := cutN_pad h
  constructor
  · unfold cutO; rw [this]; rfl
  · unfold cutS; rw [this]; rfl
theorem isB_at {b : List UInt8} (h : isB b = true) {i : Nat} (hi : i < (b.getD 0 0).toNat) : cutO (nm4 b (1 + 9 * i)) = true ∧ cntAt b i ≤ 4 := by
  obtain ⟨h1, h2, h3⟩ := isB_split h
  have hl : i < (saidV b).length := by simpa [saidV, volsTo_length] using hi
  obtain ⟨hn, hb1, hb4, _⟩ := volP_bl ((goodV_P h2).at hl)
  have e1 := tabB_nm hl
  have e2 := tabB_cnt hl
  rw [h3] at e1 e2
  constructor
  · rw [e1]; exact (cutO_pad hn).1
  · unfold cntAt; rw [e2, u8_toNat]; omega
theorem saidV_tabB {vs : List Vol} (h : goodV vs = true) : saidV (tabB vs) = vs := by
  have h3 := goodV_len h
  have gp := goodV_P h
  have hn : ((tabB vs).getD 0 0).toNat = vs.length := by
    show (u8 vs.length).toNat = vs.length
    rw [u8_toNat]; omega
  unfold saidV
  rw [hn]
  apply List.ext_getElem
  · rw [volsTo_length]
  · intro i h1 h2
    rw [volsTo_get]
    obtain ⟨hnm, hb1, hb4, hin⟩ := volP_bl (gp.at h2)
    have e1 := tabB_nm h2
    have e2 := tabB_cnt h2
    have ec : cntAt (tabB vs) i = vs[i].blocks.length := by unfold cntAt; rw [e2, u8_toNat]; omega
    unfold volAt
    rw [e1, (cutO_pad hnm).2, ec, Nat.min_eq_left hb4]
    have eb : blksAt (tabB vs) (1 + 9 * i + 5) vs[i].blocks.length = vs[i].blocks := by
      apply List.ext_getElem
      · rw [blksAt_length]
      · intro k k1 k2
        have := tabB_blk (k := k) h2 (by omega)
        simp only [blksAt, List.getElem_map, List.getElem_range]
        rw [show 1 + 9 * i + 5 + k = 1 + 9 * i + (5 + k) by omega, this, u8_toNat]
        have hb := List.all_eq_true.1 hin _ (List.getElem_mem k2)
        have hb : 1 ≤ vs[i].blocks[k] ∧ vs[i].blocks[k] < 12 := by simpa [inB] using hb
        have eg : vs[i].blocks.getD k 0 = vs[i].blocks[k] := by simp [List.getD, k2]
        rw [eg]; omega
    rw [eb]
theorem isB_tabB {vs : List Vol} (h : goodV vs = true) : isB (tabB vs) = true := by
  have h3 := goodV_len h
  have hs := saidV_tabB h
  refine isB_of ?_ (by rw [hs]; exact h) (by rw [hs])
  show (u8 vs.length).toNat ≤ 3
  rw [u8_toNat]; omega
theorem decV_tabB {vs : List Vol} (h : goodV vs = true) : decV (tabB vs) = vs ∧ decVE (tabB vs) = 0 := by
  obtain ⟨h1, h2⟩ := decV_yes (isB_tabB h)
  exact ⟨h1.trans (saidV_tabB h), h2⟩
theorem volAt_ok (b : List UInt8) (i : Nat) : (volAt b i).name.length < 2 ^ 63 ∧ (volAt b i).blocks.length ≤ 4 := by
  constructor
  · have := cutS_le (b := nm4 b (1 + 9 * i)) rfl
    show (cutS (nm4 b (1 + 9 * i))).length < 2 ^ 63
    omega
  · show (blksAt _ _ _).length ≤ 4
    rw [blksAt_length]; omega
theorem volsTo_ok (b : List UInt8) {n : Nat} (hn : n < 256) : VsOk (volsTo b n) := by
  refine ⟨by rw [volsTo_length]; omega, ?_, ?_⟩
  · intro v hv
    obtain ⟨i, _, rfl⟩ := List.mem_map.1 hv
    exact (volAt_ok b i).1
  · intro v hv
    obtain ⟨i, _, rfl⟩ := List.mem_map.1 hv
    have := (volAt_ok b i).2
    omega
theorem at_bl {b : List UInt8} {k : Nat} (h : k < b.length) : List.take 1 (List.drop k (bl b)) = [.int .u8 ((b.getD k 0).toNat : Int)] := by
  rw [drop_bl h]; simp [List.getD, h]
theorem at4_bl {b : List UInt8} {k : Nat} (h : k + 4 ≤ b.length) : List.take 4 (List.drop k (bl b)) = bl (nm4 b k) := by
  rw [bl_drop, bl_take]
  congr 1
  apply List.ext_getElem
  · simp [nm4]; omega
  · intro i h1 h2
    simp only [nm4, List.length_cons, List.length_nil] at h2
    have hi : i = 0 ∨ i = 1 ∨ i = 2 ∨ i = 3 := by omega
    have e : ∀ j (hj : j < 4), b.getD (k + j) 0 = b[k + j]'(by omega) := fun j hj => by
      have hkj : k + j < b.length := by omega
      simp [List.getD, hkj]
    rcases hi with rfl | rfl | rfl | rfl <;> simp [nm4, List.getElem_take, List.getElem_drop]
    · exact (e 0 (by decide)).symm
    · exact (e 1 (by decide)).symm
    · exact (e 2 (by decide)).symm
    · exact (e 3 (by decide)).symm
end Go.Proofs.YtilbipknodpmmaaDoor
