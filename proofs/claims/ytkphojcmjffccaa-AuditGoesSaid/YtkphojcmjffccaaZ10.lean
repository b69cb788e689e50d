/- sha.Sum: ahead of its loop, and behind. -/
import Derived.Test.YtkphojcmjffccaaZ8
import Derived.Test.YtkphojcmjffccaaZ2
import Derived.Test.YtkphojcmjffccaaS10
import Derived.Test.YtkphojcmjffccaaE31
set_option linter.unusedSectionVars false
set_option linter.unusedVariables false
set_option linter.unusedSimpArgs false
set_option maxRecDepth 100000
set_option maxHeartbeats 8000000
namespace Go.Proofs.Ytkphojcmjffccaa
open Go.RowKit

theorem ahead (f : Fl) (hf : ¬ f = .lit) (ps : List (Fl × List UInt8)) (hn : ps.length < 2 ^ 63) (hl : (joined ps).length ≤ 2 ^ 40) (Q : Ex → St → Prop)
    (q : ∀ s : St, ∀ v2 v4, s.t 2 = .ptr 2 0 v2 → s.h 2 = ⟨v2, true, true, false, bl (zb 32)⟩ → s.t 4 = .ptr 4 0 v4 → s.h 4 = ⟨v4, true, true, false, wl start8.l⟩ → s.t 19 = .clo 47 [.addr [.sl .plain ((joined ps).length + (padB (joined ps).length).length) (bl (joined ps) ++ bl (padB (joined ps).length))], .addr [.int .i64 64]] → Q .normal s) :
    Wp (RCs Try.prog) (.seq ma_0 (.seq ma_1 (.seq ma_2 ma_3))) Q (St.start [.sl f ps.length (pl ps)]) := by
  have cc := concat_ok f ps (by omega) hn
  obtain ⟨W, hW⟩ : ∃ W, W = joined ps := ⟨_, rfl⟩
  rw [← hW] at cc hl q
  have wu : IntKind.u64.wrap (W.length : Int) = W.length := wrapN .u64 (by simp [vbits, IntKind.signed, IntKind.bits]; omega)
  have cp := shaPad_ok W.length (by omega)
  have hpl := padB_length W.length
  have hz : padZ W.length < 64 := Nat.mod_lt _ (by decide)
  obtain ⟨G, hG⟩ : ∃ G, G = padB W.length := ⟨_, rfl⟩
  rw [← hG] at cp hpl q
  have ck := chunk_ok .plain (W.length + G.length) (bl W ++ bl G)
  have tG := take_bl G
  have tW := take_bl W
  have tWG : List.take (W.length + G.length) (bl W ++ bl G) = bl W ++ bl G := List.take_of_length_le (by rw [List.length_append, bl_length, bl_length]; exact Nat.le_refl _)
  have r1 : roomy G.length 1 = true := roomyB (by omega)
  have r2 : roomy (W.length + G.length) 1 = true := roomyB (by omega)
  have l8 : (wl start8.l).length = 8 := rfl
  have t8 : List.take 8 (wl start8.l) = wl start8.l := rfl
  have d8 : List.drop 8 (wl start8.l) = [] := rfl
  cases f with
  | lit => exact absurd rfl hf
  | _ =>
   repeat' (first | simp -implicitDefEqProofs (maxSteps := 2000000) only [ma_0, ma_1, ma_2, ma_3, wu, tG, tW, tWG, r1, r2, l8, t8, d8, wl_scal, bl_length, bl_pur, bl_scal, List.length_append, wk, act, asV, ↓reduceIte, Nat.reduceEqDiff, reduceCtorEq, Nat.reduceAdd, Nat.reduceLeDiff, Nat.reduceSub, Nat.reduceMul, List.reduceReplicate, Int.reduceEq, Int.reduceLT, Int.reduceLE, Int.reduceAdd, Int.reduceSub, Int.reduceMul, Nat.reduceLT, Int.reduceToNat] | ((first | ((with_reducible refine CallL.gate ?_); apply CallL.of) | ((with_reducible refine CallpL.gate ?_); apply CallpL.of) | ((with_reducible refine CallP.gate ?_); apply CallP.of) | ((with_reducible refine CallpP.gate ?_); apply CallpP.of)); (case h1 => (simp -implicitDefEqProofs (maxSteps := 2000000) only [ma_0, ma_1, ma_2, ma_3, wu, tG, tW, tWG, r1, r2, l8, t8, d8, wl_scal, bl_length, bl_pur, bl_scal, List.length_append, wk, act, asV, ↓reduceIte, Nat.reduceEqDiff, reduceCtorEq, Nat.reduceAdd, Nat.reduceLeDiff, Nat.reduceSub, Nat.reduceMul, List.reduceReplicate, Int.reduceEq, Int.reduceLT, Int.reduceLE, Int.reduceAdd, Int.reduceSub, Int.reduceMul, Nat.reduceLT, Int.reduceToNat]; first | done | (with_reducible rfl))); (case h2 => (first | exact cc | exact start_ok | exact cp | exact ck)); (case h3 => simp -implicitDefEqProofs (maxSteps := 2000000) only [ma_0, ma_1, ma_2, ma_3, wu, tG, tW, tWG, r1, r2, l8, t8, d8, wl_scal, bl_length, bl_pur, bl_scal, List.length_append, wk, act, asV, ↓reduceIte, Nat.reduceEqDiff, reduceCtorEq, Nat.reduceAdd, Nat.reduceLeDiff, Nat.reduceSub, Nat.reduceMul, List.reduceReplicate, Int.reduceEq, Int.reduceLT, Int.reduceLE, Int.reduceAdd, Int.reduceSub, Int.reduceMul, Nat.reduceLT, Int.reduceToNat])))
   refine q _ _ _ (by simp -implicitDefEqProofs (maxSteps := 2000000) only [wk, act, asV, ↓reduceIte, Nat.reduceEqDiff, reduceCtorEq, Nat.reduceAdd, Nat.reduceLeDiff, Nat.reduceSub, Nat.reduceMul, List.reduceReplicate, Int.reduceEq, Int.reduceLT, Int.reduceLE, Int.reduceAdd, Int.reduceSub, Int.reduceMul, Nat.reduceLT, Int.reduceToNat]; first | done | rfl) (by simp -implicitDefEqProofs (maxSteps := 2000000) only [wk, act, asV, ↓reduceIte, Nat.reduceEqDiff, reduceCtorEq, Nat.reduceAdd, Nat.reduceLeDiff, Nat.reduceSub, Nat.reduceMul, List.reduceReplicate, Int.reduceEq, Int.reduceLT, Int.reduceLE, Int.reduceAdd, Int.reduceSub, Int.reduceMul, Nat.reduceLT, Int.reduceToNat]; first | done | rfl) (by simp -implicitDefEqProofs (maxSteps := 2000000) only [wk, act, asV, ↓reduceIte, Nat.reduceEqDiff, reduceCtorEq, Nat.reduceAdd, Nat.reduceLeDiff, Nat.reduceSub, Nat.reduceMul, List.reduceReplicate, Int.reduceEq, Int.reduceLT, Int.reduceLE, Int.reduceAdd, Int.reduceSub, Int.reduceMul, Nat.reduceLT, Int.reduceToNat]; first | done | rfl) (by simp -implicitDefEqProofs (maxSteps := 2000000) only [wk, act, asV, ↓reduceIte, Nat.reduceEqDiff, reduceCtorEq, Nat.reduceAdd, Nat.reduceLeDiff, Nat.reduceSub, Nat.reduceMul, List.reduceReplicate, Int.reduceEq, Int.reduceLT, Int.reduceLE, Int.reduceAdd, Int.reduceSub, Int.reduceMul, Nat.reduceLT, Int.reduceToNat]; first | done | rfl) (by simp -implicitDefEqProofs (maxSteps := 2000000) only [wk, act, asV, ↓reduceIte, Nat.reduceEqDiff, reduceCtorEq, Nat.reduceAdd, Nat.reduceLeDiff, Nat.reduceSub, Nat.reduceMul, List.reduceReplicate, Int.reduceEq, Int.reduceLT, Int.reduceLE, Int.reduceAdd, Int.reduceSub, Int.reduceMul, Nat.reduceLT, Int.reduceToNat])

theorem behind_in (L : List UInt32) (hL : L.length = 8) {i : Nat} (hi8 : i < 8) (Q : Ex → St → Prop) (s1 : St)
    (q1 : ∀ s2 : St, s2.t 2 = s1.t 2 → s2.h 2 = s1.h 2 → s2.t 26 = s1.t 26 → s2.t 27 = s1.t 27 → (∃ v6, s2.t 6 = .ptr 6 0 v6 ∧ s2.h 6 = ⟨v6, true, true, false, bl ((digest L).take (4 * (i + 1)) ++ zb (32 - 4 * (i + 1)))⟩) → Q (.exit 4) s2)
    (k7 : s1.t 7 = .int .i64 i) (k8 : s1.t 8 = .int .u32 ((L.getD i 0).toNat : Int)) (k31 : s1.t 31 = .int .i64 0) (k6 : ∃ v6, s1.t 6 = .ptr 6 0 v6 ∧ s1.h 6 = ⟨v6, true, true, false, bl ((digest L).take (4 * i) ++ zb (32 - 4 * i))⟩) :
    Wp (RCs Try.prog) (.loop mb_4) Q s1 := by
  refine Wp_loop (fun m s => ∃ k, k ≤ 4 ∧ m = 4 - k ∧ s.t 2 = s1.t 2 ∧ s.h 2 = s1.h 2 ∧ s.t 26 = s1.t 26 ∧ s.t 27 = s1.t 27 ∧ s.t 7 = .int .i64 i ∧ s.t 8 = .int .u32 ((L.getD i 0).toNat : Int) ∧ s.t 31 = .int .i64 (k : Nat) ∧ ∃ v6, s.t 6 = .ptr 6 0 v6 ∧ s.h 6 = ⟨v6, true, true, false, bl ((digest L).take (4 * i + k) ++ zb (32 - (4 * i + k)))⟩) 4 ⟨0, by omega, rfl, rfl, rfl, rfl, rfl, k7, k8, k31, by simpa using k6⟩ ?_
  clear k7 k8 k31 k6
  rintro m s ⟨k, hk, rfl, k2, kh2, k26, k27, k7, k8, k31, v6, k6, kh6⟩
  by_cases hk4 : k < 4
  · have hk4' : (k : Int) < 4 := by omega
    obtain ⟨j, hj⟩ : ∃ j, j = 4 * i + k := ⟨_, rfl⟩
    have hj32 : j < 32 := by omega
    have hj32' : (j : Int) < 32 := by omega
    have hj31 : j ≤ 31 := by omega
    have hq : j / 4 = i := by omega
    have hm : j % 4 = k := by omega
    rw [← hj] at kh6
    have w4 : IntKind.i64.wrap (4 * (i : Int)) = ((4 * i : Nat) : Int) := by rw [IntKind.wrap_i64]; omega
    have wj : IntKind.i64.wrap (((4 * i : Nat) : Int) + (k : Int)) = (j : Int) := by rw [IntKind.wrap_i64]; omega
    have w8 : IntKind.i64.wrap (8 * (k : Int)) = ((8 * k : Nat) : Int) := by rw [IntKind.wrap_i64]; omega
    have w24 : IntKind.i64.wrap (24 - ((8 * k : Nat) : Int)) = ((24 - 8 * k : Nat) : Int) := by rw [IntKind.wrap_i64]; omega
    obtain ⟨y, hy⟩ : ∃ y, y = L.getD i 0 := ⟨_, rfl⟩
    rw [← hy] at k8
    have sr : shI .shr .u32 (y.toNat : Int) ((24 - 8 * k : Nat) : Int) = some (.int .u32 ((y.toNat >>> (24 - 8 * k) : Nat) : Int)) := shI_shr .u32 (by show 24 - 8 * k ≤ 32; omega)
    have wb : IntKind.u8.wrap ((y.toNat >>> (24 - 8 * k) : Nat) : Int) = ((u8 (y.toNat >>> (24 - 8 * k))).toNat : Int) := wrap_u8 _
    have et : (digest L).take (j + 1) = (digest L).take j ++ [u8 (y.toNat >>> (24 - 8 * k))] := by rw [digest_take L hj32, hq, hm, hy]
    have hWl : ((digest L).take j).length = j := by rw [List.length_take, digest_length]; omega
    rw [show 32 - j = (32 - (j + 1)) + 1 by omega] at kh6
    have gr := grow8 ((digest L).take j) (32 - (j + 1)) j hWl (u8 (y.toNat >>> (24 - 8 * k)))
    rw [← et] at gr
    have hcl : (bl ((digest L).take j ++ zb (32 - (j + 1) + 1))).length = 32 := by rw [bl_length, List.length_append, hWl]; simp [zb]; omega
    simp -implicitDefEqProofs (maxSteps := 2000000) only [k2, kh2, k26, k27, k7, k8, k31, k6, kh6, hk4', hj32', hj31, w4, wj, w8, w24, sr, wb, gr, hcl, mb_1, mb_2, mb_3, mb_4, wrap_nat (show k < 2 ^ 63 - 1 by omega), wk, act, asV, ↓reduceIte, Nat.reduceEqDiff, reduceCtorEq, Nat.reduceAdd, Nat.reduceLeDiff, Nat.reduceSub, Nat.reduceMul, List.reduceReplicate, Int.reduceEq, Int.reduceLT, Int.reduceLE, Int.reduceAdd, Int.reduceSub, Int.reduceMul, Nat.reduceLT, Int.reduceToNat]
    exact ⟨4 - (k + 1), by omega, k + 1, by omega, rfl, by rw [hy], rfl, v6, rfl, by rw [show 4 * i + (k + 1) = j + 1 by omega]⟩
  · obtain rfl : k = 4 := by omega
    simp -implicitDefEqProofs (maxSteps := 2000000) only [k31, mb_1, mb_2, mb_3, mb_4, wk, act, asV, ↓reduceIte, Nat.reduceEqDiff, reduceCtorEq, Nat.reduceAdd, Nat.reduceLeDiff, Nat.reduceSub, Nat.reduceMul, List.reduceReplicate, Int.reduceEq, Int.reduceLT, Int.reduceLE, Int.reduceAdd, Int.reduceSub, Int.reduceMul, Nat.reduceLT, Int.reduceToNat]
    exact q1 _ (by simp -implicitDefEqProofs (maxSteps := 2000000) only [k2, wk, act, asV, ↓reduceIte, Nat.reduceEqDiff, reduceCtorEq, Nat.reduceAdd, Nat.reduceLeDiff, Nat.reduceSub, Nat.reduceMul, List.reduceReplicate, Int.reduceEq, Int.reduceLT, Int.reduceLE, Int.reduceAdd, Int.reduceSub, Int.reduceMul, Nat.reduceLT, Int.reduceToNat]) (by simp -implicitDefEqProofs (maxSteps := 2000000) only [kh2, wk, act, asV, ↓reduceIte, Nat.reduceEqDiff, reduceCtorEq, Nat.reduceAdd, Nat.reduceLeDiff, Nat.reduceSub, Nat.reduceMul, List.reduceReplicate, Int.reduceEq, Int.reduceLT, Int.reduceLE, Int.reduceAdd, Int.reduceSub, Int.reduceMul, Nat.reduceLT, Int.reduceToNat]) (by simp -implicitDefEqProofs (maxSteps := 2000000) only [k26, wk, act, asV, ↓reduceIte, Nat.reduceEqDiff, reduceCtorEq, Nat.reduceAdd, Nat.reduceLeDiff, Nat.reduceSub, Nat.reduceMul, List.reduceReplicate, Int.reduceEq, Int.reduceLT, Int.reduceLE, Int.reduceAdd, Int.reduceSub, Int.reduceMul, Nat.reduceLT, Int.reduceToNat]) (by simp -implicitDefEqProofs (maxSteps := 2000000) only [k27, wk, act, asV, ↓reduceIte, Nat.reduceEqDiff, reduceCtorEq, Nat.reduceAdd, Nat.reduceLeDiff, Nat.reduceSub, Nat.reduceMul, List.reduceReplicate, Int.reduceEq, Int.reduceLT, Int.reduceLE, Int.reduceAdd, Int.reduceSub, Int.reduceMul, Nat.reduceLT, Int.reduceToNat]) ⟨v6, by simp -implicitDefEqProofs (maxSteps := 2000000) only [k6, wk, act, asV, ↓reduceIte, Nat.reduceEqDiff, reduceCtorEq, Nat.reduceAdd, Nat.reduceLeDiff, Nat.reduceSub, Nat.reduceMul, List.reduceReplicate, Int.reduceEq, Int.reduceLT, Int.reduceLE, Int.reduceAdd, Int.reduceSub, Int.reduceMul, Nat.reduceLT, Int.reduceToNat], by rw [show 4 * (i + 1) = 4 * i + 4 by omega]; simp -implicitDefEqProofs (maxSteps := 2000000) only [kh6, wk, act, asV, ↓reduceIte, Nat.reduceEqDiff, reduceCtorEq, Nat.reduceAdd, Nat.reduceLeDiff, Nat.reduceSub, Nat.reduceMul, List.reduceReplicate, Int.reduceEq, Int.reduceLT, Int.reduceLE, Int.reduceAdd, Int.reduceSub, Int.reduceMul, Nat.reduceLT, Int.reduceToNat]⟩

theorem behind_out (L : List UInt32) (hL : L.length = 8) (Q : Ex → St → Prop) (s1 : St)
    (q1 : ∀ s2 : St, s2.t 2 = s1.t 2 → s2.h 2 = s1.h 2 → (∃ v6, s2.t 6 = .ptr 6 0 v6 ∧ s2.h 6 = ⟨v6, true, true, false, bl (digest L)⟩) → Q (.exit 2) s2)
    (k26 : s1.t 26 = .agg (wl L)) (k27 : s1.t 27 = .int .i64 0) (k6 : ∃ v6, s1.t 6 = .ptr 6 0 v6 ∧ s1.h 6 = ⟨v6, true, true, false, bl (zb 32)⟩) :
    Wp (RCs Try.prog) (.loop mb_9) Q s1 := by
  refine Wp_loop (fun m s => ∃ i, i ≤ 8 ∧ m = 8 - i ∧ s.t 2 = s1.t 2 ∧ s.h 2 = s1.h 2 ∧ s.t 26 = .agg (wl L) ∧ s.t 27 = .int .i64 (i : Nat) ∧ ∃ v6, s.t 6 = .ptr 6 0 v6 ∧ s.h 6 = ⟨v6, true, true, false, bl ((digest L).take (4 * i) ++ zb (32 - 4 * i))⟩) 8 ⟨0, by omega, rfl, rfl, rfl, k26, k27, by simpa using k6⟩ ?_
  clear k26 k27 k6
  rintro m s ⟨i, hi, rfl, k2, kh2, k26, k27, v6, k6, kh6⟩
  by_cases hi8 : i < 8
  · have hi8' : (i : Int) < 8 := by omega
    have hi7 : i ≤ 7 := by omega
    have aw := at_wl (xs := L) (k := i) (by omega)
    have lw : (wl L).length = 8 := by rw [wl_length, hL]
    simp -implicitDefEqProofs (maxSteps := 2000000) only [k2, kh2, k26, k27, k6, kh6, hi8', hi7, aw, lw, mb_5, mb_6, mb_7, mb_8, mb_9, wk, act, asV, ↓reduceIte, Nat.reduceEqDiff, reduceCtorEq, Nat.reduceAdd, Nat.reduceLeDiff, Nat.reduceSub, Nat.reduceMul, List.reduceReplicate, Int.reduceEq, Int.reduceLT, Int.reduceLE, Int.reduceAdd, Int.reduceSub, Int.reduceMul, Nat.reduceLT, Int.reduceToNat]
    refine behind_in L hL hi8 _ _ ?_ (by simp -implicitDefEqProofs (maxSteps := 2000000) only [wk, act, asV, ↓reduceIte, Nat.reduceEqDiff, reduceCtorEq, Nat.reduceAdd, Nat.reduceLeDiff, Nat.reduceSub, Nat.reduceMul, List.reduceReplicate, Int.reduceEq, Int.reduceLT, Int.reduceLE, Int.reduceAdd, Int.reduceSub, Int.reduceMul, Nat.reduceLT, Int.reduceToNat]) (by simp -implicitDefEqProofs (maxSteps := 2000000) only [wk, act, asV, ↓reduceIte, Nat.reduceEqDiff, reduceCtorEq, Nat.reduceAdd, Nat.reduceLeDiff, Nat.reduceSub, Nat.reduceMul, List.reduceReplicate, Int.reduceEq, Int.reduceLT, Int.reduceLE, Int.reduceAdd, Int.reduceSub, Int.reduceMul, Nat.reduceLT, Int.reduceToNat]) (by simp -implicitDefEqProofs (maxSteps := 2000000) only [wk, act, asV, ↓reduceIte, Nat.reduceEqDiff, reduceCtorEq, Nat.reduceAdd, Nat.reduceLeDiff, Nat.reduceSub, Nat.reduceMul, List.reduceReplicate, Int.reduceEq, Int.reduceLT, Int.reduceLE, Int.reduceAdd, Int.reduceSub, Int.reduceMul, Nat.reduceLT, Int.reduceToNat]) ⟨v6, by simp -implicitDefEqProofs (maxSteps := 2000000) only [k6, wk, act, asV, ↓reduceIte, Nat.reduceEqDiff, reduceCtorEq, Nat.reduceAdd, Nat.reduceLeDiff, Nat.reduceSub, Nat.reduceMul, List.reduceReplicate, Int.reduceEq, Int.reduceLT, Int.reduceLE, Int.reduceAdd, Int.reduceSub, Int.reduceMul, Nat.reduceLT, Int.reduceToNat], by simp -implicitDefEqProofs (maxSteps := 2000000) only [kh6, wk, act, asV, ↓reduceIte, Nat.reduceEqDiff, reduceCtorEq, Nat.reduceAdd, Nat.reduceLeDiff, Nat.reduceSub, Nat.reduceMul, List.reduceReplicate, Int.reduceEq, Int.reduceLT, Int.reduceLE, Int.reduceAdd, Int.reduceSub, Int.reduceMul, Nat.reduceLT, Int.reduceToNat]⟩
    rintro s2 e2 eh2 e26 e27 ⟨v6', e6, eh6⟩
    simp -implicitDefEqProofs (maxSteps := 2000000) only [k2, wk, act, asV, ↓reduceIte, Nat.reduceEqDiff, reduceCtorEq, Nat.reduceAdd, Nat.reduceLeDiff, Nat.reduceSub, Nat.reduceMul, List.reduceReplicate, Int.reduceEq, Int.reduceLT, Int.reduceLE, Int.reduceAdd, Int.reduceSub, Int.reduceMul, Nat.reduceLT, Int.reduceToNat] at e2
    simp -implicitDefEqProofs (maxSteps := 2000000) only [kh2, wk, act, asV, ↓reduceIte, Nat.reduceEqDiff, reduceCtorEq, Nat.reduceAdd, Nat.reduceLeDiff, Nat.reduceSub, Nat.reduceMul, List.reduceReplicate, Int.reduceEq, Int.reduceLT, Int.reduceLE, Int.reduceAdd, Int.reduceSub, Int.reduceMul, Nat.reduceLT, Int.reduceToNat] at eh2
    simp -implicitDefEqProofs (maxSteps := 2000000) only [k26, wk, act, asV, ↓reduceIte, Nat.reduceEqDiff, reduceCtorEq, Nat.reduceAdd, Nat.reduceLeDiff, Nat.reduceSub, Nat.reduceMul, List.reduceReplicate, Int.reduceEq, Int.reduceLT, Int.reduceLE, Int.reduceAdd, Int.reduceSub, Int.reduceMul, Nat.reduceLT, Int.reduceToNat] at e26
    simp -implicitDefEqProofs (maxSteps := 2000000) only [k27, wk, act, asV, ↓reduceIte, Nat.reduceEqDiff, reduceCtorEq, Nat.reduceAdd, Nat.reduceLeDiff, Nat.reduceSub, Nat.reduceMul, List.reduceReplicate, Int.reduceEq, Int.reduceLT, Int.reduceLE, Int.reduceAdd, Int.reduceSub, Int.reduceMul, Nat.reduceLT, Int.reduceToNat] at e27
    simp -implicitDefEqProofs (maxSteps := 2000000) only [e2, eh2, e26, e27, e6, eh6, wrap_nat (show i < 2 ^ 63 - 1 by omega), wk, act, asV, ↓reduceIte, Nat.reduceEqDiff, reduceCtorEq, Nat.reduceAdd, Nat.reduceLeDiff, Nat.reduceSub, Nat.reduceMul, List.reduceReplicate, Int.reduceEq, Int.reduceLT, Int.reduceLE, Int.reduceAdd, Int.reduceSub, Int.reduceMul, Nat.reduceLT, Int.reduceToNat]
    exact ⟨8 - (i + 1), by omega, i + 1, by omega, rfl, rfl, v6', rfl, rfl⟩
  · obtain rfl : i = 8 := by omega
    have e : (digest L).take (4 * 8) ++ zb (32 - 4 * 8) = digest L := by rw [List.take_of_length_le (by rw [digest_length]; decide)]; simp [zb]
    rw [e] at kh6
    simp -implicitDefEqProofs (maxSteps := 2000000) only [k27, mb_8, mb_9, wk, act, asV, ↓reduceIte, Nat.reduceEqDiff, reduceCtorEq, Nat.reduceAdd, Nat.reduceLeDiff, Nat.reduceSub, Nat.reduceMul, List.reduceReplicate, Int.reduceEq, Int.reduceLT, Int.reduceLE, Int.reduceAdd, Int.reduceSub, Int.reduceMul, Nat.reduceLT, Int.reduceToNat]
    exact q1 _ (by simp -implicitDefEqProofs (maxSteps := 2000000) only [k2, wk, act, asV, ↓reduceIte, Nat.reduceEqDiff, reduceCtorEq, Nat.reduceAdd, Nat.reduceLeDiff, Nat.reduceSub, Nat.reduceMul, List.reduceReplicate, Int.reduceEq, Int.reduceLT, Int.reduceLE, Int.reduceAdd, Int.reduceSub, Int.reduceMul, Nat.reduceLT, Int.reduceToNat]) (by simp -implicitDefEqProofs (maxSteps := 2000000) only [kh2, wk, act, asV, ↓reduceIte, Nat.reduceEqDiff, reduceCtorEq, Nat.reduceAdd, Nat.reduceLeDiff, Nat.reduceSub, Nat.reduceMul, List.reduceReplicate, Int.reduceEq, Int.reduceLT, Int.reduceLE, Int.reduceAdd, Int.reduceSub, Int.reduceMul, Nat.reduceLT, Int.reduceToNat]) ⟨v6, by simp -implicitDefEqProofs (maxSteps := 2000000) only [k6, wk, act, asV, ↓reduceIte, Nat.reduceEqDiff, reduceCtorEq, Nat.reduceAdd, Nat.reduceLeDiff, Nat.reduceSub, Nat.reduceMul, List.reduceReplicate, Int.reduceEq, Int.reduceLT, Int.reduceLE, Int.reduceAdd, Int.reduceSub, Int.reduceMul, Nat.reduceLT, Int.reduceToNat], by simp -implicitDefEqProofs (maxSteps := 2000000) only [kh6, wk, act, asV, ↓reduceIte, Nat.reduceEqDiff, reduceCtorEq, Nat.reduceAdd, Nat.reduceLeDiff, Nat.reduceSub, Nat.reduceMul, List.reduceReplicate, Int.reduceEq, Int.reduceLT, Int.reduceLE, Int.reduceAdd, Int.reduceSub, Int.reduceMul, Nat.reduceLT, Int.reduceToNat]⟩

theorem behind (L : List UInt32) (hL : L.length = 8) {v2 v4 : Nat} (Q : Ex → St → Prop) (s : St) (q : ∀ s2 : St, s2.t 2 = .ptr 2 0 v2 → s2.h 2 = ⟨v2, true, true, false, bl (digest L)⟩ → Q .ret s2)
    (k2 : s.t 2 = .ptr 2 0 v2) (kh2 : s.h 2 = ⟨v2, true, true, false, bl (zb 32)⟩) (k4 : s.t 4 = .ptr 4 0 v4) (kh4 : s.h 4 = ⟨v4, true, true, false, wl L⟩) : Wp (RCs Try.prog) mb_b Q s := by
  have lw : (wl L).length = 8 := by rw [wl_length, hL]
  have tw : List.take 8 (wl L) = wl L := List.take_of_length_le (by omega)
  have dl := digest_length L
  have db : (bl (digest L)).length = 32 := by rw [bl_length, dl]
  have dt : List.take 32 (bl (digest L)) = bl (digest L) := List.take_of_length_le (by omega)
  have dd : List.drop 32 (bl (digest L)) = [] := List.drop_of_length_le (by omega)
  have zl : (bl (zb 32)).length = 32 := rfl
  have zd : List.drop 32 (bl (zb 32)) = [] := rfl
  simp -implicitDefEqProofs (maxSteps := 2000000) only [k2, kh2, k4, kh4, lw, tw, mb_b, mb_10, mb_11, mb_12, wk, act, asV, ↓reduceIte, Nat.reduceEqDiff, reduceCtorEq, Nat.reduceAdd, Nat.reduceLeDiff, Nat.reduceSub, Nat.reduceMul, List.reduceReplicate, Int.reduceEq, Int.reduceLT, Int.reduceLE, Int.reduceAdd, Int.reduceSub, Int.reduceMul, Nat.reduceLT, Int.reduceToNat]
  refine behind_out L hL _ _ ?_ (by simp -implicitDefEqProofs (maxSteps := 2000000) only [wk, act, asV, ↓reduceIte, Nat.reduceEqDiff, reduceCtorEq, Nat.reduceAdd, Nat.reduceLeDiff, Nat.reduceSub, Nat.reduceMul, List.reduceReplicate, Int.reduceEq, Int.reduceLT, Int.reduceLE, Int.reduceAdd, Int.reduceSub, Int.reduceMul, Nat.reduceLT, Int.reduceToNat]) (by simp -implicitDefEqProofs (maxSteps := 2000000) only [wk, act, asV, ↓reduceIte, Nat.reduceEqDiff, reduceCtorEq, Nat.reduceAdd, Nat.reduceLeDiff, Nat.reduceSub, Nat.reduceMul, List.reduceReplicate, Int.reduceEq, Int.reduceLT, Int.reduceLE, Int.reduceAdd, Int.reduceSub, Int.reduceMul, Nat.reduceLT, Int.reduceToNat]) ⟨_, by simp -implicitDefEqProofs (maxSteps := 2000000) only [wk, act, asV, ↓reduceIte, Nat.reduceEqDiff, reduceCtorEq, Nat.reduceAdd, Nat.reduceLeDiff, Nat.reduceSub, Nat.reduceMul, List.reduceReplicate, Int.reduceEq, Int.reduceLT, Int.reduceLE, Int.reduceAdd, Int.reduceSub, Int.reduceMul, Nat.reduceLT, Int.reduceToNat]; first | done | rfl, by simp -implicitDefEqProofs (maxSteps := 2000000) only [wk, act, asV, ↓reduceIte, Nat.reduceEqDiff, reduceCtorEq, Nat.reduceAdd, Nat.reduceLeDiff, Nat.reduceSub, Nat.reduceMul, List.reduceReplicate, Int.reduceEq, Int.reduceLT, Int.reduceLE, Int.reduceAdd, Int.reduceSub, Int.reduceMul, Nat.reduceLT, Int.reduceToNat]; first | done | rfl⟩
  rintro s2 e2 eh2 ⟨v6, e6, eh6⟩
  simp -implicitDefEqProofs (maxSteps := 2000000) only [k2, wk, act, asV, ↓reduceIte, Nat.reduceEqDiff, reduceCtorEq, Nat.reduceAdd, Nat.reduceLeDiff, Nat.reduceSub, Nat.reduceMul, List.reduceReplicate, Int.reduceEq, Int.reduceLT, Int.reduceLE, Int.reduceAdd, Int.reduceSub, Int.reduceMul, Nat.reduceLT, Int.reduceToNat] at e2
  simp -implicitDefEqProofs (maxSteps := 2000000) only [kh2, wk, act, asV, ↓reduceIte, Nat.reduceEqDiff, reduceCtorEq, Nat.reduceAdd, Nat.reduceLeDiff, Nat.reduceSub, Nat.reduceMul, List.reduceReplicate, Int.reduceEq, Int.reduceLT, Int.reduceLE, Int.reduceAdd, Int.reduceSub, Int.reduceMul, Nat.reduceLT, Int.reduceToNat] at eh2
  simp -implicitDefEqProofs (maxSteps := 2000000) only [e2, eh2, e6, eh6, db, dt, dd, zl, zd, wk, act, asV, ↓reduceIte, Nat.reduceEqDiff, reduceCtorEq, Nat.reduceAdd, Nat.reduceLeDiff, Nat.reduceSub, Nat.reduceMul, List.reduceReplicate, Int.reduceEq, Int.reduceLT, Int.reduceLE, Int.reduceAdd, Int.reduceSub, Int.reduceMul, Nat.reduceLT, Int.reduceToNat]
  exact q _ (by simp -implicitDefEqProofs (maxSteps := 2000000) only [e2, wk, act, asV, ↓reduceIte, Nat.reduceEqDiff, reduceCtorEq, Nat.reduceAdd, Nat.reduceLeDiff, Nat.reduceSub, Nat.reduceMul, List.reduceReplicate, Int.reduceEq, Int.reduceLT, Int.reduceLE, Int.reduceAdd, Int.reduceSub, Int.reduceMul, Nat.reduceLT, Int.reduceToNat]) (by simp -implicitDefEqProofs (maxSteps := 2000000) only [wk, act, asV, ↓reduceIte, Nat.reduceEqDiff, reduceCtorEq, Nat.reduceAdd, Nat.reduceLeDiff, Nat.reduceSub, Nat.reduceMul, List.reduceReplicate, Int.reduceEq, Int.reduceLT, Int.reduceLE, Int.reduceAdd, Int.reduceSub, Int.reduceMul, Nat.reduceLT, Int.reduceToNat])
end Go.Proofs.Ytkphojcmjffccaa
/- sha.Sum: the hash of parts. -/
set_option linter.unusedSectionVars false
set_option linter.unusedVariables false
set_option linter.unusedSimpArgs false
set_option maxRecDepth 100000
set_option maxHeartbeats 4000000
namespace Go.Proofs.Ytkphojcmjffccaa
open Go.RowKit Go.Shelf

section
variable [Off] [Gh] [Old] {P : Program} {w0 : World} {N n : Nat} {c d : Code} {m m' : MCode} {Q' : Ex → St → Prop} {s : St} {a : Act} {w : World} {Q : Exit → Act → World → Prop}
theorem one_in (hc : compC P N c m = some m) (hw : Wp (RCs P) m Q' s) (hQ' : ∀ e s, Q' e s → e = .normal) (hr : Rel w0 N s a w) (k : ∀ s a w, Q' .normal s → Rel w0 N s a w → Q .normal a w) : c.wpIn Fence.wide n P Q a w := by
  refine wpIn_wide.2 (wp_mono (comp_wp m m c hc _ s a w hw hr) ?_)
  intro e a' w' h
  cases e with
  | normal => obtain ⟨s', h1, h2⟩ := h; exact k _ _ _ h1 h2
  | exit id => obtain ⟨s', h1, h2⟩ := h; cases hQ' _ _ h1
  | ret => obtain ⟨s', h1, h2⟩ := h; cases hQ' _ _ h1
  | _ => exact h.elim
theorem seq_in (hc : compC P N c m = some m) (hw : Wp (RCs P) (.seq m m') Q' s) (hQ' : ∀ e s, Q' e s → e = .normal) (hr : Rel w0 N s a w) (k : ∀ s a w, Wp (RCs P) m' Q' s → Rel w0 N s a w → d.wpIn Fence.wide n P Q a w) : (Code.seq c d).wpIn Fence.wide n P Q a w := by
  refine wpIn_seq ?_
  rw [Wp_seqE] at hw
  refine one_in hc hw ?_ hr (fun s a w h1 h2 => k s a w h1 h2)
  intro e s h
  cases e with
  | normal => rfl
  | exit id => exact hQ' _ _ h
  | ret => exact hQ' _ _ h
end

theorem putObj_cell {W : World} {D : Nat} {o o' : Obj} (h : W.heap[D]? = some o) (ho : ∀ cs T fr, o ≠ .cells cs T fr) (ho' : ∀ cs T fr, o' ≠ .cells cs T fr) (b i : Nat) : (W.putObj D o').cell? ⟨b, i, none⟩ = W.cell? ⟨b, i, none⟩ := by
  by_cases hb : b = D
  · subst hb
    have hlt := (Array.getElem?_eq_some_iff.1 h).1
    simp only [World.cell?, World.putObj_heap_same hlt, h]
    cases o <;> cases o' <;> first | rfl | exact absurd rfl (ho _ _ _) | exact absurd rfl (ho' _ _ _)
  · exact World.cell?_of_block (World.putObj_heap_other hb)

theorem RelC.take {o : Old} {g : Gh} {φ : Nat → Option (Nat × Nat)} {w0 W : World} {N D : Nat} {s : St} {a : Act} {ob : Obj} (h : @RelC g o φ w0 N s a W) (hD : W.heap[D]? = some ob) (ho : ∀ cs T fr, ob ≠ .cells cs T fr) (ob' : Obj) (ho' : ∀ cs T fr, ob' ≠ .cells cs T fr) (h0 : w0.heap.size ≤ D) (hd : a.defers = a.defers) :
    @RelC ⟨fun _ _ => False, a.defers, []⟩ o φ w0 N s a (W.putObj D ob') := by
  obtain ⟨hs, ⟨hbel, _⟩, hsize, hdf, htt, hgg⟩ := h
  have hsz : (W.putObj D ob').heap.size = W.heap.size := by simp [World.putObj]
  have hbs : ∀ b, bsize (W.putObj D ob') b = bsize W b := by
    intro b
    by_cases hb : b = D
    · subst hb
      have hlt := (Array.getElem?_eq_some_iff.1 hD).1
      simp only [bsize, World.putObj_heap_same hlt, hD]
      cases ob <;> cases ob' <;> first | rfl | exact absurd rfl (ho _ _ _) | exact absurd rfl (ho' _ _ _)
    · simp only [bsize, World.putObj_heap_other hb]
  have hE : Evo (@sx o W s.h φ w0.heap.size) (@sx o (W.putObj D ob') s.h φ w0.heap.size) :=
    ⟨fun b hb => ⟨by rw [hsz]; exact hb.1, hb.2⟩, fun b _ i => putObj_cell hD ho ho' b i, Nat.le_refl _, fun _ => Nat.le_refl _, fun x hl _ => ⟨hl, rfl, Nat.le_refl _⟩, fun b => Nat.le_of_eq (hbs b).symm⟩
  refine @RelC.mk ⟨fun _ _ => False, a.defers, []⟩ o φ w0 N s a _ ⟨fun x hlx => ?_, hs.excl, by show w0.heap.size ≤ _; rw [hsz]; exact hs.size⟩ (@Bel.mk ⟨fun _ _ => False, a.defers, []⟩ w0 _ (hbel.grown (grownBy_putObj' W D ob') hbel.size (fun k e => by cases e; exact h0)) (fun p hp => by cases hp)) hsize rfl (fun t => (htt t).evo hE) (fun v u hg => hg.elim)
  obtain ⟨h1, h2, h3, h4⟩ := hs.home x hlx
  refine ⟨h1, h2, h3, ?_⟩
  cases hp : φ x with
  | none => simp only [hp] at h4 ⊢; exact h4
  | some p =>
    obtain ⟨b, o'⟩ := p
    simp only [hp] at h4 ⊢
    obtain ⟨cs, T', fr, us, g1, g2, g3, g4, g5⟩ := h4
    have hne : b ≠ D := by
      rintro rfl
      rw [hD] at g1
      exact ho _ _ _ (Option.some.inj g1)
    exact ⟨cs, T', fr, us, by rw [World.putObj_heap_other hne]; exact g1, g2, g3.evo hE, g4, g5⟩

theorem tail_in {A : Nat → Prop} {φ : Nat → Option (Nat × Nat)} {w W' : World} {s : St} {a : Act} {D n v2 v4 : Nat} {L : List UInt32} (hr : @RelC ⟨fun _ _ => False, [{ target := .collected D, args := #[] }], [(D, .deferred (some []))]⟩ ⟨A⟩ φ w 48 s a W') (h0 : w.heap.size ≤ D) (hL : L.length = 8)
    (k2 : s.t 2 = .ptr 2 0 v2) (kh2 : s.h 2 = ⟨v2, true, true, false, bl (zb 32)⟩) (k4 : s.t 4 = .ptr 4 0 v4) (kh4 : s.h 4 = ⟨v4, true, true, false, wl L⟩) :
    kD.wpIn Fence.wide n Try.prog (bodyPostM Fence.wide n Try.prog Try.f25 fun e w' => ∃ rv, e = .returned rv ∧ ResR A w w' [.agg (bl (digest L))] rv ∧ Below w.heap.size w w') a W' := by
  letI : Old := ⟨A⟩
  letI : Gh := ⟨fun _ _ => False, [{ target := .collected D, args := #[] }], [(D, .deferred (some []))]⟩
  have hrel : Rel w 48 s a W' := RelC.rel hr
  have hbl : (bl (digest L)).length = 32 := by rw [bl_length, digest_length]
  have htk : List.take 32 (bl (digest L)) = bl (digest L) := List.take_of_length_le (by omega)
  have hbe := behind L hL (v2 := v2) (v4 := v4) (fun e s => e = .ret ∧ s.ress [MRes.cell 2 true 32] = some [.agg (bl (digest L))]) s (fun s5 q1 q2 => ⟨rfl, by simp -implicitDefEqProofs (maxSteps := 2000000) only [q1, q2, hbl, htk, bl_scal, bl_pur, wk, act, asV, ↓reduceIte, Nat.reduceEqDiff, reduceCtorEq, Nat.reduceAdd, Nat.reduceLeDiff, Nat.reduceSub, Nat.reduceMul, List.reduceReplicate, Int.reduceEq, Int.reduceLT, Int.reduceLE, Int.reduceAdd, Int.reduceSub, Int.reduceMul, Nat.reduceLT, Int.reduceToNat]⟩) k2 kh2 k4 kh4
  refine wpIn_wide.2 (wp_mono (comp_wp mb_b mb_b kD cb_b _ s a W' hbe hrel) ?_)
  intro e a' w' h
  have fin : ∀ s', s'.ress [MRes.cell 2 true 32] = some [.agg (bl (digest L))] → Rel w 48 s' a' w' → LeavesInM Fence.wide n Try.prog Try.f25 a'.tmps (fun e w' => ∃ rv, e = .returned rv ∧ ResR A w w' [.agg (bl (digest L))] rv ∧ Below w.heap.size w w') a'.defers .returning w' := by
    intro s' hres hr'
    obtain ⟨φ', hrC⟩ := hr'.open_
    have hpin := hrC.below.pin (D, .deferred (some [])) (List.mem_singleton.2 rfl)
    have hdf : a'.defers = [{ target := .collected D, args := #[] }] := hrC.defers
    have htake := RelC.take hrC hpin.2 hpin.1 (.deferred none) (fun _ _ _ e => by cases e) h0 rfl
    rw [hdf]
    refine ⟨(fun e => by cases e), .inl ⟨D, _, rfl, run_takeDeferred hpin.2, ?_⟩⟩
    obtain ⟨rv, g1, g2⟩ := @results_run _ ⟨fun _ _ => False, a'.defers, []⟩ ⟨A⟩ Try.prog φ' w 48 s' a' _ htake Try.f25 [MRes.cell 2 true 32] [.agg (bl (digest L))] (by kernel_rfl) hres (by simp [isOwn])
    obtain ⟨_, ⟨hlo, _⟩, _, _, _, _⟩ := htake
    exact ⟨rv, g1, rv, rfl, g2, hlo⟩
  cases e with
  | normal => obtain ⟨s', ⟨h1, _⟩, _⟩ := h; cases h1
  | exit id => obtain ⟨s', ⟨h1, _⟩, _⟩ := h; cases h1
  | ret => obtain ⟨s', ⟨_, h1⟩, h2⟩ := h; exact fin s' h1 h2
  | _ => exact h.elim

theorem sum_ok (f : Fl) (hf : ¬ f = .lit) (ps : List (Fl × List UInt8)) (hn : ps.length < 2 ^ 63) (hl : (joined ps).length ≤ 2 ^ 40) : RC Try.prog 25 [.sl f ps.length (pl ps)] [.agg (bl (shaB (joined ps)))] := by
  refine ⟨by kernel_rfl, ?_⟩
  intro w A vals hA hnl hpu hv
  letI : Old := ⟨A⟩
  letI : Gh := ⟨fun _ _ => False, [], []⟩
  have hlen := hv.length
  have hv1 : vals.length = 1 := by simpa using hlen
  obtain ⟨W, hW⟩ : ∃ W, W = joined ps := ⟨_, rfl⟩
  have hpl := padB_length W.length
  have hz : padZ W.length < 64 := Nat.mod_lt _ (by decide)
  obtain ⟨M, hM⟩ : ∃ M, M = W ++ padB W.length := ⟨_, rfl⟩
  have hMl : M.length = W.length + (padB W.length).length := by rw [hM, List.length_append]
  have hMb : bl M = bl W ++ bl (padB W.length) := by rw [hM, bl_append]
  obtain ⟨K, hK⟩ : ∃ K, K = (W.length + 9 + padZ W.length) / 64 := ⟨_, rfl⟩
  have hMK : M.length = 64 * K := by rw [hMl, hpl, hK]; unfold padZ; omega
  have hK0 : 0 < K := by omega
  have hd : shaB W = digest (hashN M K).l := by rw [hM, hK]; rfl
  rw [← hW] at hl
  have hfn : Try.prog.funcs[25]? = some Try.f25 := Try.func25
  have hnt : Try.f25.ntmps = 48 := by kernel_rfl
  refine (callsIn_wide (n := 9)).1 (callsIn_of_wp_marks hfn b17_eq trivial ?_ rfl)
  rw [hnt]
  have hsz : (vals.toArray ++ Array.replicate (48 - vals.toArray.size) undef).size = 48 := by
    simp only [Array.size_append, List.size_toArray, Array.size_replicate]
    omega
  have hrel : Rel w 48 (St.start [.sl f ps.length (pl ps)]) { tmps := vals.toArray ++ Array.replicate (48 - vals.toArray.size) undef, defers := [] } w := by
    refine ⟨fun _ => none, ⟨fun x hl => by simp [St.start, deadH] at hl, fun x y p q hl => by simp [St.start, deadH] at hl, Nat.le_refl _⟩, ⟨Below.refl _ _, fun p hp => by cases hp⟩, hsz, rfl, fun t => ?_, fun v u h => h.elim⟩
    have hv' := hv.evoP ((deadSx A w).2 hA) hpu hnl
    simp only [St.start]
    by_cases ht : t < 1
    · obtain rfl : t = 0 := by omega
      have e2 : (vals.toArray ++ Array.replicate (48 - vals.toArray.size) undef).getD 0 undef = vals[0]'(by omega) := by
        rw [Array.getD_eq_getD_getElem?, Array.getElem?_append_left (by simp; omega)]
        simp [show 0 < vals.length by omega]
      rw [e2]
      exact hv'.get 0 (by simp) (by omega)
    · have e1 : [IV.sl f ps.length (pl ps)].getD t (.tup []) = .tup [] := by simp [List.getD_eq_getElem?_getD, List.getElem?_eq_none (show [IV.sl f ps.length (pl ps)].length ≤ t by simp; omega)]
      have e2 : (vals.toArray ++ Array.replicate (48 - vals.toArray.size) undef).getD t undef = undef := by
        rw [Array.getD_eq_getD_getElem?, Array.getElem?_append_right (by simp; omega), Array.getElem?_replicate]
        split <;> rfl
      rw [e1, e2]
      exact undef_VR
  have hah := ahead f hf ps hn (by rw [← hW]; exact hl) (fun e s => e = .normal ∧ ∃ v2 v4, s.t 2 = .ptr 2 0 v2 ∧ s.h 2 = ⟨v2, true, true, false, bl (zb 32)⟩ ∧ s.t 4 = .ptr 4 0 v4 ∧ s.h 4 = ⟨v4, true, true, false, wl start8.l⟩ ∧ s.t 19 = .clo 47 [.addr [.sl .plain (64 * K) (bl M)], .addr [.int .i64 64]])
    (fun s v2 v4 e1 e2 e3 e4 e5 => ⟨rfl, v2, v4, e1, e2, e3, e4, by rw [e5, ← hW, ← hMb, ← hMl, hMK]⟩)
  refine seq_in ca_0 hah (fun _ _ h => h.1) hrel fun s1 a1 w1 h1 r1 => ?_
  refine seq_in ca_1 h1 (fun _ _ h => h.1) r1 fun s2 a2 w2 h2 r2 => ?_
  refine seq_in ca_2 h2 (fun _ _ h => h.1) r2 fun s3 a3 w3 h3 r3 => ?_
  refine wpIn_seq (wpIn_seq (one_in ca_3 h3 (fun _ _ h => h.1) r3 fun s4 a4 w4 h4 r4 => ?_))
  obtain ⟨_, v2, v4, e1, e2, e3, e4, e5⟩ := h4
  obtain ⟨φ, r4⟩ := r4.open_
  refine wpIn_block ?_
  refine loop_in r4 (by decide) hK0 hMK (by omega) e5 e3 e4 _ ?_
  intro D W' hr hD hD0
  refine wpIn_mono (Q := bodyPostM Fence.wide 9 Try.prog Try.f25 fun e w' => ∃ rv, e = .returned rv ∧ ResR A w w' [.agg (bl (digest (hashN M K).l))] rv ∧ Below w.heap.size w w') ?_ ?_
  · exact tail_in hr hD0 (H8_len _) e1 (by simp only [upd, show (2 : Nat) ≠ 4 by decide, if_false]; exact e2) e3 (by simp only [upd, if_true, e4])
  · intro e a w' h
    rw [← hW, hd]
    exact h
end Go.Proofs.Ytkphojcmjffccaa
