/- Of the requests: plain laws; the statements' own example wakes; the fair ones. -/
import Derived.Test.YtfllhbjblkfdfaaDoorE31
import Derived.Test.YtfllhbjblkfdfaaDoorM9
import Derived.Test.YtfllhbjblkfdfaaDoorQ4
import Derived.Test.YtfllhbjblkfdfaaDoorK1
import Derived.Test.YtfllhbjblkfdfaaDoorK6
set_option linter.unusedVariables false
set_option linter.unusedSimpArgs false
set_option maxRecDepth 100000
set_option maxHeartbeats 8000000
namespace Go.Proofs.YtfllhbjblkfdfaaDoor
open Go.RowKit

theorem eqL_ask {a b : Ask} (ha : a.Ok) (hb : b.Ok) : eqL (askC a) (askC b) = some (decide (a = b)) := by
  obtain ⟨k, t, v, p, d⟩ := a
  obtain ⟨k', t', v', p', d'⟩ := b
  have ht := eqL_tk ha.tok.tag hb.tok.tag
  have hd := eqL_bl d d' (by rw [ha.data, hb.data])
  have hl : (tkC t).length = (tkC t').length := by rw [tk_len ha.tok.tag, tk_len hb.tok.tag]
  simp only [askC, eqL, eqC, if_true, eqL_append hl, ht, hd, Ask.mk.injEq, Option.some.injEq]
  by_cases h1 : k = k' <;> by_cases h2 : t = t' <;> by_cases h3 : v = v' <;> by_cases h4 : p = p' <;> by_cases h5 : d = d' <;> simp [h1, h2, h3, h4, h5]
theorem fit_all (l : List UInt8) : (bl l).all CK.i.fit = true := by simp [bl, CK.fit]
theorem fitR_ask {a : Ask} (h : a.Ok) : fitR [(2, .i), (1, .s), (35, .i), (1, .s), (33, .i)] (askC a) = true := by
  obtain ⟨k, ⟨pl, nm, ri, ti, ge, tg⟩, v, p, d⟩ := a
  have htg : tg.length = 32 := h.tok.tag
  have hd : d.length = 32 := h.data
  have e1 : List.take 32 (bl tg) = bl tg := take32 htg
  have e3 : List.take 32 (bl d) = bl d := take32 hd
  have e4 : List.drop 32 (bl d) = [] := List.drop_of_length_le (by rw [bl_length, hd]; exact Nat.le_refl _)
  have e5 : List.drop 32 (bl tg) = [] := List.drop_of_length_le (by rw [bl_length, htg]; exact Nat.le_refl _)
  simp only [fitR, askC, tkC, clC, List.cons_append, List.nil_append, List.length_cons, List.length_append, bl_length, htg, hd, List.take_succ_cons, List.take_zero, List.drop_succ_cons, List.drop_zero, List.all_cons, List.all_nil, CK.fit, List.take_append, List.drop_append, e1, e3, e4, e5, List.all_append, fit_all]
  simp [CK.fit, e3, e4, fit_all, bl_length, hd]

theorem okA_kind {a : Ask} (h : okA a = true) : okC a.tok = true ∧ (a.kind = 2 ∨ (a.kind = 1 ∧ a.data = z32)) ∧ goodN a.vol = true ∧ 0 ≤ a.pos ∧ a.pos ≤ 255 := by
  simp only [okA, Bool.and_eq_true, Bool.or_eq_true, decide_eq_true_eq] at h
  obtain ⟨⟨⟨⟨k1, k2⟩, k3⟩, k4⟩, k5⟩ := h
  exact ⟨k1, k2, k3, k4, k5⟩
theorem parts_askB {a : Ask} (h : a.Ok) : ∃ n1 n2 n3 n4, pad4 a.vol = [n1, n2, n3, n4] ∧ Parts (askB a) (u8 a.kind.toNat) (tokB a.tok) n1 n2 n3 n4 (u8 a.pos.toNat) ((if a.kind = 2 then a.data else []) ++ [u8 (crc (askBody a)), u8 (crc (askBody a) >>> 8)]) := by
  obtain ⟨n1, n2, n3, n4, hp⟩ := pad4_four a.vol
  refine ⟨n1, n2, n3, n4, hp, ?_, tokB_length h.tok.tag, ?_⟩
  · simp only [askB, sealed, askBody, askH, hp, List.cons_append, List.nil_append, List.append_assoc]
  · rw [askB_length h, List.length_append]
    split
    · rw [h.data]; rfl
    · rfl
theorem askOf_askB {a : Ask} (h : a.Ok) (hk : okA a = true) : askOf (askB a) = a := by
  obtain ⟨k1, k2, k3, k4, k5⟩ := okA_kind hk
  obtain ⟨n1, n2, n3, n4, hp, hP⟩ := parts_askB h
  rw [hP.of, askB_length h, (decT_tokB h.tok k1).1]
  have hc : cutS [n1, n2, n3, n4] = a.vol := by rw [← hp]; unfold cutS; rw [cutN_pad k3]; rfl
  rw [hc, u8_toNat, u8_toNat]
  obtain ⟨k, t, v, p, d⟩ := a
  simp only at k2 k4 k5 ⊢
  have hd : d.length = 32 := h.data
  rcases k2 with rfl | ⟨rfl, rfl⟩
  · simp only [if_true, List.take_left' hd, Ask.mk.injEq, true_and, and_true]
    exact ⟨rfl, by omega⟩
  · simp only [Ask.mk.injEq, true_and, and_true]
    exact ⟨rfl, by omega, by simp⟩
theorem isA_askB {a : Ask} (h : a.Ok) (hk : okA a = true) : isA (askB a) = true := by
  obtain ⟨n1, n2, n3, n4, hp, hP⟩ := parts_askB h
  unfold isA
  rw [askOf_askB h hk, hP.t, isT_tokB h.tok (okA_kind hk).1, hk, decide_eq_true rfl, askB_length h]
  by_cases h2 : a.kind = 2 <;> simp [h2]
theorem decA_askB {a : Ask} (h : a.Ok) (hk : okA a = true) : decA (askB a) = a ∧ decAE (askB a) = 0 := by
  rw [(decA_yes (isA_askB h hk)).1, (decA_yes (isA_askB h hk)).2]
  exact ⟨askOf_askB h hk, rfl⟩
theorem isA_len {b : List UInt8} (h : isA b = true) : b.length = 54 ∨ b.length = 86 := by
  unfold isA at h
  simp only [Bool.and_eq_true, Bool.or_eq_true, decide_eq_true_eq] at h
  exact h.1.1.1
theorem decA_ok (b : List UInt8) : (decA b).Ok := by
  cases h : isA b with
  | false => rw [(decA_no h).1]; exact zA_ok
  | true =>
    rw [(decA_yes h).1]
    have hl := isA_len h
    obtain ⟨k, tb, n1, n2, n3, n4, p, rest, hp⟩ := splitA' (b := b) (by omega)
    exact hp.ok hl
theorem isA_sealed {b : List UInt8} (h : isA b = true) : ∃ w, b = sealed w := by
  unfold isA at h
  simp only [Bool.and_eq_true, Bool.or_eq_true, decide_eq_true_eq] at h
  exact ⟨_, h.2.symm⟩

theorem small_ok (a : Ask) (h : a.Ok) : RC Tryd.prog 6 [.agg (askC a)] [.bool (decide ((a.tok.name.length : Int) ≤ 100) && decide ((a.vol.length : Int) ≤ 100))] := by
  refine RC.of_wp c6 rfl ?_
  have hl := ak_len h
  have h2 := ak_name a
  have h38 := ak_d38 h
  by_cases h1 : (a.tok.name.length : Int) ≤ 100 <;> simp -implicitDefEqProofs (maxSteps := 2000000) only [m6_1, m6_r, m6_b, m6, hl, h2, h38, h1, wk, act, asV, ↓reduceIte, Nat.reduceEqDiff, reduceCtorEq, Nat.reduceAdd, Nat.reduceLeDiff, Nat.reduceSub, Nat.reduceMul, List.reduceReplicate, Int.reduceEq, Int.reduceLT, Int.reduceLE, Int.reduceAdd, Int.reduceSub, Int.reduceMul, Nat.reduceLT, Int.reduceToNat]

theorem wakesA_ok : RC Tryd.prog 7 [] [.bool true] := by
  refine RC.of_wp c7 rfl ?_
  obtain ⟨A, hA⟩ : ∃ A : Ask, A = ⟨2, ⟨1, [], 3, 0, 0, List.replicate 32 0⟩, [97, 98], 3, [7] ++ List.replicate 31 0⟩ := ⟨_, rfl⟩
  obtain ⟨B, hB⟩ : ∃ B : Ask, B = ⟨1, ⟨1, [], 3, 0, 0, List.replicate 32 0⟩, [97, 98], 3, [7] ++ List.replicate 31 0⟩ := ⟨_, rfl⟩
  obtain ⟨C, hC⟩ : ∃ C : Ask, C = ⟨1, ⟨1, [], 3, 0, 0, List.replicate 32 0⟩, [97, 98], 3, z32⟩ := ⟨_, rfl⟩
  have ok1 : A.Ok := by rw [hA]; exact ⟨⟨by decide, by decide, by decide, by decide⟩, by decide, by decide⟩
  have ok2 : B.Ok := by rw [hB]; exact ⟨⟨by decide, by decide, by decide, by decide⟩, by decide, by decide⟩
  have ok3 : C.Ok := by rw [hC]; exact ⟨⟨by decide, by decide, by decide, by decide⟩, by decide, by decide⟩
  have c1 := ask_ok A ok1
  have c2 := ask_ok B ok2
  have c3 := ask_ok C ok3
  have e1 : askR A = [2, 1, 0, 0, 0, 0, 3, 0, 0, 0, 0, 0, 0, 0, 0, 0, 0, 0, 0, 0, 0, 0, 0, 0, 0, 0, 0, 0, 0, 0, 0, 0, 0, 0, 0, 0, 0, 0, 0, 0, 0, 0, 0, 0, 0, 0, 0, 97, 98, 0, 0, 3, 7, 0, 0, 0, 0, 0, 0, 0, 0, 0, 0, 0, 0, 0, 0, 0, 0, 0, 0, 0, 0, 0, 0, 0, 0, 0, 0, 0, 0, 0, 0, 0, 172, 182] := by rw [hA]; decide +kernel
  have f1 : askE A = 0 := by rw [hA]; decide +kernel
  have e2 : askR B = [] := by rw [hB]; decide +kernel
  have f2 : askE B = 11 := by rw [hB]; decide +kernel
  have e3 : askR C = [1, 1, 0, 0, 0, 0, 3, 0, 0, 0, 0, 0, 0, 0, 0, 0, 0, 0, 0, 0, 0, 0, 0, 0, 0, 0, 0, 0, 0, 0, 0, 0, 0, 0, 0, 0, 0, 0, 0, 0, 0, 0, 0, 0, 0, 0, 0, 97, 98, 0, 0, 3, 134, 133] := by rw [hC]; decide +kernel
  have f3 : askE C = 0 := by rw [hC]; decide +kernel
  have c4 := adec_ok .plain (by decide) (askR A) (by rw [e1]; decide)
  have e4 : decA (askR A) = A := by rw [e1, hA]; decide +kernel
  have f4 : decAE (askR A) = 0 := by rw [e1]; decide +kernel
  simp only [e4, f4] at c4
  have x1 : askC A = [.int .i64 2, .int .i64 1, .str [], .int .i64 3, .int .u32 0, .int .u32 0, .int .u8 0, .int .u8 0, .int .u8 0, .int .u8 0, .int .u8 0, .int .u8 0, .int .u8 0, .int .u8 0, .int .u8 0, .int .u8 0, .int .u8 0, .int .u8 0, .int .u8 0, .int .u8 0, .int .u8 0, .int .u8 0, .int .u8 0, .int .u8 0, .int .u8 0, .int .u8 0, .int .u8 0, .int .u8 0, .int .u8 0, .int .u8 0, .int .u8 0, .int .u8 0, .int .u8 0, .int .u8 0, .int .u8 0, .int .u8 0, .int .u8 0, .int .u8 0, .str [97, 98], .int .i64 3, .int .u8 7, .int .u8 0, .int .u8 0, .int .u8 0, .int .u8 0, .int .u8 0, .int .u8 0, .int .u8 0, .int .u8 0, .int .u8 0, .int .u8 0, .int .u8 0, .int .u8 0, .int .u8 0, .int .u8 0, .int .u8 0, .int .u8 0, .int .u8 0, .int .u8 0, .int .u8 0, .int .u8 0, .int .u8 0, .int .u8 0, .int .u8 0, .int .u8 0, .int .u8 0, .int .u8 0, .int .u8 0, .int .u8 0, .int .u8 0, .int .u8 0, .int .u8 0] := by rw [hA]; rfl
  have x2 : askC B = [.int .i64 1, .int .i64 1, .str [], .int .i64 3, .int .u32 0, .int .u32 0, .int .u8 0, .int .u8 0, .int .u8 0, .int .u8 0, .int .u8 0, .int .u8 0, .int .u8 0, .int .u8 0, .int .u8 0, .int .u8 0, .int .u8 0, .int .u8 0, .int .u8 0, .int .u8 0, .int .u8 0, .int .u8 0, .int .u8 0, .int .u8 0, .int .u8 0, .int .u8 0, .int .u8 0, .int .u8 0, .int .u8 0, .int .u8 0, .int .u8 0, .int .u8 0, .int .u8 0, .int .u8 0, .int .u8 0, .int .u8 0, .int .u8 0, .int .u8 0, .str [97, 98], .int .i64 3, .int .u8 7, .int .u8 0, .int .u8 0, .int .u8 0, .int .u8 0, .int .u8 0, .int .u8 0, .int .u8 0, .int .u8 0, .int .u8 0, .int .u8 0, .int .u8 0, .int .u8 0, .int .u8 0, .int .u8 0, .int .u8 0, .int .u8 0, .int .u8 0, .int .u8 0, .int .u8 0, .int .u8 0, .int .u8 0, .int .u8 0, .int .u8 0, .int .u8 0, .int .u8 0, .int .u8 0, .int .u8 0, .int .u8 0, .int .u8 0, .int .u8 0, .int .u8 0] := by rw [hB]; rfl
  have x3 : askC C = [.int .i64 1, .int .i64 1, .str [], .int .i64 3, .int .u32 0, .int .u32 0, .int .u8 0, .int .u8 0, .int .u8 0, .int .u8 0, .int .u8 0, .int .u8 0, .int .u8 0, .int .u8 0, .int .u8 0, .int .u8 0, .int .u8 0, .int .u8 0, .int .u8 0, .int .u8 0, .int .u8 0, .int .u8 0, .int .u8 0, .int .u8 0, .int .u8 0, .int .u8 0, .int .u8 0, .int .u8 0, .int .u8 0, .int .u8 0, .int .u8 0, .int .u8 0, .int .u8 0, .int .u8 0, .int .u8 0, .int .u8 0, .int .u8 0, .int .u8 0, .str [97, 98], .int .i64 3, .int .u8 0, .int .u8 0, .int .u8 0, .int .u8 0, .int .u8 0, .int .u8 0, .int .u8 0, .int .u8 0, .int .u8 0, .int .u8 0, .int .u8 0, .int .u8 0, .int .u8 0, .int .u8 0, .int .u8 0, .int .u8 0, .int .u8 0, .int .u8 0, .int .u8 0, .int .u8 0, .int .u8 0, .int .u8 0, .int .u8 0, .int .u8 0, .int .u8 0, .int .u8 0, .int .u8 0, .int .u8 0, .int .u8 0, .int .u8 0, .int .u8 0, .int .u8 0] := by rw [hC]; rfl
  have y1 : bl [2, 1, 0, 0, 0, 0, 3, 0, 0, 0, 0, 0, 0, 0, 0, 0, 0, 0, 0, 0, 0, 0, 0, 0, 0, 0, 0, 0, 0, 0, 0, 0, 0, 0, 0, 0, 0, 0, 0, 0, 0, 0, 0, 0, 0, 0, 0, 97, 98, 0, 0, 3, 7, 0, 0, 0, 0, 0, 0, 0, 0, 0, 0, 0, 0, 0, 0, 0, 0, 0, 0, 0, 0, 0, 0, 0, 0, 0, 0, 0, 0, 0, 0, 0, 172, 182] = [.int .u8 2, .int .u8 1, .int .u8 0, .int .u8 0, .int .u8 0, .int .u8 0, .int .u8 3, .int .u8 0, .int .u8 0, .int .u8 0, .int .u8 0, .int .u8 0, .int .u8 0, .int .u8 0, .int .u8 0, .int .u8 0, .int .u8 0, .int .u8 0, .int .u8 0, .int .u8 0, .int .u8 0, .int .u8 0, .int .u8 0, .int .u8 0, .int .u8 0, .int .u8 0, .int .u8 0, .int .u8 0, .int .u8 0, .int .u8 0, .int .u8 0, .int .u8 0, .int .u8 0, .int .u8 0, .int .u8 0, .int .u8 0, .int .u8 0, .int .u8 0, .int .u8 0, .int .u8 0, .int .u8 0, .int .u8 0, .int .u8 0, .int .u8 0, .int .u8 0, .int .u8 0, .int .u8 0, .int .u8 97, .int .u8 98, .int .u8 0, .int .u8 0, .int .u8 3, .int .u8 7, .int .u8 0, .int .u8 0, .int .u8 0, .int .u8 0, .int .u8 0, .int .u8 0, .int .u8 0, .int .u8 0, .int .u8 0, .int .u8 0, .int .u8 0, .int .u8 0, .int .u8 0, .int .u8 0, .int .u8 0, .int .u8 0, .int .u8 0, .int .u8 0, .int .u8 0, .int .u8 0, .int .u8 0, .int .u8 0, .int .u8 0, .int .u8 0, .int .u8 0, .int .u8 0, .int .u8 0, .int .u8 0, .int .u8 0, .int .u8 0, .int .u8 0, .int .u8 172, .int .u8 182] := rfl
  have y3 : bl [1, 1, 0, 0, 0, 0, 3, 0, 0, 0, 0, 0, 0, 0, 0, 0, 0, 0, 0, 0, 0, 0, 0, 0, 0, 0, 0, 0, 0, 0, 0, 0, 0, 0, 0, 0, 0, 0, 0, 0, 0, 0, 0, 0, 0, 0, 0, 97, 98, 0, 0, 3, 134, 133] = [.int .u8 1, .int .u8 1, .int .u8 0, .int .u8 0, .int .u8 0, .int .u8 0, .int .u8 3, .int .u8 0, .int .u8 0, .int .u8 0, .int .u8 0, .int .u8 0, .int .u8 0, .int .u8 0, .int .u8 0, .int .u8 0, .int .u8 0, .int .u8 0, .int .u8 0, .int .u8 0, .int .u8 0, .int .u8 0, .int .u8 0, .int .u8 0, .int .u8 0, .int .u8 0, .int .u8 0, .int .u8 0, .int .u8 0, .int .u8 0, .int .u8 0, .int .u8 0, .int .u8 0, .int .u8 0, .int .u8 0, .int .u8 0, .int .u8 0, .int .u8 0, .int .u8 0, .int .u8 0, .int .u8 0, .int .u8 0, .int .u8 0, .int .u8 0, .int .u8 0, .int .u8 0, .int .u8 0, .int .u8 97, .int .u8 98, .int .u8 0, .int .u8 0, .int .u8 3, .int .u8 134, .int .u8 133] := rfl
  have z1 : ([2, 1, 0, 0, 0, 0, 3, 0, 0, 0, 0, 0, 0, 0, 0, 0, 0, 0, 0, 0, 0, 0, 0, 0, 0, 0, 0, 0, 0, 0, 0, 0, 0, 0, 0, 0, 0, 0, 0, 0, 0, 0, 0, 0, 0, 0, 0, 97, 98, 0, 0, 3, 7, 0, 0, 0, 0, 0, 0, 0, 0, 0, 0, 0, 0, 0, 0, 0, 0, 0, 0, 0, 0, 0, 0, 0, 0, 0, 0, 0, 0, 0, 0, 0, 172, 182] : List UInt8).length = 86 := rfl
  have z3 : ([1, 1, 0, 0, 0, 0, 3, 0, 0, 0, 0, 0, 0, 0, 0, 0, 0, 0, 0, 0, 0, 0, 0, 0, 0, 0, 0, 0, 0, 0, 0, 0, 0, 0, 0, 0, 0, 0, 0, 0, 0, 0, 0, 0, 0, 0, 0, 97, 98, 0, 0, 3, 134, 133] : List UInt8).length = 54 := rfl
  simp only [e1, f1, x1, y1, z1] at c1
  simp only [e2, f2, x2] at c2
  simp only [e3, f3, x3, y3, z3] at c3
  simp only [e1, x1, y1, z1] at c4
  repeat' (first | simp -implicitDefEqProofs (maxSteps := 2000000) only [m7_1, m7_2, m7_3, m7_4, m7_5, m7_6, m7_7, m7_8, m7_9, m7_10, m7_11, m7_12, m7_13, m7_14, m7_15, m7_r, m7_b, m7, wk, act, asV, ↓reduceIte, Nat.reduceEqDiff, reduceCtorEq, Nat.reduceAdd, Nat.reduceLeDiff, Nat.reduceSub, Nat.reduceMul, List.reduceReplicate, Int.reduceEq, Int.reduceLT, Int.reduceLE, Int.reduceAdd, Int.reduceSub, Int.reduceMul, Nat.reduceLT, Int.reduceToNat] | ((with_reducible refine CallL.gate ?_); refine CallL.of (by simp -implicitDefEqProofs (maxSteps := 2000000) only [m7_1, m7_2, m7_3, m7_4, m7_5, m7_6, m7_7, m7_8, m7_9, m7_10, m7_11, m7_12, m7_13, m7_14, m7_15, m7_r, m7_b, m7, wk, act, asV, ↓reduceIte, Nat.reduceEqDiff, reduceCtorEq, Nat.reduceAdd, Nat.reduceLeDiff, Nat.reduceSub, Nat.reduceMul, List.reduceReplicate, Int.reduceEq, Int.reduceLT, Int.reduceLE, Int.reduceAdd, Int.reduceSub, Int.reduceMul, Nat.reduceLT, Int.reduceToNat]; first | done | (with_reducible rfl)) (by first | exact c1 | exact c2 | exact c3 | exact c4) (by simp -implicitDefEqProofs (maxSteps := 2000000) only [m7_1, m7_2, m7_3, m7_4, m7_5, m7_6, m7_7, m7_8, m7_9, m7_10, m7_11, m7_12, m7_13, m7_14, m7_15, m7_r, m7_b, m7, wk, act, asV, ↓reduceIte, Nat.reduceEqDiff, reduceCtorEq, Nat.reduceAdd, Nat.reduceLeDiff, Nat.reduceSub, Nat.reduceMul, List.reduceReplicate, Int.reduceEq, Int.reduceLT, Int.reduceLE, Int.reduceAdd, Int.reduceSub, Int.reduceMul, Nat.reduceLT, Int.reduceToNat]) ?_) | ((with_reducible refine CallpL.gate ?_); refine CallpL.of (by simp -implicitDefEqProofs (maxSteps := 2000000) only [m7_1, m7_2, m7_3, m7_4, m7_5, m7_6, m7_7, m7_8, m7_9, m7_10, m7_11, m7_12, m7_13, m7_14, m7_15, m7_r, m7_b, m7, wk, act, asV, ↓reduceIte, Nat.reduceEqDiff, reduceCtorEq, Nat.reduceAdd, Nat.reduceLeDiff, Nat.reduceSub, Nat.reduceMul, List.reduceReplicate, Int.reduceEq, Int.reduceLT, Int.reduceLE, Int.reduceAdd, Int.reduceSub, Int.reduceMul, Nat.reduceLT, Int.reduceToNat]; first | done | (with_reducible rfl)) (by first | exact c1 | exact c2 | exact c3 | exact c4) (by simp -implicitDefEqProofs (maxSteps := 2000000) only [m7_1, m7_2, m7_3, m7_4, m7_5, m7_6, m7_7, m7_8, m7_9, m7_10, m7_11, m7_12, m7_13, m7_14, m7_15, m7_r, m7_b, m7, wk, act, asV, ↓reduceIte, Nat.reduceEqDiff, reduceCtorEq, Nat.reduceAdd, Nat.reduceLeDiff, Nat.reduceSub, Nat.reduceMul, List.reduceReplicate, Int.reduceEq, Int.reduceLT, Int.reduceLE, Int.reduceAdd, Int.reduceSub, Int.reduceMul, Nat.reduceLT, Int.reduceToNat]) ?_) | ((with_reducible refine CallP.gate ?_); refine CallP.of (by simp -implicitDefEqProofs (maxSteps := 2000000) only [m7_1, m7_2, m7_3, m7_4, m7_5, m7_6, m7_7, m7_8, m7_9, m7_10, m7_11, m7_12, m7_13, m7_14, m7_15, m7_r, m7_b, m7, wk, act, asV, ↓reduceIte, Nat.reduceEqDiff, reduceCtorEq, Nat.reduceAdd, Nat.reduceLeDiff, Nat.reduceSub, Nat.reduceMul, List.reduceReplicate, Int.reduceEq, Int.reduceLT, Int.reduceLE, Int.reduceAdd, Int.reduceSub, Int.reduceMul, Nat.reduceLT, Int.reduceToNat]; first | done | (with_reducible rfl)) (by first | exact c1 | exact c2 | exact c3 | exact c4) (by simp -implicitDefEqProofs (maxSteps := 2000000) only [m7_1, m7_2, m7_3, m7_4, m7_5, m7_6, m7_7, m7_8, m7_9, m7_10, m7_11, m7_12, m7_13, m7_14, m7_15, m7_r, m7_b, m7, wk, act, asV, ↓reduceIte, Nat.reduceEqDiff, reduceCtorEq, Nat.reduceAdd, Nat.reduceLeDiff, Nat.reduceSub, Nat.reduceMul, List.reduceReplicate, Int.reduceEq, Int.reduceLT, Int.reduceLE, Int.reduceAdd, Int.reduceSub, Int.reduceMul, Nat.reduceLT, Int.reduceToNat]) ?_) | ((with_reducible refine CallpP.gate ?_); refine CallpP.of (by simp -implicitDefEqProofs (maxSteps := 2000000) only [m7_1, m7_2, m7_3, m7_4, m7_5, m7_6, m7_7, m7_8, m7_9, m7_10, m7_11, m7_12, m7_13, m7_14, m7_15, m7_r, m7_b, m7, wk, act, asV, ↓reduceIte, Nat.reduceEqDiff, reduceCtorEq, Nat.reduceAdd, Nat.reduceLeDiff, Nat.reduceSub, Nat.reduceMul, List.reduceReplicate, Int.reduceEq, Int.reduceLT, Int.reduceLE, Int.reduceAdd, Int.reduceSub, Int.reduceMul, Nat.reduceLT, Int.reduceToNat]; first | done | (with_reducible rfl)) (by first | exact c1 | exact c2 | exact c3 | exact c4) (by simp -implicitDefEqProofs (maxSteps := 2000000) only [m7_1, m7_2, m7_3, m7_4, m7_5, m7_6, m7_7, m7_8, m7_9, m7_10, m7_11, m7_12, m7_13, m7_14, m7_15, m7_r, m7_b, m7, wk, act, asV, ↓reduceIte, Nat.reduceEqDiff, reduceCtorEq, Nat.reduceAdd, Nat.reduceLeDiff, Nat.reduceSub, Nat.reduceMul, List.reduceReplicate, Int.reduceEq, Int.reduceLT, Int.reduceLE, Int.reduceAdd, Int.reduceSub, Int.reduceMul, Nat.reduceLT, Int.reduceToNat]) ?_))
end Go.Proofs.YtfllhbjblkfdfaaDoor
