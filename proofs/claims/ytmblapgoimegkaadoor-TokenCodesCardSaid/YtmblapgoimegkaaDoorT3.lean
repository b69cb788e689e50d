/- Of the tokens: plain laws; the statements' own example wakes. -/
import Derived.Test.YtmblapgoimegkaaDoorE31
import Derived.Test.YtmblapgoimegkaaDoorM5
import Derived.Test.YtmblapgoimegkaaDoorT2
import Derived.Test.YtmblapgoimegkaaDoorK1
set_option linter.unusedVariables false
set_option linter.unusedSimpArgs false
set_option maxRecDepth 100000
set_option maxHeartbeats 8000000
namespace Go.Proofs.YtmblapgoimegkaaDoor
open Go.RowKit

theorem tk_len {t : Tok} (h : t.tag.length = 32) : (tkC t).length = 37 := by simp [tkC, clC, bl_length, h]
theorem tk_take {t : Tok} (h : t.tag.length = 32) : List.take 37 (tkC t) = tkC t := List.take_of_length_le (by rw [tk_len h]; exact Nat.le_refl _)
theorem tk_drop {t : Tok} (h : t.tag.length = 32) : List.drop 37 (tkC t) = [] := List.drop_of_length_le (by rw [tk_len h]; exact Nat.le_refl _)
theorem tk_scal (t : Tok) : (tkC t).all IV.scal = true := by simp [tkC, clC, IV.scal, bl_scal]
theorem eqL_append : ∀ {a b c d : List IV}, a.length = b.length → eqL (a ++ c) (b ++ d) = (match eqL a b, eqL c d with | some x, some y => some (x && y) | _, _ => none)
  | [], [], c, d, _ => by simp only [List.nil_append, eqL]; cases eqL c d <;> simp
  | x :: a, y :: b, c, d, h => by
    have ih := eqL_append (a := a) (b := b) (c := c) (d := d) (by simpa using h)
    simp only [List.cons_append, eqL, ih]
    cases eqC x y <;> cases eqL a b <;> cases eqL c d <;> simp [Bool.and_assoc]
  | [], y :: b, c, d, h => by simp at h
  | x :: a, [], c, d, h => by simp at h
theorem eqL_tk {t u : Tok} (ht : t.tag.length = 32) (hu : u.tag.length = 32) : eqL (tkC t) (tkC u) = some (decide (t = u)) := by
  unfold tkC
  rw [eqL_append (a := clC t) (b := clC u) rfl, eqL_bl t.tag u.tag (by rw [ht, hu])]
  obtain ⟨a, b, c, d, e, f⟩ := t
  obtain ⟨a', b', c', d', e', f'⟩ := u
  simp only [clC, eqL, eqC, if_true, Tok.mk.injEq, Option.some.injEq]
  by_cases h1 : a = a' <;> by_cases h2 : b = b' <;> by_cases h3 : c = c' <;> by_cases h4 : d = d' <;> by_cases h5 : e = e' <;> by_cases h6 : f = f' <;> simp [h1, h2, h3, h4, h5, h6] <;> omega
theorem fitR_tk {t : Tok} (h : t.tag.length = 32) : fitR [(1, .i), (1, .s), (35, .i)] (tkC t) = true := by
  have h2 : fitR [(32, .i)] (bl t.tag) = true := fitR_bl h
  simp only [fitR, Bool.and_eq_true, decide_eq_true_eq] at h2
  obtain ⟨⟨_, h3⟩, h4⟩ := h2
  have e1 : List.take 32 (bl t.tag) = bl t.tag := bl_take14 h
  have e2 : List.drop 32 (bl t.tag) = [] := List.drop_of_length_le (by rw [bl_length, h]; exact Nat.le_refl _)
  rw [e1] at h3
  simp only [fitR, tkC, clC, List.cons_append, List.nil_append, List.length_cons, bl_length, h, List.take_succ_cons, List.take_zero, List.drop_succ_cons, List.drop_zero, List.all_cons, List.all_nil, CK.fit, e1, e2, h3]
  rfl

theorem pad4_four (s : List UInt8) : ∃ a b c d, pad4 s = [a, b, c, d] := by
  have h := pad4_length s
  match hp : pad4 s, h with
  | [a, b, c, d], _ => exact ⟨a, b, c, d, rfl⟩
theorem saidT_tokB {t : Tok} (ht : t.Ok) (hk : okC t = true) : saidT (tokB t) = some t := by
  obtain ⟨p, nm, r, ti, ge, tg⟩ := t
  obtain ⟨hn, h1, h2, h3⟩ := ht
  simp only at hn h1 h2 h3
  simp only [okC, Bool.and_eq_true, Bool.or_eq_true, decide_eq_true_eq] at hk
  obtain ⟨⟨⟨⟨k1, k2⟩, k3⟩, k4⟩, k5⟩ := hk
  have hc : cutN (pad4 nm) = some nm := by
    rcases k3 with k | k
    · subst k; decide
    · exact cutN_pad k
  obtain ⟨a, b, c, d, hp⟩ := pad4_four nm
  rw [hp] at hc
  have he : tokB ⟨p, nm, r, ti, ge, tg⟩ = u8 p.toNat :: a :: b :: c :: d :: u8 r.toNat :: u8 ti :: u8 (ti >>> 8) :: u8 (ti >>> 16) :: u8 (ti >>> 24) :: u8 ge :: u8 (ge >>> 8) :: u8 (ge >>> 16) :: u8 (ge >>> 24) :: tg := by
    simp [tokB, claimB, hp, le4]
  rw [he]
  simp only [saidT, hc, Option.map_some, tokOf, num4_u8 h1, num4_u8 h2, u8_toNat]
  rw [Nat.mod_eq_of_lt (by omega), Nat.mod_eq_of_lt (by omega)]
  congr 2 <;> omega
theorem isT_tokB {t : Tok} (ht : t.Ok) (hk : okC t = true) : isT (tokB t) = true := by
  unfold isT
  rw [tokB_length ht.tag, saidT_tokB ht hk]
  simp only [hk, decide_true, Bool.and_self]
theorem decT_tokB {t : Tok} (ht : t.Ok) (hk : okC t = true) : decT (tokB t) = t ∧ decTE (tokB t) = 0 := decT_yes (isT_tokB ht hk) (saidT_tokB ht hk)
theorem tokB_inj {t u : Tok} (ht : t.Ok) (hu : u.Ok) (hk : okC t = true) (hk' : okC u = true) : (tokB t = tokB u) = (t = u) := by
  apply propext
  constructor
  · intro h
    have h1 := saidT_tokB ht hk
    have h2 := saidT_tokB hu hk'
    rw [h, h2] at h1
    exact (Option.some.inj h1).symm
  · rintro rfl; rfl
theorem zT_ok : zT.Ok := ⟨by decide, by decide, by decide, by decide⟩
/-- what bytes say -/
theorem isT_said {b : List UInt8} (h : isT b = true) : ∃ t, saidT b = some t ∧ okC t = true ∧ tokB t = b ∧ t.Ok := by
  unfold isT at h
  simp only [Bool.and_eq_true, decide_eq_true_eq] at h
  obtain ⟨h46, h⟩ := h
  cases hs : saidT b with
  | none => rw [hs] at h; cases h
  | some t =>
    rw [hs] at h
    simp only [Bool.and_eq_true, decide_eq_true_eq] at h
    refine ⟨t, rfl, h.1, h.2, ?_⟩
    obtain ⟨p, n1, n2, n3, n4, r, u1, u2, u3, u4, g1, g2, g3, g4, tag, rfl, htag⟩ := split46 h46
    simp only [saidT] at hs
    cases hc : cutN [n1, n2, n3, n4] with
    | none => rw [hc] at hs; cases hs
    | some nm =>
      rw [hc] at hs
      simp only [Option.map_some, Option.some.injEq] at hs
      subst hs
      have := (cutN_some rfl hc).2.2
      exact ⟨by simp only [tokOf]; omega, num4_lt _ _ _ _, num4_lt _ _ _ _, htag⟩
theorem decT_ok (b : List UInt8) : (decT b).Ok := by
  cases h : isT b with
  | false => rw [(decT_no h).1]; exact zT_ok
  | true =>
    obtain ⟨t, hs, _, _, hk⟩ := isT_said h
    rw [(decT_yes h hs).1]; exact hk

theorem wakesT_ok : RC Tryd.prog 24 [] [.bool true] := by
  refine RC.of_wp c24 rfl ?_
  obtain ⟨T, hT⟩ : ∃ T : Tok, T = ⟨2, [97, 98], 3, 258, 4, List.replicate 31 0 ++ [9]⟩ := ⟨_, rfl⟩
  have hok : T.Ok := by rw [hT]; exact ⟨by decide, by decide, by decide, by decide⟩
  have c1 := tok_ok T hok
  have e1 : tokR T = [2, 97, 98, 0, 0, 3, 2, 1, 0, 0, 4, 0, 0, 0] ++ (List.replicate 31 0 ++ [9]) := by rw [hT]; decide +kernel
  have e2 : tokE T = 0 := by rw [hT]; decide +kernel
  have c2 := tdec_ok .plain (by decide) (tokR T) (by rw [e1]; decide)
  have e3 : decT (tokR T) = T := by rw [e1, hT]; decide +kernel
  have e4 : decTE (tokR T) = 0 := by rw [e1]; decide +kernel
  rw [e3, e4] at c2
  rw [e2] at c1
  have c3 := claim_ok T hok
  have e5 : claimR T = [2, 97, 98, 0, 0, 3, 2, 1, 0, 0, 4, 0, 0, 0] := by rw [hT]; decide +kernel
  rw [e2, e5] at c3
  have c4 := claim_ok zT zT_ok
  have e6 : claimR zT = [] := by decide +kernel
  have e7 : tokE zT = 11 := by decide +kernel
  rw [e6, e7] at c4
  have c5 := bytes_ok .plain .plain [2, 97, 98, 0, 0, 3, 2, 1, 0, 0, 4, 0, 0, 0] [2, 97, 98, 0, 0, 3, 2, 1, 0, 0, 4, 0, 0, 0]
  rw [decide_eq_true rfl] at c5
  rw [e1] at c1 c2
  have hx : bl ([2, 97, 98, 0, 0, 3, 2, 1, 0, 0, 4, 0, 0, 0] ++ (List.replicate 31 0 ++ [9])) = [.int .u8 2, .int .u8 97, .int .u8 98, .int .u8 0, .int .u8 0, .int .u8 3, .int .u8 2, .int .u8 1, .int .u8 0, .int .u8 0, .int .u8 4, .int .u8 0, .int .u8 0, .int .u8 0, .int .u8 0, .int .u8 0, .int .u8 0, .int .u8 0, .int .u8 0, .int .u8 0, .int .u8 0, .int .u8 0, .int .u8 0, .int .u8 0, .int .u8 0, .int .u8 0, .int .u8 0, .int .u8 0, .int .u8 0, .int .u8 0, .int .u8 0, .int .u8 0, .int .u8 0, .int .u8 0, .int .u8 0, .int .u8 0, .int .u8 0, .int .u8 0, .int .u8 0, .int .u8 0, .int .u8 0, .int .u8 0, .int .u8 0, .int .u8 0, .int .u8 0, .int .u8 9] := rfl
  have hy : bl [2, 97, 98, 0, 0, 3, 2, 1, 0, 0, 4, 0, 0, 0] = [.int .u8 2, .int .u8 97, .int .u8 98, .int .u8 0, .int .u8 0, .int .u8 3, .int .u8 2, .int .u8 1, .int .u8 0, .int .u8 0, .int .u8 4, .int .u8 0, .int .u8 0, .int .u8 0] := rfl
  have hz : tkC T = [.int .i64 2, .str [97, 98], .int .i64 3, .int .u32 258, .int .u32 4, .int .u8 0, .int .u8 0, .int .u8 0, .int .u8 0, .int .u8 0, .int .u8 0, .int .u8 0, .int .u8 0, .int .u8 0, .int .u8 0, .int .u8 0, .int .u8 0, .int .u8 0, .int .u8 0, .int .u8 0, .int .u8 0, .int .u8 0, .int .u8 0, .int .u8 0, .int .u8 0, .int .u8 0, .int .u8 0, .int .u8 0, .int .u8 0, .int .u8 0, .int .u8 0, .int .u8 0, .int .u8 0, .int .u8 0, .int .u8 0, .int .u8 0, .int .u8 9] := by rw [hT]; rfl
  have hl1 : ([2, 97, 98, 0, 0, 3, 2, 1, 0, 0, 4, 0, 0, 0] ++ (List.replicate 31 0 ++ [9]) : List UInt8).length = 46 := rfl
  have hl2 : ([2, 97, 98, 0, 0, 3, 2, 1, 0, 0, 4, 0, 0, 0] : List UInt8).length = 14 := rfl
  have hw : clC T = [.int .i64 2, .str [97, 98], .int .i64 3, .int .u32 258, .int .u32 4] := by rw [hT]; rfl
  have hv : clC zT = [.int .i64 0, .str [], .int .i64 0, .int .u32 0, .int .u32 0] := rfl
  rw [hx, hl1, hz] at c1 c2
  rw [hy, hl2, hw] at c3
  rw [hv] at c4
  rw [hy, hl2] at c5
  repeat' (first | simp -implicitDefEqProofs (maxSteps := 2000000) only [m24_1, m24_2, m24_3, m24_4, m24_5, m24_6, m24_7, m24_8, m24_9, m24_10, m24_11, m24_12, m24_13, m24_r, m24_b, m24, wk, act, asV, ↓reduceIte, Nat.reduceEqDiff, reduceCtorEq, Nat.reduceAdd, Nat.reduceLeDiff, Nat.reduceSub, Nat.reduceMul, List.reduceReplicate, Int.reduceEq, Int.reduceLT, Int.reduceLE, Int.reduceAdd, Int.reduceSub, Int.reduceMul, Nat.reduceLT, Int.reduceToNat] | ((with_reducible refine CallL.gate ?_); refine CallL.of (by simp -implicitDefEqProofs (maxSteps := 2000000) only [m24_1, m24_2, m24_3, m24_4, m24_5, m24_6, m24_7, m24_8, m24_9, m24_10, m24_11, m24_12, m24_13, m24_r, m24_b, m24, wk, act, asV, ↓reduceIte, Nat.reduceEqDiff, reduceCtorEq, Nat.reduceAdd, Nat.reduceLeDiff, Nat.reduceSub, Nat.reduceMul, List.reduceReplicate, Int.reduceEq, Int.reduceLT, Int.reduceLE, Int.reduceAdd, Int.reduceSub, Int.reduceMul, Nat.reduceLT, Int.reduceToNat]; first | done | (with_reducible rfl)) (by first | exact c1 | exact c2 | exact c3 | exact c4 | exact c5) (by simp -implicitDefEqProofs (maxSteps := 2000000) only [m24_1, m24_2, m24_3, m24_4, m24_5, m24_6, m24_7, m24_8, m24_9, m24_10, m24_11, m24_12, m24_13, m24_r, m24_b, m24, wk, act, asV, ↓reduceIte, Nat.reduceEqDiff, reduceCtorEq, Nat.reduceAdd, Nat.reduceLeDiff, Nat.reduceSub, Nat.reduceMul, List.reduceReplicate, Int.reduceEq, Int.reduceLT, Int.reduceLE, Int.reduceAdd, Int.reduceSub, Int.reduceMul, Nat.reduceLT, Int.reduceToNat]) ?_) | ((with_reducible refine CallpL.gate ?_); refine CallpL.of (by simp -implicitDefEqProofs (maxSteps := 2000000) only [m24_1, m24_2, m24_3, m24_4, m24_5, m24_6, m24_7, m24_8, m24_9, m24_10, m24_11, m24_12, m24_13, m24_r, m24_b, m24, wk, act, asV, ↓reduceIte, Nat.reduceEqDiff, reduceCtorEq, Nat.reduceAdd, Nat.reduceLeDiff, Nat.reduceSub, Nat.reduceMul, List.reduceReplicate, Int.reduceEq, Int.reduceLT, Int.reduceLE, Int.reduceAdd, Int.reduceSub, Int.reduceMul, Nat.reduceLT, Int.reduceToNat]; first | done | (with_reducible rfl)) (by first | exact c1 | exact c2 | exact c3 | exact c4 | exact c5) (by simp -implicitDefEqProofs (maxSteps := 2000000) only [m24_1, m24_2, m24_3, m24_4, m24_5, m24_6, m24_7, m24_8, m24_9, m24_10, m24_11, m24_12, m24_13, m24_r, m24_b, m24, wk, act, asV, ↓reduceIte, Nat.reduceEqDiff, reduceCtorEq, Nat.reduceAdd, Nat.reduceLeDiff, Nat.reduceSub, Nat.reduceMul, List.reduceReplicate, Int.reduceEq, Int.reduceLT, Int.reduceLE, Int.reduceAdd, Int.reduceSub, Int.reduceMul, Nat.reduceLT, Int.reduceToNat]) ?_) | ((with_reducible refine CallP.gate ?_); refine CallP.of (by simp -implicitDefEqProofs (maxSteps := 2000000) only [m24_1, m24_2, m24_3, m24_4, m24_5, m24_6, m24_7, m24_8, m24_9, m24_10, m24_11, m24_12, m24_13, m24_r, m24_b, m24, wk, act, asV, ↓reduceIte, Nat.reduceEqDiff, reduceCtorEq, Nat.reduceAdd, Nat.reduceLeDiff, Nat.reduceSub, Nat.reduceMul, List.reduceReplicate, Int.reduceEq, Int.reduceLT, Int.reduceLE, Int.reduceAdd, Int.reduceSub, Int.reduceMul, Nat.reduceLT, Int.reduceToNat]; first | done | (with_reducible rfl)) (by first | exact c1 | exact c2 | exact c3 | exact c4 | exact c5) (by simp -implicitDefEqProofs (maxSteps := 2000000) only [m24_1, m24_2, m24_3, m24_4, m24_5, m24_6, m24_7, m24_8, m24_9, m24_10, m24_11, m24_12, m24_13, m24_r, m24_b, m24, wk, act, asV, ↓reduceIte, Nat.reduceEqDiff, reduceCtorEq, Nat.reduceAdd, Nat.reduceLeDiff, Nat.reduceSub, Nat.reduceMul, List.reduceReplicate, Int.reduceEq, Int.reduceLT, Int.reduceLE, Int.reduceAdd, Int.reduceSub, Int.reduceMul, Nat.reduceLT, Int.reduceToNat]) ?_) | ((with_reducible refine CallpP.gate ?_); refine CallpP.of (by simp -implicitDefEqProofs (maxSteps := 2000000) only [m24_1, m24_2, m24_3, m24_4, m24_5, m24_6, m24_7, m24_8, m24_9, m24_10, m24_11, m24_12, m24_13, m24_r, m24_b, m24, wk, act, asV, ↓reduceIte, Nat.reduceEqDiff, reduceCtorEq, Nat.reduceAdd, Nat.reduceLeDiff, Nat.reduceSub, Nat.reduceMul, List.reduceReplicate, Int.reduceEq, Int.reduceLT, Int.reduceLE, Int.reduceAdd, Int.reduceSub, Int.reduceMul, Nat.reduceLT, Int.reduceToNat]; first | done | (with_reducible rfl)) (by first | exact c1 | exact c2 | exact c3 | exact c4 | exact c5) (by simp -implicitDefEqProofs (maxSteps := 2000000) only [m24_1, m24_2, m24_3, m24_4, m24_5, m24_6, m24_7, m24_8, m24_9, m24_10, m24_11, m24_12, m24_13, m24_r, m24_b, m24, wk, act, asV, ↓reduceIte, Nat.reduceEqDiff, reduceCtorEq, Nat.reduceAdd, Nat.reduceLeDiff, Nat.reduceSub, Nat.reduceMul, List.reduceReplicate, Int.reduceEq, Int.reduceLT, Int.reduceLE, Int.reduceAdd, Int.reduceSub, Int.reduceMul, Nat.reduceLT, Int.reduceToNat]) ?_))
end Go.Proofs.YtmblapgoimegkaaDoor
