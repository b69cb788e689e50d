/- Of the replies: bytes turned are none's. -/
import Derived.Test.YtfohfnhimgmnlaaC8
set_option linter.unusedVariables false
set_option linter.unusedSimpArgs false
set_option maxRecDepth 100000
set_option maxHeartbeats 4000000
namespace Go.Proofs.Ytfohfnhimgmnlaa
open Go.RowKit

theorem num4_u8 {n : Nat} (h : n < 2 ^ 32) : num4 (u8 n) (u8 (n >>> 8)) (u8 (n >>> 16)) (u8 (n >>> 24)) = n := by
  unfold num4
  simp only [u8_toNat, Nat.shiftRight_eq_div_pow]
  omega
theorem crc_back {a b : List UInt8} (h1 : u8 (crc a) = u8 (crc b)) (h2 : u8 (crc a >>> 8) = u8 (crc b >>> 8)) : crc a = crc b := by
  have ha := crc_lt a
  have hb := crc_lt b
  have e1 := congrArg UInt8.toNat h1
  have e2 := congrArg UInt8.toNat h2
  simp only [u8_toNat, Nat.shiftRight_eq_div_pow] at e1 e2
  omega
/-- one byte of what is sealed, turned: it is not sealed -/
theorem sealed_set {a b : List UInt8} {k : Nat} {x : UInt8} (hk : k < (sealed b).length) (h : sealed a = (sealed b).set k x) : x = (sealed b)[k] := by
  have hl : a.length = b.length := by
    have := congrArg List.length h
    rw [List.length_set, sealed_length, sealed_length] at this
    omega
  by_cases hkb : k < b.length
  · have e1 : (sealed b).set k x = b.set k x ++ [u8 (crc b), u8 (crc b >>> 8)] := by unfold sealed; rw [List.set_append_left _ _ hkb]
    rw [e1] at h
    have h2 := List.append_inj h (by rw [List.length_set, hl])
    obtain ⟨h3, h4⟩ := h2
    simp only [List.cons.injEq, and_true] at h4
    have hc := crc_back h4.1 h4.2
    rw [h3] at hc
    have := crc_set hkb hc
    rw [this]
    exact (List.getElem_append_left hkb).symm
  · have e1 : (sealed b).set k x = b ++ [u8 (crc b), u8 (crc b >>> 8)].set (k - b.length) x := by unfold sealed; rw [List.set_append_right _ _ (by omega)]
    have h0 := h
    rw [e1] at h
    have h2 := List.append_inj h hl
    rw [h2.1] at h0
    have h5 : (sealed b)[k]? = ((sealed b).set k x)[k]? := by rw [← h0]
    rw [List.getElem?_set_self hk, List.getElem?_eq_getElem hk] at h5
    exact (Option.some.inj h5).symm

theorem isR_sealed {c : List UInt8} (h : isR c = true) : ∃ a, c = sealed a := by
  simp only [isR, Bool.and_eq_true, decide_eq_true_eq] at h
  exact ⟨_, h.2.symm⟩
theorem isR_renc {r : Rp} (h : good r = true) : isR (renc r) = true ∧ said (renc r) = ⟨r.id, r.e, .plain, r.d⟩ := by
  obtain ⟨id, e, f, d⟩ := r
  have hg := h
  simp only [good, Bool.and_eq_true, decide_eq_true_eq] at h
  obtain ⟨n, rfl⟩ : ∃ n : Nat, id = n := ⟨id.toNat, by omega⟩
  obtain ⟨m, rfl⟩ : ∃ n : Nat, e = n := ⟨e.toNat, by omega⟩
  have hs : said (renc ⟨n, m, f, d⟩) = ⟨n, m, .plain, d⟩ := by
    have : renc ⟨n, m, f, d⟩ = u8 n :: u8 (n >>> 8) :: u8 (n >>> 16) :: u8 (n >>> 24) :: u8 m :: u8 d.length :: (d ++ [u8 (crc (rbody n m d)), u8 (crc (rbody n m d) >>> 8)]) := by
      simp [renc, sealed, rbody]
    rw [this, said_eq]
    unfold rOf
    rw [num4_u8 (by omega), u8_toNat, Nat.mod_eq_of_lt (by omega)]
  refine ⟨?_, hs⟩
  unfold isR
  rw [hs]
  have h1 : good ⟨n, m, .plain, d⟩ = true := hg
  have h2 : renc ⟨n, m, .plain, d⟩ = renc ⟨n, m, f, d⟩ := rfl
  rw [h1, h2, decide_eq_true rfl, decide_eq_true (by rw [renc_length]; omega)]
  rfl
theorem isR_5 {c : List UInt8} (h : isR c = true) : 8 ≤ c.length ∧ ∃ v, c[5]? = some v ∧ v.toNat = c.length - 8 := by
  have h8 : 8 ≤ c.length := by
    simp only [isR, Bool.and_eq_true, decide_eq_true_eq] at h
    exact h.1.1
  refine ⟨h8, ?_⟩
  obtain ⟨b0, b1, b2, b3, b4, b5, d, x, y, rfl⟩ := split8 h8
  refine ⟨b5, rfl, ?_⟩
  rw [isR_len h]
  simp
/-- one byte turned: none's -/
theorem isR_turn {r : Rp} (hg : good r = true) {k : Nat} {x : UInt8} (hk : k < (renc r).length) : isR ((renc r).set k x) = decide (x = (renc r)[k]) := by
  by_cases hx : x = (renc r)[k]
  · rw [decide_eq_true hx, hx, List.set_getElem_self]
    exact (isR_renc hg).1
  · rw [decide_eq_false hx, Bool.eq_false_iff]
    intro h
    obtain ⟨a, ha⟩ := isR_sealed h
    exact hx (sealed_set (b := rbody r.id.toNat r.e.toNat r.d) hk ha.symm)
/-- one byte fewer: none's -/
theorem isR_fewer {r : Rp} (hg : good r = true) : isR ((renc r).take ((renc r).length - 1)) = false := by
  rw [Bool.eq_false_iff]
  intro h
  obtain ⟨h8, v, h5, hv⟩ := isR_5 h
  obtain ⟨h8', v', h5', hv'⟩ := isR_5 (isR_renc hg).1
  rw [List.length_take] at h8 hv
  rw [List.getElem?_take, if_pos (by omega), h5'] at h5
  injection h5 with h5
  subst h5
  omega

theorem bl_set {b : List UInt8} {k : Nat} (h : k < b.length) (x : UInt8) : List.take k (bl b) ++ [IV.int .u8 (x.toNat : Int)] ++ List.drop (k + 1) (bl b) = bl (b.set k x) := by
  rw [List.set_eq_take_append_cons_drop, if_pos h, bl_append, bl_cons, bl_take, bl_drop]
  simp
theorem xor_u8 (a b : UInt8) : bitsI .xor .u8 (a.toNat : Int) (b.toNat : Int) = some (((a ^^^ b).toNat : Nat) : Int) := by
  rw [bitsI_xor .u8 (by have := a.toNat_lt; simpa [vbits, IntKind.signed, IntKind.bits] using this) (by have := b.toNat_lt; simpa [vbits, IntKind.signed, IntKind.bits] using this), UInt8.toNat_xor]
theorem xor_u8_self (a b : UInt8) : (a ^^^ b = a) = (b = 0) := by
  apply propext
  constructor
  · intro h
    have := congrArg (a ^^^ ·) h
    simpa [← UInt8.xor_assoc] using this
  · rintro rfl; simp

theorem turns12 (r : Rp) (hf : r.f = .plain) (at_ : Int) (by_ : UInt8) (hd : r.d.length < 2 ^ 63) : RC Try.prog 12 [.agg (rc r), .int .i64 at_, .int .u8 (by_.toNat : Int)] [.bool true] := by
  obtain ⟨id, e, f, d⟩ := r
  simp only at hf hd
  subst hf
  refine RC.of_wp c12 rfl ?_
  have cf := fair35 .full [⟨id, e, .plain, d⟩] (by simp) (show 1 < 2 ^ 63 by decide)
  cases hfa : fairR [⟨id, e, .plain, d⟩] with
  | false =>
    rw [hfa] at cf
    repeat' (first | simp -implicitDefEqProofs (maxSteps := 2000000) only [m12_1, m12_2, m12_3, m12_4, m12_5, m12_6, m12_7, m12_8, m12_9, m12_10, m12_11, m12_12, m12_13, m12_14, m12_15, m12_16, m12_17, m12_18, m12_19, m12_20, m12_21, m12_22, m12_23, m12_r, m12_b, m12, rc, wk, act, ↓reduceIte, Nat.reduceEqDiff, reduceCtorEq, Nat.reduceAdd, Nat.reduceLeDiff, Nat.reduceSub, Nat.reduceMul, List.reduceReplicate, Int.reduceEq, Int.reduceLT, Int.reduceLE, Int.reduceAdd, Int.reduceSub, Int.reduceMul, Nat.reduceLT, Int.reduceToNat] | ((with_reducible refine CallL.gate ?_); refine CallL.of (by simp -implicitDefEqProofs (maxSteps := 2000000) only [m12_1, m12_2, m12_3, m12_4, m12_5, m12_6, m12_7, m12_8, m12_9, m12_10, m12_11, m12_12, m12_13, m12_14, m12_15, m12_16, m12_17, m12_18, m12_19, m12_20, m12_21, m12_22, m12_23, m12_r, m12_b, m12, rc, wk, act, ↓reduceIte, Nat.reduceEqDiff, reduceCtorEq, Nat.reduceAdd, Nat.reduceLeDiff, Nat.reduceSub, Nat.reduceMul, List.reduceReplicate, Int.reduceEq, Int.reduceLT, Int.reduceLE, Int.reduceAdd, Int.reduceSub, Int.reduceMul, Nat.reduceLT, Int.reduceToNat]; first | done | (with_reducible rfl)) (by first | exact cf | exact wakes36) (by simp -implicitDefEqProofs (maxSteps := 2000000) only [m12_1, m12_2, m12_3, m12_4, m12_5, m12_6, m12_7, m12_8, m12_9, m12_10, m12_11, m12_12, m12_13, m12_14, m12_15, m12_16, m12_17, m12_18, m12_19, m12_20, m12_21, m12_22, m12_23, m12_r, m12_b, m12, rc, wk, act, ↓reduceIte, Nat.reduceEqDiff, reduceCtorEq, Nat.reduceAdd, Nat.reduceLeDiff, Nat.reduceSub, Nat.reduceMul, List.reduceReplicate, Int.reduceEq, Int.reduceLT, Int.reduceLE, Int.reduceAdd, Int.reduceSub, Int.reduceMul, Nat.reduceLT, Int.reduceToNat]) ?_) | ((with_reducible refine CallpL.gate ?_); refine CallpL.of (by simp -implicitDefEqProofs (maxSteps := 2000000) only [m12_1, m12_2, m12_3, m12_4, m12_5, m12_6, m12_7, m12_8, m12_9, m12_10, m12_11, m12_12, m12_13, m12_14, m12_15, m12_16, m12_17, m12_18, m12_19, m12_20, m12_21, m12_22, m12_23, m12_r, m12_b, m12, rc, wk, act, ↓reduceIte, Nat.reduceEqDiff, reduceCtorEq, Nat.reduceAdd, Nat.reduceLeDiff, Nat.reduceSub, Nat.reduceMul, List.reduceReplicate, Int.reduceEq, Int.reduceLT, Int.reduceLE, Int.reduceAdd, Int.reduceSub, Int.reduceMul, Nat.reduceLT, Int.reduceToNat]; first | done | (with_reducible rfl)) (by first | exact cf | exact wakes36) (by simp -implicitDefEqProofs (maxSteps := 2000000) only [m12_1, m12_2, m12_3, m12_4, m12_5, m12_6, m12_7, m12_8, m12_9, m12_10, m12_11, m12_12, m12_13, m12_14, m12_15, m12_16, m12_17, m12_18, m12_19, m12_20, m12_21, m12_22, m12_23, m12_r, m12_b, m12, rc, wk, act, ↓reduceIte, Nat.reduceEqDiff, reduceCtorEq, Nat.reduceAdd, Nat.reduceLeDiff, Nat.reduceSub, Nat.reduceMul, List.reduceReplicate, Int.reduceEq, Int.reduceLT, Int.reduceLE, Int.reduceAdd, Int.reduceSub, Int.reduceMul, Nat.reduceLT, Int.reduceToNat]) ?_) | ((with_reducible refine CallP.gate ?_); refine CallP.of (by simp -implicitDefEqProofs (maxSteps := 2000000) only [m12_1, m12_2, m12_3, m12_4, m12_5, m12_6, m12_7, m12_8, m12_9, m12_10, m12_11, m12_12, m12_13, m12_14, m12_15, m12_16, m12_17, m12_18, m12_19, m12_20, m12_21, m12_22, m12_23, m12_r, m12_b, m12, rc, wk, act, ↓reduceIte, Nat.reduceEqDiff, reduceCtorEq, Nat.reduceAdd, Nat.reduceLeDiff, Nat.reduceSub, Nat.reduceMul, List.reduceReplicate, Int.reduceEq, Int.reduceLT, Int.reduceLE, Int.reduceAdd, Int.reduceSub, Int.reduceMul, Nat.reduceLT, Int.reduceToNat]; first | done | (with_reducible rfl)) (by first | exact cf | exact wakes36) (by simp -implicitDefEqProofs (maxSteps := 2000000) only [m12_1, m12_2, m12_3, m12_4, m12_5, m12_6, m12_7, m12_8, m12_9, m12_10, m12_11, m12_12, m12_13, m12_14, m12_15, m12_16, m12_17, m12_18, m12_19, m12_20, m12_21, m12_22, m12_23, m12_r, m12_b, m12, rc, wk, act, ↓reduceIte, Nat.reduceEqDiff, reduceCtorEq, Nat.reduceAdd, Nat.reduceLeDiff, Nat.reduceSub, Nat.reduceMul, List.reduceReplicate, Int.reduceEq, Int.reduceLT, Int.reduceLE, Int.reduceAdd, Int.reduceSub, Int.reduceMul, Nat.reduceLT, Int.reduceToNat]) ?_) | ((with_reducible refine CallpP.gate ?_); refine CallpP.of (by simp -implicitDefEqProofs (maxSteps := 2000000) only [m12_1, m12_2, m12_3, m12_4, m12_5, m12_6, m12_7, m12_8, m12_9, m12_10, m12_11, m12_12, m12_13, m12_14, m12_15, m12_16, m12_17, m12_18, m12_19, m12_20, m12_21, m12_22, m12_23, m12_r, m12_b, m12, rc, wk, act, ↓reduceIte, Nat.reduceEqDiff, reduceCtorEq, Nat.reduceAdd, Nat.reduceLeDiff, Nat.reduceSub, Nat.reduceMul, List.reduceReplicate, Int.reduceEq, Int.reduceLT, Int.reduceLE, Int.reduceAdd, Int.reduceSub, Int.reduceMul, Nat.reduceLT, Int.reduceToNat]; first | done | (with_reducible rfl)) (by first | exact cf | exact wakes36) (by simp -implicitDefEqProofs (maxSteps := 2000000) only [m12_1, m12_2, m12_3, m12_4, m12_5, m12_6, m12_7, m12_8, m12_9, m12_10, m12_11, m12_12, m12_13, m12_14, m12_15, m12_16, m12_17, m12_18, m12_19, m12_20, m12_21, m12_22, m12_23, m12_r, m12_b, m12, rc, wk, act, ↓reduceIte, Nat.reduceEqDiff, reduceCtorEq, Nat.reduceAdd, Nat.reduceLeDiff, Nat.reduceSub, Nat.reduceMul, List.reduceReplicate, Int.reduceEq, Int.reduceLT, Int.reduceLE, Int.reduceAdd, Int.reduceSub, Int.reduceMul, Nat.reduceLT, Int.reduceToNat]) ?_))
  | true =>
    rw [hfa] at cf
    have hd6 : d.length ≤ 600 := (fairR_of hfa).2 ⟨id, e, .plain, d⟩ (by simp)
    have c1 := enc38 ⟨id, e, .plain, d⟩ (by simp)
    by_cases hg : good ⟨id, e, .plain, d⟩ = true
    · have e1 : encB ⟨id, e, .plain, d⟩ = renc ⟨id, e, .plain, d⟩ := if_pos hg
      have e2 : encE ⟨id, e, .plain, d⟩ = 0 := if_pos hg
      rw [e1, e2] at c1
      have hlen := renc_length ⟨id, e, .plain, d⟩
      obtain ⟨hi, hsa⟩ := isR_renc hg
      have hfew := isR_fewer hg
      have htu := fun (k : Nat) (x : UInt8) hk => isR_turn (k := k) (x := x) hg hk
      simp only at hlen hsa
      obtain ⟨w, hw⟩ : ∃ w, w = renc ⟨id, e, .plain, d⟩ := ⟨_, rfl⟩
      simp only [← hw] at c1 hlen hi hsa hfew htu
      have c2 := dec43 .plain (by decide) w (by omega)
      have e3 : decR w = ⟨id, e, .plain, d⟩ := by unfold decR; rw [if_pos hi, hsa]
      have e4 : decE w = 0 := if_pos hi
      rw [e3, e4] at c2
      simp only [rc] at c1 c2
      have c3 := replies45 .full .full [⟨id, e, .plain, d⟩] [⟨id, e, .plain, d⟩] (by simp) (by simp) (show 1 < 2 ^ 63 by decide)
      rw [sameR_refl] at c3
      have c4 := mod_ok at_ (n := w.length) (by omega) (by omega)
      have hk := modN_lt at_ (n := w.length) (by omega)
      obtain ⟨k, hkd⟩ : ∃ k, k = modN at_ w.length := ⟨_, rfl⟩
      rw [← hkd] at c4 hk
      have hsl : (w.set k (w[k] ^^^ by_)).length = w.length := List.length_set
      have c5 := dec43 .plain (by decide) (w.set k (w[k] ^^^ by_)) (by omega)
      have c6 := dec43 .plain (by decide) (w.take (w.length - 1)) (by rw [List.length_take]; omega)
      have htw : (w.take (w.length - 1)).length = w.length - 1 := by rw [List.length_take]; omega
      have e5 : decR (w.take (w.length - 1)) = zR := by unfold decR; rw [if_neg (by rw [hfew]; decide)]
      have e6 : decE (w.take (w.length - 1)) = 11 := by unfold decE; rw [if_neg (by rw [hfew]; decide)]
      rw [e5, e6, htw] at c6
      rw [hsl] at c5
      have e7 : decE (w.set k (w[k] ^^^ by_)) = if by_ = 0 then 0 else 11 := by
        unfold decE
        rw [htu k _ hk]
        simp only [decide_eq_true_eq, xor_u8_self]
      rw [e7] at c5
      obtain ⟨id', e', d', hq⟩ := decR_plain (w.set k (w[k] ^^^ by_))
      rw [hq] at c5
      simp only [rc, zR] at c5 c6
      have hk' : (k : Int) < w.length := by omega
      have hw0 : ¬ (w.length : Int) = 0 := by omega
      have hw8 : IntKind.i64.wrap (8 + (d.length : Int)) = (w.length : Int) := by rw [IntKind.wrap_i64]; omega
      have hw1 : IntKind.i64.wrap ((w.length : Int) - 1) = ((w.length - 1 : Nat) : Int) := by rw [IntKind.wrap_i64]; omega
      have rr : roomy w.length 1 = true := roomyB (by omega)
      have hpos : 0 < w.length := by omega
      have hle1 : w.length - 1 ≤ w.length := by omega
      have hne1 : ¬ w.length - 1 = w.length := by omega
      have hkl : k + 1 ≤ w.length := by omega
      have hb0 : (((by_.toNat : Nat) : Int) = 0) = (by_ = 0) := by
        apply propext
        constructor
        · intro h; exact UInt8.toNat_inj.1 (by simpa using h)
        · rintro rfl; rfl
      have htb := bl_take w (w.length - 1)
      have htk : List.take w.length (bl (w.set k (w[k] ^^^ by_))) = bl (w.set k (w[k] ^^^ by_)) := List.take_of_length_le (by rw [bl_length, hsl]; exact Nat.le_refl _)
      by_cases hby : by_ = 0
      · rw [if_pos hby] at c5
        have hbt := eq_true hby
        repeat' (first | simp -implicitDefEqProofs (maxSteps := 2000000) only [m12_1, m12_2, m12_3, m12_4, m12_5, m12_6, m12_7, m12_8, m12_9, m12_10, m12_11, m12_12, m12_13, m12_14, m12_15, m12_16, m12_17, m12_18, m12_19, m12_20, m12_21, m12_22, m12_23, m12_r, m12_b, m12, rc, hw0, hw8, hw1, rr, hpos, hk', hk, hle1, hne1, hkl, drop_bl hk, bl_length, xor_u8, bl_set hk, htb, hb0, hbt, htw, htk, wk, act, ↓reduceIte, Nat.reduceEqDiff, reduceCtorEq, Nat.reduceAdd, Nat.reduceLeDiff, Nat.reduceSub, Nat.reduceMul, List.reduceReplicate, Int.reduceEq, Int.reduceLT, Int.reduceLE, Int.reduceAdd, Int.reduceSub, Int.reduceMul, Nat.reduceLT, Int.reduceToNat] | ((with_reducible refine CallL.gate ?_); refine CallL.of (by simp -implicitDefEqProofs (maxSteps := 2000000) only [m12_1, m12_2, m12_3, m12_4, m12_5, m12_6, m12_7, m12_8, m12_9, m12_10, m12_11, m12_12, m12_13, m12_14, m12_15, m12_16, m12_17, m12_18, m12_19, m12_20, m12_21, m12_22, m12_23, m12_r, m12_b, m12, rc, hw0, hw8, hw1, rr, hpos, hk', hk, hle1, hne1, hkl, drop_bl hk, bl_length, xor_u8, bl_set hk, htb, hb0, hbt, htw, htk, wk, act, ↓reduceIte, Nat.reduceEqDiff, reduceCtorEq, Nat.reduceAdd, Nat.reduceLeDiff, Nat.reduceSub, Nat.reduceMul, List.reduceReplicate, Int.reduceEq, Int.reduceLT, Int.reduceLE, Int.reduceAdd, Int.reduceSub, Int.reduceMul, Nat.reduceLT, Int.reduceToNat]; first | done | (with_reducible rfl)) (by first | exact cf | exact c1 | exact c2 | exact c3 | exact c4 | exact c5 | exact c6 | exact wakes36) (by simp -implicitDefEqProofs (maxSteps := 2000000) only [m12_1, m12_2, m12_3, m12_4, m12_5, m12_6, m12_7, m12_8, m12_9, m12_10, m12_11, m12_12, m12_13, m12_14, m12_15, m12_16, m12_17, m12_18, m12_19, m12_20, m12_21, m12_22, m12_23, m12_r, m12_b, m12, rc, hw0, hw8, hw1, rr, hpos, hk', hk, hle1, hne1, hkl, drop_bl hk, bl_length, xor_u8, bl_set hk, htb, hb0, hbt, htw, htk, wk, act, ↓reduceIte, Nat.reduceEqDiff, reduceCtorEq, Nat.reduceAdd, Nat.reduceLeDiff, Nat.reduceSub, Nat.reduceMul, List.reduceReplicate, Int.reduceEq, Int.reduceLT, Int.reduceLE, Int.reduceAdd, Int.reduceSub, Int.reduceMul, Nat.reduceLT, Int.reduceToNat]) ?_) | ((with_reducible refine CallpL.gate ?_); refine CallpL.of (by simp -implicitDefEqProofs (maxSteps := 2000000) only [m12_1, m12_2, m12_3, m12_4, m12_5, m12_6, m12_7, m12_8, m12_9, m12_10, m12_11, m12_12, m12_13, m12_14, m12_15, m12_16, m12_17, m12_18, m12_19, m12_20, m12_21, m12_22, m12_23, m12_r, m12_b, m12, rc, hw0, hw8, hw1, rr, hpos, hk', hk, hle1, hne1, hkl, drop_bl hk, bl_length, xor_u8, bl_set hk, htb, hb0, hbt, htw, htk, wk, act, ↓reduceIte, Nat.reduceEqDiff, reduceCtorEq, Nat.reduceAdd, Nat.reduceLeDiff, Nat.reduceSub, Nat.reduceMul, List.reduceReplicate, Int.reduceEq, Int.reduceLT, Int.reduceLE, Int.reduceAdd, Int.reduceSub, Int.reduceMul, Nat.reduceLT, Int.reduceToNat]; first | done | (with_reducible rfl)) (by first | exact cf | exact c1 | exact c2 | exact c3 | exact c4 | exact c5 | exact c6 | exact wakes36) (by simp -implicitDefEqProofs (maxSteps := 2000000) only [m12_1, m12_2, m12_3, m12_4, m12_5, m12_6, m12_7, m12_8, m12_9, m12_10, m12_11, m12_12, m12_13, m12_14, m12_15, m12_16, m12_17, m12_18, m12_19, m12_20, m12_21, m12_22, m12_23, m12_r, m12_b, m12, rc, hw0, hw8, hw1, rr, hpos, hk', hk, hle1, hne1, hkl, drop_bl hk, bl_length, xor_u8, bl_set hk, htb, hb0, hbt, htw, htk, wk, act, ↓reduceIte, Nat.reduceEqDiff, reduceCtorEq, Nat.reduceAdd, Nat.reduceLeDiff, Nat.reduceSub, Nat.reduceMul, List.reduceReplicate, Int.reduceEq, Int.reduceLT, Int.reduceLE, Int.reduceAdd, Int.reduceSub, Int.reduceMul, Nat.reduceLT, Int.reduceToNat]) ?_) | ((with_reducible refine CallP.gate ?_); refine CallP.of (by simp -implicitDefEqProofs (maxSteps := 2000000) only [m12_1, m12_2, m12_3, m12_4, m12_5, m12_6, m12_7, m12_8, m12_9, m12_10, m12_11, m12_12, m12_13, m12_14, m12_15, m12_16, m12_17, m12_18, m12_19, m12_20, m12_21, m12_22, m12_23, m12_r, m12_b, m12, rc, hw0, hw8, hw1, rr, hpos, hk', hk, hle1, hne1, hkl, drop_bl hk, bl_length, xor_u8, bl_set hk, htb, hb0, hbt, htw, htk, wk, act, ↓reduceIte, Nat.reduceEqDiff, reduceCtorEq, Nat.reduceAdd, Nat.reduceLeDiff, Nat.reduceSub, Nat.reduceMul, List.reduceReplicate, Int.reduceEq, Int.reduceLT, Int.reduceLE, Int.reduceAdd, Int.reduceSub, Int.reduceMul, Nat.reduceLT, Int.reduceToNat]; first | done | (with_reducible rfl)) (by first | exact cf | exact c1 | exact c2 | exact c3 | exact c4 | exact c5 | exact c6 | exact wakes36) (by simp -implicitDefEqProofs (maxSteps := 2000000) only [m12_1, m12_2, m12_3, m12_4, m12_5, m12_6, m12_7, m12_8, m12_9, m12_10, m12_11, m12_12, m12_13, m12_14, m12_15, m12_16, m12_17, m12_18, m12_19, m12_20, m12_21, m12_22, m12_23, m12_r, m12_b, m12, rc, hw0, hw8, hw1, rr, hpos, hk', hk, hle1, hne1, hkl, drop_bl hk, bl_length, xor_u8, bl_set hk, htb, hb0, hbt, htw, htk, wk, act, ↓reduceIte, Nat.reduceEqDiff, reduceCtorEq, Nat.reduceAdd, Nat.reduceLeDiff, Nat.reduceSub, Nat.reduceMul, List.reduceReplicate, Int.reduceEq, Int.reduceLT, Int.reduceLE, Int.reduceAdd, Int.reduceSub, Int.reduceMul, Nat.reduceLT, Int.reduceToNat]) ?_) | ((with_reducible refine CallpP.gate ?_); refine CallpP.of (by simp -implicitDefEqProofs (maxSteps := 2000000) only [m12_1, m12_2, m12_3, m12_4, m12_5, m12_6, m12_7, m12_8, m12_9, m12_10, m12_11, m12_12, m12_13, m12_14, m12_15, m12_16, m12_17, m12_18, m12_19, m12_20, m12_21, m12_22, m12_23, m12_r, m12_b, m12, rc, hw0, hw8, hw1, rr, hpos, hk', hk, hle1, hne1, hkl, drop_bl hk, bl_length, xor_u8, bl_set hk, htb, hb0, hbt, htw, htk, wk, act, ↓reduceIte, Nat.reduceEqDiff, reduceCtorEq, Nat.reduceAdd, Nat.reduceLeDiff, Nat.reduceSub, Nat.reduceMul, List.reduceReplicate, Int.reduceEq, Int.reduceLT, Int.reduceLE, Int.reduceAdd, Int.reduceSub, Int.reduceMul, Nat.reduceLT, Int.reduceToNat]; first | done | (with_reducible rfl)) (by first | exact cf | exact c1 | exact c2 | exact c3 | exact c4 | exact c5 | exact c6 | exact wakes36) (by simp -implicitDefEqProofs (maxSteps := 2000000) only [m12_1, m12_2, m12_3, m12_4, m12_5, m12_6, m12_7, m12_8, m12_9, m12_10, m12_11, m12_12, m12_13, m12_14, m12_15, m12_16, m12_17, m12_18, m12_19, m12_20, m12_21, m12_22, m12_23, m12_r, m12_b, m12, rc, hw0, hw8, hw1, rr, hpos, hk', hk, hle1, hne1, hkl, drop_bl hk, bl_length, xor_u8, bl_set hk, htb, hb0, hbt, htw, htk, wk, act, ↓reduceIte, Nat.reduceEqDiff, reduceCtorEq, Nat.reduceAdd, Nat.reduceLeDiff, Nat.reduceSub, Nat.reduceMul, List.reduceReplicate, Int.reduceEq, Int.reduceLT, Int.reduceLE, Int.reduceAdd, Int.reduceSub, Int.reduceMul, Nat.reduceLT, Int.reduceToNat]) ?_))
      · rw [if_neg hby] at c5
        have hbt := eq_false hby
        repeat' (first | simp -implicitDefEqProofs (maxSteps := 2000000) only [m12_1, m12_2, m12_3, m12_4, m12_5, m12_6, m12_7, m12_8, m12_9, m12_10, m12_11, m12_12, m12_13, m12_14, m12_15, m12_16, m12_17, m12_18, m12_19, m12_20, m12_21, m12_22, m12_23, m12_r, m12_b, m12, rc, hw0, hw8, hw1, rr, hpos, hk', hk, hle1, hne1, hkl, drop_bl hk, bl_length, xor_u8, bl_set hk, htb, hb0, hbt, htw, htk, wk, act, ↓reduceIte, Nat.reduceEqDiff, reduceCtorEq, Nat.reduceAdd, Nat.reduceLeDiff, Nat.reduceSub, Nat.reduceMul, List.reduceReplicate, Int.reduceEq, Int.reduceLT, Int.reduceLE, Int.reduceAdd, Int.reduceSub, Int.reduceMul, Nat.reduceLT, Int.reduceToNat] | ((with_reducible refine CallL.gate ?_); refine CallL.of (by simp -implicitDefEqProofs (maxSteps := 2000000) only [m12_1, m12_2, m12_3, m12_4, m12_5, m12_6, m12_7, m12_8, m12_9, m12_10, m12_11, m12_12, m12_13, m12_14, m12_15, m12_16, m12_17, m12_18, m12_19, m12_20, m12_21, m12_22, m12_23, m12_r, m12_b, m12, rc, hw0, hw8, hw1, rr, hpos, hk', hk, hle1, hne1, hkl, drop_bl hk, bl_length, xor_u8, bl_set hk, htb, hb0, hbt, htw, htk, wk, act, ↓reduceIte, Nat.reduceEqDiff, reduceCtorEq, Nat.reduceAdd, Nat.reduceLeDiff, Nat.reduceSub, Nat.reduceMul, List.reduceReplicate, Int.reduceEq, Int.reduceLT, Int.reduceLE, Int.reduceAdd, Int.reduceSub, Int.reduceMul, Nat.reduceLT, Int.reduceToNat]; first | done | (with_reducible rfl)) (by first | exact cf | exact c1 | exact c2 | exact c3 | exact c4 | exact c5 | exact c6 | exact wakes36) (by simp -implicitDefEqProofs (maxSteps := 2000000) only [m12_1, m12_2, m12_3, m12_4, m12_5, m12_6, m12_7, m12_8, m12_9, m12_10, m12_11, m12_12, m12_13, m12_14, m12_15, m12_16, m12_17, m12_18, m12_19, m12_20, m12_21, m12_22, m12_23, m12_r, m12_b, m12, rc, hw0, hw8, hw1, rr, hpos, hk', hk, hle1, hne1, hkl, drop_bl hk, bl_length, xor_u8, bl_set hk, htb, hb0, hbt, htw, htk, wk, act, ↓reduceIte, Nat.reduceEqDiff, reduceCtorEq, Nat.reduceAdd, Nat.reduceLeDiff, Nat.reduceSub, Nat.reduceMul, List.reduceReplicate, Int.reduceEq, Int.reduceLT, Int.reduceLE, Int.reduceAdd, Int.reduceSub, Int.reduceMul, Nat.reduceLT, Int.reduceToNat]) ?_) | ((with_reducible refine CallpL.gate ?_); refine CallpL.of (by simp -implicitDefEqProofs (maxSteps := 2000000) only [m12_1, m12_2, m12_3, m12_4, m12_5, m12_6, m12_7, m12_8, m12_9, m12_10, m12_11, m12_12, m12_13, m12_14, m12_15, m12_16, m12_17, m12_18, m12_19, m12_20, m12_21, m12_22, m12_23, m12_r, m12_b, m12, rc, hw0, hw8, hw1, rr, hpos, hk', hk, hle1, hne1, hkl, drop_bl hk, bl_length, xor_u8, bl_set hk, htb, hb0, hbt, htw, htk, wk, act, ↓reduceIte, Nat.reduceEqDiff, reduceCtorEq, Nat.reduceAdd, Nat.reduceLeDiff, Nat.reduceSub, Nat.reduceMul, List.reduceReplicate, Int.reduceEq, Int.reduceLT, Int.reduceLE, Int.reduceAdd, Int.reduceSub, Int.reduceMul, Nat.reduceLT, Int.reduceToNat]; first | done | (with_reducible rfl)) (by first | exact cf | exact c1 | exact c2 | exact c3 | exact c4 | exact c5 | exact c6 | exact wakes36) (by simp -implicitDefEqProofs (maxSteps := 2000000) only [m12_1, m12_2, m12_3, m12_4, m12_5, m12_6, m12_7, m12_8, m12_9, m12_10, m12_11, m12_12, m12_13, m12_14, m12_15, m12_16, m12_17, m12_18, m12_19, m12_20, m12_21, m12_22, m12_23, m12_r, m12_b, m12, rc, hw0, hw8, hw1, rr, hpos, hk', hk, hle1, hne1, hkl, drop_bl hk, bl_length, xor_u8, bl_set hk, htb, hb0, hbt, htw, htk, wk, act, ↓reduceIte, Nat.reduceEqDiff, reduceCtorEq, Nat.reduceAdd, Nat.reduceLeDiff, Nat.reduceSub, Nat.reduceMul, List.reduceReplicate, Int.reduceEq, Int.reduceLT, Int.reduceLE, Int.reduceAdd, Int.reduceSub, Int.reduceMul, Nat.reduceLT, Int.reduceToNat]) ?_) | ((with_reducible refine CallP.gate ?_); refine CallP.of (by simp -implicitDefEqProofs (maxSteps := 2000000) only [m12_1, m12_2, m12_3, m12_4, m12_5, m12_6, m12_7, m12_8, m12_9, m12_10, m12_11, m12_12, m12_13, m12_14, m12_15, m12_16, m12_17, m12_18, m12_19, m12_20, m12_21, m12_22, m12_23, m12_r, m12_b, m12, rc, hw0, hw8, hw1, rr, hpos, hk', hk, hle1, hne1, hkl, drop_bl hk, bl_length, xor_u8, bl_set hk, htb, hb0, hbt, htw, htk, wk, act, ↓reduceIte, Nat.reduceEqDiff, reduceCtorEq, Nat.reduceAdd, Nat.reduceLeDiff, Nat.reduceSub, Nat.reduceMul, List.reduceReplicate, Int.reduceEq, Int.reduceLT, Int.reduceLE, Int.reduceAdd, Int.reduceSub, Int.reduceMul, Nat.reduceLT, Int.reduceToNat]; first | done | (with_reducible rfl)) (by first | exact cf | exact c1 | exact c2 | exact c3 | exact c4 | exact c5 | exact c6 | exact wakes36) (by simp -implicitDefEqProofs (maxSteps := 2000000) only [m12_1, m12_2, m12_3, m12_4, m12_5, m12_6, m12_7, m12_8, m12_9, m12_10, m12_11, m12_12, m12_13, m12_14, m12_15, m12_16, m12_17, m12_18, m12_19, m12_20, m12_21, m12_22, m12_23, m12_r, m12_b, m12, rc, hw0, hw8, hw1, rr, hpos, hk', hk, hle1, hne1, hkl, drop_bl hk, bl_length, xor_u8, bl_set hk, htb, hb0, hbt, htw, htk, wk, act, ↓reduceIte, Nat.reduceEqDiff, reduceCtorEq, Nat.reduceAdd, Nat.reduceLeDiff, Nat.reduceSub, Nat.reduceMul, List.reduceReplicate, Int.reduceEq, Int.reduceLT, Int.reduceLE, Int.reduceAdd, Int.reduceSub, Int.reduceMul, Nat.reduceLT, Int.reduceToNat]) ?_) | ((with_reducible refine CallpP.gate ?_); refine CallpP.of (by simp -implicitDefEqProofs (maxSteps := 2000000) only [m12_1, m12_2, m12_3, m12_4, m12_5, m12_6, m12_7, m12_8, m12_9, m12_10, m12_11, m12_12, m12_13, m12_14, m12_15, m12_16, m12_17, m12_18, m12_19, m12_20, m12_21, m12_22, m12_23, m12_r, m12_b, m12, rc, hw0, hw8, hw1, rr, hpos, hk', hk, hle1, hne1, hkl, drop_bl hk, bl_length, xor_u8, bl_set hk, htb, hb0, hbt, htw, htk, wk, act, ↓reduceIte, Nat.reduceEqDiff, reduceCtorEq, Nat.reduceAdd, Nat.reduceLeDiff, Nat.reduceSub, Nat.reduceMul, List.reduceReplicate, Int.reduceEq, Int.reduceLT, Int.reduceLE, Int.reduceAdd, Int.reduceSub, Int.reduceMul, Nat.reduceLT, Int.reduceToNat]; first | done | (with_reducible rfl)) (by first | exact cf | exact c1 | exact c2 | exact c3 | exact c4 | exact c5 | exact c6 | exact wakes36) (by simp -implicitDefEqProofs (maxSteps := 2000000) only [m12_1, m12_2, m12_3, m12_4, m12_5, m12_6, m12_7, m12_8, m12_9, m12_10, m12_11, m12_12, m12_13, m12_14, m12_15, m12_16, m12_17, m12_18, m12_19, m12_20, m12_21, m12_22, m12_23, m12_r, m12_b, m12, rc, hw0, hw8, hw1, rr, hpos, hk', hk, hle1, hne1, hkl, drop_bl hk, bl_length, xor_u8, bl_set hk, htb, hb0, hbt, htw, htk, wk, act, ↓reduceIte, Nat.reduceEqDiff, reduceCtorEq, Nat.reduceAdd, Nat.reduceLeDiff, Nat.reduceSub, Nat.reduceMul, List.reduceReplicate, Int.reduceEq, Int.reduceLT, Int.reduceLE, Int.reduceAdd, Int.reduceSub, Int.reduceMul, Nat.reduceLT, Int.reduceToNat]) ?_))
    · have e1 : encB ⟨id, e, .plain, d⟩ = [] := if_neg hg
      have e2 : encE ⟨id, e, .plain, d⟩ = 11 := if_neg hg
      rw [e1, e2] at c1
      simp only [rc] at c1
      repeat' (first | simp -implicitDefEqProofs (maxSteps := 2000000) only [m12_1, m12_2, m12_3, m12_4, m12_5, m12_6, m12_7, m12_8, m12_9, m12_10, m12_11, m12_12, m12_13, m12_14, m12_15, m12_16, m12_17, m12_18, m12_19, m12_20, m12_21, m12_22, m12_23, m12_r, m12_b, m12, rc, wk, act, ↓reduceIte, Nat.reduceEqDiff, reduceCtorEq, Nat.reduceAdd, Nat.reduceLeDiff, Nat.reduceSub, Nat.reduceMul, List.reduceReplicate, Int.reduceEq, Int.reduceLT, Int.reduceLE, Int.reduceAdd, Int.reduceSub, Int.reduceMul, Nat.reduceLT, Int.reduceToNat] | ((with_reducible refine CallL.gate ?_); refine CallL.of (by simp -implicitDefEqProofs (maxSteps := 2000000) only [m12_1, m12_2, m12_3, m12_4, m12_5, m12_6, m12_7, m12_8, m12_9, m12_10, m12_11, m12_12, m12_13, m12_14, m12_15, m12_16, m12_17, m12_18, m12_19, m12_20, m12_21, m12_22, m12_23, m12_r, m12_b, m12, rc, wk, act, ↓reduceIte, Nat.reduceEqDiff, reduceCtorEq, Nat.reduceAdd, Nat.reduceLeDiff, Nat.reduceSub, Nat.reduceMul, List.reduceReplicate, Int.reduceEq, Int.reduceLT, Int.reduceLE, Int.reduceAdd, Int.reduceSub, Int.reduceMul, Nat.reduceLT, Int.reduceToNat]; first | done | (with_reducible rfl)) (by first | exact cf | exact c1 | exact wakes36) (by simp -implicitDefEqProofs (maxSteps := 2000000) only [m12_1, m12_2, m12_3, m12_4, m12_5, m12_6, m12_7, m12_8, m12_9, m12_10, m12_11, m12_12, m12_13, m12_14, m12_15, m12_16, m12_17, m12_18, m12_19, m12_20, m12_21, m12_22, m12_23, m12_r, m12_b, m12, rc, wk, act, ↓reduceIte, Nat.reduceEqDiff, reduceCtorEq, Nat.reduceAdd, Nat.reduceLeDiff, Nat.reduceSub, Nat.reduceMul, List.reduceReplicate, Int.reduceEq, Int.reduceLT, Int.reduceLE, Int.reduceAdd, Int.reduceSub, Int.reduceMul, Nat.reduceLT, Int.reduceToNat]) ?_) | ((with_reducible refine CallpL.gate ?_); refine CallpL.of (by simp -implicitDefEqProofs (maxSteps := 2000000) only [m12_1, m12_2, m12_3, m12_4, m12_5, m12_6, m12_7, m12_8, m12_9, m12_10, m12_11, m12_12, m12_13, m12_14, m12_15, m12_16, m12_17, m12_18, m12_19, m12_20, m12_21, m12_22, m12_23, m12_r, m12_b, m12, rc, wk, act, ↓reduceIte, Nat.reduceEqDiff, reduceCtorEq, Nat.reduceAdd, Nat.reduceLeDiff, Nat.reduceSub, Nat.reduceMul, List.reduceReplicate, Int.reduceEq, Int.reduceLT, Int.reduceLE, Int.reduceAdd, Int.reduceSub, Int.reduceMul, Nat.reduceLT, Int.reduceToNat]; first | done | (with_reducible rfl)) (by first | exact cf | exact c1 | exact wakes36) (by simp -implicitDefEqProofs (maxSteps := 2000000) only [m12_1, m12_2, m12_3, m12_4, m12_5, m12_6, m12_7, m12_8, m12_9, m12_10, m12_11, m12_12, m12_13, m12_14, m12_15, m12_16, m12_17, m12_18, m12_19, m12_20, m12_21, m12_22, m12_23, m12_r, m12_b, m12, rc, wk, act, ↓reduceIte, Nat.reduceEqDiff, reduceCtorEq, Nat.reduceAdd, Nat.reduceLeDiff, Nat.reduceSub, Nat.reduceMul, List.reduceReplicate, Int.reduceEq, Int.reduceLT, Int.reduceLE, Int.reduceAdd, Int.reduceSub, Int.reduceMul, Nat.reduceLT, Int.reduceToNat]) ?_) | ((with_reducible refine CallP.gate ?_); refine CallP.of (by simp -implicitDefEqProofs (maxSteps := 2000000) only [m12_1, m12_2, m12_3, m12_4, m12_5, m12_6, m12_7, m12_8, m12_9, m12_10, m12_11, m12_12, m12_13, m12_14, m12_15, m12_16, m12_17, m12_18, m12_19, m12_20, m12_21, m12_22, m12_23, m12_r, m12_b, m12, rc, wk, act, ↓reduceIte, Nat.reduceEqDiff, reduceCtorEq, Nat.reduceAdd, Nat.reduceLeDiff, Nat.reduceSub, Nat.reduceMul, List.reduceReplicate, Int.reduceEq, Int.reduceLT, Int.reduceLE, Int.reduceAdd, Int.reduceSub, Int.reduceMul, Nat.reduceLT, Int.reduceToNat]; first | done | (with_reducible rfl)) (by first | exact cf | exact c1 | exact wakes36) (by simp -implicitDefEqProofs (maxSteps := 2000000) only [m12_1, m12_2, m12_3, m12_4, m12_5, m12_6, m12_7, m12_8, m12_9, m12_10, m12_11, m12_12, m12_13, m12_14, m12_15, m12_16, m12_17, m12_18, m12_19, m12_20, m12_21, m12_22, m12_23, m12_r, m12_b, m12, rc, wk, act, ↓reduceIte, Nat.reduceEqDiff, reduceCtorEq, Nat.reduceAdd, Nat.reduceLeDiff, Nat.reduceSub, Nat.reduceMul, List.reduceReplicate, Int.reduceEq, Int.reduceLT, Int.reduceLE, Int.reduceAdd, Int.reduceSub, Int.reduceMul, Nat.reduceLT, Int.reduceToNat]) ?_) | ((with_reducible refine CallpP.gate ?_); refine CallpP.of (by simp -implicitDefEqProofs (maxSteps := 2000000) only [m12_1, m12_2, m12_3, m12_4, m12_5, m12_6, m12_7, m12_8, m12_9, m12_10, m12_11, m12_12, m12_13, m12_14, m12_15, m12_16, m12_17, m12_18, m12_19, m12_20, m12_21, m12_22, m12_23, m12_r, m12_b, m12, rc, wk, act, ↓reduceIte, Nat.reduceEqDiff, reduceCtorEq, Nat.reduceAdd, Nat.reduceLeDiff, Nat.reduceSub, Nat.reduceMul, List.reduceReplicate, Int.reduceEq, Int.reduceLT, Int.reduceLE, Int.reduceAdd, Int.reduceSub, Int.reduceMul, Nat.reduceLT, Int.reduceToNat]; first | done | (with_reducible rfl)) (by first | exact cf | exact c1 | exact wakes36) (by simp -implicitDefEqProofs (maxSteps := 2000000) only [m12_1, m12_2, m12_3, m12_4, m12_5, m12_6, m12_7, m12_8, m12_9, m12_10, m12_11, m12_12, m12_13, m12_14, m12_15, m12_16, m12_17, m12_18, m12_19, m12_20, m12_21, m12_22, m12_23, m12_r, m12_b, m12, rc, wk, act, ↓reduceIte, Nat.reduceEqDiff, reduceCtorEq, Nat.reduceAdd, Nat.reduceLeDiff, Nat.reduceSub, Nat.reduceMul, List.reduceReplicate, Int.reduceEq, Int.reduceLT, Int.reduceLE, Int.reduceAdd, Int.reduceSub, Int.reduceMul, Nat.reduceLT, Int.reduceToNat]) ?_))
end Go.Proofs.Ytfohfnhimgmnlaa
