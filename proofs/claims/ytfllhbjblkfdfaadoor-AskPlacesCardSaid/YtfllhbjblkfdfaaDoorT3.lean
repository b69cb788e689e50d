/- Of the tokens: plain laws. -/
import Derived.Test.YtfllhbjblkfdfaaDoorE31

import Derived.Test.YtfllhbjblkfdfaaDoorT2
import Derived.Test.YtfllhbjblkfdfaaDoorK1
set_option linter.unusedVariables false
set_option linter.unusedSimpArgs false
set_option maxRecDepth 100000
set_option maxHeartbeats 8000000
namespace Go.Proofs.YtfllhbjblkfdfaaDoor
open Go.RowKit

theorem tk_len {t : Tok} (h : t.tag.length = 32) : (tkC t).length = 37 := by simp [tkC, clC, bl_length, h]
theorem tk_take {t : Tok} (h : t.tag.length = 32) : List.take 37 (tkC t) = tkC t := List.take_of_length_le (by rw [tk_len h]; exact Nat.le_refl _)
theorem tk_drop {t : Tok} (h : t.tag.length = 32) : List.drop 37 (tkC t) = [] := List.drop_of_length_le (by rw [tk_len h]; exact Nat.le_refl _)
theorem tk_scal (t : Tok) : (tkC t).all IV.scal = true := by simp [tkC, clC, IV.scal, bl_scal]
theorem eqL_append : ∀ {a b c d : List IV}, a.length = b.length → eqL (a ++ c) (b ++ d) = (match eqL a b, eqL c d with | some x, some y => some (x && y) | _, _ => none)
  | [], [], c, d, _ => by simp only [List.nil_append, eqL]; cases eqL c d <;> simp
  | x :: a, y :: b, c, d, h => by
    have ih := eqL_append (a := a) (b := b) (c := c) (d := d) (by simpa using h)
    simp only [List.cons_append, eqL, ih]
    cases eqC x y <;> cases eqL a b <;> cases eqL c d <;> simp [Bool.and_assoc]
  | [], y :: b, c, d, h => by simp at h
  | x :: a, [], c, d, h => by simp at h
theorem eqL_tk {t u : Tok} (ht : t.tag.length = 32) (hu : u.tag.length = 32) : eqL (tkC t) (tkC u) = some (decide (t = u)) := by
  unfold tkC
  rw [eqL_append (a := clC t) (b := clC u) rfl, eqL_bl t.tag u.tag (by rw [ht, hu])]
  obtain ⟨a, b, c, d, e, f⟩ := t
  obtain ⟨a', b', c', d', e', f'⟩ := u
  simp only [clC, eqL, eqC, if_true, Tok.mk.injEq, Option.some.injEq]
  by_cases h1 : a = a' <;> by_cases h2 : b = b' <;> by_cases h3 : c = c' <;> by_cases h4 : d = d' <;> by_cases h5 : e = e' <;> by_cases h6 : f = f' <;> simp [h1, h2, h3, h4, h5, h6] <;> omega
theorem fitR_tk {t : Tok} (h : t.tag.length = 32) : fitR [(1, .i), (1, .s), (35, .i)] (tkC t) = true := by
  have h2 : fitR [(32, .i)] (bl t.tag) = true := fitR_bl h
  simp only [fitR, Bool.and_eq_true, decide_eq_true_eq] at h2
  obtain ⟨⟨_, h3⟩, h4⟩ := h2
  have e1 : List.take 32 (bl t.tag) = bl t.tag := bl_take14 h
  have e2 : List.drop 32 (bl t.tag) = [] := List.drop_of_length_le (by rw [bl_length, h]; exact Nat.le_refl _)
  rw [e1] at h3
  simp only [fitR, tkC, clC, List.cons_append, List.nil_append, List.length_cons, bl_length, h, List.take_succ_cons, List.take_zero, List.drop_succ_cons, List.drop_zero, List.all_cons, List.all_nil, CK.fit, e1, e2, h3]
  rfl

theorem pad4_four (s : List UInt8) : ∃ a b c d, pad4 s = [a, b, c, d] := by
  have h := pad4_length s
  match hp : pad4 s, h with
  | [a, b, c, d], _ => exact ⟨a, b, c, d, rfl⟩
theorem saidT_tokB {t : Tok} (ht : t.Ok) (hk : okC t = true) : saidT (tokB t) = some t := by
  obtain ⟨p, nm, r, ti, ge, tg⟩ := t
  obtain ⟨hn, h1, h2, h3⟩ := ht
  simp only at hn h1 h2 h3
  simp only [okC, Bool.and_eq_true, Bool.or_eq_true, decide_eq_true_eq] at hk
  obtain ⟨⟨⟨⟨k1, k2⟩, k3⟩, k4⟩, k5⟩ := hk
  have hc : cutN (pad4 nm) = some nm := by
    rcases k3 with k | k
    · subst k; decide
    · exact cutN_pad k
  obtain ⟨a, b, c, d, hp⟩ := pad4_four nm
  rw [hp] at hc
  have he : tokB ⟨p, nm, r, ti, ge, tg⟩ = u8 p.toNat :: a :: b :: c :: d :: u8 r.toNat :: u8 ti :: u8 (ti >>> 8) :: u8 (ti >>> 16) :: u8 (ti >>> 24) :: u8 ge :: u8 (ge >>> 8) :: u8 (ge >>> 16) :: u8 (ge >>> 24) :: tg := by
    simp [tokB, claimB, hp, le4]
  rw [he]
  simp only [saidT, hc, Option.map_some, tokOf, num4_u8 h1, num4_u8 h2, u8_toNat]
  rw [Nat.mod_eq_of_lt (by omega), Nat.mod_eq_of_lt (by omega)]
  congr 2 <;> omega
theorem isT_tokB {t : Tok} (ht : t.Ok) (hk : okC t = true) : isT (tokB t) = true := by
  unfold isT
  rw [tokB_length ht.tag, saidT_tokB ht hk]
  simp only [hk, decide_true, Bool.and_self]
theorem decT_tokB {t : Tok} (ht : t.Ok) (hk : okC t = true) : decT (tokB t) = t ∧ decTE (tokB t) = 0 := decT_yes (isT_tokB ht hk) (saidT_tokB ht hk)
theorem tokB_inj {t u : Tok} (ht : t.Ok) (hu : u.Ok) (hk : okC t = true) (hk' : okC u = true) : (tokB t = tokB u) = (t = u) := by
  apply propext
  constructor
  · intro h
    have h1 := saidT_tokB ht hk
    have h2 := saidT_tokB hu hk'
    rw [h, h2] at h1
    exact (Option.some.inj h1).symm
  · rintro rfl; rfl
theorem zT_ok : zT.Ok := ⟨by decide, by decide, by decide, by decide⟩
/-- what bytes say -/
theorem isT_said {b : List UInt8} (h : isT b = true) : ∃ t, saidT b = some t ∧ okC t = true ∧ tokB t = b ∧ t.Ok := by
  unfold isT at h
  simp only [Bool.and_eq_true, decide_eq_true_eq] at h
  obtain ⟨h46, h⟩ := h
  cases hs : saidT b with
  | none => rw [hs] at h; cases h
  | some t =>
    rw [hs] at h
    simp only [Bool.and_eq_true, decide_eq_true_eq] at h
    refine ⟨t, rfl, h.1, h.2, ?_⟩
    obtain ⟨p, n1, n2, n3, n4, r, u1, u2, u3, u4, g1, g2, g3, g4, tag, rfl, htag⟩ := split46 h46
    simp only [saidT] at hs
    cases hc : cutN [n1, n2, n3, n4] with
    | none => rw [hc] at hs; cases hs
    | some nm =>
      rw [hc] at hs
      simp only [Option.map_some, Option.some.injEq] at hs
      subst hs
      have := (cutN_some rfl hc).2.2
      exact ⟨by simp only [tokOf]; omega, num4_lt _ _ _ _, num4_lt _ _ _ _, htag⟩
theorem decT_ok (b : List UInt8) : (decT b).Ok := by
  cases h : isT b with
  | false => rw [(decT_no h).1]; exact zT_ok
  | true =>
    obtain ⟨t, hs, _, _, hk⟩ := isT_said h
    rw [(decT_yes h hs).1]; exact hk
theorem tk1 (t : Tok) : List.take 1 (List.drop 1 (tkC t)) = [.str t.name] := rfl
theorem tokR_le (t : Tok) (h : t.tag.length = 32) : (tokR t).length ≤ 46 := by
  unfold tokR
  split
  · rw [tokB_length h]; exact Nat.le_refl _
  · simp
theorem tokE_eq (t : Tok) : tokE t = if okC t = true then 0 else 11 := rfl

theorem bl_set {b : List UInt8} {k : Nat} (h : k < b.length) (x : UInt8) : List.take k (bl b) ++ [IV.int .u8 (x.toNat : Int)] ++ List.drop (k + 1) (bl b) = bl (b.set k x) := by
  rw [List.set_eq_take_append_cons_drop, if_pos h, bl_append, bl_cons, bl_take, bl_drop]
  simp
theorem xor_u8 (a b : UInt8) : bitsI .xor .u8 (a.toNat : Int) (b.toNat : Int) = some (((a ^^^ b).toNat : Nat) : Int) := by
  rw [bitsI_xor .u8 (by have := a.toNat_lt; simpa [vbits, IntKind.signed, IntKind.bits] using this) (by have := b.toNat_lt; simpa [vbits, IntKind.signed, IntKind.bits] using this), UInt8.toNat_xor]
theorem xor_u8_self (a b : UInt8) : (a ^^^ b = a) = (b = 0) := by
  apply propext
  constructor
  · intro h
    have := congrArg (a ^^^ ·) h
    simpa [← UInt8.xor_assoc] using this
  · rintro rfl; simp
theorem isT_46 {b : List UInt8} (h : b.length ≠ 46) : isT b = false := by simp [isT, h]

end Go.Proofs.YtfllhbjblkfdfaaDoor
