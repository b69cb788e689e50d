/- Of the tokens: numbers as bytes; claims as bytes. -/
import Derived.Test.YtkphojcmjffccaaDoorE31
import Derived.Test.YtkphojcmjffccaaDoorM4
import Derived.Test.YtkphojcmjffccaaDoorN4
import Derived.Test.YtkphojcmjffccaaDoorK4
import Derived.Test.YtkphojcmjffccaaDoorK0
set_option linter.unusedVariables false
set_option linter.unusedSimpArgs false
set_option maxRecDepth 100000
set_option maxHeartbeats 4000000
namespace Go.Proofs.YtkphojcmjffccaaDoor
open Go.RowKit

def num4 (a b c d : UInt8) : Nat := a.toNat + 256 * b.toNat + 65536 * c.toNat + 16777216 * d.toNat
def le4 (n : Nat) : List UInt8 := [u8 n, u8 (n >>> 8), u8 (n >>> 16), u8 (n >>> 24)]
theorem num4_lt (a b c d : UInt8) : num4 a b c d < 2 ^ 32 := by
  have := a.toNat_lt; have := b.toNat_lt; have := c.toNat_lt; have := d.toNat_lt
  unfold num4; omega
theorem or_add {x y i : Nat} (h : x < 2 ^ i) : x ||| y * 2 ^ i = x + y * 2 ^ i := by
  rw [Nat.or_comm, ← Nat.shiftLeft_eq, ← Nat.shiftLeft_add_eq_or_of_lt h]; omega
theorem num4_u8 {n : Nat} (h : n < 2 ^ 32) : num4 (u8 n) (u8 (n >>> 8)) (u8 (n >>> 16)) (u8 (n >>> 24)) = n := by
  unfold num4
  simp only [u8_toNat, Nat.shiftRight_eq_div_pow]
  omega
theorem le4_num4 (a b c d : UInt8) : le4 (num4 a b c d) = [a, b, c, d] := by
  have := a.toNat_lt; have := b.toNat_lt; have := c.toNat_lt; have := d.toNat_lt
  unfold le4 num4
  simp only [List.cons.injEq, and_true]
  refine ⟨?_, ?_, ?_, ?_⟩ <;> (apply UInt8.toNat_inj.1; rw [u8_toNat]; (try simp only [Nat.shiftRight_eq_div_pow]); omega)

theorem four_ok {n : Nat} (hn : n < 2 ^ 32) : RC Tryd.prog 22 [.int .u32 (n : Nat)] [.sl .full 4 (bl (le4 n))] := by
  refine RC.of_wp c22 rfl ?_
  have s1 : shI .shr .u32 (n : Int) 8 = some (.int .u32 ((n >>> 8 : Nat) : Int)) := shI_shr .u32 (x := n) (y := 8) (by decide)
  have s2 : shI .shr .u32 (n : Int) 16 = some (.int .u32 ((n >>> 16 : Nat) : Int)) := shI_shr .u32 (x := n) (y := 16) (by decide)
  have s3 : shI .shr .u32 (n : Int) 24 = some (.int .u32 ((n >>> 24 : Nat) : Int)) := shI_shr .u32 (x := n) (y := 24) (by decide)
  have e : bl (le4 n) = [.int .u8 ((u8 n).toNat : Int), .int .u8 ((u8 (n >>> 8)).toNat : Int), .int .u8 ((u8 (n >>> 16)).toNat : Int), .int .u8 ((u8 (n >>> 24)).toNat : Int)] := rfl
  rw [e]
  simp -implicitDefEqProofs (maxSteps := 2000000) only [m22_1, m22_r, m22_b, m22, wrap_u8, s1, s2, s3, wk, act, asV, ↓reduceIte, Nat.reduceEqDiff, reduceCtorEq, Nat.reduceAdd, Nat.reduceLeDiff, Nat.reduceSub, Nat.reduceMul, List.reduceReplicate, Int.reduceEq, Int.reduceLT, Int.reduceLE, Int.reduceAdd, Int.reduceSub, Int.reduceMul, Nat.reduceLT, Int.reduceToNat]

/-! ### claims and tokens -/
structure Tok where
  place : Int
  name : List UInt8
  rights : Int
  til : Nat
  gen : Nat
  tag : List UInt8
  deriving DecidableEq
def clC (t : Tok) : List IV := [.int .i64 t.place, .str t.name, .int .i64 t.rights, .int .u32 (t.til : Nat), .int .u32 (t.gen : Nat)]
def tkC (t : Tok) : List IV := clC t ++ bl t.tag
structure Tok.Ok (t : Tok) : Prop where
  nm : t.name.length < 2 ^ 63
  til : t.til < 2 ^ 32
  gen : t.gen < 2 ^ 32
  tag : t.tag.length = 32
def okC (t : Tok) : Bool := decide (0 ≤ t.place) && decide (t.place < 4) && (decide (t.name = []) || goodN t.name) && decide (1 ≤ t.rights) && decide (t.rights ≤ 3)
def claimB (t : Tok) : List UInt8 := u8 t.place.toNat :: (pad4 t.name ++ (u8 t.rights.toNat :: (le4 t.til ++ le4 t.gen)))
def claimR (t : Tok) : List UInt8 := if okC t = true then claimB t else []
def tokB (t : Tok) : List UInt8 := claimB t ++ t.tag
def tokR (t : Tok) : List UInt8 := if okC t = true then tokB t else []
def tokE (t : Tok) : Int := if okC t = true then 0 else 11
theorem claimB_length (t : Tok) : (claimB t).length = 14 := by simp [claimB, pad4_length, le4]
theorem okC_of {t : Tok} (h1 : ¬ t.place < 0) (h2 : ¬ 4 ≤ t.place) (h3 : t.name = [] ∨ goodN t.name = true) (h4 : ¬ t.rights < 1) (h5 : ¬ 3 < t.rights) : okC t = true := by
  unfold okC
  rw [decide_eq_true (show 0 ≤ t.place by omega), decide_eq_true (show t.place < 4 by omega), decide_eq_true (show 1 ≤ t.rights by omega), decide_eq_true (show t.rights ≤ 3 by omega)]
  rcases h3 with h | h <;> simp [h]
theorem okC_no {t : Tok} (h : t.place < 0 ∨ 4 ≤ t.place ∨ (t.name ≠ [] ∧ goodN t.name = false) ∨ t.rights < 1 ∨ 3 < t.rights) : ¬ okC t = true := by
  intro hk
  simp only [okC, Bool.and_eq_true, Bool.or_eq_true, decide_eq_true_eq] at hk
  obtain ⟨⟨⟨⟨k1, k2⟩, k3⟩, k4⟩, k5⟩ := hk
  rcases h with h | h | ⟨h, h'⟩ | h | h
  · omega
  · omega
  · rcases k3 with k | k
    · exact h k
    · rw [h'] at k; cases k
  · omega
  · omega

theorem bl_take14 {b : List UInt8} {n : Nat} (h : b.length = n) : List.take n (bl b) = bl b := List.take_of_length_le (by rw [bl_length]; omega)
theorem claim_ok (t : Tok) (ht : t.Ok) : RC Tryd.prog 14 [.agg (clC t)] [.own (claimR t).length 1 (bl (claimR t)), .int .i64 (tokE t)] := by
  obtain ⟨p, nm, r, ti, ge, tg⟩ := t
  obtain ⟨hn, h32, h32', htg⟩ := ht
  simp only at hn h32 h32' htg
  refine RC.of_wpW c14 rfl ?_
  have bad : ∀ s : St, (p < 0 ∨ 4 ≤ p ∨ (nm ≠ [] ∧ goodN nm = false) ∨ r < 1 ∨ 3 < r) → s.ress [MRes.tmp 2, MRes.tmp 3] = some [.sl .full 0 [], .int .i64 11] → PostW [MRes.tmp 2, MRes.tmp 3] [.own (claimR ⟨p, nm, r, ti, ge, tg⟩).length 1 (bl (claimR ⟨p, nm, r, ti, ge, tg⟩)), .int .i64 (tokE ⟨p, nm, r, ti, ge, tg⟩)] .ret s := by
    intro s hb hs
    have hb' := okC_no (t := ⟨p, nm, r, ti, ge, tg⟩) hb
    have e1 : claimR ⟨p, nm, r, ti, ge, tg⟩ = [] := if_neg hb'
    have e2 : tokE ⟨p, nm, r, ti, ge, tg⟩ = 11 := if_neg hb'
    rw [e1, e2]
    exact PostW.mk (r' := [.sl .full 0 [], .int .i64 11]) hs (.cons (.inr ⟨rfl, 1, rfl⟩) (.cons (.inl rfl) .nil)) (by decide) (by decide)
  have cg := good_ok .full [nm] (by simp) (by simpa using hn)
  simp only [List.all_cons, List.all_nil, Bool.and_true] at cg
  by_cases h1 : p < 0
  · simp -implicitDefEqProofs (maxSteps := 2000000) only [m14_1, m14_2, m14_3, m14_4, m14_5, m14_6, m14_7, m14_r, m14_b, m14, clC, h1, wk, act, asV, ↓reduceIte, Nat.reduceEqDiff, reduceCtorEq, Nat.reduceAdd, Nat.reduceLeDiff, Nat.reduceSub, Nat.reduceMul, List.reduceReplicate, Int.reduceEq, Int.reduceLT, Int.reduceLE, Int.reduceAdd, Int.reduceSub, Int.reduceMul, Nat.reduceLT, Int.reduceToNat]
    exact bad _ (.inl h1) (by simp -implicitDefEqProofs (maxSteps := 2000000) only [wk, act, asV, ↓reduceIte, Nat.reduceEqDiff, reduceCtorEq, Nat.reduceAdd, Nat.reduceLeDiff, Nat.reduceSub, Nat.reduceMul, List.reduceReplicate, Int.reduceEq, Int.reduceLT, Int.reduceLE, Int.reduceAdd, Int.reduceSub, Int.reduceMul, Nat.reduceLT, Int.reduceToNat])
  by_cases h2 : 4 ≤ p
  · simp -implicitDefEqProofs (maxSteps := 2000000) only [m14_1, m14_2, m14_3, m14_4, m14_5, m14_6, m14_7, m14_r, m14_b, m14, clC, h1, h2, wk, act, asV, ↓reduceIte, Nat.reduceEqDiff, reduceCtorEq, Nat.reduceAdd, Nat.reduceLeDiff, Nat.reduceSub, Nat.reduceMul, List.reduceReplicate, Int.reduceEq, Int.reduceLT, Int.reduceLE, Int.reduceAdd, Int.reduceSub, Int.reduceMul, Nat.reduceLT, Int.reduceToNat]
    exact bad _ (.inr (.inl h2)) (by simp -implicitDefEqProofs (maxSteps := 2000000) only [wk, act, asV, ↓reduceIte, Nat.reduceEqDiff, reduceCtorEq, Nat.reduceAdd, Nat.reduceLeDiff, Nat.reduceSub, Nat.reduceMul, List.reduceReplicate, Int.reduceEq, Int.reduceLT, Int.reduceLE, Int.reduceAdd, Int.reduceSub, Int.reduceMul, Nat.reduceLT, Int.reduceToNat])
  by_cases h0 : nm = []
  · have HX : nm = [] ∨ goodN nm = true := .inl h0
    have h0 := eq_true h0
    by_cases h4 : r < 1
    · repeat' (first | simp -implicitDefEqProofs (maxSteps := 2000000) only [m14_1, m14_2, m14_3, m14_4, m14_5, m14_6, m14_7, m14_r, m14_b, m14, clC, h1, h2, h0, h4, wk, act, asV, ↓reduceIte, Nat.reduceEqDiff, reduceCtorEq, Nat.reduceAdd, Nat.reduceLeDiff, Nat.reduceSub, Nat.reduceMul, List.reduceReplicate, Int.reduceEq, Int.reduceLT, Int.reduceLE, Int.reduceAdd, Int.reduceSub, Int.reduceMul, Nat.reduceLT, Int.reduceToNat] | ((first | ((with_reducible refine CallL.gate ?_); apply CallL.of) | ((with_reducible refine CallP.gate ?_); apply CallP.of)); (case h1 => (simp -implicitDefEqProofs (maxSteps := 2000000) only [m14_1, m14_2, m14_3, m14_4, m14_5, m14_6, m14_7, m14_r, m14_b, m14, clC, h1, h2, h0, h4, wk, act, asV, ↓reduceIte, Nat.reduceEqDiff, reduceCtorEq, Nat.reduceAdd, Nat.reduceLeDiff, Nat.reduceSub, Nat.reduceMul, List.reduceReplicate, Int.reduceEq, Int.reduceLT, Int.reduceLE, Int.reduceAdd, Int.reduceSub, Int.reduceMul, Nat.reduceLT, Int.reduceToNat]; first | done | (with_reducible rfl))); (case h2 => (first | exact cg)); (case h3 => simp -implicitDefEqProofs (maxSteps := 2000000) only [m14_1, m14_2, m14_3, m14_4, m14_5, m14_6, m14_7, m14_r, m14_b, m14, clC, h1, h2, h0, h4, wk, act, asV, ↓reduceIte, Nat.reduceEqDiff, reduceCtorEq, Nat.reduceAdd, Nat.reduceLeDiff, Nat.reduceSub, Nat.reduceMul, List.reduceReplicate, Int.reduceEq, Int.reduceLT, Int.reduceLE, Int.reduceAdd, Int.reduceSub, Int.reduceMul, Nat.reduceLT, Int.reduceToNat])))
      exact bad _ (.inr (.inr (.inr (.inl h4)))) (by simp -implicitDefEqProofs (maxSteps := 2000000) only [wk, act, asV, ↓reduceIte, Nat.reduceEqDiff, reduceCtorEq, Nat.reduceAdd, Nat.reduceLeDiff, Nat.reduceSub, Nat.reduceMul, List.reduceReplicate, Int.reduceEq, Int.reduceLT, Int.reduceLE, Int.reduceAdd, Int.reduceSub, Int.reduceMul, Nat.reduceLT, Int.reduceToNat])
    by_cases h5 : 3 < r
    · repeat' (first | simp -implicitDefEqProofs (maxSteps := 2000000) only [m14_1, m14_2, m14_3, m14_4, m14_5, m14_6, m14_7, m14_r, m14_b, m14, clC, h1, h2, h0, h4, h5, wk, act, asV, ↓reduceIte, Nat.reduceEqDiff, reduceCtorEq, Nat.reduceAdd, Nat.reduceLeDiff, Nat.reduceSub, Nat.reduceMul, List.reduceReplicate, Int.reduceEq, Int.reduceLT, Int.reduceLE, Int.reduceAdd, Int.reduceSub, Int.reduceMul, Nat.reduceLT, Int.reduceToNat] | ((first | ((with_reducible refine CallL.gate ?_); apply CallL.of) | ((with_reducible refine CallP.gate ?_); apply CallP.of)); (case h1 => (simp -implicitDefEqProofs (maxSteps := 2000000) only [m14_1, m14_2, m14_3, m14_4, m14_5, m14_6, m14_7, m14_r, m14_b, m14, clC, h1, h2, h0, h4, h5, wk, act, asV, ↓reduceIte, Nat.reduceEqDiff, reduceCtorEq, Nat.reduceAdd, Nat.reduceLeDiff, Nat.reduceSub, Nat.reduceMul, List.reduceReplicate, Int.reduceEq, Int.reduceLT, Int.reduceLE, Int.reduceAdd, Int.reduceSub, Int.reduceMul, Nat.reduceLT, Int.reduceToNat]; first | done | (with_reducible rfl))); (case h2 => (first | exact cg)); (case h3 => simp -implicitDefEqProofs (maxSteps := 2000000) only [m14_1, m14_2, m14_3, m14_4, m14_5, m14_6, m14_7, m14_r, m14_b, m14, clC, h1, h2, h0, h4, h5, wk, act, asV, ↓reduceIte, Nat.reduceEqDiff, reduceCtorEq, Nat.reduceAdd, Nat.reduceLeDiff, Nat.reduceSub, Nat.reduceMul, List.reduceReplicate, Int.reduceEq, Int.reduceLT, Int.reduceLE, Int.reduceAdd, Int.reduceSub, Int.reduceMul, Nat.reduceLT, Int.reduceToNat])))
      exact bad _ (.inr (.inr (.inr (.inr h5)))) (by simp -implicitDefEqProofs (maxSteps := 2000000) only [wk, act, asV, ↓reduceIte, Nat.reduceEqDiff, reduceCtorEq, Nat.reduceAdd, Nat.reduceLeDiff, Nat.reduceSub, Nat.reduceMul, List.reduceReplicate, Int.reduceEq, Int.reduceLT, Int.reduceLE, Int.reduceAdd, Int.reduceSub, Int.reduceMul, Nat.reduceLT, Int.reduceToNat])
    have hok := okC_of (t := ⟨p, nm, r, ti, ge, tg⟩) h1 h2 HX h4 h5
    have e1 : claimR ⟨p, nm, r, ti, ge, tg⟩ = claimB ⟨p, nm, r, ti, ge, tg⟩ := if_pos hok
    have e2 : tokE ⟨p, nm, r, ti, ge, tg⟩ = 0 := if_pos hok
    rw [e1, e2]
    obtain ⟨n, rfl⟩ : ∃ n : Nat, p = n := ⟨p.toNat, by omega⟩
    obtain ⟨m, rfl⟩ : ∃ n : Nat, r = n := ⟨r.toNat, by omega⟩
    have c1 := pad_ok nm hn
    have c2 := four_ok h32
    have c3 := four_ok h32'
    have c4 := concat_ok .full [(.full, [u8 n]), (.plain, pad4 nm), (.full, [u8 m]), (.full, le4 ti), (.full, le4 ge)] (by simp [joined, pad4_length, le4]) (by simp)
    have ej : joined [(Fl.full, [u8 n]), (.plain, pad4 nm), (.full, [u8 m]), (.full, le4 ti), (.full, le4 ge)] = claimB ⟨n, nm, m, ti, ge, tg⟩ := by simp [joined, claimB]
    rw [ej] at c4
    simp only [pl, List.map_cons, List.map_nil, pad4_length] at c4
    have hl := claimB_length ⟨n, nm, m, ti, ge, tg⟩
    obtain ⟨w, hw⟩ : ∃ w, w = claimB ⟨n, nm, m, ti, ge, tg⟩ := ⟨_, rfl⟩
    rw [← hw] at c4 hl ⊢
    repeat' (first | simp -implicitDefEqProofs (maxSteps := 2000000) only [m14_1, m14_2, m14_3, m14_4, m14_5, m14_6, m14_7, m14_r, m14_b, m14, clC, h1, h2, h0, h4, h5, wrap_u8, bl_scal, bl_pur, bl_length, pad4_length, bl_take4 (pad4_length nm), bl_drop4 (pad4_length []), hl, wk, act, asV, ↓reduceIte, Nat.reduceEqDiff, reduceCtorEq, Nat.reduceAdd, Nat.reduceLeDiff, Nat.reduceSub, Nat.reduceMul, List.reduceReplicate, Int.reduceEq, Int.reduceLT, Int.reduceLE, Int.reduceAdd, Int.reduceSub, Int.reduceMul, Nat.reduceLT, Int.reduceToNat] | ((first | ((with_reducible refine CallL.gate ?_); apply CallL.of) | ((with_reducible refine CallP.gate ?_); apply CallP.of)); (case h1 => (simp -implicitDefEqProofs (maxSteps := 2000000) only [m14_1, m14_2, m14_3, m14_4, m14_5, m14_6, m14_7, m14_r, m14_b, m14, clC, h1, h2, h0, h4, h5, wrap_u8, bl_scal, bl_pur, bl_length, pad4_length, bl_take4 (pad4_length nm), bl_drop4 (pad4_length []), hl, wk, act, asV, ↓reduceIte, Nat.reduceEqDiff, reduceCtorEq, Nat.reduceAdd, Nat.reduceLeDiff, Nat.reduceSub, Nat.reduceMul, List.reduceReplicate, Int.reduceEq, Int.reduceLT, Int.reduceLE, Int.reduceAdd, Int.reduceSub, Int.reduceMul, Nat.reduceLT, Int.reduceToNat]; first | done | (with_reducible rfl))); (case h2 => (first | exact cg | exact c1 | exact c2 | exact c3 | exact c4)); (case h3 => simp -implicitDefEqProofs (maxSteps := 2000000) only [m14_1, m14_2, m14_3, m14_4, m14_5, m14_6, m14_7, m14_r, m14_b, m14, clC, h1, h2, h0, h4, h5, wrap_u8, bl_scal, bl_pur, bl_length, pad4_length, bl_take4 (pad4_length nm), bl_drop4 (pad4_length []), hl, wk, act, asV, ↓reduceIte, Nat.reduceEqDiff, reduceCtorEq, Nat.reduceAdd, Nat.reduceLeDiff, Nat.reduceSub, Nat.reduceMul, List.reduceReplicate, Int.reduceEq, Int.reduceLT, Int.reduceLE, Int.reduceAdd, Int.reduceSub, Int.reduceMul, Nat.reduceLT, Int.reduceToNat])))
    exact PostW.mk (r' := [.own 14 1 (bl w), .int .i64 0]) (by simp -implicitDefEqProofs (maxSteps := 2000000) only [bl_take14 hl, wk, act, asV, ↓reduceIte, Nat.reduceEqDiff, reduceCtorEq, Nat.reduceAdd, Nat.reduceLeDiff, Nat.reduceSub, Nat.reduceMul, List.reduceReplicate, Int.reduceEq, Int.reduceLT, Int.reduceLE, Int.reduceAdd, Int.reduceSub, Int.reduceMul, Nat.reduceLT, Int.reduceToNat]) (.cons (.inl rfl) (.cons (.inl rfl) .nil)) (Nat.le_refl 1) (Nat.le_refl 1)
  · by_cases hg : goodN nm = true
    · have HX : nm = [] ∨ goodN nm = true := .inr hg
      rw [hg] at cg
      by_cases h4 : r < 1
      · repeat' (first | simp -implicitDefEqProofs (maxSteps := 2000000) only [m14_1, m14_2, m14_3, m14_4, m14_5, m14_6, m14_7, m14_r, m14_b, m14, clC, h1, h2, h0, h4, wk, act, asV, ↓reduceIte, Nat.reduceEqDiff, reduceCtorEq, Nat.reduceAdd, Nat.reduceLeDiff, Nat.reduceSub, Nat.reduceMul, List.reduceReplicate, Int.reduceEq, Int.reduceLT, Int.reduceLE, Int.reduceAdd, Int.reduceSub, Int.reduceMul, Nat.reduceLT, Int.reduceToNat] | ((first | ((with_reducible refine CallL.gate ?_); apply CallL.of) | ((with_reducible refine CallP.gate ?_); apply CallP.of)); (case h1 => (simp -implicitDefEqProofs (maxSteps := 2000000) only [m14_1, m14_2, m14_3, m14_4, m14_5, m14_6, m14_7, m14_r, m14_b, m14, clC, h1, h2, h0, h4, wk, act, asV, ↓reduceIte, Nat.reduceEqDiff, reduceCtorEq, Nat.reduceAdd, Nat.reduceLeDiff, Nat.reduceSub, Nat.reduceMul, List.reduceReplicate, Int.reduceEq, Int.reduceLT, Int.reduceLE, Int.reduceAdd, Int.reduceSub, Int.reduceMul, Nat.reduceLT, Int.reduceToNat]; first | done | (with_reducible rfl))); (case h2 => (first | exact cg)); (case h3 => simp -implicitDefEqProofs (maxSteps := 2000000) only [m14_1, m14_2, m14_3, m14_4, m14_5, m14_6, m14_7, m14_r, m14_b, m14, clC, h1, h2, h0, h4, wk, act, asV, ↓reduceIte, Nat.reduceEqDiff, reduceCtorEq, Nat.reduceAdd, Nat.reduceLeDiff, Nat.reduceSub, Nat.reduceMul, List.reduceReplicate, Int.reduceEq, Int.reduceLT, Int.reduceLE, Int.reduceAdd, Int.reduceSub, Int.reduceMul, Nat.reduceLT, Int.reduceToNat])))
        exact bad _ (.inr (.inr (.inr (.inl h4)))) (by simp -implicitDefEqProofs (maxSteps := 2000000) only [wk, act, asV, ↓reduceIte, Nat.reduceEqDiff, reduceCtorEq, Nat.reduceAdd, Nat.reduceLeDiff, Nat.reduceSub, Nat.reduceMul, List.reduceReplicate, Int.reduceEq, Int.reduceLT, Int.reduceLE, Int.reduceAdd, Int.reduceSub, Int.reduceMul, Nat.reduceLT, Int.reduceToNat])
      by_cases h5 : 3 < r
      · repeat' (first | simp -implicitDefEqProofs (maxSteps := 2000000) only [m14_1, m14_2, m14_3, m14_4, m14_5, m14_6, m14_7, m14_r, m14_b, m14, clC, h1, h2, h0, h4, h5, wk, act, asV, ↓reduceIte, Nat.reduceEqDiff, reduceCtorEq, Nat.reduceAdd, Nat.reduceLeDiff, Nat.reduceSub, Nat.reduceMul, List.reduceReplicate, Int.reduceEq, Int.reduceLT, Int.reduceLE, Int.reduceAdd, Int.reduceSub, Int.reduceMul, Nat.reduceLT, Int.reduceToNat] | ((first | ((with_reducible refine CallL.gate ?_); apply CallL.of) | ((with_reducible refine CallP.gate ?_); apply CallP.of)); (case h1 => (simp -implicitDefEqProofs (maxSteps := 2000000) only [m14_1, m14_2, m14_3, m14_4, m14_5, m14_6, m14_7, m14_r, m14_b, m14, clC, h1, h2, h0, h4, h5, wk, act, asV, ↓reduceIte, Nat.reduceEqDiff, reduceCtorEq, Nat.reduceAdd, Nat.reduceLeDiff, Nat.reduceSub, Nat.reduceMul, List.reduceReplicate, Int.reduceEq, Int.reduceLT, Int.reduceLE, Int.reduceAdd, Int.reduceSub, Int.reduceMul, Nat.reduceLT, Int.reduceToNat]; first | done | (with_reducible rfl))); (case h2 => (first | exact cg)); (case h3 => simp -implicitDefEqProofs (maxSteps := 2000000) only [m14_1, m14_2, m14_3, m14_4, m14_5, m14_6, m14_7, m14_r, m14_b, m14, clC, h1, h2, h0, h4, h5, wk, act, asV, ↓reduceIte, Nat.reduceEqDiff, reduceCtorEq, Nat.reduceAdd, Nat.reduceLeDiff, Nat.reduceSub, Nat.reduceMul, List.reduceReplicate, Int.reduceEq, Int.reduceLT, Int.reduceLE, Int.reduceAdd, Int.reduceSub, Int.reduceMul, Nat.reduceLT, Int.reduceToNat])))
        exact bad _ (.inr (.inr (.inr (.inr h5)))) (by simp -implicitDefEqProofs (maxSteps := 2000000) only [wk, act, asV, ↓reduceIte, Nat.reduceEqDiff, reduceCtorEq, Nat.reduceAdd, Nat.reduceLeDiff, Nat.reduceSub, Nat.reduceMul, List.reduceReplicate, Int.reduceEq, Int.reduceLT, Int.reduceLE, Int.reduceAdd, Int.reduceSub, Int.reduceMul, Nat.reduceLT, Int.reduceToNat])
      have hok := okC_of (t := ⟨p, nm, r, ti, ge, tg⟩) h1 h2 HX h4 h5
      have e1 : claimR ⟨p, nm, r, ti, ge, tg⟩ = claimB ⟨p, nm, r, ti, ge, tg⟩ := if_pos hok
      have e2 : tokE ⟨p, nm, r, ti, ge, tg⟩ = 0 := if_pos hok
      rw [e1, e2]
      obtain ⟨n, rfl⟩ : ∃ n : Nat, p = n := ⟨p.toNat, by omega⟩
      obtain ⟨m, rfl⟩ : ∃ n : Nat, r = n := ⟨r.toNat, by omega⟩
      have c1 := pad_ok nm hn
      have c2 := four_ok h32
      have c3 := four_ok h32'
      have c4 := concat_ok .full [(.full, [u8 n]), (.plain, pad4 nm), (.full, [u8 m]), (.full, le4 ti), (.full, le4 ge)] (by simp [joined, pad4_length, le4]) (by simp)
      have ej : joined [(Fl.full, [u8 n]), (.plain, pad4 nm), (.full, [u8 m]), (.full, le4 ti), (.full, le4 ge)] = claimB ⟨n, nm, m, ti, ge, tg⟩ := by simp [joined, claimB]
      rw [ej] at c4
      simp only [pl, List.map_cons, List.map_nil, pad4_length] at c4
      have hl := claimB_length ⟨n, nm, m, ti, ge, tg⟩
      obtain ⟨w, hw⟩ : ∃ w, w = claimB ⟨n, nm, m, ti, ge, tg⟩ := ⟨_, rfl⟩
      rw [← hw] at c4 hl ⊢
      repeat' (first | simp -implicitDefEqProofs (maxSteps := 2000000) only [m14_1, m14_2, m14_3, m14_4, m14_5, m14_6, m14_7, m14_r, m14_b, m14, clC, h1, h2, h0, h4, h5, wrap_u8, bl_scal, bl_pur, bl_length, pad4_length, bl_take4 (pad4_length nm), bl_drop4 (pad4_length []), hl, wk, act, asV, ↓reduceIte, Nat.reduceEqDiff, reduceCtorEq, Nat.reduceAdd, Nat.reduceLeDiff, Nat.reduceSub, Nat.reduceMul, List.reduceReplicate, Int.reduceEq, Int.reduceLT, Int.reduceLE, Int.reduceAdd, Int.reduceSub, Int.reduceMul, Nat.reduceLT, Int.reduceToNat] | ((first | ((with_reducible refine CallL.gate ?_); apply CallL.of) | ((with_reducible refine CallP.gate ?_); apply CallP.of)); (case h1 => (simp -implicitDefEqProofs (maxSteps := 2000000) only [m14_1, m14_2, m14_3, m14_4, m14_5, m14_6, m14_7, m14_r, m14_b, m14, clC, h1, h2, h0, h4, h5, wrap_u8, bl_scal, bl_pur, bl_length, pad4_length, bl_take4 (pad4_length nm), bl_drop4 (pad4_length []), hl, wk, act, asV, ↓reduceIte, Nat.reduceEqDiff, reduceCtorEq, Nat.reduceAdd, Nat.reduceLeDiff, Nat.reduceSub, Nat.reduceMul, List.reduceReplicate, Int.reduceEq, Int.reduceLT, Int.reduceLE, Int.reduceAdd, Int.reduceSub, Int.reduceMul, Nat.reduceLT, Int.reduceToNat]; first | done | (with_reducible rfl))); (case h2 => (first | exact cg | exact c1 | exact c2 | exact c3 | exact c4)); (case h3 => simp -implicitDefEqProofs (maxSteps := 2000000) only [m14_1, m14_2, m14_3, m14_4, m14_5, m14_6, m14_7, m14_r, m14_b, m14, clC, h1, h2, h0, h4, h5, wrap_u8, bl_scal, bl_pur, bl_length, pad4_length, bl_take4 (pad4_length nm), bl_drop4 (pad4_length []), hl, wk, act, asV, ↓reduceIte, Nat.reduceEqDiff, reduceCtorEq, Nat.reduceAdd, Nat.reduceLeDiff, Nat.reduceSub, Nat.reduceMul, List.reduceReplicate, Int.reduceEq, Int.reduceLT, Int.reduceLE, Int.reduceAdd, Int.reduceSub, Int.reduceMul, Nat.reduceLT, Int.reduceToNat])))
      exact PostW.mk (r' := [.own 14 1 (bl w), .int .i64 0]) (by simp -implicitDefEqProofs (maxSteps := 2000000) only [bl_take14 hl, wk, act, asV, ↓reduceIte, Nat.reduceEqDiff, reduceCtorEq, Nat.reduceAdd, Nat.reduceLeDiff, Nat.reduceSub, Nat.reduceMul, List.reduceReplicate, Int.reduceEq, Int.reduceLT, Int.reduceLE, Int.reduceAdd, Int.reduceSub, Int.reduceMul, Nat.reduceLT, Int.reduceToNat]) (.cons (.inl rfl) (.cons (.inl rfl) .nil)) (Nat.le_refl 1) (Nat.le_refl 1)

    · have hg' : goodN nm = false := by simpa using hg
      rw [hg'] at cg
      repeat' (first | simp -implicitDefEqProofs (maxSteps := 2000000) only [m14_1, m14_2, m14_3, m14_4, m14_5, m14_6, m14_7, m14_r, m14_b, m14, clC, h1, h2, h0, wk, act, asV, ↓reduceIte, Nat.reduceEqDiff, reduceCtorEq, Nat.reduceAdd, Nat.reduceLeDiff, Nat.reduceSub, Nat.reduceMul, List.reduceReplicate, Int.reduceEq, Int.reduceLT, Int.reduceLE, Int.reduceAdd, Int.reduceSub, Int.reduceMul, Nat.reduceLT, Int.reduceToNat] | ((first | ((with_reducible refine CallL.gate ?_); apply CallL.of) | ((with_reducible refine CallP.gate ?_); apply CallP.of)); (case h1 => (simp -implicitDefEqProofs (maxSteps := 2000000) only [m14_1, m14_2, m14_3, m14_4, m14_5, m14_6, m14_7, m14_r, m14_b, m14, clC, h1, h2, h0, wk, act, asV, ↓reduceIte, Nat.reduceEqDiff, reduceCtorEq, Nat.reduceAdd, Nat.reduceLeDiff, Nat.reduceSub, Nat.reduceMul, List.reduceReplicate, Int.reduceEq, Int.reduceLT, Int.reduceLE, Int.reduceAdd, Int.reduceSub, Int.reduceMul, Nat.reduceLT, Int.reduceToNat]; first | done | (with_reducible rfl))); (case h2 => (first | exact cg)); (case h3 => simp -implicitDefEqProofs (maxSteps := 2000000) only [m14_1, m14_2, m14_3, m14_4, m14_5, m14_6, m14_7, m14_r, m14_b, m14, clC, h1, h2, h0, wk, act, asV, ↓reduceIte, Nat.reduceEqDiff, reduceCtorEq, Nat.reduceAdd, Nat.reduceLeDiff, Nat.reduceSub, Nat.reduceMul, List.reduceReplicate, Int.reduceEq, Int.reduceLT, Int.reduceLE, Int.reduceAdd, Int.reduceSub, Int.reduceMul, Nat.reduceLT, Int.reduceToNat])))
      exact bad _ (.inr (.inr (.inl ⟨h0, hg'⟩))) (by simp -implicitDefEqProofs (maxSteps := 2000000) only [wk, act, asV, ↓reduceIte, Nat.reduceEqDiff, reduceCtorEq, Nat.reduceAdd, Nat.reduceLeDiff, Nat.reduceSub, Nat.reduceMul, List.reduceReplicate, Int.reduceEq, Int.reduceLT, Int.reduceLE, Int.reduceAdd, Int.reduceSub, Int.reduceMul, Nat.reduceLT, Int.reduceToNat])
end Go.Proofs.YtkphojcmjffccaaDoor
/- Rows held against one another. -/

set_option linter.unusedVariables false
set_option linter.unusedSimpArgs false
set_option maxRecDepth 100000
set_option maxHeartbeats 2000000
namespace Go.Proofs.YtkphojcmjffccaaDoor
open Go.RowKit

end Go.Proofs.YtkphojcmjffccaaDoor
/- Of the tokens: tokens as bytes, and back. -/

set_option linter.unusedVariables false
set_option linter.unusedSimpArgs false
set_option maxRecDepth 100000
set_option maxHeartbeats 8000000
namespace Go.Proofs.YtkphojcmjffccaaDoor
open Go.RowKit

theorem tokB_length {t : Tok} (ht : t.tag.length = 32) : (tokB t).length = 46 := by simp [tokB, claimB_length, ht]
def zT : Tok := ⟨0, [], 0, 0, 0, List.replicate 32 0⟩
theorem zT_cells : tkC zT = [.int .i64 0, .str [], .int .i64 0, .int .u32 0, .int .u32 0, .int .u8 0, .int .u8 0, .int .u8 0, .int .u8 0, .int .u8 0, .int .u8 0, .int .u8 0, .int .u8 0, .int .u8 0, .int .u8 0, .int .u8 0, .int .u8 0, .int .u8 0, .int .u8 0, .int .u8 0, .int .u8 0, .int .u8 0, .int .u8 0, .int .u8 0, .int .u8 0, .int .u8 0, .int .u8 0, .int .u8 0, .int .u8 0, .int .u8 0, .int .u8 0, .int .u8 0, .int .u8 0, .int .u8 0, .int .u8 0, .int .u8 0, .int .u8 0] := rfl
def tokOf (p n1 n2 n3 n4 r u1 u2 u3 u4 g1 g2 g3 g4 : UInt8) (nm tag : List UInt8) : Tok := ⟨(p.toNat : Nat), nm, (r.toNat : Nat), num4 u1 u2 u3 u4, num4 g1 g2 g3 g4, tag⟩
/-- the token that bytes say, whether they are its or not -/
def saidT : List UInt8 → Option Tok
  | p :: n1 :: n2 :: n3 :: n4 :: r :: u1 :: u2 :: u3 :: u4 :: g1 :: g2 :: g3 :: g4 :: tag => (cutN [n1, n2, n3, n4]).map fun nm => tokOf p n1 n2 n3 n4 r u1 u2 u3 u4 g1 g2 g3 g4 nm tag
  | _ => none
def isT (b : List UInt8) : Bool := decide (b.length = 46) && (match saidT b with | some t => okC t && decide (tokB t = b) | none => false)
def decT (b : List UInt8) : Tok := if isT b = true then (saidT b).getD zT else zT
def decTE (b : List UInt8) : Int := if isT b = true then 0 else 11
theorem decT_no {b : List UInt8} (h : isT b = false) : decT b = zT ∧ decTE b = 11 := by
  constructor
  · unfold decT; rw [if_neg (by rw [h]; decide)]
  · unfold decTE; rw [if_neg (by rw [h]; decide)]
theorem decT_yes {b : List UInt8} {t : Tok} (h : isT b = true) (hs : saidT b = some t) : decT b = t ∧ decTE b = 0 := by
  constructor
  · unfold decT; rw [if_pos h, hs]; rfl
  · unfold decTE; rw [if_pos h]
theorem split46 {b : List UInt8} (h : b.length = 46) : ∃ p n1 n2 n3 n4 r u1 u2 u3 u4 g1 g2 g3 g4 tag, b = p :: n1 :: n2 :: n3 :: n4 :: r :: u1 :: u2 :: u3 :: u4 :: g1 :: g2 :: g3 :: g4 :: tag ∧ tag.length = 32 := by
  match b, h with
  | p :: n1 :: n2 :: n3 :: n4 :: r :: u1 :: u2 :: u3 :: u4 :: g1 :: g2 :: g3 :: g4 :: tag, h =>
    simp only [List.length_cons] at h
    exact ⟨p, n1, n2, n3, n4, r, u1, u2, u3, u4, g1, g2, g3, g4, tag, rfl, by omega⟩

end Go.Proofs.YtkphojcmjffccaaDoor
/- Bytes held against bytes. -/

set_option linter.unusedVariables false
set_option linter.unusedSimpArgs false
set_option maxRecDepth 100000
set_option maxHeartbeats 2000000
namespace Go.Proofs.YtkphojcmjffccaaDoor
open Go.RowKit

/-- the bytes of a row of bytes, read back -/
theorem bytes_backK {f : IV → Option UInt8} (hf : ∀ b : UInt8, f (.int .u8 (b.toNat : Int)) = some b) (xs : List UInt8) : (bl xs).mapM f = some xs := by
  induction xs with
  | nil => rfl
  | cons x xs ih =>
    rw [show bl (x :: xs) = .int .u8 (x.toNat : Int) :: bl xs from rfl, List.mapM_cons, ih, hf]
    rfl

end Go.Proofs.YtkphojcmjffccaaDoor
/- Of the tokens: plain laws. -/

set_option linter.unusedVariables false
set_option linter.unusedSimpArgs false
set_option maxRecDepth 100000
set_option maxHeartbeats 8000000
namespace Go.Proofs.YtkphojcmjffccaaDoor
open Go.RowKit

theorem tk_len {t : Tok} (h : t.tag.length = 32) : (tkC t).length = 37 := by simp [tkC, clC, bl_length, h]
theorem tk_take {t : Tok} (h : t.tag.length = 32) : List.take 37 (tkC t) = tkC t := List.take_of_length_le (by rw [tk_len h]; exact Nat.le_refl _)
theorem tk_drop {t : Tok} (h : t.tag.length = 32) : List.drop 37 (tkC t) = [] := List.drop_of_length_le (by rw [tk_len h]; exact Nat.le_refl _)
theorem tk_scal (t : Tok) : (tkC t).all IV.scal = true := by simp [tkC, clC, IV.scal, bl_scal]
theorem eqL_append : ∀ {a b c d : List IV}, a.length = b.length → eqL (a ++ c) (b ++ d) = (match eqL a b, eqL c d with | some x, some y => some (x && y) | _, _ => none)
  | [], [], c, d, _ => by simp only [List.nil_append, eqL]; cases eqL c d <;> simp
  | x :: a, y :: b, c, d, h => by
    have ih := eqL_append (a := a) (b := b) (c := c) (d := d) (by simpa using h)
    simp only [List.cons_append, eqL, ih]
    cases eqC x y <;> cases eqL a b <;> cases eqL c d <;> simp [Bool.and_assoc]
  | [], y :: b, c, d, h => by simp at h
  | x :: a, [], c, d, h => by simp at h
theorem eqL_tk {t u : Tok} (ht : t.tag.length = 32) (hu : u.tag.length = 32) : eqL (tkC t) (tkC u) = some (decide (t = u)) := by
  unfold tkC
  rw [eqL_append (a := clC t) (b := clC u) rfl, eqL_bl t.tag u.tag (by rw [ht, hu])]
  obtain ⟨a, b, c, d, e, f⟩ := t
  obtain ⟨a', b', c', d', e', f'⟩ := u
  simp only [clC, eqL, eqC, if_true, Tok.mk.injEq, Option.some.injEq]
  by_cases h1 : a = a' <;> by_cases h2 : b = b' <;> by_cases h3 : c = c' <;> by_cases h4 : d = d' <;> by_cases h5 : e = e' <;> by_cases h6 : f = f' <;> simp [h1, h2, h3, h4, h5, h6] <;> omega
theorem fitR_tk {t : Tok} (h : t.tag.length = 32) : fitR [(1, .i), (1, .s), (35, .i)] (tkC t) = true := by
  have h2 : fitR [(32, .i)] (bl t.tag) = true := fitR_bl h
  simp only [fitR, Bool.and_eq_true, decide_eq_true_eq] at h2
  obtain ⟨⟨_, h3⟩, h4⟩ := h2
  have e1 : List.take 32 (bl t.tag) = bl t.tag := bl_take14 h
  have e2 : List.drop 32 (bl t.tag) = [] := List.drop_of_length_le (by rw [bl_length, h]; exact Nat.le_refl _)
  rw [e1] at h3
  simp only [fitR, tkC, clC, List.cons_append, List.nil_append, List.length_cons, bl_length, h, List.take_succ_cons, List.take_zero, List.drop_succ_cons, List.drop_zero, List.all_cons, List.all_nil, CK.fit, e1, e2, h3]
  rfl

theorem pad4_four (s : List UInt8) : ∃ a b c d, pad4 s = [a, b, c, d] := by
  have h := pad4_length s
  match hp : pad4 s, h with
  | [a, b, c, d], _ => exact ⟨a, b, c, d, rfl⟩
theorem saidT_tokB {t : Tok} (ht : t.Ok) (hk : okC t = true) : saidT (tokB t) = some t := by
  obtain ⟨p, nm, r, ti, ge, tg⟩ := t
  obtain ⟨hn, h1, h2, h3⟩ := ht
  simp only at hn h1 h2 h3
  simp only [okC, Bool.and_eq_true, Bool.or_eq_true, decide_eq_true_eq] at hk
  obtain ⟨⟨⟨⟨k1, k2⟩, k3⟩, k4⟩, k5⟩ := hk
  have hc : cutN (pad4 nm) = some nm := by
    rcases k3 with k | k
    · subst k; decide
    · exact cutN_pad k
  obtain ⟨a, b, c, d, hp⟩ := pad4_four nm
  rw [hp] at hc
  have he : tokB ⟨p, nm, r, ti, ge, tg⟩ = u8 p.toNat :: a :: b :: c :: d :: u8 r.toNat :: u8 ti :: u8 (ti >>> 8) :: u8 (ti >>> 16) :: u8 (ti >>> 24) :: u8 ge :: u8 (ge >>> 8) :: u8 (ge >>> 16) :: u8 (ge >>> 24) :: tg := by
    simp [tokB, claimB, hp, le4]
  rw [he]
  simp only [saidT, hc, Option.map_some, tokOf, num4_u8 h1, num4_u8 h2, u8_toNat]
  rw [Nat.mod_eq_of_lt (by omega), Nat.mod_eq_of_lt (by omega)]
  congr 2 <;> omega
theorem isT_tokB {t : Tok} (ht : t.Ok) (hk : okC t = true) : isT (tokB t) = true := by
  unfold isT
  rw [tokB_length ht.tag, saidT_tokB ht hk]
  simp only [hk, decide_true, Bool.and_self]
theorem decT_tokB {t : Tok} (ht : t.Ok) (hk : okC t = true) : decT (tokB t) = t ∧ decTE (tokB t) = 0 := decT_yes (isT_tokB ht hk) (saidT_tokB ht hk)
theorem tokB_inj {t u : Tok} (ht : t.Ok) (hu : u.Ok) (hk : okC t = true) (hk' : okC u = true) : (tokB t = tokB u) = (t = u) := by
  apply propext
  constructor
  · intro h
    have h1 := saidT_tokB ht hk
    have h2 := saidT_tokB hu hk'
    rw [h, h2] at h1
    exact (Option.some.inj h1).symm
  · rintro rfl; rfl
theorem zT_ok : zT.Ok := ⟨by decide, by decide, by decide, by decide⟩
/-- what bytes say -/
theorem isT_said {b : List UInt8} (h : isT b = true) : ∃ t, saidT b = some t ∧ okC t = true ∧ tokB t = b ∧ t.Ok := by
  unfold isT at h
  simp only [Bool.and_eq_true, decide_eq_true_eq] at h
  obtain ⟨h46, h⟩ := h
  cases hs : saidT b with
  | none => rw [hs] at h; cases h
  | some t =>
    rw [hs] at h
    simp only [Bool.and_eq_true, decide_eq_true_eq] at h
    refine ⟨t, rfl, h.1, h.2, ?_⟩
    obtain ⟨p, n1, n2, n3, n4, r, u1, u2, u3, u4, g1, g2, g3, g4, tag, rfl, htag⟩ := split46 h46
    simp only [saidT] at hs
    cases hc : cutN [n1, n2, n3, n4] with
    | none => rw [hc] at hs; cases hs
    | some nm =>
      rw [hc] at hs
      simp only [Option.map_some, Option.some.injEq] at hs
      subst hs
      have := (cutN_some rfl hc).2.2
      exact ⟨by simp only [tokOf]; omega, num4_lt _ _ _ _, num4_lt _ _ _ _, htag⟩
theorem tk1 (t : Tok) : List.take 1 (List.drop 1 (tkC t)) = [.str t.name] := rfl
theorem tokR_le (t : Tok) (h : t.tag.length = 32) : (tokR t).length ≤ 46 := by
  unfold tokR
  split
  · rw [tokB_length h]; exact Nat.le_refl _
  · simp
theorem tokE_eq (t : Tok) : tokE t = if okC t = true then 0 else 11 := rfl

theorem bl_set {b : List UInt8} {k : Nat} (h : k < b.length) (x : UInt8) : List.take k (bl b) ++ [IV.int .u8 (x.toNat : Int)] ++ List.drop (k + 1) (bl b) = bl (b.set k x) := by
  rw [List.set_eq_take_append_cons_drop, if_pos h, bl_append, bl_cons, bl_take, bl_drop]
  simp
theorem xor_u8 (a b : UInt8) : bitsI .xor .u8 (a.toNat : Int) (b.toNat : Int) = some (((a ^^^ b).toNat : Nat) : Int) := by
  rw [bitsI_xor .u8 (by have := a.toNat_lt; simpa [vbits, IntKind.signed, IntKind.bits] using this) (by have := b.toNat_lt; simpa [vbits, IntKind.signed, IntKind.bits] using this), UInt8.toNat_xor]
theorem xor_u8_self (a b : UInt8) : (a ^^^ b = a) = (b = 0) := by
  apply propext
  constructor
  · intro h
    have := congrArg (a ^^^ ·) h
    simpa [← UInt8.xor_assoc] using this
  · rintro rfl; simp
theorem isT_46 {b : List UInt8} (h : b.length ≠ 46) : isT b = false := by simp [isT, h]

end Go.Proofs.YtkphojcmjffccaaDoor
/- Numbers put into bytes, and read out of them. -/
set_option linter.unusedVariables false
set_option linter.unusedSimpArgs false
set_option maxRecDepth 100000
set_option maxHeartbeats 2000000
namespace Go.Proofs.YtkphojcmjffccaaDoor
open Go.RowKit

/-- the lower byte first -/
def putle (n k : Nat) : List UInt8 := (List.range k).map fun i => u8 (n >>> (8 * i))
def lenum : List UInt8 → Nat
  | [] => 0
  | b :: l => b.toNat + 256 * lenum l
theorem lenum_lt : ∀ l : List UInt8, lenum l < 256 ^ l.length
  | [] => by simp [lenum]
  | b :: l => by
    have := lenum_lt l
    have hb := b.toNat_lt
    simp only [lenum, List.length_cons, Nat.pow_succ]
    omega
theorem putle_snoc (n k : Nat) : putle n (k + 1) = putle n k ++ [u8 (n >>> (8 * k))] := by simp [putle, List.range_succ]
theorem putle_length (n k : Nat) : (putle n k).length = k := by simp [putle]

theorem put_ok {n k : Nat} (hn : n < 2 ^ 32) (hk : k ≤ 4) (hk0 : 0 < k) : RC Tryd.prog 30 [.int .u32 (n : Nat), .int .i64 (k : Nat)] [.own k 1 (bl (putle n k))] := by
  refine RC.of_wp c30 rfl ?_
  simp -implicitDefEqProofs (maxSteps := 2000000) only [m30_1, m30_2, m30_3, m30_4, m30_5, m30_6, m30_r, m30_b, m30, wk, act, asV, ↓reduceIte, Nat.reduceEqDiff, reduceCtorEq, Nat.reduceAdd, Nat.reduceLeDiff, Nat.reduceSub, Nat.reduceMul, List.reduceReplicate, Int.reduceEq, Int.reduceLT, Int.reduceLE, Int.reduceAdd, Int.reduceSub, Int.reduceMul, Nat.reduceLT, Int.reduceToNat]
  refine Wp_loop (fun j s => ∃ i, i ≤ k ∧ j = k - i ∧ s.t 0 = .int .u32 (n : Nat) ∧ s.t 1 = .int .i64 (k : Nat) ∧ s.t 6 = .int .i64 (i : Nat) ∧ ((i = 0 ∧ s.t 5 = .sl .full 0 []) ∨ (0 < i ∧ ∃ ver, s.t 5 = .row 20 0 i 1 ver ∧ s.h 20 = ⟨ver, true, true, true, bl (putle n i)⟩))) k ⟨0, by omega, rfl, by simp -implicitDefEqProofs (maxSteps := 2000000) only [wk, act, asV, ↓reduceIte, Nat.reduceEqDiff, reduceCtorEq, Nat.reduceAdd, Nat.reduceLeDiff, Nat.reduceSub, Nat.reduceMul, List.reduceReplicate, Int.reduceEq, Int.reduceLT, Int.reduceLE, Int.reduceAdd, Int.reduceSub, Int.reduceMul, Nat.reduceLT, Int.reduceToNat], by simp -implicitDefEqProofs (maxSteps := 2000000) only [wk, act, asV, ↓reduceIte, Nat.reduceEqDiff, reduceCtorEq, Nat.reduceAdd, Nat.reduceLeDiff, Nat.reduceSub, Nat.reduceMul, List.reduceReplicate, Int.reduceEq, Int.reduceLT, Int.reduceLE, Int.reduceAdd, Int.reduceSub, Int.reduceMul, Nat.reduceLT, Int.reduceToNat], by simp -implicitDefEqProofs (maxSteps := 2000000) only [wk, act, asV, ↓reduceIte, Nat.reduceEqDiff, reduceCtorEq, Nat.reduceAdd, Nat.reduceLeDiff, Nat.reduceSub, Nat.reduceMul, List.reduceReplicate, Int.reduceEq, Int.reduceLT, Int.reduceLE, Int.reduceAdd, Int.reduceSub, Int.reduceMul, Nat.reduceLT, Int.reduceToNat], .inl ⟨rfl, by simp -implicitDefEqProofs (maxSteps := 2000000) only [wk, act, asV, ↓reduceIte, Nat.reduceEqDiff, reduceCtorEq, Nat.reduceAdd, Nat.reduceLeDiff, Nat.reduceSub, Nat.reduceMul, List.reduceReplicate, Int.reduceEq, Int.reduceLT, Int.reduceLE, Int.reduceAdd, Int.reduceSub, Int.reduceMul, Nat.reduceLT, Int.reduceToNat]⟩⟩ ?_
  rintro j s ⟨i, hi, rfl, g0, g1, g6, g5⟩
  by_cases hil : i < k
  · have hil' : (i : Int) < k := by omega
    have hm : IntKind.i64.wrap (8 * (i : Int)) = ((8 * i : Nat) : Int) := by rw [IntKind.wrap_i64]; omega
    have hu : IntKind.u64.wrap ((8 * i : Nat) : Int) = ((8 * i : Nat) : Int) := wrapN .u64 (by simp [vbits, IntKind.signed, IntKind.bits]; omega)
    have hs : shI .shr .u32 (n : Int) ((8 * i : Nat) : Int) = some (.int .u32 ((n >>> (8 * i) : Nat) : Int)) := shI_shr .u32 (by simp [IntKind.bits]; omega)
    have w : IntKind.u8.wrap ((n >>> (8 * i) : Nat) : Int) = ((u8 (n >>> (8 * i))).toNat : Int) := wrap_u8 _
    have hr : roomy (i + 1) 1 = true := roomyB (by omega)
    have e : bl (putle n (i + 1)) = bl (putle n i) ++ [.int .u8 ((u8 (n >>> (8 * i))).toNat : Int)] := by rw [putle_snoc]; simp [bl]
    have hpl : (bl (putle n i)).length = i := by rw [bl_length, putle_length]
    rcases g5 with ⟨hi0, g5⟩ | ⟨hpos, ver, g5, gh⟩
    · have hr1 : roomy 1 1 = true := by decide
      simp -implicitDefEqProofs (maxSteps := 2000000) only [g0, g1, g5, g6, hil', hil, hm, hu, hs, w, hr1, wrap_nat (show i < 2 ^ 63 - 1 by omega), wk, act, asV, ↓reduceIte, Nat.reduceEqDiff, reduceCtorEq, Nat.reduceAdd, Nat.reduceLeDiff, Nat.reduceSub, Nat.reduceMul, List.reduceReplicate, Int.reduceEq, Int.reduceLT, Int.reduceLE, Int.reduceAdd, Int.reduceSub, Int.reduceMul, Nat.reduceLT, Int.reduceToNat]
      refine ⟨k - (i + 1), by omega, i + 1, by omega, rfl, rfl, by omega, ?_⟩
      rw [e]
      subst hi0
      exact ⟨_, rfl, rfl⟩
    · simp -implicitDefEqProofs (maxSteps := 2000000) only [g0, g1, g5, g6, gh, hil', hil, hm, hu, hs, w, hr, hpl, wrap_nat (show i < 2 ^ 63 - 1 by omega), wk, act, asV, ↓reduceIte, Nat.reduceEqDiff, reduceCtorEq, Nat.reduceAdd, Nat.reduceLeDiff, Nat.reduceSub, Nat.reduceMul, List.reduceReplicate, Int.reduceEq, Int.reduceLT, Int.reduceLE, Int.reduceAdd, Int.reduceSub, Int.reduceMul, Nat.reduceLT, Int.reduceToNat]
      refine ⟨k - (i + 1), by omega, i + 1, by omega, rfl, rfl, by omega, ?_⟩
      rw [e]
      exact ⟨_, rfl, rfl⟩
  · have hie : i = k := by omega
    subst hie
    rcases g5 with ⟨rfl, g5⟩ | ⟨hpos, ver, g5, gh⟩
    · omega
    · have htk : List.take i (bl (putle n i)) = bl (putle n i) := List.take_of_length_le (by rw [bl_length, putle_length]; exact Nat.le_refl _)
      simp -implicitDefEqProofs (maxSteps := 2000000) only [g0, g1, g5, g6, gh, Int.lt_irrefl, htk, wk, act, asV, ↓reduceIte, Nat.reduceEqDiff, reduceCtorEq, Nat.reduceAdd, Nat.reduceLeDiff, Nat.reduceSub, Nat.reduceMul, List.reduceReplicate, Int.reduceEq, Int.reduceLT, Int.reduceLE, Int.reduceAdd, Int.reduceSub, Int.reduceMul, Nat.reduceLT, Int.reduceToNat]

end Go.Proofs.YtkphojcmjffccaaDoor
