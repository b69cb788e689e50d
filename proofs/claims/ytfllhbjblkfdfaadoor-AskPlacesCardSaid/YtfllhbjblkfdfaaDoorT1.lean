/- Of the tokens: numbers as bytes; claims as bytes. -/
import Derived.Test.YtfllhbjblkfdfaaDoorE31
import Derived.Test.YtfllhbjblkfdfaaDoorM5
import Derived.Test.YtfllhbjblkfdfaaDoorN4
import Derived.Test.YtfllhbjblkfdfaaDoorK4
set_option linter.unusedVariables false
set_option linter.unusedSimpArgs false
set_option maxRecDepth 100000
set_option maxHeartbeats 4000000
namespace Go.Proofs.YtfllhbjblkfdfaaDoor
open Go.RowKit

def num4 (a b c d : UInt8) : Nat := a.toNat + 256 * b.toNat + 65536 * c.toNat + 16777216 * d.toNat
def le4 (n : Nat) : List UInt8 := [u8 n, u8 (n >>> 8), u8 (n >>> 16), u8 (n >>> 24)]
theorem num4_lt (a b c d : UInt8) : num4 a b c d < 2 ^ 32 := by
  have := a.toNat_lt; have := b.toNat_lt; have := c.toNat_lt; have := d.toNat_lt
  unfold num4; omega
theorem or_add {x y i : Nat} (h : x < 2 ^ i) : x ||| y * 2 ^ i = x + y * 2 ^ i := by
  rw [Nat.or_comm, ← Nat.shiftLeft_eq, ← Nat.shiftLeft_add_eq_or_of_lt h]; omega
theorem num4_u8 {n : Nat} (h : n < 2 ^ 32) : num4 (u8 n) (u8 (n >>> 8)) (u8 (n >>> 16)) (u8 (n >>> 24)) = n := by
  unfold num4
  simp only [u8_toNat, Nat.shiftRight_eq_div_pow]
  omega
theorem le4_num4 (a b c d : UInt8) : le4 (num4 a b c d) = [a, b, c, d] := by
  have := a.toNat_lt; have := b.toNat_lt; have := c.toNat_lt; have := d.toNat_lt
  unfold le4 num4
  simp only [List.cons.injEq, and_true]
  refine ⟨?_, ?_, ?_, ?_⟩ <;> (apply UInt8.toNat_inj.1; rw [u8_toNat]; (try simp only [Nat.shiftRight_eq_div_pow]); omega)

theorem four_ok {n : Nat} (hn : n < 2 ^ 32) : RC Tryd.prog 37 [.int .u32 (n : Nat)] [.sl .full 4 (bl (le4 n))] := by
  refine RC.of_wp c37 rfl ?_
  have s1 : shI .shr .u32 (n : Int) 8 = some (.int .u32 ((n >>> 8 : Nat) : Int)) := shI_shr .u32 (x := n) (y := 8) (by decide)
  have s2 : shI .shr .u32 (n : Int) 16 = some (.int .u32 ((n >>> 16 : Nat) : Int)) := shI_shr .u32 (x := n) (y := 16) (by decide)
  have s3 : shI .shr .u32 (n : Int) 24 = some (.int .u32 ((n >>> 24 : Nat) : Int)) := shI_shr .u32 (x := n) (y := 24) (by decide)
  have e : bl (le4 n) = [.int .u8 ((u8 n).toNat : Int), .int .u8 ((u8 (n >>> 8)).toNat : Int), .int .u8 ((u8 (n >>> 16)).toNat : Int), .int .u8 ((u8 (n >>> 24)).toNat : Int)] := rfl
  rw [e]
  simp -implicitDefEqProofs (maxSteps := 2000000) only [m37_1, m37_r, m37_b, m37, wrap_u8, s1, s2, s3, wk, act, asV, ↓reduceIte, Nat.reduceEqDiff, reduceCtorEq, Nat.reduceAdd, Nat.reduceLeDiff, Nat.reduceSub, Nat.reduceMul, List.reduceReplicate, Int.reduceEq, Int.reduceLT, Int.reduceLE, Int.reduceAdd, Int.reduceSub, Int.reduceMul, Nat.reduceLT, Int.reduceToNat]

theorem number_ok (f : Fl) (a b c d : UInt8) : RC Tryd.prog 34 [.sl f 4 (bl [a, b, c, d])] [.int .u32 (num4 a b c d : Nat)] := by
  refine RC.of_wp c34 rfl ?_
  have ta := a.toNat_lt; have tb := b.toNat_lt; have tc := c.toNat_lt; have td := d.toNat_lt
  have uw : ∀ n : Nat, n < 2 ^ 32 → IntKind.u32.wrap (n : Int) = n := fun n h => wrapN .u32 (by simpa [vbits, IntKind.signed, IntKind.bits] using h)
  have w0 := uw a.toNat (by omega); have w1 := uw b.toNat (by omega); have w2 := uw c.toNat (by omega); have w3 := uw d.toNat (by omega)
  have s1 : shI .shl .u32 (b.toNat : Int) 8 = some (.int .u32 ((b.toNat * 2 ^ 8 : Nat) : Int)) := shI_shl .u32 (y := 8) (by decide) (by simp [vbits, IntKind.signed, IntKind.bits]; omega)
  have s2 : shI .shl .u32 (c.toNat : Int) 16 = some (.int .u32 ((c.toNat * 2 ^ 16 : Nat) : Int)) := shI_shl .u32 (y := 16) (by decide) (by simp [vbits, IntKind.signed, IntKind.bits]; omega)
  have s3 : shI .shl .u32 (d.toNat : Int) 24 = some (.int .u32 ((d.toNat * 2 ^ 24 : Nat) : Int)) := shI_shl .u32 (y := 24) (by decide) (by simp [vbits, IntKind.signed, IntKind.bits]; omega)
  have o1 : bitsI .or .u32 (a.toNat : Int) ((b.toNat * 2 ^ 8 : Nat) : Int) = some ((a.toNat + b.toNat * 2 ^ 8 : Nat) : Int) := by
    rw [bitsI_or .u32 (by simp [vbits, IntKind.signed, IntKind.bits]; omega) (by simp [vbits, IntKind.signed, IntKind.bits]; omega), or_add (i := 8) (by omega)]
  have o2 : bitsI .or .u32 ((a.toNat + b.toNat * 2 ^ 8 : Nat) : Int) ((c.toNat * 2 ^ 16 : Nat) : Int) = some ((a.toNat + b.toNat * 2 ^ 8 + c.toNat * 2 ^ 16 : Nat) : Int) := by
    rw [bitsI_or .u32 (by simp [vbits, IntKind.signed, IntKind.bits]; omega) (by simp [vbits, IntKind.signed, IntKind.bits]; omega), or_add (i := 16) (by omega)]
  have o3 : bitsI .or .u32 ((a.toNat + b.toNat * 2 ^ 8 + c.toNat * 2 ^ 16 : Nat) : Int) ((d.toNat * 2 ^ 24 : Nat) : Int) = some ((num4 a b c d : Nat) : Int) := by
    rw [bitsI_or .u32 (by simp [vbits, IntKind.signed, IntKind.bits]; omega) (by simp [vbits, IntKind.signed, IntKind.bits]; omega), or_add (i := 24) (by omega)]
    congr 2; unfold num4; omega
  have e : bl [a, b, c, d] = [.int .u8 (a.toNat : Int), .int .u8 (b.toNat : Int), .int .u8 (c.toNat : Int), .int .u8 (d.toNat : Int)] := rfl
  rw [e]
  simp -implicitDefEqProofs (maxSteps := 2000000) only [m34_1, m34_r, m34_b, m34, w0, w1, w2, w3, s1, s2, s3, o1, o2, o3, wk, act, asV, ↓reduceIte, Nat.reduceEqDiff, reduceCtorEq, Nat.reduceAdd, Nat.reduceLeDiff, Nat.reduceSub, Nat.reduceMul, List.reduceReplicate, Int.reduceEq, Int.reduceLT, Int.reduceLE, Int.reduceAdd, Int.reduceSub, Int.reduceMul, Nat.reduceLT, Int.reduceToNat]

/-! ### claims and tokens -/
structure Tok where
  place : Int
  name : List UInt8
  rights : Int
  til : Nat
  gen : Nat
  tag : List UInt8
  deriving DecidableEq
def clC (t : Tok) : List IV := [.int .i64 t.place, .str t.name, .int .i64 t.rights, .int .u32 (t.til : Nat), .int .u32 (t.gen : Nat)]
def tkC (t : Tok) : List IV := clC t ++ bl t.tag
structure Tok.Ok (t : Tok) : Prop where
  nm : t.name.length < 2 ^ 63
  til : t.til < 2 ^ 32
  gen : t.gen < 2 ^ 32
  tag : t.tag.length = 32
def okC (t : Tok) : Bool := decide (0 ≤ t.place) && decide (t.place < 4) && (decide (t.name = []) || goodN t.name) && decide (1 ≤ t.rights) && decide (t.rights ≤ 3)
def claimB (t : Tok) : List UInt8 := u8 t.place.toNat :: (pad4 t.name ++ (u8 t.rights.toNat :: (le4 t.til ++ le4 t.gen)))
def claimR (t : Tok) : List UInt8 := if okC t = true then claimB t else []
def tokB (t : Tok) : List UInt8 := claimB t ++ t.tag
def tokR (t : Tok) : List UInt8 := if okC t = true then tokB t else []
def tokE (t : Tok) : Int := if okC t = true then 0 else 11
theorem claimB_length (t : Tok) : (claimB t).length = 14 := by simp [claimB, pad4_length, le4]
theorem okC_of {t : Tok} (h1 : ¬ t.place < 0) (h2 : ¬ 4 ≤ t.place) (h3 : t.name = [] ∨ goodN t.name = true) (h4 : ¬ t.rights < 1) (h5 : ¬ 3 < t.rights) : okC t = true := by
  unfold okC
  rw [decide_eq_true (show 0 ≤ t.place by omega), decide_eq_true (show t.place < 4 by omega), decide_eq_true (show 1 ≤ t.rights by omega), decide_eq_true (show t.rights ≤ 3 by omega)]
  rcases h3 with h | h <;> simp [h]
theorem okC_no {t : Tok} (h : t.place < 0 ∨ 4 ≤ t.place ∨ (t.name ≠ [] ∧ goodN t.name = false) ∨ t.rights < 1 ∨ 3 < t.rights) : ¬ okC t = true := by
  intro hk
  simp only [okC, Bool.and_eq_true, Bool.or_eq_true, decide_eq_true_eq] at hk
  obtain ⟨⟨⟨⟨k1, k2⟩, k3⟩, k4⟩, k5⟩ := hk
  rcases h with h | h | ⟨h, h'⟩ | h | h
  · omega
  · omega
  · rcases k3 with k | k
    · exact h k
    · rw [h'] at k; cases k
  · omega
  · omega

theorem bl_take14 {b : List UInt8} {n : Nat} (h : b.length = n) : List.take n (bl b) = bl b := List.take_of_length_le (by rw [bl_length]; omega)
theorem claim_ok (t : Tok) (ht : t.Ok) : RC Tryd.prog 28 [.agg (clC t)] [.own (claimR t).length 1 (bl (claimR t)), .int .i64 (tokE t)] := by
  obtain ⟨p, nm, r, ti, ge, tg⟩ := t
  obtain ⟨hn, h32, h32', htg⟩ := ht
  simp only at hn h32 h32' htg
  refine RC.of_wpW c28 rfl ?_
  have bad : ∀ s : St, (p < 0 ∨ 4 ≤ p ∨ (nm ≠ [] ∧ goodN nm = false) ∨ r < 1 ∨ 3 < r) → s.ress [MRes.tmp 2, MRes.tmp 3] = some [.sl .full 0 [], .int .i64 11] → PostW [MRes.tmp 2, MRes.tmp 3] [.own (claimR ⟨p, nm, r, ti, ge, tg⟩).length 1 (bl (claimR ⟨p, nm, r, ti, ge, tg⟩)), .int .i64 (tokE ⟨p, nm, r, ti, ge, tg⟩)] .ret s := by
    intro s hb hs
    have hb' := okC_no (t := ⟨p, nm, r, ti, ge, tg⟩) hb
    have e1 : claimR ⟨p, nm, r, ti, ge, tg⟩ = [] := if_neg hb'
    have e2 : tokE ⟨p, nm, r, ti, ge, tg⟩ = 11 := if_neg hb'
    rw [e1, e2]
    exact PostW.mk (r' := [.sl .full 0 [], .int .i64 11]) hs (.cons (.inr ⟨rfl, 1, rfl⟩) (.cons (.inl rfl) .nil)) (by decide) (by decide)
  have cg := good_ok .full [nm] (by simp) (by simpa using hn)
  simp only [List.all_cons, List.all_nil, Bool.and_true] at cg
  by_cases h1 : p < 0
  · simp -implicitDefEqProofs (maxSteps := 2000000) only [m28_1, m28_2, m28_3, m28_4, m28_5, m28_6, m28_7, m28_r, m28_b, m28, clC, h1, wk, act, asV, ↓reduceIte, Nat.reduceEqDiff, reduceCtorEq, Nat.reduceAdd, Nat.reduceLeDiff, Nat.reduceSub, Nat.reduceMul, List.reduceReplicate, Int.reduceEq, Int.reduceLT, Int.reduceLE, Int.reduceAdd, Int.reduceSub, Int.reduceMul, Nat.reduceLT, Int.reduceToNat]
    exact bad _ (.inl h1) (by simp -implicitDefEqProofs (maxSteps := 2000000) only [wk, act, asV, ↓reduceIte, Nat.reduceEqDiff, reduceCtorEq, Nat.reduceAdd, Nat.reduceLeDiff, Nat.reduceSub, Nat.reduceMul, List.reduceReplicate, Int.reduceEq, Int.reduceLT, Int.reduceLE, Int.reduceAdd, Int.reduceSub, Int.reduceMul, Nat.reduceLT, Int.reduceToNat])
  by_cases h2 : 4 ≤ p
  · simp -implicitDefEqProofs (maxSteps := 2000000) only [m28_1, m28_2, m28_3, m28_4, m28_5, m28_6, m28_7, m28_r, m28_b, m28, clC, h1, h2, wk, act, asV, ↓reduceIte, Nat.reduceEqDiff, reduceCtorEq, Nat.reduceAdd, Nat.reduceLeDiff, Nat.reduceSub, Nat.reduceMul, List.reduceReplicate, Int.reduceEq, Int.reduceLT, Int.reduceLE, Int.reduceAdd, Int.reduceSub, Int.reduceMul, Nat.reduceLT, Int.reduceToNat]
    exact bad _ (.inr (.inl h2)) (by simp -implicitDefEqProofs (maxSteps := 2000000) only [wk, act, asV, ↓reduceIte, Nat.reduceEqDiff, reduceCtorEq, Nat.reduceAdd, Nat.reduceLeDiff, Nat.reduceSub, Nat.reduceMul, List.reduceReplicate, Int.reduceEq, Int.reduceLT, Int.reduceLE, Int.reduceAdd, Int.reduceSub, Int.reduceMul, Nat.reduceLT, Int.reduceToNat])
  by_cases h0 : nm = []
  · have HX : nm = [] ∨ goodN nm = true := .inl h0
    have h0 := eq_true h0
    by_cases h4 : r < 1
    · repeat' (first | simp -implicitDefEqProofs (maxSteps := 2000000) only [m28_1, m28_2, m28_3, m28_4, m28_5, m28_6, m28_7, m28_r, m28_b, m28, clC, h1, h2, h0, h4, wk, act, asV, ↓reduceIte, Nat.reduceEqDiff, reduceCtorEq, Nat.reduceAdd, Nat.reduceLeDiff, Nat.reduceSub, Nat.reduceMul, List.reduceReplicate, Int.reduceEq, Int.reduceLT, Int.reduceLE, Int.reduceAdd, Int.reduceSub, Int.reduceMul, Nat.reduceLT, Int.reduceToNat] | ((with_reducible refine CallL.gate ?_); refine CallL.of (by simp -implicitDefEqProofs (maxSteps := 2000000) only [m28_1, m28_2, m28_3, m28_4, m28_5, m28_6, m28_7, m28_r, m28_b, m28, clC, h1, h2, h0, h4, wk, act, asV, ↓reduceIte, Nat.reduceEqDiff, reduceCtorEq, Nat.reduceAdd, Nat.reduceLeDiff, Nat.reduceSub, Nat.reduceMul, List.reduceReplicate, Int.reduceEq, Int.reduceLT, Int.reduceLE, Int.reduceAdd, Int.reduceSub, Int.reduceMul, Nat.reduceLT, Int.reduceToNat]; first | done | (with_reducible rfl)) (by first | exact cg) (by simp -implicitDefEqProofs (maxSteps := 2000000) only [m28_1, m28_2, m28_3, m28_4, m28_5, m28_6, m28_7, m28_r, m28_b, m28, clC, h1, h2, h0, h4, wk, act, asV, ↓reduceIte, Nat.reduceEqDiff, reduceCtorEq, Nat.reduceAdd, Nat.reduceLeDiff, Nat.reduceSub, Nat.reduceMul, List.reduceReplicate, Int.reduceEq, Int.reduceLT, Int.reduceLE, Int.reduceAdd, Int.reduceSub, Int.reduceMul, Nat.reduceLT, Int.reduceToNat]) ?_) | ((with_reducible refine CallP.gate ?_); refine CallP.of (by simp -implicitDefEqProofs (maxSteps := 2000000) only [m28_1, m28_2, m28_3, m28_4, m28_5, m28_6, m28_7, m28_r, m28_b, m28, clC, h1, h2, h0, h4, wk, act, asV, ↓reduceIte, Nat.reduceEqDiff, reduceCtorEq, Nat.reduceAdd, Nat.reduceLeDiff, Nat.reduceSub, Nat.reduceMul, List.reduceReplicate, Int.reduceEq, Int.reduceLT, Int.reduceLE, Int.reduceAdd, Int.reduceSub, Int.reduceMul, Nat.reduceLT, Int.reduceToNat]; first | done | (with_reducible rfl)) (by first | exact cg) (by simp -implicitDefEqProofs (maxSteps := 2000000) only [m28_1, m28_2, m28_3, m28_4, m28_5, m28_6, m28_7, m28_r, m28_b, m28, clC, h1, h2, h0, h4, wk, act, asV, ↓reduceIte, Nat.reduceEqDiff, reduceCtorEq, Nat.reduceAdd, Nat.reduceLeDiff, Nat.reduceSub, Nat.reduceMul, List.reduceReplicate, Int.reduceEq, Int.reduceLT, Int.reduceLE, Int.reduceAdd, Int.reduceSub, Int.reduceMul, Nat.reduceLT, Int.reduceToNat]) ?_))
      exact bad _ (.inr (.inr (.inr (.inl h4)))) (by simp -implicitDefEqProofs (maxSteps := 2000000) only [wk, act, asV, ↓reduceIte, Nat.reduceEqDiff, reduceCtorEq, Nat.reduceAdd, Nat.reduceLeDiff, Nat.reduceSub, Nat.reduceMul, List.reduceReplicate, Int.reduceEq, Int.reduceLT, Int.reduceLE, Int.reduceAdd, Int.reduceSub, Int.reduceMul, Nat.reduceLT, Int.reduceToNat])
    by_cases h5 : 3 < r
    · repeat' (first | simp -implicitDefEqProofs (maxSteps := 2000000) only [m28_1, m28_2, m28_3, m28_4, m28_5, m28_6, m28_7, m28_r, m28_b, m28, clC, h1, h2, h0, h4, h5, wk, act, asV, ↓reduceIte, Nat.reduceEqDiff, reduceCtorEq, Nat.reduceAdd, Nat.reduceLeDiff, Nat.reduceSub, Nat.reduceMul, List.reduceReplicate, Int.reduceEq, Int.reduceLT, Int.reduceLE, Int.reduceAdd, Int.reduceSub, Int.reduceMul, Nat.reduceLT, Int.reduceToNat] | ((with_reducible refine CallL.gate ?_); refine CallL.of (by simp -implicitDefEqProofs (maxSteps := 2000000) only [m28_1, m28_2, m28_3, m28_4, m28_5, m28_6, m28_7, m28_r, m28_b, m28, clC, h1, h2, h0, h4, h5, wk, act, asV, ↓reduceIte, Nat.reduceEqDiff, reduceCtorEq, Nat.reduceAdd, Nat.reduceLeDiff, Nat.reduceSub, Nat.reduceMul, List.reduceReplicate, Int.reduceEq, Int.reduceLT, Int.reduceLE, Int.reduceAdd, Int.reduceSub, Int.reduceMul, Nat.reduceLT, Int.reduceToNat]; first | done | (with_reducible rfl)) (by first | exact cg) (by simp -implicitDefEqProofs (maxSteps := 2000000) only [m28_1, m28_2, m28_3, m28_4, m28_5, m28_6, m28_7, m28_r, m28_b, m28, clC, h1, h2, h0, h4, h5, wk, act, asV, ↓reduceIte, Nat.reduceEqDiff, reduceCtorEq, Nat.reduceAdd, Nat.reduceLeDiff, Nat.reduceSub, Nat.reduceMul, List.reduceReplicate, Int.reduceEq, Int.reduceLT, Int.reduceLE, Int.reduceAdd, Int.reduceSub, Int.reduceMul, Nat.reduceLT, Int.reduceToNat]) ?_) | ((with_reducible refine CallP.gate ?_); refine CallP.of (by simp -implicitDefEqProofs (maxSteps := 2000000) only [m28_1, m28_2, m28_3, m28_4, m28_5, m28_6, m28_7, m28_r, m28_b, m28, clC, h1, h2, h0, h4, h5, wk, act, asV, ↓reduceIte, Nat.reduceEqDiff, reduceCtorEq, Nat.reduceAdd, Nat.reduceLeDiff, Nat.reduceSub, Nat.reduceMul, List.reduceReplicate, Int.reduceEq, Int.reduceLT, Int.reduceLE, Int.reduceAdd, Int.reduceSub, Int.reduceMul, Nat.reduceLT, Int.reduceToNat]; first | done | (with_reducible rfl)) (by first | exact cg) (by simp -implicitDefEqProofs (maxSteps := 2000000) only [m28_1, m28_2, m28_3, m28_4, m28_5, m28_6, m28_7, m28_r, m28_b, m28, clC, h1, h2, h0, h4, h5, wk, act, asV, ↓reduceIte, Nat.reduceEqDiff, reduceCtorEq, Nat.reduceAdd, Nat.reduceLeDiff, Nat.reduceSub, Nat.reduceMul, List.reduceReplicate, Int.reduceEq, Int.reduceLT, Int.reduceLE, Int.reduceAdd, Int.reduceSub, Int.reduceMul, Nat.reduceLT, Int.reduceToNat]) ?_))
      exact bad _ (.inr (.inr (.inr (.inr h5)))) (by simp -implicitDefEqProofs (maxSteps := 2000000) only [wk, act, asV, ↓reduceIte, Nat.reduceEqDiff, reduceCtorEq, Nat.reduceAdd, Nat.reduceLeDiff, Nat.reduceSub, Nat.reduceMul, List.reduceReplicate, Int.reduceEq, Int.reduceLT, Int.reduceLE, Int.reduceAdd, Int.reduceSub, Int.reduceMul, Nat.reduceLT, Int.reduceToNat])
    have hok := okC_of (t := ⟨p, nm, r, ti, ge, tg⟩) h1 h2 HX h4 h5
    have e1 : claimR ⟨p, nm, r, ti, ge, tg⟩ = claimB ⟨p, nm, r, ti, ge, tg⟩ := if_pos hok
    have e2 : tokE ⟨p, nm, r, ti, ge, tg⟩ = 0 := if_pos hok
    rw [e1, e2]
    obtain ⟨n, rfl⟩ : ∃ n : Nat, p = n := ⟨p.toNat, by omega⟩
    obtain ⟨m, rfl⟩ : ∃ n : Nat, r = n := ⟨r.toNat, by omega⟩
    have c1 := pad_ok nm hn
    have c2 := four_ok h32
    have c3 := four_ok h32'
    have c4 := concat_ok .full [(.full, [u8 n]), (.plain, pad4 nm), (.full, [u8 m]), (.full, le4 ti), (.full, le4 ge)] (by simp [joined, pad4_length, le4]) (by simp)
    have ej : joined [(Fl.full, [u8 n]), (.plain, pad4 nm), (.full, [u8 m]), (.full, le4 ti), (.full, le4 ge)] = claimB ⟨n, nm, m, ti, ge, tg⟩ := by simp [joined, claimB]
    rw [ej] at c4
    simp only [pl, List.map_cons, List.map_nil, pad4_length] at c4
    have hl := claimB_length ⟨n, nm, m, ti, ge, tg⟩
    obtain ⟨w, hw⟩ : ∃ w, w = claimB ⟨n, nm, m, ti, ge, tg⟩ := ⟨_, rfl⟩
    rw [← hw] at c4 hl ⊢
    repeat' (first | simp -implicitDefEqProofs (maxSteps := 2000000) only [m28_1, m28_2, m28_3, m28_4, m28_5, m28_6, m28_7, m28_r, m28_b, m28, clC, h1, h2, h0, h4, h5, wrap_u8, bl_scal, bl_pur, bl_length, pad4_length, bl_take4 (pad4_length nm), bl_drop4 (pad4_length []), hl, wk, act, asV, ↓reduceIte, Nat.reduceEqDiff, reduceCtorEq, Nat.reduceAdd, Nat.reduceLeDiff, Nat.reduceSub, Nat.reduceMul, List.reduceReplicate, Int.reduceEq, Int.reduceLT, Int.reduceLE, Int.reduceAdd, Int.reduceSub, Int.reduceMul, Nat.reduceLT, Int.reduceToNat] | ((with_reducible refine CallL.gate ?_); refine CallL.of (by simp -implicitDefEqProofs (maxSteps := 2000000) only [m28_1, m28_2, m28_3, m28_4, m28_5, m28_6, m28_7, m28_r, m28_b, m28, clC, h1, h2, h0, h4, h5, wrap_u8, bl_scal, bl_pur, bl_length, pad4_length, bl_take4 (pad4_length nm), bl_drop4 (pad4_length []), hl, wk, act, asV, ↓reduceIte, Nat.reduceEqDiff, reduceCtorEq, Nat.reduceAdd, Nat.reduceLeDiff, Nat.reduceSub, Nat.reduceMul, List.reduceReplicate, Int.reduceEq, Int.reduceLT, Int.reduceLE, Int.reduceAdd, Int.reduceSub, Int.reduceMul, Nat.reduceLT, Int.reduceToNat]; first | done | (with_reducible rfl)) (by first | exact cg | exact c1 | exact c2 | exact c3 | exact c4) (by simp -implicitDefEqProofs (maxSteps := 2000000) only [m28_1, m28_2, m28_3, m28_4, m28_5, m28_6, m28_7, m28_r, m28_b, m28, clC, h1, h2, h0, h4, h5, wrap_u8, bl_scal, bl_pur, bl_length, pad4_length, bl_take4 (pad4_length nm), bl_drop4 (pad4_length []), hl, wk, act, asV, ↓reduceIte, Nat.reduceEqDiff, reduceCtorEq, Nat.reduceAdd, Nat.reduceLeDiff, Nat.reduceSub, Nat.reduceMul, List.reduceReplicate, Int.reduceEq, Int.reduceLT, Int.reduceLE, Int.reduceAdd, Int.reduceSub, Int.reduceMul, Nat.reduceLT, Int.reduceToNat]) ?_) | ((with_reducible refine CallP.gate ?_); refine CallP.of (by simp -implicitDefEqProofs (maxSteps := 2000000) only [m28_1, m28_2, m28_3, m28_4, m28_5, m28_6, m28_7, m28_r, m28_b, m28, clC, h1, h2, h0, h4, h5, wrap_u8, bl_scal, bl_pur, bl_length, pad4_length, bl_take4 (pad4_length nm), bl_drop4 (pad4_length []), hl, wk, act, asV, ↓reduceIte, Nat.reduceEqDiff, reduceCtorEq, Nat.reduceAdd, Nat.reduceLeDiff, Nat.reduceSub, Nat.reduceMul, List.reduceReplicate, Int.reduceEq, Int.reduceLT, Int.reduceLE, Int.reduceAdd, Int.reduceSub, Int.reduceMul, Nat.reduceLT, Int.reduceToNat]; first | done | (with_reducible rfl)) (by first | exact cg | exact c1 | exact c2 | exact c3 | exact c4) (by simp -implicitDefEqProofs (maxSteps := 2000000) only [m28_1, m28_2, m28_3, m28_4, m28_5, m28_6, m28_7, m28_r, m28_b, m28, clC, h1, h2, h0, h4, h5, wrap_u8, bl_scal, bl_pur, bl_length, pad4_length, bl_take4 (pad4_length nm), bl_drop4 (pad4_length []), hl, wk, act, asV, ↓reduceIte, Nat.reduceEqDiff, reduceCtorEq, Nat.reduceAdd, Nat.reduceLeDiff, Nat.reduceSub, Nat.reduceMul, List.reduceReplicate, Int.reduceEq, Int.reduceLT, Int.reduceLE, Int.reduceAdd, Int.reduceSub, Int.reduceMul, Nat.reduceLT, Int.reduceToNat]) ?_))
    exact PostW.mk (r' := [.own 14 1 (bl w), .int .i64 0]) (by simp -implicitDefEqProofs (maxSteps := 2000000) only [bl_take14 hl, wk, act, asV, ↓reduceIte, Nat.reduceEqDiff, reduceCtorEq, Nat.reduceAdd, Nat.reduceLeDiff, Nat.reduceSub, Nat.reduceMul, List.reduceReplicate, Int.reduceEq, Int.reduceLT, Int.reduceLE, Int.reduceAdd, Int.reduceSub, Int.reduceMul, Nat.reduceLT, Int.reduceToNat]) (.cons (.inl rfl) (.cons (.inl rfl) .nil)) (Nat.le_refl 1) (Nat.le_refl 1)
  · by_cases hg : goodN nm = true
    · have HX : nm = [] ∨ goodN nm = true := .inr hg
      rw [hg] at cg
      by_cases h4 : r < 1
      · repeat' (first | simp -implicitDefEqProofs (maxSteps := 2000000) only [m28_1, m28_2, m28_3, m28_4, m28_5, m28_6, m28_7, m28_r, m28_b, m28, clC, h1, h2, h0, h4, wk, act, asV, ↓reduceIte, Nat.reduceEqDiff, reduceCtorEq, Nat.reduceAdd, Nat.reduceLeDiff, Nat.reduceSub, Nat.reduceMul, List.reduceReplicate, Int.reduceEq, Int.reduceLT, Int.reduceLE, Int.reduceAdd, Int.reduceSub, Int.reduceMul, Nat.reduceLT, Int.reduceToNat] | ((with_reducible refine CallL.gate ?_); refine CallL.of (by simp -implicitDefEqProofs (maxSteps := 2000000) only [m28_1, m28_2, m28_3, m28_4, m28_5, m28_6, m28_7, m28_r, m28_b, m28, clC, h1, h2, h0, h4, wk, act, asV, ↓reduceIte, Nat.reduceEqDiff, reduceCtorEq, Nat.reduceAdd, Nat.reduceLeDiff, Nat.reduceSub, Nat.reduceMul, List.reduceReplicate, Int.reduceEq, Int.reduceLT, Int.reduceLE, Int.reduceAdd, Int.reduceSub, Int.reduceMul, Nat.reduceLT, Int.reduceToNat]; first | done | (with_reducible rfl)) (by first | exact cg) (by simp -implicitDefEqProofs (maxSteps := 2000000) only [m28_1, m28_2, m28_3, m28_4, m28_5, m28_6, m28_7, m28_r, m28_b, m28, clC, h1, h2, h0, h4, wk, act, asV, ↓reduceIte, Nat.reduceEqDiff, reduceCtorEq, Nat.reduceAdd, Nat.reduceLeDiff, Nat.reduceSub, Nat.reduceMul, List.reduceReplicate, Int.reduceEq, Int.reduceLT, Int.reduceLE, Int.reduceAdd, Int.reduceSub, Int.reduceMul, Nat.reduceLT, Int.reduceToNat]) ?_) | ((with_reducible refine CallP.gate ?_); refine CallP.of (by simp -implicitDefEqProofs (maxSteps := 2000000) only [m28_1, m28_2, m28_3, m28_4, m28_5, m28_6, m28_7, m28_r, m28_b, m28, clC, h1, h2, h0, h4, wk, act, asV, ↓reduceIte, Nat.reduceEqDiff, reduceCtorEq, Nat.reduceAdd, Nat.reduceLeDiff, Nat.reduceSub, Nat.reduceMul, List.reduceReplicate, Int.reduceEq, Int.reduceLT, Int.reduceLE, Int.reduceAdd, Int.reduceSub, Int.reduceMul, Nat.reduceLT, Int.reduceToNat]; first | done | (with_reducible rfl)) (by first | exact cg) (by simp -implicitDefEqProofs (maxSteps := 2000000) only [m28_1, m28_2, m28_3, m28_4, m28_5, m28_6, m28_7, m28_r, m28_b, m28, clC, h1, h2, h0, h4, wk, act, asV, ↓reduceIte, Nat.reduceEqDiff, reduceCtorEq, Nat.reduceAdd, Nat.reduceLeDiff, Nat.reduceSub, Nat.reduceMul, List.reduceReplicate, Int.reduceEq, Int.reduceLT, Int.reduceLE, Int.reduceAdd, Int.reduceSub, Int.reduceMul, Nat.reduceLT, Int.reduceToNat]) ?_))
        exact bad _ (.inr (.inr (.inr (.inl h4)))) (by simp -implicitDefEqProofs (maxSteps := 2000000) only [wk, act, asV, ↓reduceIte, Nat.reduceEqDiff, reduceCtorEq, Nat.reduceAdd, Nat.reduceLeDiff, Nat.reduceSub, Nat.reduceMul, List.reduceReplicate, Int.reduceEq, Int.reduceLT, Int.reduceLE, Int.reduceAdd, Int.reduceSub, Int.reduceMul, Nat.reduceLT, Int.reduceToNat])
      by_cases h5 : 3 < r
      · repeat' (first | simp -implicitDefEqProofs (maxSteps := 2000000) only [m28_1, m28_2, m28_3, m28_4, m28_5, m28_6, m28_7, m28_r, m28_b, m28, clC, h1, h2, h0, h4, h5, wk, act, asV, ↓reduceIte, Nat.reduceEqDiff, reduceCtorEq, Nat.reduceAdd, Nat.reduceLeDiff, Nat.reduceSub, Nat.reduceMul, List.reduceReplicate, Int.reduceEq, Int.reduceLT, Int.reduceLE, Int.reduceAdd, Int.reduceSub, Int.reduceMul, Nat.reduceLT, Int.reduceToNat] | ((with_reducible refine CallL.gate ?_); refine CallL.of (by simp -implicitDefEqProofs (maxSteps := 2000000) only [m28_1, m28_2, m28_3, m28_4, m28_5, m28_6, m28_7, m28_r, m28_b, m28, clC, h1, h2, h0, h4, h5, wk, act, asV, ↓reduceIte, Nat.reduceEqDiff, reduceCtorEq, Nat.reduceAdd, Nat.reduceLeDiff, Nat.reduceSub, Nat.reduceMul, List.reduceReplicate, Int.reduceEq, Int.reduceLT, Int.reduceLE, Int.reduceAdd, Int.reduceSub, Int.reduceMul, Nat.reduceLT, Int.reduceToNat]; first | done | (with_reducible rfl)) (by first | exact cg) (by simp -implicitDefEqProofs (maxSteps := 2000000) only [m28_1, m28_2, m28_3, m28_4, m28_5, m28_6, m28_7, m28_r, m28_b, m28, clC, h1, h2, h0, h4, h5, wk, act, asV, ↓reduceIte, Nat.reduceEqDiff, reduceCtorEq, Nat.reduceAdd, Nat.reduceLeDiff, Nat.reduceSub, Nat.reduceMul, List.reduceReplicate, Int.reduceEq, Int.reduceLT, Int.reduceLE, Int.reduceAdd, Int.reduceSub, Int.reduceMul, Nat.reduceLT, Int.reduceToNat]) ?_) | ((with_reducible refine CallP.gate ?_); refine CallP.of (by simp -implicitDefEqProofs (maxSteps := 2000000) only [m28_1, m28_2, m28_3, m28_4, m28_5, m28_6, m28_7, m28_r, m28_b, m28, clC, h1, h2, h0, h4, h5, wk, act, asV, ↓reduceIte, Nat.reduceEqDiff, reduceCtorEq, Nat.reduceAdd, Nat.reduceLeDiff, Nat.reduceSub, Nat.reduceMul, List.reduceReplicate, Int.reduceEq, Int.reduceLT, Int.reduceLE, Int.reduceAdd, Int.reduceSub, Int.reduceMul, Nat.reduceLT, Int.reduceToNat]; first | done | (with_reducible rfl)) (by first | exact cg) (by simp -implicitDefEqProofs (maxSteps := 2000000) only [m28_1, m28_2, m28_3, m28_4, m28_5, m28_6, m28_7, m28_r, m28_b, m28, clC, h1, h2, h0, h4, h5, wk, act, asV, ↓reduceIte, Nat.reduceEqDiff, reduceCtorEq, Nat.reduceAdd, Nat.reduceLeDiff, Nat.reduceSub, Nat.reduceMul, List.reduceReplicate, Int.reduceEq, Int.reduceLT, Int.reduceLE, Int.reduceAdd, Int.reduceSub, Int.reduceMul, Nat.reduceLT, Int.reduceToNat]) ?_))
        exact bad _ (.inr (.inr (.inr (.inr h5)))) (by simp -implicitDefEqProofs (maxSteps := 2000000) only [wk, act, asV, ↓reduceIte, Nat.reduceEqDiff, reduceCtorEq, Nat.reduceAdd, Nat.reduceLeDiff, Nat.reduceSub, Nat.reduceMul, List.reduceReplicate, Int.reduceEq, Int.reduceLT, Int.reduceLE, Int.reduceAdd, Int.reduceSub, Int.reduceMul, Nat.reduceLT, Int.reduceToNat])
      have hok := okC_of (t := ⟨p, nm, r, ti, ge, tg⟩) h1 h2 HX h4 h5
      have e1 : claimR ⟨p, nm, r, ti, ge, tg⟩ = claimB ⟨p, nm, r, ti, ge, tg⟩ := if_pos hok
      have e2 : tokE ⟨p, nm, r, ti, ge, tg⟩ = 0 := if_pos hok
      rw [e1, e2]
      obtain ⟨n, rfl⟩ : ∃ n : Nat, p = n := ⟨p.toNat, by omega⟩
      obtain ⟨m, rfl⟩ : ∃ n : Nat, r = n := ⟨r.toNat, by omega⟩
      have c1 := pad_ok nm hn
      have c2 := four_ok h32
      have c3 := four_ok h32'
      have c4 := concat_ok .full [(.full, [u8 n]), (.plain, pad4 nm), (.full, [u8 m]), (.full, le4 ti), (.full, le4 ge)] (by simp [joined, pad4_length, le4]) (by simp)
      have ej : joined [(Fl.full, [u8 n]), (.plain, pad4 nm), (.full, [u8 m]), (.full, le4 ti), (.full, le4 ge)] = claimB ⟨n, nm, m, ti, ge, tg⟩ := by simp [joined, claimB]
      rw [ej] at c4
      simp only [pl, List.map_cons, List.map_nil, pad4_length] at c4
      have hl := claimB_length ⟨n, nm, m, ti, ge, tg⟩
      obtain ⟨w, hw⟩ : ∃ w, w = claimB ⟨n, nm, m, ti, ge, tg⟩ := ⟨_, rfl⟩
      rw [← hw] at c4 hl ⊢
      repeat' (first | simp -implicitDefEqProofs (maxSteps := 2000000) only [m28_1, m28_2, m28_3, m28_4, m28_5, m28_6, m28_7, m28_r, m28_b, m28, clC, h1, h2, h0, h4, h5, wrap_u8, bl_scal, bl_pur, bl_length, pad4_length, bl_take4 (pad4_length nm), bl_drop4 (pad4_length []), hl, wk, act, asV, ↓reduceIte, Nat.reduceEqDiff, reduceCtorEq, Nat.reduceAdd, Nat.reduceLeDiff, Nat.reduceSub, Nat.reduceMul, List.reduceReplicate, Int.reduceEq, Int.reduceLT, Int.reduceLE, Int.reduceAdd, Int.reduceSub, Int.reduceMul, Nat.reduceLT, Int.reduceToNat] | ((with_reducible refine CallL.gate ?_); refine CallL.of (by simp -implicitDefEqProofs (maxSteps := 2000000) only [m28_1, m28_2, m28_3, m28_4, m28_5, m28_6, m28_7, m28_r, m28_b, m28, clC, h1, h2, h0, h4, h5, wrap_u8, bl_scal, bl_pur, bl_length, pad4_length, bl_take4 (pad4_length nm), bl_drop4 (pad4_length []), hl, wk, act, asV, ↓reduceIte, Nat.reduceEqDiff, reduceCtorEq, Nat.reduceAdd, Nat.reduceLeDiff, Nat.reduceSub, Nat.reduceMul, List.reduceReplicate, Int.reduceEq, Int.reduceLT, Int.reduceLE, Int.reduceAdd, Int.reduceSub, Int.reduceMul, Nat.reduceLT, Int.reduceToNat]; first | done | (with_reducible rfl)) (by first | exact cg | exact c1 | exact c2 | exact c3 | exact c4) (by simp -implicitDefEqProofs (maxSteps := 2000000) only [m28_1, m28_2, m28_3, m28_4, m28_5, m28_6, m28_7, m28_r, m28_b, m28, clC, h1, h2, h0, h4, h5, wrap_u8, bl_scal, bl_pur, bl_length, pad4_length, bl_take4 (pad4_length nm), bl_drop4 (pad4_length []), hl, wk, act, asV, ↓reduceIte, Nat.reduceEqDiff, reduceCtorEq, Nat.reduceAdd, Nat.reduceLeDiff, Nat.reduceSub, Nat.reduceMul, List.reduceReplicate, Int.reduceEq, Int.reduceLT, Int.reduceLE, Int.reduceAdd, Int.reduceSub, Int.reduceMul, Nat.reduceLT, Int.reduceToNat]) ?_) | ((with_reducible refine CallP.gate ?_); refine CallP.of (by simp -implicitDefEqProofs (maxSteps := 2000000) only [m28_1, m28_2, m28_3, m28_4, m28_5, m28_6, m28_7, m28_r, m28_b, m28, clC, h1, h2, h0, h4, h5, wrap_u8, bl_scal, bl_pur, bl_length, pad4_length, bl_take4 (pad4_length nm), bl_drop4 (pad4_length []), hl, wk, act, asV, ↓reduceIte, Nat.reduceEqDiff, reduceCtorEq, Nat.reduceAdd, Nat.reduceLeDiff, Nat.reduceSub, Nat.reduceMul, List.reduceReplicate, Int.reduceEq, Int.reduceLT, Int.reduceLE, Int.reduceAdd, Int.reduceSub, Int.reduceMul, Nat.reduceLT, Int.reduceToNat]; first | done | (with_reducible rfl)) (by first | exact cg | exact c1 | exact c2 | exact c3 | exact c4) (by simp -implicitDefEqProofs (maxSteps := 2000000) only [m28_1, m28_2, m28_3, m28_4, m28_5, m28_6, m28_7, m28_r, m28_b, m28, clC, h1, h2, h0, h4, h5, wrap_u8, bl_scal, bl_pur, bl_length, pad4_length, bl_take4 (pad4_length nm), bl_drop4 (pad4_length []), hl, wk, act, asV, ↓reduceIte, Nat.reduceEqDiff, reduceCtorEq, Nat.reduceAdd, Nat.reduceLeDiff, Nat.reduceSub, Nat.reduceMul, List.reduceReplicate, Int.reduceEq, Int.reduceLT, Int.reduceLE, Int.reduceAdd, Int.reduceSub, Int.reduceMul, Nat.reduceLT, Int.reduceToNat]) ?_))
      exact PostW.mk (r' := [.own 14 1 (bl w), .int .i64 0]) (by simp -implicitDefEqProofs (maxSteps := 2000000) only [bl_take14 hl, wk, act, asV, ↓reduceIte, Nat.reduceEqDiff, reduceCtorEq, Nat.reduceAdd, Nat.reduceLeDiff, Nat.reduceSub, Nat.reduceMul, List.reduceReplicate, Int.reduceEq, Int.reduceLT, Int.reduceLE, Int.reduceAdd, Int.reduceSub, Int.reduceMul, Nat.reduceLT, Int.reduceToNat]) (.cons (.inl rfl) (.cons (.inl rfl) .nil)) (Nat.le_refl 1) (Nat.le_refl 1)

    · have hg' : goodN nm = false := by simpa using hg
      rw [hg'] at cg
      repeat' (first | simp -implicitDefEqProofs (maxSteps := 2000000) only [m28_1, m28_2, m28_3, m28_4, m28_5, m28_6, m28_7, m28_r, m28_b, m28, clC, h1, h2, h0, wk, act, asV, ↓reduceIte, Nat.reduceEqDiff, reduceCtorEq, Nat.reduceAdd, Nat.reduceLeDiff, Nat.reduceSub, Nat.reduceMul, List.reduceReplicate, Int.reduceEq, Int.reduceLT, Int.reduceLE, Int.reduceAdd, Int.reduceSub, Int.reduceMul, Nat.reduceLT, Int.reduceToNat] | ((with_reducible refine CallL.gate ?_); refine CallL.of (by simp -implicitDefEqProofs (maxSteps := 2000000) only [m28_1, m28_2, m28_3, m28_4, m28_5, m28_6, m28_7, m28_r, m28_b, m28, clC, h1, h2, h0, wk, act, asV, ↓reduceIte, Nat.reduceEqDiff, reduceCtorEq, Nat.reduceAdd, Nat.reduceLeDiff, Nat.reduceSub, Nat.reduceMul, List.reduceReplicate, Int.reduceEq, Int.reduceLT, Int.reduceLE, Int.reduceAdd, Int.reduceSub, Int.reduceMul, Nat.reduceLT, Int.reduceToNat]; first | done | (with_reducible rfl)) (by first | exact cg) (by simp -implicitDefEqProofs (maxSteps := 2000000) only [m28_1, m28_2, m28_3, m28_4, m28_5, m28_6, m28_7, m28_r, m28_b, m28, clC, h1, h2, h0, wk, act, asV, ↓reduceIte, Nat.reduceEqDiff, reduceCtorEq, Nat.reduceAdd, Nat.reduceLeDiff, Nat.reduceSub, Nat.reduceMul, List.reduceReplicate, Int.reduceEq, Int.reduceLT, Int.reduceLE, Int.reduceAdd, Int.reduceSub, Int.reduceMul, Nat.reduceLT, Int.reduceToNat]) ?_) | ((with_reducible refine CallP.gate ?_); refine CallP.of (by simp -implicitDefEqProofs (maxSteps := 2000000) only [m28_1, m28_2, m28_3, m28_4, m28_5, m28_6, m28_7, m28_r, m28_b, m28, clC, h1, h2, h0, wk, act, asV, ↓reduceIte, Nat.reduceEqDiff, reduceCtorEq, Nat.reduceAdd, Nat.reduceLeDiff, Nat.reduceSub, Nat.reduceMul, List.reduceReplicate, Int.reduceEq, Int.reduceLT, Int.reduceLE, Int.reduceAdd, Int.reduceSub, Int.reduceMul, Nat.reduceLT, Int.reduceToNat]; first | done | (with_reducible rfl)) (by first | exact cg) (by simp -implicitDefEqProofs (maxSteps := 2000000) only [m28_1, m28_2, m28_3, m28_4, m28_5, m28_6, m28_7, m28_r, m28_b, m28, clC, h1, h2, h0, wk, act, asV, ↓reduceIte, Nat.reduceEqDiff, reduceCtorEq, Nat.reduceAdd, Nat.reduceLeDiff, Nat.reduceSub, Nat.reduceMul, List.reduceReplicate, Int.reduceEq, Int.reduceLT, Int.reduceLE, Int.reduceAdd, Int.reduceSub, Int.reduceMul, Nat.reduceLT, Int.reduceToNat]) ?_))
      exact bad _ (.inr (.inr (.inl ⟨h0, hg'⟩))) (by simp -implicitDefEqProofs (maxSteps := 2000000) only [wk, act, asV, ↓reduceIte, Nat.reduceEqDiff, reduceCtorEq, Nat.reduceAdd, Nat.reduceLeDiff, Nat.reduceSub, Nat.reduceMul, List.reduceReplicate, Int.reduceEq, Int.reduceLT, Int.reduceLE, Int.reduceAdd, Int.reduceSub, Int.reduceMul, Nat.reduceLT, Int.reduceToNat])
end Go.Proofs.YtfllhbjblkfdfaaDoor
