/- Of the tokens: tokens as bytes, and back. -/
import Derived.Test.YtfllhbjblkfdfaaDoorE31
import Derived.Test.YtfllhbjblkfdfaaDoorM5
import Derived.Test.YtfllhbjblkfdfaaDoorT1
import Derived.Test.YtfllhbjblkfdfaaDoorK8
set_option linter.unusedVariables false
set_option linter.unusedSimpArgs false
set_option maxRecDepth 100000
set_option maxHeartbeats 8000000
namespace Go.Proofs.YtfllhbjblkfdfaaDoor
open Go.RowKit

theorem tokB_length {t : Tok} (ht : t.tag.length = 32) : (tokB t).length = 46 := by simp [tokB, claimB_length, ht]
theorem tok_ok (t : Tok) (ht : t.Ok) : RC Tryd.prog 14 [.agg (tkC t)] [.own (tokR t).length 1 (bl (tokR t)), .int .i64 (tokE t)] := by
  refine RC.of_wpW c14 rfl ?_
  have c1 := claim_ok t ht
  have htg := ht.tag
  have e32 : List.take 32 (bl t.tag) = bl t.tag := bl_take14 htg
  by_cases hk : okC t = true
  · have e1 : claimR t = claimB t := if_pos hk
    have e2 : tokE t = 0 := if_pos hk
    have e3 : tokR t = tokB t := if_pos hk
    have hl := claimB_length t
    rw [e1, e2, hl] at c1
    rw [e2, e3, tokB_length htg]
    have hb : bl (tokB t) = bl (claimB t) ++ bl t.tag := by rw [tokB, bl_append]
    rw [hb]
    simp only [clC] at c1
    obtain ⟨w, hw⟩ : ∃ w, w = claimB t := ⟨_, rfl⟩
    rw [← hw] at c1 hl ⊢
    have h46 : List.take 46 (bl w ++ bl t.tag) = bl w ++ bl t.tag := List.take_of_length_le (by rw [List.length_append, bl_length, bl_length, hl, htg]; exact Nat.le_refl _)
    have hr : roomy 46 1 = true := by decide
    repeat' (first | simp -implicitDefEqProofs (maxSteps := 2000000) only [m14_1, m14_2, m14_3, m14_4, m14_5, m14_6, m14_r, m14_b, m14, tkC, clC, bl_length, htg, e32, bl_pur, hl, hr, wk, act, asV, ↓reduceIte, Nat.reduceEqDiff, reduceCtorEq, Nat.reduceAdd, Nat.reduceLeDiff, Nat.reduceSub, Nat.reduceMul, List.reduceReplicate, Int.reduceEq, Int.reduceLT, Int.reduceLE, Int.reduceAdd, Int.reduceSub, Int.reduceMul, Nat.reduceLT, Int.reduceToNat] | ((with_reducible refine CallL.gate ?_); refine CallL.of (by simp -implicitDefEqProofs (maxSteps := 2000000) only [m14_1, m14_2, m14_3, m14_4, m14_5, m14_6, m14_r, m14_b, m14, tkC, clC, bl_length, htg, e32, bl_pur, hl, hr, wk, act, asV, ↓reduceIte, Nat.reduceEqDiff, reduceCtorEq, Nat.reduceAdd, Nat.reduceLeDiff, Nat.reduceSub, Nat.reduceMul, List.reduceReplicate, Int.reduceEq, Int.reduceLT, Int.reduceLE, Int.reduceAdd, Int.reduceSub, Int.reduceMul, Nat.reduceLT, Int.reduceToNat]; first | done | (with_reducible rfl)) (by first | exact c1) (by simp -implicitDefEqProofs (maxSteps := 2000000) only [m14_1, m14_2, m14_3, m14_4, m14_5, m14_6, m14_r, m14_b, m14, tkC, clC, bl_length, htg, e32, bl_pur, hl, hr, wk, act, asV, ↓reduceIte, Nat.reduceEqDiff, reduceCtorEq, Nat.reduceAdd, Nat.reduceLeDiff, Nat.reduceSub, Nat.reduceMul, List.reduceReplicate, Int.reduceEq, Int.reduceLT, Int.reduceLE, Int.reduceAdd, Int.reduceSub, Int.reduceMul, Nat.reduceLT, Int.reduceToNat]) ?_) | ((with_reducible refine CallP.gate ?_); refine CallP.of (by simp -implicitDefEqProofs (maxSteps := 2000000) only [m14_1, m14_2, m14_3, m14_4, m14_5, m14_6, m14_r, m14_b, m14, tkC, clC, bl_length, htg, e32, bl_pur, hl, hr, wk, act, asV, ↓reduceIte, Nat.reduceEqDiff, reduceCtorEq, Nat.reduceAdd, Nat.reduceLeDiff, Nat.reduceSub, Nat.reduceMul, List.reduceReplicate, Int.reduceEq, Int.reduceLT, Int.reduceLE, Int.reduceAdd, Int.reduceSub, Int.reduceMul, Nat.reduceLT, Int.reduceToNat]; first | done | (with_reducible rfl)) (by first | exact c1) (by simp -implicitDefEqProofs (maxSteps := 2000000) only [m14_1, m14_2, m14_3, m14_4, m14_5, m14_6, m14_r, m14_b, m14, tkC, clC, bl_length, htg, e32, bl_pur, hl, hr, wk, act, asV, ↓reduceIte, Nat.reduceEqDiff, reduceCtorEq, Nat.reduceAdd, Nat.reduceLeDiff, Nat.reduceSub, Nat.reduceMul, List.reduceReplicate, Int.reduceEq, Int.reduceLT, Int.reduceLE, Int.reduceAdd, Int.reduceSub, Int.reduceMul, Nat.reduceLT, Int.reduceToNat]) ?_))
    exact PostW.mk (r' := [.own 46 1 (bl w ++ bl t.tag), .int .i64 0]) (by simp -implicitDefEqProofs (maxSteps := 2000000) only [h46, wk, act, asV, ↓reduceIte, Nat.reduceEqDiff, reduceCtorEq, Nat.reduceAdd, Nat.reduceLeDiff, Nat.reduceSub, Nat.reduceMul, List.reduceReplicate, Int.reduceEq, Int.reduceLT, Int.reduceLE, Int.reduceAdd, Int.reduceSub, Int.reduceMul, Nat.reduceLT, Int.reduceToNat]) (.cons (.inl rfl) (.cons (.inl rfl) .nil)) (Nat.le_refl 1) (Nat.le_refl 1)
  · have e1 : claimR t = [] := if_neg hk
    have e2 : tokE t = 11 := if_neg hk
    have e3 : tokR t = [] := if_neg hk
    rw [e1, e2] at c1
    rw [e2, e3]
    simp only [clC] at c1
    repeat' (first | simp -implicitDefEqProofs (maxSteps := 2000000) only [m14_1, m14_2, m14_3, m14_4, m14_5, m14_6, m14_r, m14_b, m14, tkC, clC, bl_length, htg, wk, act, asV, ↓reduceIte, Nat.reduceEqDiff, reduceCtorEq, Nat.reduceAdd, Nat.reduceLeDiff, Nat.reduceSub, Nat.reduceMul, List.reduceReplicate, Int.reduceEq, Int.reduceLT, Int.reduceLE, Int.reduceAdd, Int.reduceSub, Int.reduceMul, Nat.reduceLT, Int.reduceToNat] | ((with_reducible refine CallL.gate ?_); refine CallL.of (by simp -implicitDefEqProofs (maxSteps := 2000000) only [m14_1, m14_2, m14_3, m14_4, m14_5, m14_6, m14_r, m14_b, m14, tkC, clC, bl_length, htg, wk, act, asV, ↓reduceIte, Nat.reduceEqDiff, reduceCtorEq, Nat.reduceAdd, Nat.reduceLeDiff, Nat.reduceSub, Nat.reduceMul, List.reduceReplicate, Int.reduceEq, Int.reduceLT, Int.reduceLE, Int.reduceAdd, Int.reduceSub, Int.reduceMul, Nat.reduceLT, Int.reduceToNat]; first | done | (with_reducible rfl)) (by first | exact c1) (by simp -implicitDefEqProofs (maxSteps := 2000000) only [m14_1, m14_2, m14_3, m14_4, m14_5, m14_6, m14_r, m14_b, m14, tkC, clC, bl_length, htg, wk, act, asV, ↓reduceIte, Nat.reduceEqDiff, reduceCtorEq, Nat.reduceAdd, Nat.reduceLeDiff, Nat.reduceSub, Nat.reduceMul, List.reduceReplicate, Int.reduceEq, Int.reduceLT, Int.reduceLE, Int.reduceAdd, Int.reduceSub, Int.reduceMul, Nat.reduceLT, Int.reduceToNat]) ?_) | ((with_reducible refine CallP.gate ?_); refine CallP.of (by simp -implicitDefEqProofs (maxSteps := 2000000) only [m14_1, m14_2, m14_3, m14_4, m14_5, m14_6, m14_r, m14_b, m14, tkC, clC, bl_length, htg, wk, act, asV, ↓reduceIte, Nat.reduceEqDiff, reduceCtorEq, Nat.reduceAdd, Nat.reduceLeDiff, Nat.reduceSub, Nat.reduceMul, List.reduceReplicate, Int.reduceEq, Int.reduceLT, Int.reduceLE, Int.reduceAdd, Int.reduceSub, Int.reduceMul, Nat.reduceLT, Int.reduceToNat]; first | done | (with_reducible rfl)) (by first | exact c1) (by simp -implicitDefEqProofs (maxSteps := 2000000) only [m14_1, m14_2, m14_3, m14_4, m14_5, m14_6, m14_r, m14_b, m14, tkC, clC, bl_length, htg, wk, act, asV, ↓reduceIte, Nat.reduceEqDiff, reduceCtorEq, Nat.reduceAdd, Nat.reduceLeDiff, Nat.reduceSub, Nat.reduceMul, List.reduceReplicate, Int.reduceEq, Int.reduceLT, Int.reduceLE, Int.reduceAdd, Int.reduceSub, Int.reduceMul, Nat.reduceLT, Int.reduceToNat]) ?_))
    exact PostW.mk (r' := [.sl .full 0 [], .int .i64 11]) (by simp -implicitDefEqProofs (maxSteps := 2000000) only [wk, act, asV, ↓reduceIte, Nat.reduceEqDiff, reduceCtorEq, Nat.reduceAdd, Nat.reduceLeDiff, Nat.reduceSub, Nat.reduceMul, List.reduceReplicate, Int.reduceEq, Int.reduceLT, Int.reduceLE, Int.reduceAdd, Int.reduceSub, Int.reduceMul, Nat.reduceLT, Int.reduceToNat]) (.cons (.inr ⟨rfl, 1, rfl⟩) (.cons (.inl rfl) .nil)) (by decide) (by decide)

def zT : Tok := ⟨0, [], 0, 0, 0, List.replicate 32 0⟩
theorem zT_cells : tkC zT = [.int .i64 0, .str [], .int .i64 0, .int .u32 0, .int .u32 0, .int .u8 0, .int .u8 0, .int .u8 0, .int .u8 0, .int .u8 0, .int .u8 0, .int .u8 0, .int .u8 0, .int .u8 0, .int .u8 0, .int .u8 0, .int .u8 0, .int .u8 0, .int .u8 0, .int .u8 0, .int .u8 0, .int .u8 0, .int .u8 0, .int .u8 0, .int .u8 0, .int .u8 0, .int .u8 0, .int .u8 0, .int .u8 0, .int .u8 0, .int .u8 0, .int .u8 0, .int .u8 0, .int .u8 0, .int .u8 0, .int .u8 0, .int .u8 0] := rfl
def tokOf (p n1 n2 n3 n4 r u1 u2 u3 u4 g1 g2 g3 g4 : UInt8) (nm tag : List UInt8) : Tok := ⟨(p.toNat : Nat), nm, (r.toNat : Nat), num4 u1 u2 u3 u4, num4 g1 g2 g3 g4, tag⟩
/-- the token that bytes say, whether they are its or not -/
def saidT : List UInt8 → Option Tok
  | p :: n1 :: n2 :: n3 :: n4 :: r :: u1 :: u2 :: u3 :: u4 :: g1 :: g2 :: g3 :: g4 :: tag => (cutN [n1, n2, n3, n4]).map fun nm => tokOf p n1 n2 n3 n4 r u1 u2 u3 u4 g1 g2 g3 g4 nm tag
  | _ => none
def isT (b : List UInt8) : Bool := decide (b.length = 46) && (match saidT b with | some t => okC t && decide (tokB t = b) | none => false)
def decT (b : List UInt8) : Tok := if isT b = true then (saidT b).getD zT else zT
def decTE (b : List UInt8) : Int := if isT b = true then 0 else 11
theorem decT_no {b : List UInt8} (h : isT b = false) : decT b = zT ∧ decTE b = 11 := by
  constructor
  · unfold decT; rw [if_neg (by rw [h]; decide)]
  · unfold decTE; rw [if_neg (by rw [h]; decide)]
theorem decT_yes {b : List UInt8} {t : Tok} (h : isT b = true) (hs : saidT b = some t) : decT b = t ∧ decTE b = 0 := by
  constructor
  · unfold decT; rw [if_pos h, hs]; rfl
  · unfold decTE; rw [if_pos h]
theorem split46 {b : List UInt8} (h : b.length = 46) : ∃ p n1 n2 n3 n4 r u1 u2 u3 u4 g1 g2 g3 g4 tag, b = p :: n1 :: n2 :: n3 :: n4 :: r :: u1 :: u2 :: u3 :: u4 :: g1 :: g2 :: g3 :: g4 :: tag ∧ tag.length = 32 := by
  match b, h with
  | p :: n1 :: n2 :: n3 :: n4 :: r :: u1 :: u2 :: u3 :: u4 :: g1 :: g2 :: g3 :: g4 :: tag, h =>
    simp only [List.length_cons] at h
    exact ⟨p, n1, n2, n3, n4, r, u1, u2, u3, u4, g1, g2, g3, g4, tag, rfl, by omega⟩

theorem tdec_ok (f : Fl) (hf : ¬ f = .lit) (b : List UInt8) (hl : b.length < 2 ^ 63) : RC Tryd.prog 23 [.sl f b.length (bl b)] [.agg (tkC (decT b)), .int .i64 (decTE b)] := by
  refine RC.of_wp c23 rfl ?_
  by_cases h46 : b.length = 46
  · obtain ⟨p, n1, n2, n3, n4, r, u1, u2, u3, u4, g1, g2, g3, g4, tag, rfl, htag⟩ := split46 h46
    have hcells : bl (p :: n1 :: n2 :: n3 :: n4 :: r :: u1 :: u2 :: u3 :: u4 :: g1 :: g2 :: g3 :: g4 :: tag) = .int .u8 (p.toNat : Int) :: .int .u8 (n1.toNat : Int) :: .int .u8 (n2.toNat : Int) :: .int .u8 (n3.toNat : Int) :: .int .u8 (n4.toNat : Int) :: .int .u8 (r.toNat : Int) :: .int .u8 (u1.toNat : Int) :: .int .u8 (u2.toNat : Int) :: .int .u8 (u3.toNat : Int) :: .int .u8 (u4.toNat : Int) :: .int .u8 (g1.toNat : Int) :: .int .u8 (g2.toNat : Int) :: .int .u8 (g3.toNat : Int) :: .int .u8 (g4.toNat : Int) :: bl tag := rfl
    have c1 := cut_ok [n1, n2, n3, n4] rfl
    have b1 : bl [n1, n2, n3, n4] = [.int .u8 (n1.toNat : Int), .int .u8 (n2.toNat : Int), .int .u8 (n3.toNat : Int), .int .u8 (n4.toNat : Int)] := rfl
    rw [b1] at c1
    have hbb : (p :: n1 :: n2 :: n3 :: n4 :: r :: u1 :: u2 :: u3 :: u4 :: g1 :: g2 :: g3 :: g4 :: tag).length = 46 := h46
    have hL : (bl tag).length + 1 + 1 + 1 + 1 + 1 + 1 + 1 + 1 + 1 + 1 + 1 + 1 + 1 + 1 = 46 := by rw [bl_length, htag]
    have tp := p.toNat_lt
    have tr := r.toNat_lt
    have wp : IntKind.i64.wrap (p.toNat : Int) = p.toNat := wrapN .i64 (by simp [vbits, IntKind.signed, IntKind.bits]; omega)
    have wr : IntKind.i64.wrap (r.toNat : Int) = r.toNat := wrapN .i64 (by simp [vbits, IntKind.signed, IntKind.bits]; omega)
    cases hcn : cutN [n1, n2, n3, n4] with
    | none =>
      have e1 : cutS [n1, n2, n3, n4] = [] := by unfold cutS; rw [hcn]; rfl
      have e2 : cutO [n1, n2, n3, n4] = false := by unfold cutO; rw [hcn]; rfl
      have hi : isT (p :: n1 :: n2 :: n3 :: n4 :: r :: u1 :: u2 :: u3 :: u4 :: g1 :: g2 :: g3 :: g4 :: tag) = false := by simp [isT, saidT, hcn]
      rw [(decT_no hi).1, (decT_no hi).2, hbb, hcells, zT_cells]
      rw [e1, e2] at c1
      repeat' (first | simp -implicitDefEqProofs (maxSteps := 2000000) only [m23_1, m23_2, m23_3, m23_4, m23_5, m23_6, m23_7, m23_8, m23_9, m23_10, m23_11, m23_12, m23_13, m23_14, m23_15, m23_16, m23_r, m23_b, m23, hL, bl_length, htag, wk, act, asV, ↓reduceIte, Nat.reduceEqDiff, reduceCtorEq, Nat.reduceAdd, Nat.reduceLeDiff, Nat.reduceSub, Nat.reduceMul, List.reduceReplicate, Int.reduceEq, Int.reduceLT, Int.reduceLE, Int.reduceAdd, Int.reduceSub, Int.reduceMul, Nat.reduceLT, Int.reduceToNat] | ((with_reducible refine CallL.gate ?_); refine CallL.of (by simp -implicitDefEqProofs (maxSteps := 2000000) only [m23_1, m23_2, m23_3, m23_4, m23_5, m23_6, m23_7, m23_8, m23_9, m23_10, m23_11, m23_12, m23_13, m23_14, m23_15, m23_16, m23_r, m23_b, m23, hL, bl_length, htag, wk, act, asV, ↓reduceIte, Nat.reduceEqDiff, reduceCtorEq, Nat.reduceAdd, Nat.reduceLeDiff, Nat.reduceSub, Nat.reduceMul, List.reduceReplicate, Int.reduceEq, Int.reduceLT, Int.reduceLE, Int.reduceAdd, Int.reduceSub, Int.reduceMul, Nat.reduceLT, Int.reduceToNat]; first | done | (with_reducible rfl)) (by first | exact c1) (by simp -implicitDefEqProofs (maxSteps := 2000000) only [m23_1, m23_2, m23_3, m23_4, m23_5, m23_6, m23_7, m23_8, m23_9, m23_10, m23_11, m23_12, m23_13, m23_14, m23_15, m23_16, m23_r, m23_b, m23, hL, bl_length, htag, wk, act, asV, ↓reduceIte, Nat.reduceEqDiff, reduceCtorEq, Nat.reduceAdd, Nat.reduceLeDiff, Nat.reduceSub, Nat.reduceMul, List.reduceReplicate, Int.reduceEq, Int.reduceLT, Int.reduceLE, Int.reduceAdd, Int.reduceSub, Int.reduceMul, Nat.reduceLT, Int.reduceToNat]) ?_) | ((with_reducible refine CallP.gate ?_); refine CallP.of (by simp -implicitDefEqProofs (maxSteps := 2000000) only [m23_1, m23_2, m23_3, m23_4, m23_5, m23_6, m23_7, m23_8, m23_9, m23_10, m23_11, m23_12, m23_13, m23_14, m23_15, m23_16, m23_r, m23_b, m23, hL, bl_length, htag, wk, act, asV, ↓reduceIte, Nat.reduceEqDiff, reduceCtorEq, Nat.reduceAdd, Nat.reduceLeDiff, Nat.reduceSub, Nat.reduceMul, List.reduceReplicate, Int.reduceEq, Int.reduceLT, Int.reduceLE, Int.reduceAdd, Int.reduceSub, Int.reduceMul, Nat.reduceLT, Int.reduceToNat]; first | done | (with_reducible rfl)) (by first | exact c1) (by simp -implicitDefEqProofs (maxSteps := 2000000) only [m23_1, m23_2, m23_3, m23_4, m23_5, m23_6, m23_7, m23_8, m23_9, m23_10, m23_11, m23_12, m23_13, m23_14, m23_15, m23_16, m23_r, m23_b, m23, hL, bl_length, htag, wk, act, asV, ↓reduceIte, Nat.reduceEqDiff, reduceCtorEq, Nat.reduceAdd, Nat.reduceLeDiff, Nat.reduceSub, Nat.reduceMul, List.reduceReplicate, Int.reduceEq, Int.reduceLT, Int.reduceLE, Int.reduceAdd, Int.reduceSub, Int.reduceMul, Nat.reduceLT, Int.reduceToNat]) ?_))
    | some nm =>
      have e1 : cutS [n1, n2, n3, n4] = nm := by unfold cutS; rw [hcn]; rfl
      have e2 : cutO [n1, n2, n3, n4] = true := by unfold cutO; rw [hcn]; rfl
      rw [e1, e2] at c1
      obtain ⟨hpn, hgn, hnl⟩ := cutN_some rfl hcn
      have c2 := number_ok .plain u1 u2 u3 u4
      have c3 := number_ok .plain g1 g2 g3 g4
      have b2 : bl [u1, u2, u3, u4] = [.int .u8 (u1.toNat : Int), .int .u8 (u2.toNat : Int), .int .u8 (u3.toNat : Int), .int .u8 (u4.toNat : Int)] := rfl
      have b3 : bl [g1, g2, g3, g4] = [.int .u8 (g1.toNat : Int), .int .u8 (g2.toNat : Int), .int .u8 (g3.toNat : Int), .int .u8 (g4.toNat : Int)] := rfl
      rw [b2] at c2
      rw [b3] at c3
      have hsd : saidT (p :: n1 :: n2 :: n3 :: n4 :: r :: u1 :: u2 :: u3 :: u4 :: g1 :: g2 :: g3 :: g4 :: tag) = some (tokOf p n1 n2 n3 n4 r u1 u2 u3 u4 g1 g2 g3 g4 nm tag) := by simp [saidT, hcn]
      have htk : (tokOf p n1 n2 n3 n4 r u1 u2 u3 u4 g1 g2 g3 g4 nm tag).Ok := ⟨by simp only [tokOf]; omega, num4_lt _ _ _ _, num4_lt _ _ _ _, htag⟩
      have c4 := tok_ok _ htk
      have hra : tkC (tokOf p n1 n2 n3 n4 r u1 u2 u3 u4 g1 g2 g3 g4 nm tag) = .int .i64 (p.toNat : Nat) :: .str nm :: .int .i64 (r.toNat : Nat) :: .int .u32 (num4 u1 u2 u3 u4 : Nat) :: .int .u32 (num4 g1 g2 g3 g4 : Nat) :: bl tag := rfl
      rw [hra] at c4
      have e32 : List.take 32 (bl tag) = bl tag := bl_take14 htag
      have d32 : List.drop 32 (bl tag) = [] := List.drop_of_length_le (by rw [bl_length, htag]; exact Nat.le_refl _)
      have c5 := equal_ok .plain f (tokR (tokOf p n1 n2 n3 n4 r u1 u2 u3 u4 g1 g2 g3 g4 nm tag)) (p :: n1 :: n2 :: n3 :: n4 :: r :: u1 :: u2 :: u3 :: u4 :: g1 :: g2 :: g3 :: g4 :: tag) (by unfold tokR; split <;> first | (rw [tokB_length (t := tokOf p n1 n2 n3 n4 r u1 u2 u3 u4 g1 g2 g3 g4 nm tag) htag]; decide) | simp)
      rw [hbb, hcells] at c5
      by_cases hk : okC (tokOf p n1 n2 n3 n4 r u1 u2 u3 u4 g1 g2 g3 g4 nm tag) = true
      · have e3 : tokR (tokOf p n1 n2 n3 n4 r u1 u2 u3 u4 g1 g2 g3 g4 nm tag) = tokB (tokOf p n1 n2 n3 n4 r u1 u2 u3 u4 g1 g2 g3 g4 nm tag) := if_pos hk
        have e4 : tokE (tokOf p n1 n2 n3 n4 r u1 u2 u3 u4 g1 g2 g3 g4 nm tag) = 0 := if_pos hk
        rw [e3] at c5
        rw [e3, e4] at c4
        obtain ⟨w, hw⟩ : ∃ w, w = tokB (tokOf p n1 n2 n3 n4 r u1 u2 u3 u4 g1 g2 g3 g4 nm tag) := ⟨_, rfl⟩
        have hwl : w.length = 46 := by rw [hw]; exact tokB_length htag
        rw [← hw, hwl] at c4 c5
        have tw := bl_take14 hwl
        by_cases hr : tokB (tokOf p n1 n2 n3 n4 r u1 u2 u3 u4 g1 g2 g3 g4 nm tag) = p :: n1 :: n2 :: n3 :: n4 :: r :: u1 :: u2 :: u3 :: u4 :: g1 :: g2 :: g3 :: g4 :: tag
        · have hi : isT (p :: n1 :: n2 :: n3 :: n4 :: r :: u1 :: u2 :: u3 :: u4 :: g1 :: g2 :: g3 :: g4 :: tag) = true := by
            unfold isT
            rw [hsd, hbb]
            simp only [hk, hr, decide_true, Bool.and_self]
          rw [(decT_yes hi hsd).1, (decT_yes hi hsd).2, hbb, hcells, hra]
          rw [decide_eq_true (hw.trans hr)] at c5
          cases f with
          | lit => exact absurd rfl hf
          | _ => repeat' (first | simp -implicitDefEqProofs (maxSteps := 2000000) only [m23_1, m23_2, m23_3, m23_4, m23_5, m23_6, m23_7, m23_8, m23_9, m23_10, m23_11, m23_12, m23_13, m23_14, m23_15, m23_16, m23_r, m23_b, m23, hL, bl_length, htag, wp, wr, e32, d32, bl_scal, tw, wk, act, asV, ↓reduceIte, Nat.reduceEqDiff, reduceCtorEq, Nat.reduceAdd, Nat.reduceLeDiff, Nat.reduceSub, Nat.reduceMul, List.reduceReplicate, Int.reduceEq, Int.reduceLT, Int.reduceLE, Int.reduceAdd, Int.reduceSub, Int.reduceMul, Nat.reduceLT, Int.reduceToNat] | ((with_reducible refine CallL.gate ?_); refine CallL.of (by simp -implicitDefEqProofs (maxSteps := 2000000) only [m23_1, m23_2, m23_3, m23_4, m23_5, m23_6, m23_7, m23_8, m23_9, m23_10, m23_11, m23_12, m23_13, m23_14, m23_15, m23_16, m23_r, m23_b, m23, hL, bl_length, htag, wp, wr, e32, d32, bl_scal, tw, wk, act, asV, ↓reduceIte, Nat.reduceEqDiff, reduceCtorEq, Nat.reduceAdd, Nat.reduceLeDiff, Nat.reduceSub, Nat.reduceMul, List.reduceReplicate, Int.reduceEq, Int.reduceLT, Int.reduceLE, Int.reduceAdd, Int.reduceSub, Int.reduceMul, Nat.reduceLT, Int.reduceToNat]; first | done | (with_reducible rfl)) (by first | exact c1 | exact c2 | exact c3 | exact c4 | exact c5) (by simp -implicitDefEqProofs (maxSteps := 2000000) only [m23_1, m23_2, m23_3, m23_4, m23_5, m23_6, m23_7, m23_8, m23_9, m23_10, m23_11, m23_12, m23_13, m23_14, m23_15, m23_16, m23_r, m23_b, m23, hL, bl_length, htag, wp, wr, e32, d32, bl_scal, tw, wk, act, asV, ↓reduceIte, Nat.reduceEqDiff, reduceCtorEq, Nat.reduceAdd, Nat.reduceLeDiff, Nat.reduceSub, Nat.reduceMul, List.reduceReplicate, Int.reduceEq, Int.reduceLT, Int.reduceLE, Int.reduceAdd, Int.reduceSub, Int.reduceMul, Nat.reduceLT, Int.reduceToNat]) ?_) | ((with_reducible refine CallP.gate ?_); refine CallP.of (by simp -implicitDefEqProofs (maxSteps := 2000000) only [m23_1, m23_2, m23_3, m23_4, m23_5, m23_6, m23_7, m23_8, m23_9, m23_10, m23_11, m23_12, m23_13, m23_14, m23_15, m23_16, m23_r, m23_b, m23, hL, bl_length, htag, wp, wr, e32, d32, bl_scal, tw, wk, act, asV, ↓reduceIte, Nat.reduceEqDiff, reduceCtorEq, Nat.reduceAdd, Nat.reduceLeDiff, Nat.reduceSub, Nat.reduceMul, List.reduceReplicate, Int.reduceEq, Int.reduceLT, Int.reduceLE, Int.reduceAdd, Int.reduceSub, Int.reduceMul, Nat.reduceLT, Int.reduceToNat]; first | done | (with_reducible rfl)) (by first | exact c1 | exact c2 | exact c3 | exact c4 | exact c5) (by simp -implicitDefEqProofs (maxSteps := 2000000) only [m23_1, m23_2, m23_3, m23_4, m23_5, m23_6, m23_7, m23_8, m23_9, m23_10, m23_11, m23_12, m23_13, m23_14, m23_15, m23_16, m23_r, m23_b, m23, hL, bl_length, htag, wp, wr, e32, d32, bl_scal, tw, wk, act, asV, ↓reduceIte, Nat.reduceEqDiff, reduceCtorEq, Nat.reduceAdd, Nat.reduceLeDiff, Nat.reduceSub, Nat.reduceMul, List.reduceReplicate, Int.reduceEq, Int.reduceLT, Int.reduceLE, Int.reduceAdd, Int.reduceSub, Int.reduceMul, Nat.reduceLT, Int.reduceToNat]) ?_))
        · have hi : isT (p :: n1 :: n2 :: n3 :: n4 :: r :: u1 :: u2 :: u3 :: u4 :: g1 :: g2 :: g3 :: g4 :: tag) = false := by
            unfold isT
            rw [hsd]
            simp only [hr, decide_false, Bool.and_false]
          rw [(decT_no hi).1, (decT_no hi).2, hbb, hcells, zT_cells]
          rw [decide_eq_false (fun h => hr (hw.symm.trans h))] at c5
          cases f with
          | lit => exact absurd rfl hf
          | _ => repeat' (first | simp -implicitDefEqProofs (maxSteps := 2000000) only [m23_1, m23_2, m23_3, m23_4, m23_5, m23_6, m23_7, m23_8, m23_9, m23_10, m23_11, m23_12, m23_13, m23_14, m23_15, m23_16, m23_r, m23_b, m23, hL, bl_length, htag, wp, wr, e32, d32, bl_scal, tw, wk, act, asV, ↓reduceIte, Nat.reduceEqDiff, reduceCtorEq, Nat.reduceAdd, Nat.reduceLeDiff, Nat.reduceSub, Nat.reduceMul, List.reduceReplicate, Int.reduceEq, Int.reduceLT, Int.reduceLE, Int.reduceAdd, Int.reduceSub, Int.reduceMul, Nat.reduceLT, Int.reduceToNat] | ((with_reducible refine CallL.gate ?_); refine CallL.of (by simp -implicitDefEqProofs (maxSteps := 2000000) only [m23_1, m23_2, m23_3, m23_4, m23_5, m23_6, m23_7, m23_8, m23_9, m23_10, m23_11, m23_12, m23_13, m23_14, m23_15, m23_16, m23_r, m23_b, m23, hL, bl_length, htag, wp, wr, e32, d32, bl_scal, tw, wk, act, asV, ↓reduceIte, Nat.reduceEqDiff, reduceCtorEq, Nat.reduceAdd, Nat.reduceLeDiff, Nat.reduceSub, Nat.reduceMul, List.reduceReplicate, Int.reduceEq, Int.reduceLT, Int.reduceLE, Int.reduceAdd, Int.reduceSub, Int.reduceMul, Nat.reduceLT, Int.reduceToNat]; first | done | (with_reducible rfl)) (by first | exact c1 | exact c2 | exact c3 | exact c4 | exact c5) (by simp -implicitDefEqProofs (maxSteps := 2000000) only [m23_1, m23_2, m23_3, m23_4, m23_5, m23_6, m23_7, m23_8, m23_9, m23_10, m23_11, m23_12, m23_13, m23_14, m23_15, m23_16, m23_r, m23_b, m23, hL, bl_length, htag, wp, wr, e32, d32, bl_scal, tw, wk, act, asV, ↓reduceIte, Nat.reduceEqDiff, reduceCtorEq, Nat.reduceAdd, Nat.reduceLeDiff, Nat.reduceSub, Nat.reduceMul, List.reduceReplicate, Int.reduceEq, Int.reduceLT, Int.reduceLE, Int.reduceAdd, Int.reduceSub, Int.reduceMul, Nat.reduceLT, Int.reduceToNat]) ?_) | ((with_reducible refine CallP.gate ?_); refine CallP.of (by simp -implicitDefEqProofs (maxSteps := 2000000) only [m23_1, m23_2, m23_3, m23_4, m23_5, m23_6, m23_7, m23_8, m23_9, m23_10, m23_11, m23_12, m23_13, m23_14, m23_15, m23_16, m23_r, m23_b, m23, hL, bl_length, htag, wp, wr, e32, d32, bl_scal, tw, wk, act, asV, ↓reduceIte, Nat.reduceEqDiff, reduceCtorEq, Nat.reduceAdd, Nat.reduceLeDiff, Nat.reduceSub, Nat.reduceMul, List.reduceReplicate, Int.reduceEq, Int.reduceLT, Int.reduceLE, Int.reduceAdd, Int.reduceSub, Int.reduceMul, Nat.reduceLT, Int.reduceToNat]; first | done | (with_reducible rfl)) (by first | exact c1 | exact c2 | exact c3 | exact c4 | exact c5) (by simp -implicitDefEqProofs (maxSteps := 2000000) only [m23_1, m23_2, m23_3, m23_4, m23_5, m23_6, m23_7, m23_8, m23_9, m23_10, m23_11, m23_12, m23_13, m23_14, m23_15, m23_16, m23_r, m23_b, m23, hL, bl_length, htag, wp, wr, e32, d32, bl_scal, tw, wk, act, asV, ↓reduceIte, Nat.reduceEqDiff, reduceCtorEq, Nat.reduceAdd, Nat.reduceLeDiff, Nat.reduceSub, Nat.reduceMul, List.reduceReplicate, Int.reduceEq, Int.reduceLT, Int.reduceLE, Int.reduceAdd, Int.reduceSub, Int.reduceMul, Nat.reduceLT, Int.reduceToNat]) ?_))
      · have e3 : tokR (tokOf p n1 n2 n3 n4 r u1 u2 u3 u4 g1 g2 g3 g4 nm tag) = [] := if_neg hk
        have e4 : tokE (tokOf p n1 n2 n3 n4 r u1 u2 u3 u4 g1 g2 g3 g4 nm tag) = 11 := if_neg hk
        rw [e3, e4] at c4
        have hi : isT (p :: n1 :: n2 :: n3 :: n4 :: r :: u1 :: u2 :: u3 :: u4 :: g1 :: g2 :: g3 :: g4 :: tag) = false := by
          unfold isT
          rw [hsd]
          simp only [show okC (tokOf p n1 n2 n3 n4 r u1 u2 u3 u4 g1 g2 g3 g4 nm tag) = false by simpa using hk, Bool.false_and, Bool.and_false]
        rw [(decT_no hi).1, (decT_no hi).2, hbb, hcells, zT_cells]
        repeat' (first | simp -implicitDefEqProofs (maxSteps := 2000000) only [m23_1, m23_2, m23_3, m23_4, m23_5, m23_6, m23_7, m23_8, m23_9, m23_10, m23_11, m23_12, m23_13, m23_14, m23_15, m23_16, m23_r, m23_b, m23, hL, bl_length, htag, wp, wr, e32, d32, bl_scal, wk, act, asV, ↓reduceIte, Nat.reduceEqDiff, reduceCtorEq, Nat.reduceAdd, Nat.reduceLeDiff, Nat.reduceSub, Nat.reduceMul, List.reduceReplicate, Int.reduceEq, Int.reduceLT, Int.reduceLE, Int.reduceAdd, Int.reduceSub, Int.reduceMul, Nat.reduceLT, Int.reduceToNat] | ((with_reducible refine CallL.gate ?_); refine CallL.of (by simp -implicitDefEqProofs (maxSteps := 2000000) only [m23_1, m23_2, m23_3, m23_4, m23_5, m23_6, m23_7, m23_8, m23_9, m23_10, m23_11, m23_12, m23_13, m23_14, m23_15, m23_16, m23_r, m23_b, m23, hL, bl_length, htag, wp, wr, e32, d32, bl_scal, wk, act, asV, ↓reduceIte, Nat.reduceEqDiff, reduceCtorEq, Nat.reduceAdd, Nat.reduceLeDiff, Nat.reduceSub, Nat.reduceMul, List.reduceReplicate, Int.reduceEq, Int.reduceLT, Int.reduceLE, Int.reduceAdd, Int.reduceSub, Int.reduceMul, Nat.reduceLT, Int.reduceToNat]; first | done | (with_reducible rfl)) (by first | exact c1 | exact c2 | exact c3 | exact c4) (by simp -implicitDefEqProofs (maxSteps := 2000000) only [m23_1, m23_2, m23_3, m23_4, m23_5, m23_6, m23_7, m23_8, m23_9, m23_10, m23_11, m23_12, m23_13, m23_14, m23_15, m23_16, m23_r, m23_b, m23, hL, bl_length, htag, wp, wr, e32, d32, bl_scal, wk, act, asV, ↓reduceIte, Nat.reduceEqDiff, reduceCtorEq, Nat.reduceAdd, Nat.reduceLeDiff, Nat.reduceSub, Nat.reduceMul, List.reduceReplicate, Int.reduceEq, Int.reduceLT, Int.reduceLE, Int.reduceAdd, Int.reduceSub, Int.reduceMul, Nat.reduceLT, Int.reduceToNat]) ?_) | ((with_reducible refine CallP.gate ?_); refine CallP.of (by simp -implicitDefEqProofs (maxSteps := 2000000) only [m23_1, m23_2, m23_3, m23_4, m23_5, m23_6, m23_7, m23_8, m23_9, m23_10, m23_11, m23_12, m23_13, m23_14, m23_15, m23_16, m23_r, m23_b, m23, hL, bl_length, htag, wp, wr, e32, d32, bl_scal, wk, act, asV, ↓reduceIte, Nat.reduceEqDiff, reduceCtorEq, Nat.reduceAdd, Nat.reduceLeDiff, Nat.reduceSub, Nat.reduceMul, List.reduceReplicate, Int.reduceEq, Int.reduceLT, Int.reduceLE, Int.reduceAdd, Int.reduceSub, Int.reduceMul, Nat.reduceLT, Int.reduceToNat]; first | done | (with_reducible rfl)) (by first | exact c1 | exact c2 | exact c3 | exact c4) (by simp -implicitDefEqProofs (maxSteps := 2000000) only [m23_1, m23_2, m23_3, m23_4, m23_5, m23_6, m23_7, m23_8, m23_9, m23_10, m23_11, m23_12, m23_13, m23_14, m23_15, m23_16, m23_r, m23_b, m23, hL, bl_length, htag, wp, wr, e32, d32, bl_scal, wk, act, asV, ↓reduceIte, Nat.reduceEqDiff, reduceCtorEq, Nat.reduceAdd, Nat.reduceLeDiff, Nat.reduceSub, Nat.reduceMul, List.reduceReplicate, Int.reduceEq, Int.reduceLT, Int.reduceLE, Int.reduceAdd, Int.reduceSub, Int.reduceMul, Nat.reduceLT, Int.reduceToNat]) ?_))
  · have h46' : ¬ (b.length : Int) = 46 := by omega
    have hi : isT b = false := by simp [isT, h46]
    rw [(decT_no hi).1, (decT_no hi).2, zT_cells]
    simp -implicitDefEqProofs (maxSteps := 2000000) only [m23_1, m23_2, m23_3, m23_4, m23_5, m23_6, m23_7, m23_8, m23_9, m23_10, m23_11, m23_12, m23_13, m23_14, m23_15, m23_16, m23_r, m23_b, m23, h46', wk, act, asV, ↓reduceIte, Nat.reduceEqDiff, reduceCtorEq, Nat.reduceAdd, Nat.reduceLeDiff, Nat.reduceSub, Nat.reduceMul, List.reduceReplicate, Int.reduceEq, Int.reduceLT, Int.reduceLE, Int.reduceAdd, Int.reduceSub, Int.reduceMul, Nat.reduceLT, Int.reduceToNat]
end Go.Proofs.YtfllhbjblkfdfaaDoor
