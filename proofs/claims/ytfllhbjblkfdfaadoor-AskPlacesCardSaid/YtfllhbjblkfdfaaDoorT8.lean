/- Of the tokens: the reference's token of bytes. -/
import Derived.Test.YtfllhbjblkfdfaaDoorE31
import Derived.Test.YtfllhbjblkfdfaaDoorM5
import Derived.Test.YtfllhbjblkfdfaaDoorT7
import Derived.Test.YtfllhbjblkfdfaaDoorK1
set_option linter.unusedVariables false
set_option linter.unusedSimpArgs false
set_option maxRecDepth 100000
set_option maxHeartbeats 8000000
namespace Go.Proofs.YtfllhbjblkfdfaaDoor
open Go.RowKit

theorem rdec_ok (f : Fl) (hf : ¬ f = .lit) (b : List UInt8) (hl : b.length < 2 ^ 63) : RC Tryd.prog 26 [.sl f b.length (bl b)] [.agg (tkC (decT b)), .int .i64 (decTE b)] := by
  refine RC.of_wp c26 rfl ?_
  by_cases h46 : b.length = 46
  · obtain ⟨p, n1, n2, n3, n4, r, u1, u2, u3, u4, g1, g2, g3, g4, tag, rfl, htag⟩ := split46 h46
    have hcells : bl (p :: n1 :: n2 :: n3 :: n4 :: r :: u1 :: u2 :: u3 :: u4 :: g1 :: g2 :: g3 :: g4 :: tag) = .int .u8 (p.toNat : Int) :: .int .u8 (n1.toNat : Int) :: .int .u8 (n2.toNat : Int) :: .int .u8 (n3.toNat : Int) :: .int .u8 (n4.toNat : Int) :: .int .u8 (r.toNat : Int) :: .int .u8 (u1.toNat : Int) :: .int .u8 (u2.toNat : Int) :: .int .u8 (u3.toNat : Int) :: .int .u8 (u4.toNat : Int) :: .int .u8 (g1.toNat : Int) :: .int .u8 (g2.toNat : Int) :: .int .u8 (g3.toNat : Int) :: .int .u8 (g4.toNat : Int) :: bl tag := rfl
    have c1 := rcut_ok [n1, n2, n3, n4] rfl
    have b1 : bl [n1, n2, n3, n4] = [.int .u8 (n1.toNat : Int), .int .u8 (n2.toNat : Int), .int .u8 (n3.toNat : Int), .int .u8 (n4.toNat : Int)] := rfl
    rw [b1] at c1
    have hbb : (p :: n1 :: n2 :: n3 :: n4 :: r :: u1 :: u2 :: u3 :: u4 :: g1 :: g2 :: g3 :: g4 :: tag).length = 46 := h46
    have hL : (bl tag).length + 1 + 1 + 1 + 1 + 1 + 1 + 1 + 1 + 1 + 1 + 1 + 1 + 1 + 1 = 46 := by rw [bl_length, htag]
    have hback : ∀ (q : IV → Option UInt8), (∀ b : UInt8, q (.int .u8 (b.toNat : Int)) = some b) → List.mapM q (.int .u8 (p.toNat : Int) :: .int .u8 (n1.toNat : Int) :: .int .u8 (n2.toNat : Int) :: .int .u8 (n3.toNat : Int) :: .int .u8 (n4.toNat : Int) :: .int .u8 (r.toNat : Int) :: .int .u8 (u1.toNat : Int) :: .int .u8 (u2.toNat : Int) :: .int .u8 (u3.toNat : Int) :: .int .u8 (u4.toNat : Int) :: .int .u8 (g1.toNat : Int) :: .int .u8 (g2.toNat : Int) :: .int .u8 (g3.toNat : Int) :: .int .u8 (g4.toNat : Int) :: bl tag) = some (p :: n1 :: n2 :: n3 :: n4 :: r :: u1 :: u2 :: u3 :: u4 :: g1 :: g2 :: g3 :: g4 :: tag) := fun q hq => by
      rw [← hcells]; exact bytes_backK hq _
    have tp := p.toNat_lt
    have tr := r.toNat_lt
    have wp : IntKind.i64.wrap (p.toNat : Int) = p.toNat := wrapN .i64 (by simp [vbits, IntKind.signed, IntKind.bits]; omega)
    have wr : IntKind.i64.wrap (r.toNat : Int) = r.toNat := wrapN .i64 (by simp [vbits, IntKind.signed, IntKind.bits]; omega)
    obtain ⟨nm, hnm⟩ : ∃ nm, nm = cutS [n1, n2, n3, n4] := ⟨_, rfl⟩
    have hnl : nm.length ≤ 4 := by rw [hnm]; exact cutS_le rfl
    rw [← hnm] at c1
    have c2 := num_ok .plain [u1, u2, u3, u4] (Nat.le_refl 4)
    have c3 := num_ok .plain [g1, g2, g3, g4] (Nat.le_refl 4)
    have b2 : bl [u1, u2, u3, u4] = [.int .u8 (u1.toNat : Int), .int .u8 (u2.toNat : Int), .int .u8 (u3.toNat : Int), .int .u8 (u4.toNat : Int)] := rfl
    have b3 : bl [g1, g2, g3, g4] = [.int .u8 (g1.toNat : Int), .int .u8 (g2.toNat : Int), .int .u8 (g3.toNat : Int), .int .u8 (g4.toNat : Int)] := rfl
    have l2 : lenum [u1, u2, u3, u4] = num4 u1 u2 u3 u4 := by simp only [lenum, num4]; omega
    have l3 : lenum [g1, g2, g3, g4] = num4 g1 g2 g3 g4 := by simp only [lenum, num4]; omega
    rw [b2, l2] at c2
    rw [b3, l3] at c3
    have htk : (tokOf p n1 n2 n3 n4 r u1 u2 u3 u4 g1 g2 g3 g4 nm tag).Ok := ⟨by simp only [tokOf]; omega, num4_lt _ _ _ _, num4_lt _ _ _ _, htag⟩
    have c4 := rtok_ok _ htk
    have hra : tkC (tokOf p n1 n2 n3 n4 r u1 u2 u3 u4 g1 g2 g3 g4 nm tag) = .int .i64 (p.toNat : Nat) :: .str nm :: .int .i64 (r.toNat : Nat) :: .int .u32 (num4 u1 u2 u3 u4 : Nat) :: .int .u32 (num4 g1 g2 g3 g4 : Nat) :: bl tag := rfl
    rw [hra] at c4
    have e32 : List.take 32 (bl tag) = bl tag := bl_take14 htag
    have d32 : List.drop 32 (bl tag) = [] := List.drop_of_length_le (by rw [bl_length, htag]; exact Nat.le_refl _)
    by_cases hk : okC (tokOf p n1 n2 n3 n4 r u1 u2 u3 u4 g1 g2 g3 g4 nm tag) = true
    · have e3 : tokR (tokOf p n1 n2 n3 n4 r u1 u2 u3 u4 g1 g2 g3 g4 nm tag) = tokB (tokOf p n1 n2 n3 n4 r u1 u2 u3 u4 g1 g2 g3 g4 nm tag) := if_pos hk
      have e4 : tokE (tokOf p n1 n2 n3 n4 r u1 u2 u3 u4 g1 g2 g3 g4 nm tag) = 0 := if_pos hk
      rw [e3, e4] at c4
      obtain ⟨w, hw⟩ : ∃ w, w = tokB (tokOf p n1 n2 n3 n4 r u1 u2 u3 u4 g1 g2 g3 g4 nm tag) := ⟨_, rfl⟩
      have hwl : w.length = 46 := by rw [hw]; exact tokB_length htag
      rw [← hw, hwl] at c4
      have tw := bl_take14 hwl
      by_cases hr : tokB (tokOf p n1 n2 n3 n4 r u1 u2 u3 u4 g1 g2 g3 g4 nm tag) = p :: n1 :: n2 :: n3 :: n4 :: r :: u1 :: u2 :: u3 :: u4 :: g1 :: g2 :: g3 :: g4 :: tag
      · have hsd : saidT (p :: n1 :: n2 :: n3 :: n4 :: r :: u1 :: u2 :: u3 :: u4 :: g1 :: g2 :: g3 :: g4 :: tag) = some (tokOf p n1 n2 n3 n4 r u1 u2 u3 u4 g1 g2 g3 g4 nm tag) := by
          cases hcn : cutN [n1, n2, n3, n4] with
          | some v =>
            have : nm = v := by rw [hnm]; unfold cutS; rw [hcn]; rfl
            simp [saidT, hcn, this]
          | none =>
            exfalso
            have : nm = [] := by rw [hnm]; unfold cutS; rw [hcn]; rfl
            rw [this] at hr
            simp only [tokB, claimB, tokOf, show pad4 [] = [0, 0, 0, 0] from rfl, List.cons_append, List.cons.injEq] at hr
            obtain ⟨_, rfl, rfl, rfl, rfl, _⟩ := hr
            exact absurd hcn (by decide)
        have hi : isT (p :: n1 :: n2 :: n3 :: n4 :: r :: u1 :: u2 :: u3 :: u4 :: g1 :: g2 :: g3 :: g4 :: tag) = true := by
          unfold isT
          rw [hsd, hbb]
          simp only [hk, hr, decide_true, Bool.and_self]
        rw [(decT_yes hi hsd).1, (decT_yes hi hsd).2, hbb, hcells, hra]
        have hq := eq_true (hw.trans hr)
        cases f with
        | lit => exact absurd rfl hf
        | _ => repeat' (first | simp -implicitDefEqProofs (maxSteps := 2000000) only [m26_1, m26_2, m26_3, m26_4, m26_5, m26_6, m26_7, m26_8, m26_9, m26_10, m26_11, m26_12, m26_13, m26_r, m26_b, m26, hL, bl_length, htag, Nat.min_self, wp, wr, e32, d32, bl_scal, tw, hback, bytes_backK, UInt8.ofNat_toNat, hq, wk, act, asV, ↓reduceIte, Nat.reduceEqDiff, reduceCtorEq, Nat.reduceAdd, Nat.reduceLeDiff, Nat.reduceSub, Nat.reduceMul, List.reduceReplicate, Int.reduceEq, Int.reduceLT, Int.reduceLE, Int.reduceAdd, Int.reduceSub, Int.reduceMul, Nat.reduceLT, Int.reduceToNat] | ((with_reducible refine CallL.gate ?_); refine CallL.of (by simp -implicitDefEqProofs (maxSteps := 2000000) only [m26_1, m26_2, m26_3, m26_4, m26_5, m26_6, m26_7, m26_8, m26_9, m26_10, m26_11, m26_12, m26_13, m26_r, m26_b, m26, hL, bl_length, htag, Nat.min_self, wp, wr, e32, d32, bl_scal, tw, hback, bytes_backK, UInt8.ofNat_toNat, hq, wk, act, asV, ↓reduceIte, Nat.reduceEqDiff, reduceCtorEq, Nat.reduceAdd, Nat.reduceLeDiff, Nat.reduceSub, Nat.reduceMul, List.reduceReplicate, Int.reduceEq, Int.reduceLT, Int.reduceLE, Int.reduceAdd, Int.reduceSub, Int.reduceMul, Nat.reduceLT, Int.reduceToNat]; first | done | (with_reducible rfl)) (by first | exact c1 | exact c2 | exact c3 | exact c4) (by simp -implicitDefEqProofs (maxSteps := 2000000) only [m26_1, m26_2, m26_3, m26_4, m26_5, m26_6, m26_7, m26_8, m26_9, m26_10, m26_11, m26_12, m26_13, m26_r, m26_b, m26, hL, bl_length, htag, Nat.min_self, wp, wr, e32, d32, bl_scal, tw, hback, bytes_backK, UInt8.ofNat_toNat, hq, wk, act, asV, ↓reduceIte, Nat.reduceEqDiff, reduceCtorEq, Nat.reduceAdd, Nat.reduceLeDiff, Nat.reduceSub, Nat.reduceMul, List.reduceReplicate, Int.reduceEq, Int.reduceLT, Int.reduceLE, Int.reduceAdd, Int.reduceSub, Int.reduceMul, Nat.reduceLT, Int.reduceToNat]) ?_) | ((with_reducible refine CallP.gate ?_); refine CallP.of (by simp -implicitDefEqProofs (maxSteps := 2000000) only [m26_1, m26_2, m26_3, m26_4, m26_5, m26_6, m26_7, m26_8, m26_9, m26_10, m26_11, m26_12, m26_13, m26_r, m26_b, m26, hL, bl_length, htag, Nat.min_self, wp, wr, e32, d32, bl_scal, tw, hback, bytes_backK, UInt8.ofNat_toNat, hq, wk, act, asV, ↓reduceIte, Nat.reduceEqDiff, reduceCtorEq, Nat.reduceAdd, Nat.reduceLeDiff, Nat.reduceSub, Nat.reduceMul, List.reduceReplicate, Int.reduceEq, Int.reduceLT, Int.reduceLE, Int.reduceAdd, Int.reduceSub, Int.reduceMul, Nat.reduceLT, Int.reduceToNat]; first | done | (with_reducible rfl)) (by first | exact c1 | exact c2 | exact c3 | exact c4) (by simp -implicitDefEqProofs (maxSteps := 2000000) only [m26_1, m26_2, m26_3, m26_4, m26_5, m26_6, m26_7, m26_8, m26_9, m26_10, m26_11, m26_12, m26_13, m26_r, m26_b, m26, hL, bl_length, htag, Nat.min_self, wp, wr, e32, d32, bl_scal, tw, hback, bytes_backK, UInt8.ofNat_toNat, hq, wk, act, asV, ↓reduceIte, Nat.reduceEqDiff, reduceCtorEq, Nat.reduceAdd, Nat.reduceLeDiff, Nat.reduceSub, Nat.reduceMul, List.reduceReplicate, Int.reduceEq, Int.reduceLT, Int.reduceLE, Int.reduceAdd, Int.reduceSub, Int.reduceMul, Nat.reduceLT, Int.reduceToNat]) ?_))
      · have hi : isT (p :: n1 :: n2 :: n3 :: n4 :: r :: u1 :: u2 :: u3 :: u4 :: g1 :: g2 :: g3 :: g4 :: tag) = false := by
          cases hcn : cutN [n1, n2, n3, n4] with
          | some v =>
            have : nm = v := by rw [hnm]; unfold cutS; rw [hcn]; rfl
            have hsd : saidT (p :: n1 :: n2 :: n3 :: n4 :: r :: u1 :: u2 :: u3 :: u4 :: g1 :: g2 :: g3 :: g4 :: tag) = some (tokOf p n1 n2 n3 n4 r u1 u2 u3 u4 g1 g2 g3 g4 nm tag) := by simp [saidT, hcn, this]
            unfold isT
            rw [hsd]
            simp only [hr, decide_false, Bool.and_false]
          | none => simp [isT, saidT, hcn]
        rw [(decT_no hi).1, (decT_no hi).2, hbb, hcells, zT_cells]
        have hq := eq_false (fun h => hr (hw.symm.trans h))
        cases f with
        | lit => exact absurd rfl hf
        | _ => repeat' (first | simp -implicitDefEqProofs (maxSteps := 2000000) only [m26_1, m26_2, m26_3, m26_4, m26_5, m26_6, m26_7, m26_8, m26_9, m26_10, m26_11, m26_12, m26_13, m26_r, m26_b, m26, hL, bl_length, htag, Nat.min_self, wp, wr, e32, d32, bl_scal, tw, hback, bytes_backK, UInt8.ofNat_toNat, hq, wk, act, asV, ↓reduceIte, Nat.reduceEqDiff, reduceCtorEq, Nat.reduceAdd, Nat.reduceLeDiff, Nat.reduceSub, Nat.reduceMul, List.reduceReplicate, Int.reduceEq, Int.reduceLT, Int.reduceLE, Int.reduceAdd, Int.reduceSub, Int.reduceMul, Nat.reduceLT, Int.reduceToNat] | ((with_reducible refine CallL.gate ?_); refine CallL.of (by simp -implicitDefEqProofs (maxSteps := 2000000) only [m26_1, m26_2, m26_3, m26_4, m26_5, m26_6, m26_7, m26_8, m26_9, m26_10, m26_11, m26_12, m26_13, m26_r, m26_b, m26, hL, bl_length, htag, Nat.min_self, wp, wr, e32, d32, bl_scal, tw, hback, bytes_backK, UInt8.ofNat_toNat, hq, wk, act, asV, ↓reduceIte, Nat.reduceEqDiff, reduceCtorEq, Nat.reduceAdd, Nat.reduceLeDiff, Nat.reduceSub, Nat.reduceMul, List.reduceReplicate, Int.reduceEq, Int.reduceLT, Int.reduceLE, Int.reduceAdd, Int.reduceSub, Int.reduceMul, Nat.reduceLT, Int.reduceToNat]; first | done | (with_reducible rfl)) (by first | exact c1 | exact c2 | exact c3 | exact c4) (by simp -implicitDefEqProofs (maxSteps := 2000000) only [m26_1, m26_2, m26_3, m26_4, m26_5, m26_6, m26_7, m26_8, m26_9, m26_10, m26_11, m26_12, m26_13, m26_r, m26_b, m26, hL, bl_length, htag, Nat.min_self, wp, wr, e32, d32, bl_scal, tw, hback, bytes_backK, UInt8.ofNat_toNat, hq, wk, act, asV, ↓reduceIte, Nat.reduceEqDiff, reduceCtorEq, Nat.reduceAdd, Nat.reduceLeDiff, Nat.reduceSub, Nat.reduceMul, List.reduceReplicate, Int.reduceEq, Int.reduceLT, Int.reduceLE, Int.reduceAdd, Int.reduceSub, Int.reduceMul, Nat.reduceLT, Int.reduceToNat]) ?_) | ((with_reducible refine CallP.gate ?_); refine CallP.of (by simp -implicitDefEqProofs (maxSteps := 2000000) only [m26_1, m26_2, m26_3, m26_4, m26_5, m26_6, m26_7, m26_8, m26_9, m26_10, m26_11, m26_12, m26_13, m26_r, m26_b, m26, hL, bl_length, htag, Nat.min_self, wp, wr, e32, d32, bl_scal, tw, hback, bytes_backK, UInt8.ofNat_toNat, hq, wk, act, asV, ↓reduceIte, Nat.reduceEqDiff, reduceCtorEq, Nat.reduceAdd, Nat.reduceLeDiff, Nat.reduceSub, Nat.reduceMul, List.reduceReplicate, Int.reduceEq, Int.reduceLT, Int.reduceLE, Int.reduceAdd, Int.reduceSub, Int.reduceMul, Nat.reduceLT, Int.reduceToNat]; first | done | (with_reducible rfl)) (by first | exact c1 | exact c2 | exact c3 | exact c4) (by simp -implicitDefEqProofs (maxSteps := 2000000) only [m26_1, m26_2, m26_3, m26_4, m26_5, m26_6, m26_7, m26_8, m26_9, m26_10, m26_11, m26_12, m26_13, m26_r, m26_b, m26, hL, bl_length, htag, Nat.min_self, wp, wr, e32, d32, bl_scal, tw, hback, bytes_backK, UInt8.ofNat_toNat, hq, wk, act, asV, ↓reduceIte, Nat.reduceEqDiff, reduceCtorEq, Nat.reduceAdd, Nat.reduceLeDiff, Nat.reduceSub, Nat.reduceMul, List.reduceReplicate, Int.reduceEq, Int.reduceLT, Int.reduceLE, Int.reduceAdd, Int.reduceSub, Int.reduceMul, Nat.reduceLT, Int.reduceToNat]) ?_))
    · have e3 : tokR (tokOf p n1 n2 n3 n4 r u1 u2 u3 u4 g1 g2 g3 g4 nm tag) = [] := if_neg hk
      have e4 : tokE (tokOf p n1 n2 n3 n4 r u1 u2 u3 u4 g1 g2 g3 g4 nm tag) = 11 := if_neg hk
      rw [e3, e4] at c4
      have hi : isT (p :: n1 :: n2 :: n3 :: n4 :: r :: u1 :: u2 :: u3 :: u4 :: g1 :: g2 :: g3 :: g4 :: tag) = false := by
        cases hcn : cutN [n1, n2, n3, n4] with
        | some v =>
          have : nm = v := by rw [hnm]; unfold cutS; rw [hcn]; rfl
          have hsd : saidT (p :: n1 :: n2 :: n3 :: n4 :: r :: u1 :: u2 :: u3 :: u4 :: g1 :: g2 :: g3 :: g4 :: tag) = some (tokOf p n1 n2 n3 n4 r u1 u2 u3 u4 g1 g2 g3 g4 nm tag) := by simp [saidT, hcn, this]
          unfold isT
          rw [hsd]
          simp only [show okC (tokOf p n1 n2 n3 n4 r u1 u2 u3 u4 g1 g2 g3 g4 nm tag) = false by simpa using hk, Bool.false_and, Bool.and_false]
        | none => simp [isT, saidT, hcn]
      rw [(decT_no hi).1, (decT_no hi).2, hbb, hcells, zT_cells]
      cases f with
      | lit => exact absurd rfl hf
      | _ => repeat' (first | simp -implicitDefEqProofs (maxSteps := 2000000) only [m26_1, m26_2, m26_3, m26_4, m26_5, m26_6, m26_7, m26_8, m26_9, m26_10, m26_11, m26_12, m26_13, m26_r, m26_b, m26, hL, bl_length, htag, Nat.min_self, wp, wr, e32, d32, bl_scal, wk, act, asV, ↓reduceIte, Nat.reduceEqDiff, reduceCtorEq, Nat.reduceAdd, Nat.reduceLeDiff, Nat.reduceSub, Nat.reduceMul, List.reduceReplicate, Int.reduceEq, Int.reduceLT, Int.reduceLE, Int.reduceAdd, Int.reduceSub, Int.reduceMul, Nat.reduceLT, Int.reduceToNat] | ((with_reducible refine CallL.gate ?_); refine CallL.of (by simp -implicitDefEqProofs (maxSteps := 2000000) only [m26_1, m26_2, m26_3, m26_4, m26_5, m26_6, m26_7, m26_8, m26_9, m26_10, m26_11, m26_12, m26_13, m26_r, m26_b, m26, hL, bl_length, htag, Nat.min_self, wp, wr, e32, d32, bl_scal, wk, act, asV, ↓reduceIte, Nat.reduceEqDiff, reduceCtorEq, Nat.reduceAdd, Nat.reduceLeDiff, Nat.reduceSub, Nat.reduceMul, List.reduceReplicate, Int.reduceEq, Int.reduceLT, Int.reduceLE, Int.reduceAdd, Int.reduceSub, Int.reduceMul, Nat.reduceLT, Int.reduceToNat]; first | done | (with_reducible rfl)) (by first | exact c1 | exact c2 | exact c3 | exact c4) (by simp -implicitDefEqProofs (maxSteps := 2000000) only [m26_1, m26_2, m26_3, m26_4, m26_5, m26_6, m26_7, m26_8, m26_9, m26_10, m26_11, m26_12, m26_13, m26_r, m26_b, m26, hL, bl_length, htag, Nat.min_self, wp, wr, e32, d32, bl_scal, wk, act, asV, ↓reduceIte, Nat.reduceEqDiff, reduceCtorEq, Nat.reduceAdd, Nat.reduceLeDiff, Nat.reduceSub, Nat.reduceMul, List.reduceReplicate, Int.reduceEq, Int.reduceLT, Int.reduceLE, Int.reduceAdd, Int.reduceSub, Int.reduceMul, Nat.reduceLT, Int.reduceToNat]) ?_) | ((with_reducible refine CallP.gate ?_); refine CallP.of (by simp -implicitDefEqProofs (maxSteps := 2000000) only [m26_1, m26_2, m26_3, m26_4, m26_5, m26_6, m26_7, m26_8, m26_9, m26_10, m26_11, m26_12, m26_13, m26_r, m26_b, m26, hL, bl_length, htag, Nat.min_self, wp, wr, e32, d32, bl_scal, wk, act, asV, ↓reduceIte, Nat.reduceEqDiff, reduceCtorEq, Nat.reduceAdd, Nat.reduceLeDiff, Nat.reduceSub, Nat.reduceMul, List.reduceReplicate, Int.reduceEq, Int.reduceLT, Int.reduceLE, Int.reduceAdd, Int.reduceSub, Int.reduceMul, Nat.reduceLT, Int.reduceToNat]; first | done | (with_reducible rfl)) (by first | exact c1 | exact c2 | exact c3 | exact c4) (by simp -implicitDefEqProofs (maxSteps := 2000000) only [m26_1, m26_2, m26_3, m26_4, m26_5, m26_6, m26_7, m26_8, m26_9, m26_10, m26_11, m26_12, m26_13, m26_r, m26_b, m26, hL, bl_length, htag, Nat.min_self, wp, wr, e32, d32, bl_scal, wk, act, asV, ↓reduceIte, Nat.reduceEqDiff, reduceCtorEq, Nat.reduceAdd, Nat.reduceLeDiff, Nat.reduceSub, Nat.reduceMul, List.reduceReplicate, Int.reduceEq, Int.reduceLT, Int.reduceLE, Int.reduceAdd, Int.reduceSub, Int.reduceMul, Nat.reduceLT, Int.reduceToNat]) ?_))
  · have h46' : ¬ (b.length : Int) = 46 := by omega
    have hi : isT b = false := by simp [isT, h46]
    rw [(decT_no hi).1, (decT_no hi).2, zT_cells]
    simp -implicitDefEqProofs (maxSteps := 2000000) only [m26_1, m26_2, m26_3, m26_4, m26_5, m26_6, m26_7, m26_8, m26_9, m26_10, m26_11, m26_12, m26_13, m26_r, m26_b, m26, h46', wk, act, asV, ↓reduceIte, Nat.reduceEqDiff, reduceCtorEq, Nat.reduceAdd, Nat.reduceLeDiff, Nat.reduceSub, Nat.reduceMul, List.reduceReplicate, Int.reduceEq, Int.reduceLT, Int.reduceLE, Int.reduceAdd, Int.reduceSub, Int.reduceMul, Nat.reduceLT, Int.reduceToNat]
end Go.Proofs.YtfllhbjblkfdfaaDoor
