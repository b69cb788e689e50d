/- The tag of parts by a key. -/
import Derived.Test.YtlbilkldjhhopaaH1
import Derived.Test.YtlbilkldjhhopaaE31
import Derived.Test.YtlbilkldjhhopaaM10
import Derived.Test.YtlbilkldjhhopaaM7
set_option linter.unusedVariables false
set_option linter.unusedSimpArgs false
set_option linter.unusedSectionVars false
set_option maxRecDepth 100000
set_option maxHeartbeats 16000000
namespace Go.Proofs.Ytlbilkldjhhopaa
open Go.RowKit

/-- the tag of a message by a key -/
def macB (k m : List UInt8) : List UInt8 := shaB (padX (blockB k) 92 ++ shaB (padX (blockB k) 54 ++ m))
theorem macB_length (k m : List UInt8) : (macB k m).length = 32 := digest_length _

theorem ins_at' {H : Nat → Blk} {hx n ver : Nat} {f : Fl} {x : IV} {cs : List IV} (hH : H hx = ⟨ver, true, true, true, cs⟩) (hc : cs.length = n) (hn : n < 2 ^ 36) :
    IC Try.prog 45 H [.row hx 0 n 1 ver, .int .i64 0, .sl f 1 [x]] (fun r h' => r = [.row hx 0 (n + 1) 1 (ver + 2)] ∧ h' = upd H hx ⟨ver + 2, true, true, true, x :: cs⟩) := ins_at hH hc hn

theorem mac_ok (f g : Fl) (hf : ¬ f = .lit) (hg : ¬ g = .lit) (k : List UInt8) (ps : List (Fl × List UInt8)) (hk : k.length ≤ 2 ^ 39) (hn : ps.length ≤ 2 ^ 30) (hl : (joined ps).length ≤ 2 ^ 38) :
    RC Try.prog 28 [.sl f k.length (bl k), .sl g ps.length (pl ps)] [.agg (bl (macB k (joined ps)))] := by
  refine RC.of_wp c28 rfl ?_
  have cb := kblock_ok f hf k hk
  have dB := blockB_length k
  have cc := cloneP_ok g ps (by omega)
  have c1 := kpad_ok (blockB k) dB 54
  have c2 := kpad_ok (blockB k) dB 92
  have dI : (padX (blockB k) 54).length = 64 := by rw [padX_length, dB]
  have dO : (padX (blockB k) 92).length = 64 := by rw [padX_length, dB]
  obtain ⟨I, hI⟩ : ∃ I, I = padX (blockB k) 54 := ⟨_, rfl⟩
  obtain ⟨O, hO⟩ : ∃ I, I = padX (blockB k) 92 := ⟨_, rfl⟩
  have hm : macB k (joined ps) = shaB (O ++ shaB (I ++ joined ps)) := by rw [macB, hI, hO]
  rw [hm]
  rw [← hI] at c1 dI
  rw [← hO] at c2 dO
  obtain ⟨B, hB⟩ : ∃ B, B = blockB k := ⟨_, rfl⟩
  rw [← hB] at cb c1 c2 dB
  have u1 : ((54 : UInt8).toNat : Int) = 54 := rfl
  have u2 : ((92 : UInt8).toNat : Int) = 92 := rfl
  rw [u1] at c1
  rw [u2] at c2
  have cs := sum_ok .plain (by decide) ((.plain, I) :: ps) (by simp; omega) (by simp only [joined, List.map_cons, List.flatten_cons, List.length_append]; simp only [joined] at hl; omega)
  have ej : joined ((Fl.plain, I) :: ps) = I ++ joined ps := by simp [joined]
  have ep : pl ((Fl.plain, I) :: ps) = .sl .plain 64 (bl I) :: pl ps := by rw [pl, List.map_cons, dI]; rfl
  rw [ej, ep, List.length_cons] at cs
  have dl : (shaB (I ++ joined ps)).length = 32 := digest_length _
  obtain ⟨G, hG⟩ : ∃ G, G = shaB (I ++ joined ps) := ⟨_, rfl⟩
  rw [← hG] at cs dl ⊢
  have ct := sum_ok .full (by decide) [(.plain, O), (.plain, G)] (by simp) (by simp [joined]; omega)
  have ej2 : joined [(Fl.plain, O), (.plain, G)] = O ++ G := by simp [joined]
  have ep2 : pl [(Fl.plain, O), (.plain, G)] = [.sl .plain 64 (bl O), .sl .plain 32 (bl G)] := by rw [pl, List.map_cons, List.map_cons, dO, dl]; rfl
  rw [ej2, ep2, List.length_cons, List.length_cons, List.length_nil] at ct
  have dT : (shaB (O ++ G)).length = 32 := digest_length _
  obtain ⟨T, hT⟩ : ∃ X, X = shaB (O ++ G) := ⟨_, rfl⟩
  rw [← hT] at ct dT ⊢
  have zl : (bl (zb 64)).length = 64 := by rw [bl_length, zb_len]
  obtain ⟨Z, hZ⟩ : ∃ Z, Z = zb 64 := ⟨_, rfl⟩
  have z6 := z64_cells
  rw [← hZ] at z6 zl
  have xZ : List.drop 64 (bl Z) = [] := List.drop_of_length_le (by omega)
  have lB : (bl B).length = 64 := by rw [bl_length, dB]
  have tB : List.take 64 (bl B) = bl B := List.take_of_length_le (by omega)
  have lG : (bl G).length = 32 := by rw [bl_length, dl]
  have tG : List.take 32 (bl G) = bl G := List.take_of_length_le (by omega)
  have xG : List.drop 32 (bl G) = [] := List.drop_of_length_le (by omega)
  have lT : (bl T).length = 32 := by rw [bl_length, dT]
  have tT : List.take 32 (bl T) = bl T := List.take_of_length_le (by omega)
  have tp := pl_take ps
  have hlp := pl_length ps
  have hp1 := pl_pur ps
  repeat' (first | simp -implicitDefEqProofs (maxSteps := 2000000) only [m28_1, m28_2, m28_3, m28_4, m28_r, m28_b, m28, hf, hg, tp, hlp, hp1, z6, zl, xZ, lB, tB, lG, tG, xG, lT, tT, bl_scal, bl_pur, bl_allp, wk, act, asV, ↓reduceIte, Nat.reduceEqDiff, reduceCtorEq, Nat.reduceAdd, Nat.reduceLeDiff, Nat.reduceSub, Nat.reduceMul, List.reduceReplicate, Int.reduceEq, Int.reduceLT, Int.reduceLE, Int.reduceAdd, Int.reduceSub, Int.reduceMul, Nat.reduceLT, Int.reduceToNat] | (with_reducible refine And.intro ?_ ?_) | ((with_reducible refine CallL.gate ?_); refine CallL.of (by simp -implicitDefEqProofs (maxSteps := 2000000) only [m28_1, m28_2, m28_3, m28_4, m28_r, m28_b, m28, hf, hg, tp, hlp, hp1, z6, zl, xZ, lB, tB, lG, tG, xG, lT, tT, bl_scal, bl_pur, bl_allp, wk, act, asV, ↓reduceIte, Nat.reduceEqDiff, reduceCtorEq, Nat.reduceAdd, Nat.reduceLeDiff, Nat.reduceSub, Nat.reduceMul, List.reduceReplicate, Int.reduceEq, Int.reduceLT, Int.reduceLE, Int.reduceAdd, Int.reduceSub, Int.reduceMul, Nat.reduceLT, Int.reduceToNat]; first | done | (with_reducible rfl)) (by first | exact cb | exact cc | exact c1 | exact c2 | exact cs | exact ct) (by simp -implicitDefEqProofs (maxSteps := 2000000) only [m28_1, m28_2, m28_3, m28_4, m28_r, m28_b, m28, hf, hg, tp, hlp, hp1, z6, zl, xZ, lB, tB, lG, tG, xG, lT, tT, bl_scal, bl_pur, bl_allp, wk, act, asV, ↓reduceIte, Nat.reduceEqDiff, reduceCtorEq, Nat.reduceAdd, Nat.reduceLeDiff, Nat.reduceSub, Nat.reduceMul, List.reduceReplicate, Int.reduceEq, Int.reduceLT, Int.reduceLE, Int.reduceAdd, Int.reduceSub, Int.reduceMul, Nat.reduceLT, Int.reduceToNat]) ?_) | ((with_reducible refine CallP.gate ?_); refine CallP.of (by simp -implicitDefEqProofs (maxSteps := 2000000) only [m28_1, m28_2, m28_3, m28_4, m28_r, m28_b, m28, hf, hg, tp, hlp, hp1, z6, zl, xZ, lB, tB, lG, tG, xG, lT, tT, bl_scal, bl_pur, bl_allp, wk, act, asV, ↓reduceIte, Nat.reduceEqDiff, reduceCtorEq, Nat.reduceAdd, Nat.reduceLeDiff, Nat.reduceSub, Nat.reduceMul, List.reduceReplicate, Int.reduceEq, Int.reduceLT, Int.reduceLE, Int.reduceAdd, Int.reduceSub, Int.reduceMul, Nat.reduceLT, Int.reduceToNat]; first | done | (with_reducible rfl)) (by first | exact cb | exact cc | exact c1 | exact c2 | exact cs | exact ct) (by simp -implicitDefEqProofs (maxSteps := 2000000) only [m28_1, m28_2, m28_3, m28_4, m28_r, m28_b, m28, hf, hg, tp, hlp, hp1, z6, zl, xZ, lB, tB, lG, tG, xG, lT, tT, bl_scal, bl_pur, bl_allp, wk, act, asV, ↓reduceIte, Nat.reduceEqDiff, reduceCtorEq, Nat.reduceAdd, Nat.reduceLeDiff, Nat.reduceSub, Nat.reduceMul, List.reduceReplicate, Int.reduceEq, Int.reduceLT, Int.reduceLE, Int.reduceAdd, Int.reduceSub, Int.reduceMul, Nat.reduceLT, Int.reduceToNat]) ?_) | (refine CallnL.of (by simp -implicitDefEqProofs (maxSteps := 2000000) only [m28_1, m28_2, m28_3, m28_4, m28_r, m28_b, m28, hf, hg, tp, hlp, hp1, z6, zl, xZ, lB, tB, lG, tG, xG, lT, tT, bl_scal, bl_pur, bl_allp, wk, act, asV, ↓reduceIte, Nat.reduceEqDiff, reduceCtorEq, Nat.reduceAdd, Nat.reduceLeDiff, Nat.reduceSub, Nat.reduceMul, List.reduceReplicate, Int.reduceEq, Int.reduceLT, Int.reduceLE, Int.reduceAdd, Int.reduceSub, Int.reduceMul, Nat.reduceLT, Int.reduceToNat]; first | done | rfl) (ins_at' (hx := 10) (cs := pl ps) (by (simp -implicitDefEqProofs (maxSteps := 2000000) only [wk, act, asV, ↓reduceIte, Nat.reduceEqDiff, reduceCtorEq, Nat.reduceAdd, Nat.reduceLeDiff, Nat.reduceSub, Nat.reduceMul, List.reduceReplicate, Int.reduceEq, Int.reduceLT, Int.reduceLE, Int.reduceAdd, Int.reduceSub, Int.reduceMul, Nat.reduceLT, Int.reduceToNat]; first | done | rfl)) hlp (by omega)) ?_; rintro _ _ ⟨rfl, rfl⟩))
end Go.Proofs.Ytlbilkldjhhopaa
