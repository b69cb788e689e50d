/- A key's block, and its pads. -/
import Derived.Test.YtkphojcmjffccaaDoorM8
import Derived.Test.YtkphojcmjffccaaDoorU5
import Derived.Test.YtkphojcmjffccaaDoorU1
import Derived.Test.YtkphojcmjffccaaDoorE31
import Derived.Test.YtkphojcmjffccaaDoorM10
set_option linter.unusedVariables false
set_option linter.unusedSimpArgs false
set_option linter.unusedSectionVars false
set_option maxRecDepth 100000
set_option maxHeartbeats 4000000
namespace Go.Proofs.YtkphojcmjffccaaDoor
open Go.RowKit

theorem zb_len (n : Nat) : (zb n).length = n := by simp [zb]
theorem z64_cells : List.replicate 64 (IV.int .u8 0) = bl (zb 64) := rfl
theorem zb_drop (n k : Nat) : (zb n).drop k = zb (n - k) := by simp [zb]
def keyB (k : List UInt8) : List UInt8 := if 64 < k.length then shaB k else k
theorem keyB_le (k : List UInt8) : (keyB k).length ≤ 64 := by
  unfold keyB; split
  · rw [show (shaB k).length = 32 from digest_length _]; omega
  · omega
def blockB (k : List UInt8) : List UInt8 := keyB k ++ zb (64 - (keyB k).length)
theorem blockB_length (k : List UInt8) : (blockB k).length = 64 := by
  have := keyB_le k
  rw [blockB, List.length_append, zb_len]; omega
def padX (b : List UInt8) (y : UInt8) : List UInt8 := b.map (· ^^^ y)
theorem padX_length (b : List UInt8) (y : UInt8) : (padX b y).length = b.length := by simp [padX]
theorem padX_step (b : List UInt8) (y : UInt8) {i : Nat} (h : i < b.length) :
    List.take i ((padX b y).take i ++ b.drop i) ++ ((b.getD i 0 ^^^ y) :: List.drop (i + 1) ((padX b y).take i ++ b.drop i)) = (padX b y).take (i + 1) ++ b.drop (i + 1) := by
  have l1 : ((padX b y).take i).length = i := by rw [List.length_take, padX_length]; omega
  have hp : i < (padX b y).length := by rw [padX_length]; exact h
  rw [List.take_left' l1, List.drop_append, l1, List.drop_of_length_le (by omega), List.nil_append, List.drop_drop, show i + (i + 1 - i) = i + 1 by omega, List.take_succ_eq_append_getElem hp, List.append_assoc]
  congr 2
  simp [padX, List.getD, h]
theorem padX_at (b : List UInt8) (y : UInt8) {i : Nat} (h : i < b.length) : ((padX b y).take i ++ b.drop i).getD i 0 = b.getD i 0 := by
  have l1 : ((padX b y).take i).length = i := by rw [List.length_take, padX_length]; omega
  rw [List.getD_eq_getElem?_getD, List.getD_eq_getElem?_getD, List.getElem?_append_right (by omega), l1, Nat.sub_self, List.getElem?_drop, Nat.add_zero]

theorem kblock_ok (f : Fl) (hf : ¬ f = .lit) (k : List UInt8) (hk : k.length ≤ 2 ^ 39) : RC Tryd.prog 23 [.sl f k.length (bl k)] [.agg (bl (blockB k))] := by
  have hff : f = .plain ∨ f = .full := by cases f <;> simp_all
  clear hf
  rcases hff with rfl | rfl
  all_goals
    refine RC.of_wp c23 rfl ?_
    have zl : (bl (zb 64)).length = 64 := by rw [bl_length, zb_len]
    obtain ⟨Z, hZ⟩ : ∃ Z, Z = zb 64 := ⟨_, rfl⟩
    have z6 := z64_cells
    rw [← hZ] at z6 zl
    have dB := blockB_length k
    have hx := bl_scal (blockB k)
    have tB : List.take 64 (bl (blockB k)) = bl (blockB k) := List.take_of_length_le (by rw [bl_length]; omega)
    have xB : List.drop 64 (bl Z) = [] := List.drop_of_length_le (by omega)
    by_cases h : 64 < k.length
    · have h' : (64 : Int) < ((k.length : Nat) : Int) := by omega
      have cs := sum_ok .full (by decide) [(.plain, k)] (by simp) (by rw [one_part]; omega)
      rw [one_part] at cs
      have ep : pl [(Fl.plain, k)] = [.sl .plain k.length (bl k)] := rfl
      rw [ep, List.length_cons, List.length_nil] at cs
      have eB : bl (shaB k) ++ List.drop 32 (bl Z) = bl (blockB k) := by
        rw [hZ, bl_drop, ← bl_append, zb_drop]
        have : keyB k = shaB k := if_pos h
        rw [blockB, this, show (shaB k).length = 32 from digest_length _]
      have dl : (shaB k).length = 32 := digest_length _
      obtain ⟨G, hG⟩ : ∃ G, G = shaB k := ⟨_, rfl⟩
      rw [← hG] at cs dl eB
      have x1 : List.take 32 (bl G) = bl G := List.take_of_length_le (by rw [bl_length, dl]; exact Nat.le_refl _)
      have x2 : List.drop 32 (bl G) = [] := List.drop_of_length_le (by rw [bl_length, dl]; exact Nat.le_refl _)
      have x3 : (bl G).length = 32 := by rw [bl_length, dl]
      obtain ⟨B, hB⟩ : ∃ B, B = blockB k := ⟨_, rfl⟩
      rw [← hB] at eB dB hx tB ⊢
      repeat' (first | simp -implicitDefEqProofs (maxSteps := 2000000) only [m23_1, m23_2, m23_3, m23_4, m23_5, m23_6, m23_7, m23_r, m23_b, m23, h', (show min 32 64 = 32 from rfl), z6, zl, x1, x2, x3, eB, dB, hx, tB, xB, bl_length, bl_scal, bl_pur, wk, act, asV, ↓reduceIte, Nat.reduceEqDiff, reduceCtorEq, Nat.reduceAdd, Nat.reduceLeDiff, Nat.reduceSub, Nat.reduceMul, List.reduceReplicate, Int.reduceEq, Int.reduceLT, Int.reduceLE, Int.reduceAdd, Int.reduceSub, Int.reduceMul, Nat.reduceLT, Int.reduceToNat] | ((first | ((with_reducible refine CallL.gate ?_); apply CallL.of) | ((with_reducible refine CallP.gate ?_); apply CallP.of)); (case h1 => (simp -implicitDefEqProofs (maxSteps := 2000000) only [m23_1, m23_2, m23_3, m23_4, m23_5, m23_6, m23_7, m23_r, m23_b, m23, h', (show min 32 64 = 32 from rfl), z6, zl, x1, x2, x3, eB, dB, hx, tB, xB, bl_length, bl_scal, bl_pur, wk, act, asV, ↓reduceIte, Nat.reduceEqDiff, reduceCtorEq, Nat.reduceAdd, Nat.reduceLeDiff, Nat.reduceSub, Nat.reduceMul, List.reduceReplicate, Int.reduceEq, Int.reduceLT, Int.reduceLE, Int.reduceAdd, Int.reduceSub, Int.reduceMul, Nat.reduceLT, Int.reduceToNat]; first | done | (with_reducible rfl))); (case h2 => (first | exact cs)); (case h3 => simp -implicitDefEqProofs (maxSteps := 2000000) only [m23_1, m23_2, m23_3, m23_4, m23_5, m23_6, m23_7, m23_r, m23_b, m23, h', (show min 32 64 = 32 from rfl), z6, zl, x1, x2, x3, eB, dB, hx, tB, xB, bl_length, bl_scal, bl_pur, wk, act, asV, ↓reduceIte, Nat.reduceEqDiff, reduceCtorEq, Nat.reduceAdd, Nat.reduceLeDiff, Nat.reduceSub, Nat.reduceMul, List.reduceReplicate, Int.reduceEq, Int.reduceLT, Int.reduceLE, Int.reduceAdd, Int.reduceSub, Int.reduceMul, Nat.reduceLT, Int.reduceToNat])))
    · have h' : ¬ (64 : Int) < ((k.length : Nat) : Int) := by omega
      have eB : bl k ++ List.drop k.length (bl Z) = bl (blockB k) := by
        rw [hZ, bl_drop, ← bl_append, zb_drop]
        have : keyB k = k := if_neg h
        rw [blockB, this]
      have mn : min k.length 64 = k.length := by omega
      have tk := take_bl k
      have hl : (bl k).length = k.length := bl_length k
      obtain ⟨B, hB⟩ : ∃ B, B = blockB k := ⟨_, rfl⟩
      rw [← hB] at eB dB hx tB ⊢
      simp -implicitDefEqProofs (maxSteps := 2000000) only [m23_1, m23_2, m23_3, m23_4, m23_5, m23_6, m23_7, m23_r, m23_b, m23, h', z6, zl, tk, hl, mn, eB, dB, hx, tB, xB, bl_length, bl_scal, bl_pur, wk, act, asV, ↓reduceIte, Nat.reduceEqDiff, reduceCtorEq, Nat.reduceAdd, Nat.reduceLeDiff, Nat.reduceSub, Nat.reduceMul, List.reduceReplicate, Int.reduceEq, Int.reduceLT, Int.reduceLE, Int.reduceAdd, Int.reduceSub, Int.reduceMul, Nat.reduceLT, Int.reduceToNat]

theorem kpad_ok (b : List UInt8) (hb : b.length = 64) (y : UInt8) : RC Tryd.prog 27 [.agg (bl b), .int .u8 (y.toNat : Int)] [.sl .plain 64 (bl (padX b y))] := by
  refine RC.of_wp c27 rfl ?_
  have hlb : (bl b).length = 64 := by rw [bl_length, hb]
  have hx := bl_scal b
  simp -implicitDefEqProofs (maxSteps := 2000000) only [m27_1, m27_2, m27_3, m27_4, m27_5, m27_6, m27_7, m27_r, m27_b, m27, hlb, hx, wk, act, asV, ↓reduceIte, Nat.reduceEqDiff, reduceCtorEq, Nat.reduceAdd, Nat.reduceLeDiff, Nat.reduceSub, Nat.reduceMul, List.reduceReplicate, Int.reduceEq, Int.reduceLT, Int.reduceLE, Int.reduceAdd, Int.reduceSub, Int.reduceMul, Nat.reduceLT, Int.reduceToNat]
  refine Wp_loop (fun m s => ∃ i, i ≤ 64 ∧ m = 64 - i ∧ s.t 6 = .int .i64 (i : Nat) ∧ s.t 1 = .int .u8 (y.toNat : Int) ∧ (∃ v2, s.t 2 = .ptr 2 0 v2 ∧ s.h 2 = ⟨v2, true, true, false, bl ((padX b y).take i ++ b.drop i)⟩)) 64 ⟨0, by omega, rfl, by simp -implicitDefEqProofs (maxSteps := 2000000) only [wk, act, asV, ↓reduceIte, Nat.reduceEqDiff, reduceCtorEq, Nat.reduceAdd, Nat.reduceLeDiff, Nat.reduceSub, Nat.reduceMul, List.reduceReplicate, Int.reduceEq, Int.reduceLT, Int.reduceLE, Int.reduceAdd, Int.reduceSub, Int.reduceMul, Nat.reduceLT, Int.reduceToNat], by simp -implicitDefEqProofs (maxSteps := 2000000) only [wk, act, asV, ↓reduceIte, Nat.reduceEqDiff, reduceCtorEq, Nat.reduceAdd, Nat.reduceLeDiff, Nat.reduceSub, Nat.reduceMul, List.reduceReplicate, Int.reduceEq, Int.reduceLT, Int.reduceLE, Int.reduceAdd, Int.reduceSub, Int.reduceMul, Nat.reduceLT, Int.reduceToNat], ⟨_, by simp -implicitDefEqProofs (maxSteps := 2000000) only [wk, act, asV, ↓reduceIte, Nat.reduceEqDiff, reduceCtorEq, Nat.reduceAdd, Nat.reduceLeDiff, Nat.reduceSub, Nat.reduceMul, List.reduceReplicate, Int.reduceEq, Int.reduceLT, Int.reduceLE, Int.reduceAdd, Int.reduceSub, Int.reduceMul, Nat.reduceLT, Int.reduceToNat]; first | done | rfl, by simp -implicitDefEqProofs (maxSteps := 2000000) only [wk, act, asV, ↓reduceIte, Nat.reduceEqDiff, reduceCtorEq, Nat.reduceAdd, Nat.reduceLeDiff, Nat.reduceSub, Nat.reduceMul, List.reduceReplicate, Int.reduceEq, Int.reduceLT, Int.reduceLE, Int.reduceAdd, Int.reduceSub, Int.reduceMul, Nat.reduceLT, Int.reduceToNat]; first | done | rfl⟩⟩ ?_
  rintro m s ⟨i, hi, rfl, k6, k1, ⟨v2, k2, kh2⟩⟩
  have hil0 : (padX b y).length = 64 := by rw [padX_length, hb]
  have hX : (bl ((padX b y).take i ++ b.drop i)).length = 64 := by rw [bl_length, List.length_append, List.length_take, List.length_drop, hil0, hb]; omega
  by_cases hil : i < 64
  · have hil' : (i : Int) < 64 := by omega
    have hib : i < b.length := by omega
    have h63 : i ≤ 63 := by omega
    have b3 := at_b (b := (padX b y).take i ++ b.drop i) (k := i) (by rw [bl_length] at hX; omega)
    rw [padX_at b y hib] at b3
    have x1 := b_xor (b.getD i 0) y
    have wi : IntKind.i64.wrap (((i : Nat) : Int) + 1) = ((i + 1 : Nat) : Int) := by rw [IntKind.wrap_i64]; omega
    have eS : List.take i (bl ((padX b y).take i ++ b.drop i)) ++ [IV.int .u8 ((b.getD i 0 ^^^ y).toNat : Int)] ++ List.drop (i + 1) (bl ((padX b y).take i ++ b.drop i)) = bl ((padX b y).take (i + 1) ++ b.drop (i + 1)) := by
      rw [← padX_step b y hib, bl_take, bl_drop, bl_append (List.take i (List.take i (padX b y) ++ List.drop i b)), List.append_assoc]; rfl
    simp -implicitDefEqProofs (maxSteps := 2000000) only [k6, k1, k2, kh2, hil', hil, h63, b3, x1, wi, hX, eS, wk, act, asV, ↓reduceIte, Nat.reduceEqDiff, reduceCtorEq, Nat.reduceAdd, Nat.reduceLeDiff, Nat.reduceSub, Nat.reduceMul, List.reduceReplicate, Int.reduceEq, Int.reduceLT, Int.reduceLE, Int.reduceAdd, Int.reduceSub, Int.reduceMul, Nat.reduceLT, Int.reduceToNat]
    exact ⟨64 - (i + 1), by omega, i + 1, by omega, rfl, rfl, _, rfl, rfl⟩
  · obtain rfl : i = 64 := by omega
    have e6 : (padX b y).take 64 ++ b.drop 64 = padX b y := by
      rw [List.take_of_length_le (by omega), List.drop_of_length_le (by omega), List.append_nil]
    rw [e6] at kh2 hX
    have tX : List.take 64 (bl (padX b y)) = bl (padX b y) := List.take_of_length_le (by omega)
    simp -implicitDefEqProofs (maxSteps := 2000000) only [k6, k2, kh2, hX, tX, bl_pur, bl_scal, wk, act, asV, ↓reduceIte, Nat.reduceEqDiff, reduceCtorEq, Nat.reduceAdd, Nat.reduceLeDiff, Nat.reduceSub, Nat.reduceMul, List.reduceReplicate, Int.reduceEq, Int.reduceLT, Int.reduceLE, Int.reduceAdd, Int.reduceSub, Int.reduceMul, Nat.reduceLT, Int.reduceToNat]
end Go.Proofs.YtkphojcmjffccaaDoor
/- The tag of parts by a key. -/
set_option linter.unusedVariables false
set_option linter.unusedSimpArgs false
set_option linter.unusedSectionVars false
set_option maxRecDepth 100000
set_option maxHeartbeats 16000000
namespace Go.Proofs.YtkphojcmjffccaaDoor
open Go.RowKit

/-- the tag of a message by a key -/
def macB (k m : List UInt8) : List UInt8 := shaB (padX (blockB k) 92 ++ shaB (padX (blockB k) 54 ++ m))
theorem macB_length (k m : List UInt8) : (macB k m).length = 32 := digest_length _

theorem ins_at' {H : Nat → Blk} {hx n ver : Nat} {f : Fl} {x : IV} {cs : List IV} (hH : H hx = ⟨ver, true, true, true, cs⟩) (hc : cs.length = n) (hn : n < 2 ^ 36) :
    IC Tryd.prog 25 H [.row hx 0 n 1 ver, .int .i64 0, .sl f 1 [x]] (fun r h' => r = [.row hx 0 (n + 1) 1 (ver + 2)] ∧ h' = upd H hx ⟨ver + 2, true, true, true, x :: cs⟩) := ins_at hH hc hn

theorem mac_ok (f g : Fl) (hf : ¬ f = .lit) (hg : ¬ g = .lit) (k : List UInt8) (ps : List (Fl × List UInt8)) (hk : k.length ≤ 2 ^ 39) (hn : ps.length ≤ 2 ^ 30) (hl : (joined ps).length ≤ 2 ^ 38) :
    RC Tryd.prog 15 [.sl f k.length (bl k), .sl g ps.length (pl ps)] [.agg (bl (macB k (joined ps)))] := by
  refine RC.of_wp c15 rfl ?_
  have cb := kblock_ok f hf k hk
  have dB := blockB_length k
  have cc := cloneP_ok g ps (by omega)
  have c1 := kpad_ok (blockB k) dB 54
  have c2 := kpad_ok (blockB k) dB 92
  have dI : (padX (blockB k) 54).length = 64 := by rw [padX_length, dB]
  have dO : (padX (blockB k) 92).length = 64 := by rw [padX_length, dB]
  obtain ⟨I, hI⟩ : ∃ I, I = padX (blockB k) 54 := ⟨_, rfl⟩
  obtain ⟨O, hO⟩ : ∃ I, I = padX (blockB k) 92 := ⟨_, rfl⟩
  have hm : macB k (joined ps) = shaB (O ++ shaB (I ++ joined ps)) := by rw [macB, hI, hO]
  rw [hm]
  rw [← hI] at c1 dI
  rw [← hO] at c2 dO
  obtain ⟨B, hB⟩ : ∃ B, B = blockB k := ⟨_, rfl⟩
  rw [← hB] at cb c1 c2 dB
  have u1 : ((54 : UInt8).toNat : Int) = 54 := rfl
  have u2 : ((92 : UInt8).toNat : Int) = 92 := rfl
  rw [u1] at c1
  rw [u2] at c2
  have cs := sum_ok .plain (by decide) ((.plain, I) :: ps) (by simp; omega) (by simp only [joined, List.map_cons, List.flatten_cons, List.length_append]; simp only [joined] at hl; omega)
  have ej : joined ((Fl.plain, I) :: ps) = I ++ joined ps := by simp [joined]
  have ep : pl ((Fl.plain, I) :: ps) = .sl .plain 64 (bl I) :: pl ps := by rw [pl, List.map_cons, dI]; rfl
  rw [ej, ep, List.length_cons] at cs
  have dl : (shaB (I ++ joined ps)).length = 32 := digest_length _
  obtain ⟨G, hG⟩ : ∃ G, G = shaB (I ++ joined ps) := ⟨_, rfl⟩
  rw [← hG] at cs dl ⊢
  have ct := sum_ok .full (by decide) [(.plain, O), (.plain, G)] (by simp) (by simp [joined]; omega)
  have ej2 : joined [(Fl.plain, O), (.plain, G)] = O ++ G := by simp [joined]
  have ep2 : pl [(Fl.plain, O), (.plain, G)] = [.sl .plain 64 (bl O), .sl .plain 32 (bl G)] := by rw [pl, List.map_cons, List.map_cons, dO, dl]; rfl
  rw [ej2, ep2, List.length_cons, List.length_cons, List.length_nil] at ct
  have dT : (shaB (O ++ G)).length = 32 := digest_length _
  obtain ⟨T, hT⟩ : ∃ X, X = shaB (O ++ G) := ⟨_, rfl⟩
  rw [← hT] at ct dT ⊢
  have zl : (bl (zb 64)).length = 64 := by rw [bl_length, zb_len]
  obtain ⟨Z, hZ⟩ : ∃ Z, Z = zb 64 := ⟨_, rfl⟩
  have z6 := z64_cells
  rw [← hZ] at z6 zl
  have xZ : List.drop 64 (bl Z) = [] := List.drop_of_length_le (by omega)
  have lB : (bl B).length = 64 := by rw [bl_length, dB]
  have tB : List.take 64 (bl B) = bl B := List.take_of_length_le (by omega)
  have lG : (bl G).length = 32 := by rw [bl_length, dl]
  have tG : List.take 32 (bl G) = bl G := List.take_of_length_le (by omega)
  have xG : List.drop 32 (bl G) = [] := List.drop_of_length_le (by omega)
  have lT : (bl T).length = 32 := by rw [bl_length, dT]
  have tT : List.take 32 (bl T) = bl T := List.take_of_length_le (by omega)
  have tp := pl_take ps
  have hlp := pl_length ps
  have hp1 := pl_pur ps
  repeat' (first | simp -implicitDefEqProofs (maxSteps := 2000000) only [m15_1, m15_2, m15_3, m15_4, m15_r, m15_b, m15, hf, hg, tp, hlp, hp1, z6, zl, xZ, lB, tB, lG, tG, xG, lT, tT, bl_scal, bl_pur, bl_allp, wk, act, asV, ↓reduceIte, Nat.reduceEqDiff, reduceCtorEq, Nat.reduceAdd, Nat.reduceLeDiff, Nat.reduceSub, Nat.reduceMul, List.reduceReplicate, Int.reduceEq, Int.reduceLT, Int.reduceLE, Int.reduceAdd, Int.reduceSub, Int.reduceMul, Nat.reduceLT, Int.reduceToNat] | (with_reducible refine And.intro ?_ ?_) | ((first | ((with_reducible refine CallL.gate ?_); apply CallL.of) | ((with_reducible refine CallP.gate ?_); apply CallP.of)); (case h1 => (simp -implicitDefEqProofs (maxSteps := 2000000) only [m15_1, m15_2, m15_3, m15_4, m15_r, m15_b, m15, hf, hg, tp, hlp, hp1, z6, zl, xZ, lB, tB, lG, tG, xG, lT, tT, bl_scal, bl_pur, bl_allp, wk, act, asV, ↓reduceIte, Nat.reduceEqDiff, reduceCtorEq, Nat.reduceAdd, Nat.reduceLeDiff, Nat.reduceSub, Nat.reduceMul, List.reduceReplicate, Int.reduceEq, Int.reduceLT, Int.reduceLE, Int.reduceAdd, Int.reduceSub, Int.reduceMul, Nat.reduceLT, Int.reduceToNat]; first | done | (with_reducible rfl))); (case h2 => (first | exact cb | exact cc | exact c1 | exact c2 | exact cs | exact ct)); (case h3 => simp -implicitDefEqProofs (maxSteps := 2000000) only [m15_1, m15_2, m15_3, m15_4, m15_r, m15_b, m15, hf, hg, tp, hlp, hp1, z6, zl, xZ, lB, tB, lG, tG, xG, lT, tT, bl_scal, bl_pur, bl_allp, wk, act, asV, ↓reduceIte, Nat.reduceEqDiff, reduceCtorEq, Nat.reduceAdd, Nat.reduceLeDiff, Nat.reduceSub, Nat.reduceMul, List.reduceReplicate, Int.reduceEq, Int.reduceLT, Int.reduceLE, Int.reduceAdd, Int.reduceSub, Int.reduceMul, Nat.reduceLT, Int.reduceToNat])) | (refine CallnL.of (by simp -implicitDefEqProofs (maxSteps := 2000000) only [m15_1, m15_2, m15_3, m15_4, m15_r, m15_b, m15, hf, hg, tp, hlp, hp1, z6, zl, xZ, lB, tB, lG, tG, xG, lT, tT, bl_scal, bl_pur, bl_allp, wk, act, asV, ↓reduceIte, Nat.reduceEqDiff, reduceCtorEq, Nat.reduceAdd, Nat.reduceLeDiff, Nat.reduceSub, Nat.reduceMul, List.reduceReplicate, Int.reduceEq, Int.reduceLT, Int.reduceLE, Int.reduceAdd, Int.reduceSub, Int.reduceMul, Nat.reduceLT, Int.reduceToNat]; first | done | rfl) (ins_at' (hx := 10) (cs := pl ps) (by (simp -implicitDefEqProofs (maxSteps := 2000000) only [wk, act, asV, ↓reduceIte, Nat.reduceEqDiff, reduceCtorEq, Nat.reduceAdd, Nat.reduceLeDiff, Nat.reduceSub, Nat.reduceMul, List.reduceReplicate, Int.reduceEq, Int.reduceLT, Int.reduceLE, Int.reduceAdd, Int.reduceSub, Int.reduceMul, Nat.reduceLT, Int.reduceToNat]; first | done | rfl)) hlp (by omega)) ?_; rintro _ _ ⟨rfl, rfl⟩))
end Go.Proofs.YtkphojcmjffccaaDoor
/- The tag of parts by a key, by the reference. -/
set_option linter.unusedVariables false
set_option linter.unusedSimpArgs false
set_option linter.unusedSectionVars false
set_option maxRecDepth 100000
set_option maxHeartbeats 16000000
namespace Go.Proofs.YtkphojcmjffccaaDoor
open Go.RowKit

theorem row_step (P Z : List UInt8) (hl : Z.length = P.length) {i : Nat} (h : i < P.length) :
    List.take i (bl (P.take i ++ Z.drop i)) ++ [IV.int .u8 ((P.getD i 0).toNat : Int)] ++ List.drop (i + 1) (bl (P.take i ++ Z.drop i)) = bl (P.take (i + 1) ++ Z.drop (i + 1)) := by
  have l1 : (P.take i).length = i := by rw [List.length_take]; omega
  have e : [IV.int .u8 ((P.getD i 0).toNat : Int)] = bl [P.getD i 0] := rfl
  rw [e, bl_take, bl_drop, ← bl_append, ← bl_append, List.take_left' l1, List.drop_append, l1, List.drop_of_length_le (by omega), List.nil_append, List.drop_drop, show i + (i + 1 - i) = i + 1 by omega, List.take_succ_eq_append_getElem h]
  congr 3
  simp [List.getD, h]
theorem padX_getD (b : List UInt8) (y : UInt8) {i : Nat} (h : i < b.length) : (padX b y).getD i 0 = b.getD i 0 ^^^ y := by
  simp [padX, List.getD, h]

theorem kblockR_ok (f : Fl) (hf : ¬ f = .lit) (k : List UInt8) (hk : k.length ≤ 2 ^ 39) : RC Tryd.prog 31 [.sl f k.length (bl k)] [.agg (bl (blockB k))] := by
  have hff : f = .plain ∨ f = .full := by cases f <;> simp_all
  clear hf
  rcases hff with rfl | rfl
  all_goals
    refine RC.of_wp c31 rfl ?_
    have zl : (bl (zb 64)).length = 64 := by rw [bl_length, zb_len]
    obtain ⟨Z, hZ⟩ : ∃ Z, Z = zb 64 := ⟨_, rfl⟩
    have z6 := z64_cells
    rw [← hZ] at z6 zl
    have dB := blockB_length k
    have hx := bl_scal (blockB k)
    have tB : List.take 64 (bl (blockB k)) = bl (blockB k) := List.take_of_length_le (by rw [bl_length]; omega)
    have xB : List.drop 64 (bl Z) = [] := List.drop_of_length_le (by omega)
    by_cases h : 64 < k.length
    · have h' : (64 : Int) < ((k.length : Nat) : Int) := by omega
      have cs := sumR_ok .full [(.plain, k)] (by simp) (by rw [one_part]; omega)
      rw [one_part] at cs
      have ep : pl [(Fl.plain, k)] = [.sl .plain k.length (bl k)] := rfl
      rw [ep, List.length_cons, List.length_nil] at cs
      have eB : bl (shaB k) ++ List.drop 32 (bl Z) = bl (blockB k) := by
        rw [hZ, bl_drop, ← bl_append, zb_drop]
        have : keyB k = shaB k := if_pos h
        rw [blockB, this, show (shaB k).length = 32 from digest_length _]
      have dl : (shaB k).length = 32 := digest_length _
      obtain ⟨G, hG⟩ : ∃ G, G = shaB k := ⟨_, rfl⟩
      rw [← hG] at cs dl eB
      have x1 : List.take 32 (bl G) = bl G := List.take_of_length_le (by rw [bl_length, dl]; exact Nat.le_refl _)
      have x2 : List.drop 32 (bl G) = [] := List.drop_of_length_le (by rw [bl_length, dl]; exact Nat.le_refl _)
      have x3 : (bl G).length = 32 := by rw [bl_length, dl]
      obtain ⟨B, hB⟩ : ∃ B, B = blockB k := ⟨_, rfl⟩
      rw [← hB] at eB dB hx tB ⊢
      repeat' (first | simp -implicitDefEqProofs (maxSteps := 2000000) only [m31_1, m31_2, m31_3, m31_4, m31_5, m31_6, m31_7, m31_8, m31_9, m31_r, m31_b, m31, h', (show min 32 64 = 32 from rfl), z6, zl, x1, x2, x3, eB, dB, hx, tB, xB, bl_length, bl_scal, bl_pur, wk, act, asV, ↓reduceIte, Nat.reduceEqDiff, reduceCtorEq, Nat.reduceAdd, Nat.reduceLeDiff, Nat.reduceSub, Nat.reduceMul, List.reduceReplicate, Int.reduceEq, Int.reduceLT, Int.reduceLE, Int.reduceAdd, Int.reduceSub, Int.reduceMul, Nat.reduceLT, Int.reduceToNat] | ((first | ((with_reducible refine CallL.gate ?_); apply CallL.of) | ((with_reducible refine CallP.gate ?_); apply CallP.of)); (case h1 => (simp -implicitDefEqProofs (maxSteps := 2000000) only [m31_1, m31_2, m31_3, m31_4, m31_5, m31_6, m31_7, m31_8, m31_9, m31_r, m31_b, m31, h', (show min 32 64 = 32 from rfl), z6, zl, x1, x2, x3, eB, dB, hx, tB, xB, bl_length, bl_scal, bl_pur, wk, act, asV, ↓reduceIte, Nat.reduceEqDiff, reduceCtorEq, Nat.reduceAdd, Nat.reduceLeDiff, Nat.reduceSub, Nat.reduceMul, List.reduceReplicate, Int.reduceEq, Int.reduceLT, Int.reduceLE, Int.reduceAdd, Int.reduceSub, Int.reduceMul, Nat.reduceLT, Int.reduceToNat]; first | done | (with_reducible rfl))); (case h2 => (first | exact cs)); (case h3 => simp -implicitDefEqProofs (maxSteps := 2000000) only [m31_1, m31_2, m31_3, m31_4, m31_5, m31_6, m31_7, m31_8, m31_9, m31_r, m31_b, m31, h', (show min 32 64 = 32 from rfl), z6, zl, x1, x2, x3, eB, dB, hx, tB, xB, bl_length, bl_scal, bl_pur, wk, act, asV, ↓reduceIte, Nat.reduceEqDiff, reduceCtorEq, Nat.reduceAdd, Nat.reduceLeDiff, Nat.reduceSub, Nat.reduceMul, List.reduceReplicate, Int.reduceEq, Int.reduceLT, Int.reduceLE, Int.reduceAdd, Int.reduceSub, Int.reduceMul, Nat.reduceLT, Int.reduceToNat])))
    · have h' : ¬ (64 : Int) < ((k.length : Nat) : Int) := by omega
      have eB : bl k ++ List.drop k.length (bl Z) = bl (blockB k) := by
        rw [hZ, bl_drop, ← bl_append, zb_drop]
        have : keyB k = k := if_neg h
        rw [blockB, this]
      have mn : min k.length 64 = k.length := by omega
      have tk := take_bl k
      have hl : (bl k).length = k.length := bl_length k
      obtain ⟨B, hB⟩ : ∃ B, B = blockB k := ⟨_, rfl⟩
      rw [← hB] at eB dB hx tB ⊢
      simp -implicitDefEqProofs (maxSteps := 2000000) only [m31_1, m31_2, m31_3, m31_4, m31_5, m31_6, m31_7, m31_8, m31_9, m31_r, m31_b, m31, h', z6, zl, tk, hl, mn, eB, dB, hx, tB, xB, bl_length, bl_scal, bl_pur, wk, act, asV, ↓reduceIte, Nat.reduceEqDiff, reduceCtorEq, Nat.reduceAdd, Nat.reduceLeDiff, Nat.reduceSub, Nat.reduceMul, List.reduceReplicate, Int.reduceEq, Int.reduceLT, Int.reduceLE, Int.reduceAdd, Int.reduceSub, Int.reduceMul, Nat.reduceLT, Int.reduceToNat]

theorem macR_ok (f g : Fl) (hf : ¬ f = .lit) (hg : ¬ g = .lit) (k : List UInt8) (ps : List (Fl × List UInt8)) (hk : k.length ≤ 2 ^ 39) (hn : ps.length ≤ 2 ^ 30) (hl : (joined ps).length ≤ 2 ^ 38) :
    RC Tryd.prog 17 [.sl f k.length (bl k), .sl g ps.length (pl ps)] [.agg (bl (macB k (joined ps)))] := by
  refine RC.of_wp c17 rfl ?_
  have cb := kblockR_ok f hf k hk
  have dB := blockB_length k
  have dI : (padX (blockB k) 54).length = 64 := by rw [padX_length, dB]
  have dO : (padX (blockB k) 92).length = 64 := by rw [padX_length, dB]
  have gI := fun i (h : i < 64) => padX_getD (blockB k) 54 (i := i) (by omega)
  have gO := fun i (h : i < 64) => padX_getD (blockB k) 92 (i := i) (by omega)
  obtain ⟨I, hI⟩ : ∃ I, I = padX (blockB k) 54 := ⟨_, rfl⟩
  obtain ⟨O, hO⟩ : ∃ I, I = padX (blockB k) 92 := ⟨_, rfl⟩
  have hm : macB k (joined ps) = shaB (O ++ shaB (I ++ joined ps)) := by rw [macB, hI, hO]
  rw [hm]
  rw [← hI] at dI gI
  rw [← hO] at dO gO
  obtain ⟨B, hB⟩ : ∃ B, B = blockB k := ⟨_, rfl⟩
  rw [← hB] at cb dB gI gO
  have cs := sumR_ok .plain ((.plain, I) :: ps) (by simp; omega) (by simp only [joined, List.map_cons, List.flatten_cons, List.length_append]; simp only [joined] at hl; omega)
  have ej : joined ((Fl.plain, I) :: ps) = I ++ joined ps := by simp [joined]
  have ep : pl ((Fl.plain, I) :: ps) = .sl .plain 64 (bl I) :: pl ps := by rw [pl, List.map_cons, dI]; rfl
  rw [ej, ep, List.length_cons] at cs
  have dl : (shaB (I ++ joined ps)).length = 32 := digest_length _
  obtain ⟨G, hG⟩ : ∃ G, G = shaB (I ++ joined ps) := ⟨_, rfl⟩
  rw [← hG] at cs dl ⊢
  have ct := sumR_ok .full [(.plain, O), (.plain, G)] (by simp) (by simp [joined]; omega)
  have ej2 : joined [(Fl.plain, O), (.plain, G)] = O ++ G := by simp [joined]
  have ep2 : pl [(Fl.plain, O), (.plain, G)] = [.sl .plain 64 (bl O), .sl .plain 32 (bl G)] := by rw [pl, List.map_cons, List.map_cons, dO, dl]; rfl
  rw [ej2, ep2, List.length_cons, List.length_cons, List.length_nil] at ct
  have dT : (shaB (O ++ G)).length = 32 := digest_length _
  obtain ⟨T, hT⟩ : ∃ X, X = shaB (O ++ G) := ⟨_, rfl⟩
  rw [← hT] at ct dT ⊢
  have zl : (bl (zb 64)).length = 64 := by rw [bl_length, zb_len]
  have lz : (zb 64).length = 64 := zb_len 64
  obtain ⟨Z, hZ⟩ : ∃ Z, Z = zb 64 := ⟨_, rfl⟩
  have z6 := z64_cells
  rw [← hZ] at z6 zl lz
  have zr : repl 64 [IV.int .u8 0] = bl Z := by rw [← z6]; rfl
  have xZ : List.drop 64 (bl Z) = [] := List.drop_of_length_le (by omega)
  have lB : (bl B).length = 64 := by rw [bl_length, dB]
  have tB : List.take 64 (bl B) = bl B := List.take_of_length_le (by omega)
  have lG : (bl G).length = 32 := by rw [bl_length, dl]
  have tG : List.take 32 (bl G) = bl G := List.take_of_length_le (by omega)
  have xG : List.drop 32 (bl G) = [] := List.drop_of_length_le (by omega)
  have lT : (bl T).length = 32 := by rw [bl_length, dT]
  have tT : List.take 32 (bl T) = bl T := List.take_of_length_le (by omega)
  have tp := pl_take ps
  have hlp := pl_length ps
  have hp1 := pl_pur ps
  have r6 : roomy 64 1 = true := by decide
  repeat' (first | simp -implicitDefEqProofs (maxSteps := 2000000) only [m17_1, m17_2, m17_3, m17_4, m17_5, m17_6, m17_7, m17_8, m17_9, m17_10, m17_r, m17_b, m17, hf, hg, tp, hlp, hp1, z6, zr, zl, xZ, lB, tB, r6, bl_scal, bl_pur, bl_allp, wk, act, asV, ↓reduceIte, Nat.reduceEqDiff, reduceCtorEq, Nat.reduceAdd, Nat.reduceLeDiff, Nat.reduceSub, Nat.reduceMul, List.reduceReplicate, Int.reduceEq, Int.reduceLT, Int.reduceLE, Int.reduceAdd, Int.reduceSub, Int.reduceMul, Nat.reduceLT, Int.reduceToNat] | (with_reducible refine And.intro ?_ ?_) | ((first | ((with_reducible refine CallL.gate ?_); apply CallL.of) | ((with_reducible refine CallP.gate ?_); apply CallP.of)); (case h1 => (simp -implicitDefEqProofs (maxSteps := 2000000) only [m17_1, m17_2, m17_3, m17_4, m17_5, m17_6, m17_7, m17_8, m17_9, m17_10, m17_r, m17_b, m17, hf, hg, tp, hlp, hp1, z6, zr, zl, xZ, lB, tB, r6, bl_scal, bl_pur, bl_allp, wk, act, asV, ↓reduceIte, Nat.reduceEqDiff, reduceCtorEq, Nat.reduceAdd, Nat.reduceLeDiff, Nat.reduceSub, Nat.reduceMul, List.reduceReplicate, Int.reduceEq, Int.reduceLT, Int.reduceLE, Int.reduceAdd, Int.reduceSub, Int.reduceMul, Nat.reduceLT, Int.reduceToNat]; first | done | (with_reducible rfl))); (case h2 => (first | exact cb)); (case h3 => simp -implicitDefEqProofs (maxSteps := 2000000) only [m17_1, m17_2, m17_3, m17_4, m17_5, m17_6, m17_7, m17_8, m17_9, m17_10, m17_r, m17_b, m17, hf, hg, tp, hlp, hp1, z6, zr, zl, xZ, lB, tB, r6, bl_scal, bl_pur, bl_allp, wk, act, asV, ↓reduceIte, Nat.reduceEqDiff, reduceCtorEq, Nat.reduceAdd, Nat.reduceLeDiff, Nat.reduceSub, Nat.reduceMul, List.reduceReplicate, Int.reduceEq, Int.reduceLT, Int.reduceLE, Int.reduceAdd, Int.reduceSub, Int.reduceMul, Nat.reduceLT, Int.reduceToNat])))
  refine Wp_loop (fun m s => ∃ i, i ≤ 64 ∧ m = 64 - i ∧ s.t 8 = .int .i64 (i : Nat) ∧ s.t 1 = .sl g ps.length (pl ps) ∧ (∃ v5, s.t 5 = .ptr 5 0 v5 ∧ s.h 5 = ⟨v5, true, true, false, bl B⟩) ∧ (∃ v, s.t 6 = .row 12 0 64 1 v ∧ s.h 12 = ⟨v, true, true, true, bl (I.take i ++ Z.drop i)⟩) ∧ (∃ v, s.t 7 = .row 13 0 64 1 v ∧ s.h 13 = ⟨v, true, true, true, bl (O.take i ++ Z.drop i)⟩) ∧ (∃ v4, s.t 4 = .ptr 4 0 v4 ∧ s.h 4 = ⟨v4, true, true, false, List.replicate 32 (.int .u8 0)⟩)) 64 ⟨0, by omega, rfl, by simp -implicitDefEqProofs (maxSteps := 2000000) only [wk, act, asV, ↓reduceIte, Nat.reduceEqDiff, reduceCtorEq, Nat.reduceAdd, Nat.reduceLeDiff, Nat.reduceSub, Nat.reduceMul, List.reduceReplicate, Int.reduceEq, Int.reduceLT, Int.reduceLE, Int.reduceAdd, Int.reduceSub, Int.reduceMul, Nat.reduceLT, Int.reduceToNat], by simp -implicitDefEqProofs (maxSteps := 2000000) only [wk, act, asV, ↓reduceIte, Nat.reduceEqDiff, reduceCtorEq, Nat.reduceAdd, Nat.reduceLeDiff, Nat.reduceSub, Nat.reduceMul, List.reduceReplicate, Int.reduceEq, Int.reduceLT, Int.reduceLE, Int.reduceAdd, Int.reduceSub, Int.reduceMul, Nat.reduceLT, Int.reduceToNat], ⟨_, by simp -implicitDefEqProofs (maxSteps := 2000000) only [wk, act, asV, ↓reduceIte, Nat.reduceEqDiff, reduceCtorEq, Nat.reduceAdd, Nat.reduceLeDiff, Nat.reduceSub, Nat.reduceMul, List.reduceReplicate, Int.reduceEq, Int.reduceLT, Int.reduceLE, Int.reduceAdd, Int.reduceSub, Int.reduceMul, Nat.reduceLT, Int.reduceToNat]; first | done | rfl, by simp -implicitDefEqProofs (maxSteps := 2000000) only [wk, act, asV, ↓reduceIte, Nat.reduceEqDiff, reduceCtorEq, Nat.reduceAdd, Nat.reduceLeDiff, Nat.reduceSub, Nat.reduceMul, List.reduceReplicate, Int.reduceEq, Int.reduceLT, Int.reduceLE, Int.reduceAdd, Int.reduceSub, Int.reduceMul, Nat.reduceLT, Int.reduceToNat]; first | done | rfl⟩, ⟨_, by simp -implicitDefEqProofs (maxSteps := 2000000) only [wk, act, asV, ↓reduceIte, Nat.reduceEqDiff, reduceCtorEq, Nat.reduceAdd, Nat.reduceLeDiff, Nat.reduceSub, Nat.reduceMul, List.reduceReplicate, Int.reduceEq, Int.reduceLT, Int.reduceLE, Int.reduceAdd, Int.reduceSub, Int.reduceMul, Nat.reduceLT, Int.reduceToNat]; first | done | rfl, by simp -implicitDefEqProofs (maxSteps := 2000000) only [wk, act, asV, ↓reduceIte, Nat.reduceEqDiff, reduceCtorEq, Nat.reduceAdd, Nat.reduceLeDiff, Nat.reduceSub, Nat.reduceMul, List.reduceReplicate, Int.reduceEq, Int.reduceLT, Int.reduceLE, Int.reduceAdd, Int.reduceSub, Int.reduceMul, Nat.reduceLT, Int.reduceToNat]; first | done | rfl⟩, ⟨_, by simp -implicitDefEqProofs (maxSteps := 2000000) only [wk, act, asV, ↓reduceIte, Nat.reduceEqDiff, reduceCtorEq, Nat.reduceAdd, Nat.reduceLeDiff, Nat.reduceSub, Nat.reduceMul, List.reduceReplicate, Int.reduceEq, Int.reduceLT, Int.reduceLE, Int.reduceAdd, Int.reduceSub, Int.reduceMul, Nat.reduceLT, Int.reduceToNat]; first | done | rfl, by simp -implicitDefEqProofs (maxSteps := 2000000) only [wk, act, asV, ↓reduceIte, Nat.reduceEqDiff, reduceCtorEq, Nat.reduceAdd, Nat.reduceLeDiff, Nat.reduceSub, Nat.reduceMul, List.reduceReplicate, Int.reduceEq, Int.reduceLT, Int.reduceLE, Int.reduceAdd, Int.reduceSub, Int.reduceMul, Nat.reduceLT, Int.reduceToNat]; first | done | rfl⟩, ⟨_, by simp -implicitDefEqProofs (maxSteps := 2000000) only [wk, act, asV, ↓reduceIte, Nat.reduceEqDiff, reduceCtorEq, Nat.reduceAdd, Nat.reduceLeDiff, Nat.reduceSub, Nat.reduceMul, List.reduceReplicate, Int.reduceEq, Int.reduceLT, Int.reduceLE, Int.reduceAdd, Int.reduceSub, Int.reduceMul, Nat.reduceLT, Int.reduceToNat]; first | done | rfl, by simp -implicitDefEqProofs (maxSteps := 2000000) only [wk, act, asV, ↓reduceIte, Nat.reduceEqDiff, reduceCtorEq, Nat.reduceAdd, Nat.reduceLeDiff, Nat.reduceSub, Nat.reduceMul, List.reduceReplicate, Int.reduceEq, Int.reduceLT, Int.reduceLE, Int.reduceAdd, Int.reduceSub, Int.reduceMul, Nat.reduceLT, Int.reduceToNat]; first | done | rfl⟩⟩ ?_
  rintro m s ⟨i, hi, rfl, k8, k1, ⟨v5, k5, kh5⟩, ⟨v6, k6, kh6⟩, ⟨v7, k7, kh7⟩, ⟨v4, k4, kh4⟩⟩
  have lI : (bl (I.take i ++ Z.drop i)).length = 64 := by rw [bl_length, List.length_append, List.length_take, List.length_drop, dI, lz]; omega
  have lO : (bl (O.take i ++ Z.drop i)).length = 64 := by rw [bl_length, List.length_append, List.length_take, List.length_drop, dO, lz]; omega
  by_cases hil : i < 64
  · have hil' : (i : Int) < 64 := by omega
    have h63 : i ≤ 63 := by omega
    have b3 := at_b (b := B) (k := i) (by omega)
    have x1 := b_xor (B.getD i 0) 54
    have x2 := b_xor (B.getD i 0) 92
    have u1 : ((54 : UInt8).toNat : Int) = 54 := rfl
    have u2 : ((92 : UInt8).toNat : Int) = 92 := rfl
    rw [u1, ← gI i hil] at x1
    rw [u2, ← gO i hil] at x2
    have s1 := row_step I Z (by omega) (i := i) (by omega)
    have s2 := row_step O Z (by omega) (i := i) (by omega)
    have wi : IntKind.i64.wrap (((i : Nat) : Int) + 1) = ((i + 1 : Nat) : Int) := by rw [IntKind.wrap_i64]; omega
    obtain ⟨a1, ha1⟩ : ∃ a, a = bl (I.take i ++ Z.drop i) := ⟨_, rfl⟩
    obtain ⟨a2, ha2⟩ : ∃ a, a = bl (O.take i ++ Z.drop i) := ⟨_, rfl⟩
    rw [← ha1] at s1 lI kh6
    rw [← ha2] at s2 lO kh7
    obtain ⟨c1, hc1⟩ : ∃ a, a = bl (I.take (i + 1) ++ Z.drop (i + 1)) := ⟨_, rfl⟩
    obtain ⟨c2, hc2⟩ : ∃ a, a = bl (O.take (i + 1) ++ Z.drop (i + 1)) := ⟨_, rfl⟩
    rw [← hc1] at s1
    rw [← hc2] at s2
    have done : ∃ k', k' < 64 - i ∧ k' = 64 - (i + 1) := ⟨_, by omega, rfl⟩
    repeat' (first | simp -implicitDefEqProofs (maxSteps := 2000000) only [k8, k1, k5, kh5, k6, kh6, k7, kh7, k4, kh4, hil', hil, h63, b3, x1, x2, wi, lI, lO, lB, s1, s2, wk, act, asV, ↓reduceIte, Nat.reduceEqDiff, reduceCtorEq, Nat.reduceAdd, Nat.reduceLeDiff, Nat.reduceSub, Nat.reduceMul, List.reduceReplicate, Int.reduceEq, Int.reduceLT, Int.reduceLE, Int.reduceAdd, Int.reduceSub, Int.reduceMul, Nat.reduceLT, Int.reduceToNat] | (with_reducible refine And.intro ?_ ?_) | ((first | ((with_reducible refine CallL.gate ?_); apply CallL.of) | ((with_reducible refine CallP.gate ?_); apply CallP.of)); (case h1 => (simp -implicitDefEqProofs (maxSteps := 2000000) only [k8, k1, k5, kh5, k6, kh6, k7, kh7, k4, kh4, hil', hil, h63, b3, x1, x2, wi, lI, lO, lB, s1, s2, wk, act, asV, ↓reduceIte, Nat.reduceEqDiff, reduceCtorEq, Nat.reduceAdd, Nat.reduceLeDiff, Nat.reduceSub, Nat.reduceMul, List.reduceReplicate, Int.reduceEq, Int.reduceLT, Int.reduceLE, Int.reduceAdd, Int.reduceSub, Int.reduceMul, Nat.reduceLT, Int.reduceToNat]; first | done | (with_reducible rfl))); (case h2 => (first | exact cb)); (case h3 => simp -implicitDefEqProofs (maxSteps := 2000000) only [k8, k1, k5, kh5, k6, kh6, k7, kh7, k4, kh4, hil', hil, h63, b3, x1, x2, wi, lI, lO, lB, s1, s2, wk, act, asV, ↓reduceIte, Nat.reduceEqDiff, reduceCtorEq, Nat.reduceAdd, Nat.reduceLeDiff, Nat.reduceSub, Nat.reduceMul, List.reduceReplicate, Int.reduceEq, Int.reduceLT, Int.reduceLE, Int.reduceAdd, Int.reduceSub, Int.reduceMul, Nat.reduceLT, Int.reduceToNat])))
    all_goals exact ⟨64 - (i + 1), by omega, i + 1, by omega, rfl, rfl, ⟨_, rfl, rfl⟩, ⟨_, rfl, by rw [hc1]⟩, ⟨_, rfl, by rw [hc2]⟩, ⟨_, rfl, rfl⟩⟩
  · obtain rfl : i = 64 := by omega
    have eI : I.take 64 ++ Z.drop 64 = I := by rw [List.take_of_length_le (by omega), List.drop_of_length_le (by omega), List.append_nil]
    have eO : O.take 64 ++ Z.drop 64 = O := by rw [List.take_of_length_le (by omega), List.drop_of_length_le (by omega), List.append_nil]
    rw [eI] at kh6 lI
    rw [eO] at kh7 lO
    have tI : List.take 64 (bl I) = bl I := List.take_of_length_le (by omega)
    have tO : List.take 64 (bl O) = bl O := List.take_of_length_le (by omega)
    have r2 : roomy (ps.length + 1) 24 = true := roomyP (by omega)
    have e1 : 1 + ps.length = ps.length + 1 := Nat.add_comm _ _
    repeat' (first | simp -implicitDefEqProofs (maxSteps := 2000000) only [k8, k1, k5, kh5, k6, kh6, k7, kh7, k4, kh4, tI, tO, lI, lO, r2, e1, hg, tp, hlp, hp1, lG, tG, xG, lT, tT, bl_scal, bl_pur, bl_allp, wk, act, asV, ↓reduceIte, Nat.reduceEqDiff, reduceCtorEq, Nat.reduceAdd, Nat.reduceLeDiff, Nat.reduceSub, Nat.reduceMul, List.reduceReplicate, Int.reduceEq, Int.reduceLT, Int.reduceLE, Int.reduceAdd, Int.reduceSub, Int.reduceMul, Nat.reduceLT, Int.reduceToNat] | (with_reducible refine And.intro ?_ ?_) | ((first | ((with_reducible refine CallL.gate ?_); apply CallL.of) | ((with_reducible refine CallP.gate ?_); apply CallP.of)); (case h1 => (simp -implicitDefEqProofs (maxSteps := 2000000) only [k8, k1, k5, kh5, k6, kh6, k7, kh7, k4, kh4, tI, tO, lI, lO, r2, e1, hg, tp, hlp, hp1, lG, tG, xG, lT, tT, bl_scal, bl_pur, bl_allp, wk, act, asV, ↓reduceIte, Nat.reduceEqDiff, reduceCtorEq, Nat.reduceAdd, Nat.reduceLeDiff, Nat.reduceSub, Nat.reduceMul, List.reduceReplicate, Int.reduceEq, Int.reduceLT, Int.reduceLE, Int.reduceAdd, Int.reduceSub, Int.reduceMul, Nat.reduceLT, Int.reduceToNat]; first | done | (with_reducible rfl))); (case h2 => (first | exact cs | exact ct)); (case h3 => simp -implicitDefEqProofs (maxSteps := 2000000) only [k8, k1, k5, kh5, k6, kh6, k7, kh7, k4, kh4, tI, tO, lI, lO, r2, e1, hg, tp, hlp, hp1, lG, tG, xG, lT, tT, bl_scal, bl_pur, bl_allp, wk, act, asV, ↓reduceIte, Nat.reduceEqDiff, reduceCtorEq, Nat.reduceAdd, Nat.reduceLeDiff, Nat.reduceSub, Nat.reduceMul, List.reduceReplicate, Int.reduceEq, Int.reduceLT, Int.reduceLE, Int.reduceAdd, Int.reduceSub, Int.reduceMul, Nat.reduceLT, Int.reduceToNat])))
end Go.Proofs.YtkphojcmjffccaaDoor
