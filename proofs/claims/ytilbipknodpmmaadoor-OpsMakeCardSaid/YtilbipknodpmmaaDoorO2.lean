/- Of the ops: a volume that is made. -/
import Derived.Test.YtilbipknodpmmaaDoorM1
import Derived.Test.YtilbipknodpmmaaDoorB6
import Derived.Test.YtilbipknodpmmaaDoorD5
import Derived.Test.YtilbipknodpmmaaDoorP5
import Derived.Test.YtilbipknodpmmaaDoorE31
import Derived.Test.YtilbipknodpmmaaDoorM13
import Derived.Test.YtilbipknodpmmaaDoorM6
set_option linter.unusedVariables false
set_option linter.unusedSimpArgs false
set_option linter.unusedSectionVars false
set_option maxRecDepth 100000
set_option maxHeartbeats 8000000
namespace Go.Proofs.YtilbipknodpmmaaDoor
open Go.RowKit

theorem goodN_len {nm : List UInt8} (h : goodN nm = true) : nm.length ≤ 4 := by
  unfold goodN at h
  simp only [Bool.and_eq_true, decide_eq_true_eq] at h
  exact h.1.2
theorem good_vs {vs : List Vol} (h : goodV vs = true) : VsOk vs := by
  have gp := goodV_P h
  refine ⟨by have := goodV_len h; omega, fun v hv => ?_, fun v hv => ?_⟩
  · have := goodN_len (volP_bl (List.all_eq_true.1 gp.each v hv)).1
    omega
  · have := (volP_bl (List.all_eq_true.1 gp.each v hv)).2.2.1
    omega
@[reducible] def offT : Off := ⟨1000⟩
theorem homT {d : Nat} : @hom offT d = 1000 + d := rfl
theorem placed33 (x : Int) : placed [.int .i64 0, .int .u8 0, .int .u8 0, .int .u8 0, .int .u8 0, .int .u8 0, .int .u8 0, .int .u8 0, .int .u8 0, .int .u8 0, .int .u8 0, .int .u8 0, .int .u8 0, .int .u8 0, .int .u8 0, .int .u8 0, .int .u8 0, .int .u8 0, .int .u8 0, .int .u8 0, .int .u8 0, .int .u8 0, .int .u8 0, .int .u8 0, .int .u8 0, .int .u8 0, .int .u8 0, .int .u8 0, .int .u8 0, .int .u8 0, .int .u8 0, .int .u8 0, .int .u8 0] [(0, [.int .i64 x])] = some (ptC (x, zs 32)) := rfl
theorem placed33d {d : List UInt8} (hd : d.length = 32) : placed [.int .i64 0, .int .u8 0, .int .u8 0, .int .u8 0, .int .u8 0, .int .u8 0, .int .u8 0, .int .u8 0, .int .u8 0, .int .u8 0, .int .u8 0, .int .u8 0, .int .u8 0, .int .u8 0, .int .u8 0, .int .u8 0, .int .u8 0, .int .u8 0, .int .u8 0, .int .u8 0, .int .u8 0, .int .u8 0, .int .u8 0, .int .u8 0, .int .u8 0, .int .u8 0, .int .u8 0, .int .u8 0, .int .u8 0, .int .u8 0, .int .u8 0, .int .u8 0, .int .u8 0] [(1, bl d)] = some (ptC (0, d)) := by
  have e : ([.int .i64 0, .int .u8 0, .int .u8 0, .int .u8 0, .int .u8 0, .int .u8 0, .int .u8 0, .int .u8 0, .int .u8 0, .int .u8 0, .int .u8 0, .int .u8 0, .int .u8 0, .int .u8 0, .int .u8 0, .int .u8 0, .int .u8 0, .int .u8 0, .int .u8 0, .int .u8 0, .int .u8 0, .int .u8 0, .int .u8 0, .int .u8 0, .int .u8 0, .int .u8 0, .int .u8 0, .int .u8 0, .int .u8 0, .int .u8 0, .int .u8 0, .int .u8 0, .int .u8 0] : List IV) = .int .i64 0 :: bl (zs 32) := rfl
  rw [e, placed_pt2 _ hd rfl]; rfl
theorem tabled_ok {a oa va p vp : Nat} {rw' : Bool} {H : Nat → Blk} {cells : List IV} {vs : List Vol} {ps : List (Int × List UInt8)} {pv : IV} (ha : a < 1000) (hp : p < 1000) (hg : goodV vs = true) (hH : H a = ⟨va, true, rw', true, cells⟩) (hc : List.take (vs.length * 2) (List.drop oa cells) = vl vs)
    (hps : ∀ q ∈ ps, q.2.length = 32) (hpn : ps.length ≤ 100) (hpv : (ps = [] ∧ pv = .sl .full 0 []) ∨ (pv = .row p 0 ps.length 33 vp ∧ H p = ⟨vp, true, true, true, ptL ps⟩)) :
    IC Tryd.prog 49 H [.row a oa vs.length 2 va, pv] (fun r h' => ∃ w, r = [.row 1020 0 (ps.length + 1) 33 w, .int .i64 0] ∧ h' 1020 = ⟨w, true, true, true, ptL (ps ++ [(0, tabB vs)])⟩) := by
  refine @IC.of_wp offT Tryd.prog 49 m49 m49 c49 H [.row a oa vs.length 2 va, pv] _ rfl ?_
  have c1 := encT_ok .plain (by simp) vs (good_vs hg)
  rw [show tabR vs = tabB vs from if_pos hg, show tabE vs = 0 from if_pos hg] at c1
  have dB := tabB_length (goodV_len hg)
  obtain ⟨B, hB⟩ : ∃ B, B = tabB vs := ⟨_, rfl⟩
  rw [← hB] at c1 dB ⊢
  have lB : (bl B).length = 32 := by rw [bl_length, dB]
  have tB : List.take 32 (bl B) = bl B := List.take_of_length_le (by omega)
  have hpl := placed33d dB
  have lp : (ptC (0, B)).length = 33 := ptC_length dB
  have sp := ptC_scal (0, B)
  have tp : List.take 33 (ptC (0, B)) = ptC (0, B) := List.take_of_length_le (by omega)
  have n1 : ∀ k, 1000 ≤ k → (a = k) = False := fun k hk => by simp; omega
  have n2 : ∀ k, 1000 ≤ k → (k = a) = False := fun k hk => by simp; omega
  have n3 : ∀ k, 1000 ≤ k → (p = k) = False := fun k hk => by simp; omega
  have n4 : ∀ k, 1000 ≤ k → (k = p) = False := fun k hk => by simp; omega
  have lL := ptL_length hps
  have r1 : roomy 1 40 = true := by decide
  have r2 : roomy (ps.length + 1) 40 = true := roomy40 (by omega)
  have pv1 := vl_pur vs
  have ea : ptL ps ++ ptC (0, B) = ptL (ps ++ [(0, B)]) := by simp [ptL]
  rcases hpv with ⟨h0, rfl⟩ | ⟨rfl, hP⟩
  · have ea' : ptC (0, B) = ptL (ps ++ [(0, B)]) := by rw [h0]; simp [ptL]
    have hl0 : ps.length = 0 := by rw [h0]; rfl
    repeat' (first | simp -implicitDefEqProofs (maxSteps := 2000000) only [m49_1, m49_2, m49_3, m49_4, m49_5, m49_6, m49_r, m49_b, m49, homT, hH, hc, n1, n2, lB, tB, hpl, lp, sp, tp, r1, pv1, bl_scal, bl_allO, wk, act, asV, ↓reduceIte, Nat.reduceEqDiff, reduceCtorEq, Nat.reduceAdd, Nat.reduceLeDiff, Nat.reduceSub, Nat.reduceMul, List.reduceReplicate, Int.reduceEq, Int.reduceLT, Int.reduceLE, Int.reduceAdd, Int.reduceSub, Int.reduceMul, Nat.reduceLT, Int.reduceToNat] | ((first | ((with_reducible refine CallL.gate ?_); apply CallL.of) | ((with_reducible refine CallP.gate ?_); apply CallP.of)); (case h1 => (simp -implicitDefEqProofs (maxSteps := 2000000) only [m49_1, m49_2, m49_3, m49_4, m49_5, m49_6, m49_r, m49_b, m49, homT, hH, hc, n1, n2, lB, tB, hpl, lp, sp, tp, r1, pv1, bl_scal, bl_allO, wk, act, asV, ↓reduceIte, Nat.reduceEqDiff, reduceCtorEq, Nat.reduceAdd, Nat.reduceLeDiff, Nat.reduceSub, Nat.reduceMul, List.reduceReplicate, Int.reduceEq, Int.reduceLT, Int.reduceLE, Int.reduceAdd, Int.reduceSub, Int.reduceMul, Nat.reduceLT, Int.reduceToNat]; first | done | (with_reducible rfl))); (case h2 => (first | exact c1)); (case h3 => simp -implicitDefEqProofs (maxSteps := 2000000) only [m49_1, m49_2, m49_3, m49_4, m49_5, m49_6, m49_r, m49_b, m49, homT, hH, hc, n1, n2, lB, tB, hpl, lp, sp, tp, r1, pv1, bl_scal, bl_allO, wk, act, asV, ↓reduceIte, Nat.reduceEqDiff, reduceCtorEq, Nat.reduceAdd, Nat.reduceLeDiff, Nat.reduceSub, Nat.reduceMul, List.reduceReplicate, Int.reduceEq, Int.reduceLT, Int.reduceLE, Int.reduceAdd, Int.reduceSub, Int.reduceMul, Nat.reduceLT, Int.reduceToNat])))
    exact PostI.mk (by simp -implicitDefEqProofs (maxSteps := 2000000) only [wk, act, asV, ↓reduceIte, Nat.reduceEqDiff, reduceCtorEq, Nat.reduceAdd, Nat.reduceLeDiff, Nat.reduceSub, Nat.reduceMul, List.reduceReplicate, Int.reduceEq, Int.reduceLT, Int.reduceLE, Int.reduceAdd, Int.reduceSub, Int.reduceMul, Nat.reduceLT, Int.reduceToNat]; first | done | (with_reducible rfl)) ⟨_, by rw [hl0], by simp -implicitDefEqProofs (maxSteps := 2000000) only [ea', wk, act, asV, ↓reduceIte, Nat.reduceEqDiff, reduceCtorEq, Nat.reduceAdd, Nat.reduceLeDiff, Nat.reduceSub, Nat.reduceMul, List.reduceReplicate, Int.reduceEq, Int.reduceLT, Int.reduceLE, Int.reduceAdd, Int.reduceSub, Int.reduceMul, Nat.reduceLT, Int.reduceToNat]; first | done | rfl⟩
  · repeat' (first | simp -implicitDefEqProofs (maxSteps := 2000000) only [m49_1, m49_2, m49_3, m49_4, m49_5, m49_6, m49_r, m49_b, m49, homT, hH, hP, hc, n1, n2, n3, n4, lB, tB, hpl, lp, sp, tp, lL, r2, pv1, bl_scal, bl_allO, wk, act, asV, ↓reduceIte, Nat.reduceEqDiff, reduceCtorEq, Nat.reduceAdd, Nat.reduceLeDiff, Nat.reduceSub, Nat.reduceMul, List.reduceReplicate, Int.reduceEq, Int.reduceLT, Int.reduceLE, Int.reduceAdd, Int.reduceSub, Int.reduceMul, Nat.reduceLT, Int.reduceToNat] | ((first | ((with_reducible refine CallL.gate ?_); apply CallL.of) | ((with_reducible refine CallP.gate ?_); apply CallP.of)); (case h1 => (simp -implicitDefEqProofs (maxSteps := 2000000) only [m49_1, m49_2, m49_3, m49_4, m49_5, m49_6, m49_r, m49_b, m49, homT, hH, hP, hc, n1, n2, n3, n4, lB, tB, hpl, lp, sp, tp, lL, r2, pv1, bl_scal, bl_allO, wk, act, asV, ↓reduceIte, Nat.reduceEqDiff, reduceCtorEq, Nat.reduceAdd, Nat.reduceLeDiff, Nat.reduceSub, Nat.reduceMul, List.reduceReplicate, Int.reduceEq, Int.reduceLT, Int.reduceLE, Int.reduceAdd, Int.reduceSub, Int.reduceMul, Nat.reduceLT, Int.reduceToNat]; first | done | (with_reducible rfl))); (case h2 => (first | exact c1)); (case h3 => simp -implicitDefEqProofs (maxSteps := 2000000) only [m49_1, m49_2, m49_3, m49_4, m49_5, m49_6, m49_r, m49_b, m49, homT, hH, hP, hc, n1, n2, n3, n4, lB, tB, hpl, lp, sp, tp, lL, r2, pv1, bl_scal, bl_allO, wk, act, asV, ↓reduceIte, Nat.reduceEqDiff, reduceCtorEq, Nat.reduceAdd, Nat.reduceLeDiff, Nat.reduceSub, Nat.reduceMul, List.reduceReplicate, Int.reduceEq, Int.reduceLT, Int.reduceLE, Int.reduceAdd, Int.reduceSub, Int.reduceMul, Nat.reduceLT, Int.reduceToNat])))
    exact PostI.mk (by simp -implicitDefEqProofs (maxSteps := 2000000) only [wk, act, asV, ↓reduceIte, Nat.reduceEqDiff, reduceCtorEq, Nat.reduceAdd, Nat.reduceLeDiff, Nat.reduceSub, Nat.reduceMul, List.reduceReplicate, Int.reduceEq, Int.reduceLT, Int.reduceLE, Int.reduceAdd, Int.reduceSub, Int.reduceMul, Nat.reduceLT, Int.reduceToNat]; first | done | (with_reducible rfl)) ⟨_, rfl, by simp -implicitDefEqProofs (maxSteps := 2000000) only [ea, wk, act, asV, ↓reduceIte, Nat.reduceEqDiff, reduceCtorEq, Nat.reduceAdd, Nat.reduceLeDiff, Nat.reduceSub, Nat.reduceMul, List.reduceReplicate, Int.reduceEq, Int.reduceLT, Int.reduceLE, Int.reduceAdd, Int.reduceSub, Int.reduceMul, Nat.reduceLT, Int.reduceToNat]; first | done | rfl⟩

def mkE (vs : List Vol) (nm : List UInt8) (n : Int) : Int := if goodN nm = false then 11 else if 0 ≤ findV nm vs then 16 else if n < 1 ∨ 4 < n then 17 else if 3 ≤ vs.length then 18 else if ((frees (used vs)).length : Int) < n then 18 else 0
def mkV (vs : List Vol) (nm : List UInt8) (n : Int) : List Vol := vs ++ [⟨nm, (frees (used vs)).take n.toNat⟩]
def zpt (bs : List Int) : List (Int × List UInt8) := bs.map fun b => (b, zs 32)
def mkP (vs : List Vol) (nm : List UInt8) (n : Int) : List (Int × List UInt8) := zpt ((frees (used vs)).take n.toNat) ++ [(0, tabB (mkV vs nm n))]
def outP (e : Int) (ps : List (Int × List UInt8)) : IV := if e = 0 then .own ps.length 33 (ptL ps) else .sl .full 0 []
theorem zpt_snoc (bs : List Int) (x : Int) : ptL (zpt bs) ++ ptC (x, zs 32) = ptL (zpt (bs ++ [x])) := by simp [ptL, zpt]
theorem zpt_ok (bs : List Int) : ∀ q ∈ zpt bs, q.2.length = 32 := by
  intro q hq
  unfold zpt at hq
  obtain ⟨b, _, rfl⟩ := List.mem_map.1 hq
  rfl
theorem sl1 (nm : List UInt8) : sl [nm] = [.str nm] := rfl

theorem makeP_walk {b nm : List UInt8} {n : Nat} {vs : List Vol} {s : St} {v40 v15 : Nat} {bs : List Int} (hg : goodV (vs ++ [⟨nm, bs⟩]) = true) (hbs : bs.length = n) (h1 : 1 ≤ n) (h4 : n ≤ 4) (hvl : vs.length < 3)
    (k1 : s.t 1 = .str nm) (k9 : s.t 9 = .row 40 0 n 1 v40) (kh9 : s.h 40 = ⟨v40, true, true, true, il bs⟩) (k8 : (vs = [] ∧ s.t 8 = .sl .full 0 []) ∨ (vs ≠ [] ∧ s.t 8 = .row 15 0 vs.length 2 v15 ∧ s.h 15 = ⟨v15, true, true, true, vl vs⟩)) :
    Wp (RCs Tryd.prog) m21_25 (Post [.tmp 6, .tmp 7] [.own (n + 1) 33 (ptL (zpt bs ++ [(0, tabB (vs ++ [⟨nm, bs⟩]))])), .int .i64 0]) s := by
  have lb := il_length bs
  simp -implicitDefEqProofs (maxSteps := 2000000) only [m21_25, m21_24, m21_21, m21_20, m21_19, m21_18, m21_17, k1, k9, kh9, wk, act, asV, ↓reduceIte, Nat.reduceEqDiff, reduceCtorEq, Nat.reduceAdd, Nat.reduceLeDiff, Nat.reduceSub, Nat.reduceMul, List.reduceReplicate, Int.reduceEq, Int.reduceLT, Int.reduceLE, Int.reduceAdd, Int.reduceSub, Int.reduceMul, Nat.reduceLT, Int.reduceToNat]
  refine Wp_loop (fun m s => ∃ i, i ≤ n ∧ m = n - i ∧ s.t 1 = .str nm ∧ s.t 9 = .row 40 0 n 1 v40 ∧ s.t 46 = .row 40 0 n 1 v40 ∧ s.t 47 = .int .i64 (n : Nat) ∧ s.t 48 = .int .i64 (i : Nat) ∧ s.h 40 = ⟨v40, true, true, true, il bs⟩ ∧ ((vs = [] ∧ s.t 8 = .sl .full 0 []) ∨ (vs ≠ [] ∧ s.t 8 = .row 15 0 vs.length 2 v15 ∧ s.h 15 = ⟨v15, true, true, true, vl vs⟩)) ∧ ((i = 0 ∧ s.t 11 = .sl .full 0 []) ∨ (0 < i ∧ ∃ w, s.t 11 = .row 56 0 i 33 w ∧ s.h 56 = ⟨w, true, true, true, ptL (zpt (bs.take i))⟩))) n ⟨0, by omega, rfl, k1, k9, rfl, rfl, rfl, kh9, k8, .inl ⟨rfl, rfl⟩⟩ ?_
  clear k1 k9 kh9 k8
  rintro m s ⟨i, hi, rfl, k1, k9, k46, k47, k48, kh9, k8, k11⟩
  by_cases hin : i < n
  · have hin' : (i : Int) < n := by omega
    have hib : i < bs.length := by omega
    have di := drop_il hib
    have wi : IntKind.i64.wrap (((i : Nat) : Int) + 1) = ((i + 1 : Nat) : Int) := by rw [IntKind.wrap_i64]; omega
    have b1 : i + 1 ≤ n := by omega
    have et : bs.take (i + 1) = bs.take i ++ [bs[i]] := List.take_succ_eq_append_getElem hib
    obtain ⟨x, hx⟩ : ∃ x, x = bs[i] := ⟨_, rfl⟩
    rw [← hx] at di et
    have hpl := placed33 x
    have lp : (ptC (x, zs 32)).length = 33 := ptC_length rfl
    have sp := ptC_scal (x, zs 32)
    have tp : List.take 33 (ptC (x, zs 32)) = ptC (x, zs 32) := List.take_of_length_le (by omega)
    have r1 : roomy 1 40 = true := by decide
    have r2 : roomy (i + 1) 40 = true := roomy40 (by omega)
    have es := zpt_snoc (bs.take i) x
    rw [← et] at es
    have lt : (ptL (zpt (bs.take i))).length = i * 33 := by rw [ptL_length (zpt_ok _)]; simp [zpt]; omega
    rcases k11 with ⟨hi0, k11⟩ | ⟨hi0, w, k11, kh11⟩
    · simp -implicitDefEqProofs (maxSteps := 2000000) only [k1, k9, k46, k47, k48, kh9, k11, hin', di, lb, hbs, wi, b1, hpl, lp, sp, tp, r1, wk, act, asV, ↓reduceIte, Nat.reduceEqDiff, reduceCtorEq, Nat.reduceAdd, Nat.reduceLeDiff, Nat.reduceSub, Nat.reduceMul, List.reduceReplicate, Int.reduceEq, Int.reduceLT, Int.reduceLE, Int.reduceAdd, Int.reduceSub, Int.reduceMul, Nat.reduceLT, Int.reduceToNat]
      subst hi0
      have es' : ptC (x, zs 32) = ptL (zpt (bs.take (0 + 1))) := by rw [← es]; simp [ptL, zpt]
      exact ⟨n - (0 + 1), by omega, 0 + 1, by omega, rfl, rfl, k8, by omega, _, rfl, by rw [es']⟩
    · simp -implicitDefEqProofs (maxSteps := 2000000) only [k1, k9, k46, k47, k48, kh9, k11, kh11, hin', di, lb, hbs, wi, b1, hpl, lp, sp, tp, r2, lt, wk, act, asV, ↓reduceIte, Nat.reduceEqDiff, reduceCtorEq, Nat.reduceAdd, Nat.reduceLeDiff, Nat.reduceSub, Nat.reduceMul, List.reduceReplicate, Int.reduceEq, Int.reduceLT, Int.reduceLE, Int.reduceAdd, Int.reduceSub, Int.reduceMul, Nat.reduceLT, Int.reduceToNat]
      exact ⟨n - (i + 1), by omega, i + 1, by omega, rfl, rfl, k8, by omega, _, rfl, by rw [es]⟩
  · obtain rfl : i = n := by omega
    have hin' : ¬ ((i : Nat) : Int) < i := by omega
    rw [List.take_of_length_le (by omega)] at k11
    rcases k11 with ⟨hi0, k11⟩ | ⟨hi0, w, k11, kh11⟩
    · omega
    obtain ⟨V, hV⟩ : ∃ V, V = vs ++ [⟨nm, bs⟩] := ⟨_, rfl⟩
    have hVl : V.length = vs.length + 1 := by rw [hV]; simp
    have lz : (zpt bs).length = i := by simp [zpt, hbs]
    have pb := il_pur bs
    have tb : List.take i (il bs) = il bs := List.take_of_length_le (by omega)
    have rv : roomy (vs.length + 1) 40 = true := roomy40 (by omega)
    have lv := vl_length vs
    have es : vl vs ++ [.str nm, .sl .plain i (il bs)] = vl V := by rw [hV, ← hbs]; exact vl_snoc vs ⟨nm, bs⟩
    have tV := take_vl V
    rw [hVl] at tV
    have lP : (ptL (zpt bs ++ [(0, tabB V)])).length = (i + 1) * 33 := by
      rw [ptL_length]
      · simp [lz]
      · intro q hq
        rcases List.mem_append.1 hq with hq | hq
        · exact zpt_ok bs q hq
        · obtain rfl := List.mem_singleton.1 hq
          exact tabB_length (by rw [hVl]; omega)
    have tP : List.take ((i + 1) * 33) (ptL (zpt bs ++ [(0, tabB V)])) = ptL (zpt bs ++ [(0, tabB V)]) := List.take_of_length_le (by omega)
    rw [← hV] at hg ⊢
    have ct := fun {H : Nat → Blk} {a va vp : Nat} {rw' : Bool} (ha : a < 1000) (hH : H a = ⟨va, true, rw', true, vl V⟩) (hP : H 56 = ⟨vp, true, true, true, ptL (zpt bs)⟩) => tabled_ok (p := 56) (oa := 0) (pv := .row 56 0 i 33 vp) (ps := zpt bs) ha (by decide) hg hH (by rw [List.drop_zero]; exact take_vl V) (zpt_ok bs) (by omega) (.inr ⟨by rw [lz], hP⟩)
    rw [hVl, lz] at ct
    rcases k8 with ⟨h0, k8⟩ | ⟨h0, k8, kh8⟩
    · have es' : [IV.str nm, .sl .plain i (il bs)] = vl V := by rw [← es, h0]; rfl
      have hl0 : vs.length = 0 := by rw [h0]; rfl
      rw [hl0] at ct tV
      simp only [Nat.zero_add] at ct tV
      have r1 : roomy 1 40 = true := by decide
      simp -implicitDefEqProofs (maxSteps := 2000000) only [m21_23, m21_22, k1, k9, k46, k47, k48, kh9, k11, kh11, k8, hin', pb, tb, r1, wk, act, asV, ↓reduceIte, Nat.reduceEqDiff, reduceCtorEq, Nat.reduceAdd, Nat.reduceLeDiff, Nat.reduceSub, Nat.reduceMul, List.reduceReplicate, Int.reduceEq, Int.reduceLT, Int.reduceLE, Int.reduceAdd, Int.reduceSub, Int.reduceMul, Nat.reduceLT, Int.reduceToNat]
      refine CallnL.of (by simp -implicitDefEqProofs (maxSteps := 2000000) only [wk, act, asV, ↓reduceIte, Nat.reduceEqDiff, reduceCtorEq, Nat.reduceAdd, Nat.reduceLeDiff, Nat.reduceSub, Nat.reduceMul, List.reduceReplicate, Int.reduceEq, Int.reduceLT, Int.reduceLE, Int.reduceAdd, Int.reduceSub, Int.reduceMul, Nat.reduceLT, Int.reduceToNat]; first | done | rfl) (ct (a := 63) (by decide) (by simp -implicitDefEqProofs (maxSteps := 2000000) only [es', wk, act, asV, ↓reduceIte, Nat.reduceEqDiff, reduceCtorEq, Nat.reduceAdd, Nat.reduceLeDiff, Nat.reduceSub, Nat.reduceMul, List.reduceReplicate, Int.reduceEq, Int.reduceLT, Int.reduceLE, Int.reduceAdd, Int.reduceSub, Int.reduceMul, Nat.reduceLT, Int.reduceToNat]; first | done | rfl) (by simp -implicitDefEqProofs (maxSteps := 2000000) only [kh11, wk, act, asV, ↓reduceIte, Nat.reduceEqDiff, reduceCtorEq, Nat.reduceAdd, Nat.reduceLeDiff, Nat.reduceSub, Nat.reduceMul, List.reduceReplicate, Int.reduceEq, Int.reduceLT, Int.reduceLE, Int.reduceAdd, Int.reduceSub, Int.reduceMul, Nat.reduceLT, Int.reduceToNat]; first | done | rfl)) ?_
      rintro _ h2 ⟨w2, rfl, hw2⟩
      simp -implicitDefEqProofs (maxSteps := 2000000) only [hw2, tP, wk, act, asV, ↓reduceIte, Nat.reduceEqDiff, reduceCtorEq, Nat.reduceAdd, Nat.reduceLeDiff, Nat.reduceSub, Nat.reduceMul, List.reduceReplicate, Int.reduceEq, Int.reduceLT, Int.reduceLE, Int.reduceAdd, Int.reduceSub, Int.reduceMul, Nat.reduceLT, Int.reduceToNat]
    · simp -implicitDefEqProofs (maxSteps := 2000000) only [m21_23, m21_22, k1, k9, k46, k47, k48, kh9, k11, kh11, k8, kh8, hin', pb, tb, lv, rv, wk, act, asV, ↓reduceIte, Nat.reduceEqDiff, reduceCtorEq, Nat.reduceAdd, Nat.reduceLeDiff, Nat.reduceSub, Nat.reduceMul, List.reduceReplicate, Int.reduceEq, Int.reduceLT, Int.reduceLE, Int.reduceAdd, Int.reduceSub, Int.reduceMul, Nat.reduceLT, Int.reduceToNat]
      refine CallnL.of (by simp -implicitDefEqProofs (maxSteps := 2000000) only [wk, act, asV, ↓reduceIte, Nat.reduceEqDiff, reduceCtorEq, Nat.reduceAdd, Nat.reduceLeDiff, Nat.reduceSub, Nat.reduceMul, List.reduceReplicate, Int.reduceEq, Int.reduceLT, Int.reduceLE, Int.reduceAdd, Int.reduceSub, Int.reduceMul, Nat.reduceLT, Int.reduceToNat]; first | done | rfl) (ct (a := 63) (by decide) (by simp -implicitDefEqProofs (maxSteps := 2000000) only [es, wk, act, asV, ↓reduceIte, Nat.reduceEqDiff, reduceCtorEq, Nat.reduceAdd, Nat.reduceLeDiff, Nat.reduceSub, Nat.reduceMul, List.reduceReplicate, Int.reduceEq, Int.reduceLT, Int.reduceLE, Int.reduceAdd, Int.reduceSub, Int.reduceMul, Nat.reduceLT, Int.reduceToNat]; first | done | rfl) (by simp -implicitDefEqProofs (maxSteps := 2000000) only [kh11, wk, act, asV, ↓reduceIte, Nat.reduceEqDiff, reduceCtorEq, Nat.reduceAdd, Nat.reduceLeDiff, Nat.reduceSub, Nat.reduceMul, List.reduceReplicate, Int.reduceEq, Int.reduceLT, Int.reduceLE, Int.reduceAdd, Int.reduceSub, Int.reduceMul, Nat.reduceLT, Int.reduceToNat]; first | done | rfl)) ?_
      rintro _ h2 ⟨w2, rfl, hw2⟩
      simp -implicitDefEqProofs (maxSteps := 2000000) only [hw2, tP, wk, act, asV, ↓reduceIte, Nat.reduceEqDiff, reduceCtorEq, Nat.reduceAdd, Nat.reduceLeDiff, Nat.reduceSub, Nat.reduceMul, List.reduceReplicate, Int.reduceEq, Int.reduceLT, Int.reduceLE, Int.reduceAdd, Int.reduceSub, Int.reduceMul, Nat.reduceLT, Int.reduceToNat]
theorem makeP_ok (b nm : List UInt8) (n : Int) (hb : b.length = 32) (hn : nm.length < 2 ^ 63) : RC Tryd.prog 21 [.agg (bl b), .str nm, .int .i64 n] [outP (mkE (decV b) nm n) (mkP (decV b) nm n), .int .i64 (mkE (decV b) nm n)] := by
  refine RC.of_wp c21 rfl ?_
  have c1 := volsP_ok b hb
  have lb : (bl b).length = 32 := by rw [bl_length, hb]
  have tb : List.take 32 (bl b) = bl b := List.take_of_length_le (by omega)
  have hl := decV_le b
  have hgv := decV_good b
  have hv0 := good_vs hgv
  unfold outP mkP mkV
  obtain ⟨vs, hvs⟩ : ∃ vs, vs = decV b := ⟨_, rfl⟩
  rw [← hvs] at c1 hl hgv hv0 ⊢
  have tv := take_vl vs
  have lv := vl_length vs
  have pv := vl_pur vs
  have cg := good_ok .full [nm] (by simp) (by simpa using hn)
  rw [sl1, List.length_cons, List.length_nil, List.all_cons, List.all_nil, Bool.and_true] at cg
  have cf : ∃ f : Fl, (vs = [] ∧ f = .full ∨ vs ≠ [] ∧ f = .plain) ∧ RC Tryd.prog 44 [.str nm, .sl f vs.length (vl vs)] [.int .i64 (findV nm vs)] ∧ RC Tryd.prog 48 [.int .i64 n, .sl f vs.length (vl vs)] (takeR n (used vs)) := by
    by_cases h0 : vs = []
    · exact ⟨.full, .inl ⟨h0, rfl⟩, find_ok .full (by simp) nm vs (by omega), takeP_ok n .full vs (by simp) (by omega) hv0.bl⟩
    · exact ⟨.plain, .inr ⟨h0, rfl⟩, find_ok .plain (by simp) nm vs (by omega), takeP_ok n .plain vs (by simp) (by omega) hv0.bl⟩
  obtain ⟨f, hf, cf, cp⟩ := cf
  cases hg : goodN nm with
  | false =>
    have e : mkE vs nm n = 11 := by unfold mkE; rw [if_pos hg]
    rw [e, if_neg (by decide)]
    rw [hg] at cg
    rcases ownV_or vs with ⟨h0, eo⟩ | ⟨h0, eo⟩ <;> rw [eo] at c1 <;> repeat' (first | simp -implicitDefEqProofs (maxSteps := 2000000) only [m21_1, m21_2, m21_3, m21_4, m21_5, m21_6, m21_7, m21_8, m21_9, m21_10, m21_11, m21_12, m21_13, m21_14, m21_15, m21_16, m21_17, m21_18, m21_19, m21_20, m21_21, m21_22, m21_23, m21_24, m21_25, m21_26, m21_27, m21_28, m21_29, m21_r, m21_b, m21, lb, tb, bl_scal, bl_allO, wk, act, asV, ↓reduceIte, Nat.reduceEqDiff, reduceCtorEq, Nat.reduceAdd, Nat.reduceLeDiff, Nat.reduceSub, Nat.reduceMul, List.reduceReplicate, Int.reduceEq, Int.reduceLT, Int.reduceLE, Int.reduceAdd, Int.reduceSub, Int.reduceMul, Nat.reduceLT, Int.reduceToNat] | ((first | ((with_reducible refine CallL.gate ?_); apply CallL.of) | ((with_reducible refine CallP.gate ?_); apply CallP.of)); (case h1 => (simp -implicitDefEqProofs (maxSteps := 2000000) only [m21_1, m21_2, m21_3, m21_4, m21_5, m21_6, m21_7, m21_8, m21_9, m21_10, m21_11, m21_12, m21_13, m21_14, m21_15, m21_16, m21_17, m21_18, m21_19, m21_20, m21_21, m21_22, m21_23, m21_24, m21_25, m21_26, m21_27, m21_28, m21_29, m21_r, m21_b, m21, lb, tb, bl_scal, bl_allO, wk, act, asV, ↓reduceIte, Nat.reduceEqDiff, reduceCtorEq, Nat.reduceAdd, Nat.reduceLeDiff, Nat.reduceSub, Nat.reduceMul, List.reduceReplicate, Int.reduceEq, Int.reduceLT, Int.reduceLE, Int.reduceAdd, Int.reduceSub, Int.reduceMul, Nat.reduceLT, Int.reduceToNat]; first | done | (with_reducible rfl))); (case h2 => (first | exact c1 | exact cg)); (case h3 => simp -implicitDefEqProofs (maxSteps := 2000000) only [m21_1, m21_2, m21_3, m21_4, m21_5, m21_6, m21_7, m21_8, m21_9, m21_10, m21_11, m21_12, m21_13, m21_14, m21_15, m21_16, m21_17, m21_18, m21_19, m21_20, m21_21, m21_22, m21_23, m21_24, m21_25, m21_26, m21_27, m21_28, m21_29, m21_r, m21_b, m21, lb, tb, bl_scal, bl_allO, wk, act, asV, ↓reduceIte, Nat.reduceEqDiff, reduceCtorEq, Nat.reduceAdd, Nat.reduceLeDiff, Nat.reduceSub, Nat.reduceMul, List.reduceReplicate, Int.reduceEq, Int.reduceLT, Int.reduceLE, Int.reduceAdd, Int.reduceSub, Int.reduceMul, Nat.reduceLT, Int.reduceToNat])))
  | true =>
    rw [hg] at cg
    by_cases hfi : 0 ≤ findV nm vs
    · have e : mkE vs nm n = 16 := by unfold mkE; rw [if_neg (by rw [hg]; decide), if_pos hfi]
      rw [e, if_neg (by decide)]
      rcases ownV_or vs with ⟨h0, eo⟩ | ⟨h0, eo⟩
      · exfalso
        rw [h0, show findV nm [] = -1 from rfl] at hfi
        omega
      · rw [eo] at c1
        obtain rfl : f = .plain := by rcases hf with ⟨a, _⟩ | ⟨_, a⟩; exact absurd a h0; exact a
        repeat' (first | simp -implicitDefEqProofs (maxSteps := 2000000) only [m21_1, m21_2, m21_3, m21_4, m21_5, m21_6, m21_7, m21_8, m21_9, m21_10, m21_11, m21_12, m21_13, m21_14, m21_15, m21_16, m21_17, m21_18, m21_19, m21_20, m21_21, m21_22, m21_23, m21_24, m21_25, m21_26, m21_27, m21_28, m21_29, m21_r, m21_b, m21, lb, tb, tv, lv, pv, hfi, bl_scal, bl_allO, wk, act, asV, ↓reduceIte, Nat.reduceEqDiff, reduceCtorEq, Nat.reduceAdd, Nat.reduceLeDiff, Nat.reduceSub, Nat.reduceMul, List.reduceReplicate, Int.reduceEq, Int.reduceLT, Int.reduceLE, Int.reduceAdd, Int.reduceSub, Int.reduceMul, Nat.reduceLT, Int.reduceToNat] | ((first | ((with_reducible refine CallL.gate ?_); apply CallL.of) | ((with_reducible refine CallP.gate ?_); apply CallP.of)); (case h1 => (simp -implicitDefEqProofs (maxSteps := 2000000) only [m21_1, m21_2, m21_3, m21_4, m21_5, m21_6, m21_7, m21_8, m21_9, m21_10, m21_11, m21_12, m21_13, m21_14, m21_15, m21_16, m21_17, m21_18, m21_19, m21_20, m21_21, m21_22, m21_23, m21_24, m21_25, m21_26, m21_27, m21_28, m21_29, m21_r, m21_b, m21, lb, tb, tv, lv, pv, hfi, bl_scal, bl_allO, wk, act, asV, ↓reduceIte, Nat.reduceEqDiff, reduceCtorEq, Nat.reduceAdd, Nat.reduceLeDiff, Nat.reduceSub, Nat.reduceMul, List.reduceReplicate, Int.reduceEq, Int.reduceLT, Int.reduceLE, Int.reduceAdd, Int.reduceSub, Int.reduceMul, Nat.reduceLT, Int.reduceToNat]; first | done | (with_reducible rfl))); (case h2 => (first | exact c1 | exact cg | exact cf)); (case h3 => simp -implicitDefEqProofs (maxSteps := 2000000) only [m21_1, m21_2, m21_3, m21_4, m21_5, m21_6, m21_7, m21_8, m21_9, m21_10, m21_11, m21_12, m21_13, m21_14, m21_15, m21_16, m21_17, m21_18, m21_19, m21_20, m21_21, m21_22, m21_23, m21_24, m21_25, m21_26, m21_27, m21_28, m21_29, m21_r, m21_b, m21, lb, tb, tv, lv, pv, hfi, bl_scal, bl_allO, wk, act, asV, ↓reduceIte, Nat.reduceEqDiff, reduceCtorEq, Nat.reduceAdd, Nat.reduceLeDiff, Nat.reduceSub, Nat.reduceMul, List.reduceReplicate, Int.reduceEq, Int.reduceLT, Int.reduceLE, Int.reduceAdd, Int.reduceSub, Int.reduceMul, Nat.reduceLT, Int.reduceToNat])))
    · by_cases hr : n < 1 ∨ 4 < n
      · have e : mkE vs nm n = 17 := by unfold mkE; rw [if_neg (by rw [hg]; decide), if_neg hfi, if_pos hr]
        rw [e, if_neg (by decide)]
        by_cases hr1 : n < 1
        · rcases ownV_or vs with ⟨h0, eo⟩ | ⟨h0, eo⟩
          · rw [eo] at c1
            obtain rfl : f = .full := by rcases hf with ⟨_, a⟩ | ⟨a, _⟩; exact a; exact absurd h0 a
            rw [h0] at cf hfi
            rw [vl_nil, List.length_nil] at cf
            repeat' (first | simp -implicitDefEqProofs (maxSteps := 2000000) only [m21_1, m21_2, m21_3, m21_4, m21_5, m21_6, m21_7, m21_8, m21_9, m21_10, m21_11, m21_12, m21_13, m21_14, m21_15, m21_16, m21_17, m21_18, m21_19, m21_20, m21_21, m21_22, m21_23, m21_24, m21_25, m21_26, m21_27, m21_28, m21_29, m21_r, m21_b, m21, lb, tb, hfi, hr1, bl_scal, bl_allO, wk, act, asV, ↓reduceIte, Nat.reduceEqDiff, reduceCtorEq, Nat.reduceAdd, Nat.reduceLeDiff, Nat.reduceSub, Nat.reduceMul, List.reduceReplicate, Int.reduceEq, Int.reduceLT, Int.reduceLE, Int.reduceAdd, Int.reduceSub, Int.reduceMul, Nat.reduceLT, Int.reduceToNat] | ((first | ((with_reducible refine CallL.gate ?_); apply CallL.of) | ((with_reducible refine CallP.gate ?_); apply CallP.of)); (case h1 => (simp -implicitDefEqProofs (maxSteps := 2000000) only [m21_1, m21_2, m21_3, m21_4, m21_5, m21_6, m21_7, m21_8, m21_9, m21_10, m21_11, m21_12, m21_13, m21_14, m21_15, m21_16, m21_17, m21_18, m21_19, m21_20, m21_21, m21_22, m21_23, m21_24, m21_25, m21_26, m21_27, m21_28, m21_29, m21_r, m21_b, m21, lb, tb, hfi, hr1, bl_scal, bl_allO, wk, act, asV, ↓reduceIte, Nat.reduceEqDiff, reduceCtorEq, Nat.reduceAdd, Nat.reduceLeDiff, Nat.reduceSub, Nat.reduceMul, List.reduceReplicate, Int.reduceEq, Int.reduceLT, Int.reduceLE, Int.reduceAdd, Int.reduceSub, Int.reduceMul, Nat.reduceLT, Int.reduceToNat]; first | done | (with_reducible rfl))); (case h2 => (first | exact c1 | exact cg | exact cf)); (case h3 => simp -implicitDefEqProofs (maxSteps := 2000000) only [m21_1, m21_2, m21_3, m21_4, m21_5, m21_6, m21_7, m21_8, m21_9, m21_10, m21_11, m21_12, m21_13, m21_14, m21_15, m21_16, m21_17, m21_18, m21_19, m21_20, m21_21, m21_22, m21_23, m21_24, m21_25, m21_26, m21_27, m21_28, m21_29, m21_r, m21_b, m21, lb, tb, hfi, hr1, bl_scal, bl_allO, wk, act, asV, ↓reduceIte, Nat.reduceEqDiff, reduceCtorEq, Nat.reduceAdd, Nat.reduceLeDiff, Nat.reduceSub, Nat.reduceMul, List.reduceReplicate, Int.reduceEq, Int.reduceLT, Int.reduceLE, Int.reduceAdd, Int.reduceSub, Int.reduceMul, Nat.reduceLT, Int.reduceToNat])))
          · rw [eo] at c1
            obtain rfl : f = .plain := by rcases hf with ⟨a, _⟩ | ⟨_, a⟩; exact absurd a h0; exact a
            repeat' (first | simp -implicitDefEqProofs (maxSteps := 2000000) only [m21_1, m21_2, m21_3, m21_4, m21_5, m21_6, m21_7, m21_8, m21_9, m21_10, m21_11, m21_12, m21_13, m21_14, m21_15, m21_16, m21_17, m21_18, m21_19, m21_20, m21_21, m21_22, m21_23, m21_24, m21_25, m21_26, m21_27, m21_28, m21_29, m21_r, m21_b, m21, lb, tb, tv, lv, pv, hfi, hr1, bl_scal, bl_allO, wk, act, asV, ↓reduceIte, Nat.reduceEqDiff, reduceCtorEq, Nat.reduceAdd, Nat.reduceLeDiff, Nat.reduceSub, Nat.reduceMul, List.reduceReplicate, Int.reduceEq, Int.reduceLT, Int.reduceLE, Int.reduceAdd, Int.reduceSub, Int.reduceMul, Nat.reduceLT, Int.reduceToNat] | ((first | ((with_reducible refine CallL.gate ?_); apply CallL.of) | ((with_reducible refine CallP.gate ?_); apply CallP.of)); (case h1 => (simp -implicitDefEqProofs (maxSteps := 2000000) only [m21_1, m21_2, m21_3, m21_4, m21_5, m21_6, m21_7, m21_8, m21_9, m21_10, m21_11, m21_12, m21_13, m21_14, m21_15, m21_16, m21_17, m21_18, m21_19, m21_20, m21_21, m21_22, m21_23, m21_24, m21_25, m21_26, m21_27, m21_28, m21_29, m21_r, m21_b, m21, lb, tb, tv, lv, pv, hfi, hr1, bl_scal, bl_allO, wk, act, asV, ↓reduceIte, Nat.reduceEqDiff, reduceCtorEq, Nat.reduceAdd, Nat.reduceLeDiff, Nat.reduceSub, Nat.reduceMul, List.reduceReplicate, Int.reduceEq, Int.reduceLT, Int.reduceLE, Int.reduceAdd, Int.reduceSub, Int.reduceMul, Nat.reduceLT, Int.reduceToNat]; first | done | (with_reducible rfl))); (case h2 => (first | exact c1 | exact cg | exact cf)); (case h3 => simp -implicitDefEqProofs (maxSteps := 2000000) only [m21_1, m21_2, m21_3, m21_4, m21_5, m21_6, m21_7, m21_8, m21_9, m21_10, m21_11, m21_12, m21_13, m21_14, m21_15, m21_16, m21_17, m21_18, m21_19, m21_20, m21_21, m21_22, m21_23, m21_24, m21_25, m21_26, m21_27, m21_28, m21_29, m21_r, m21_b, m21, lb, tb, tv, lv, pv, hfi, hr1, bl_scal, bl_allO, wk, act, asV, ↓reduceIte, Nat.reduceEqDiff, reduceCtorEq, Nat.reduceAdd, Nat.reduceLeDiff, Nat.reduceSub, Nat.reduceMul, List.reduceReplicate, Int.reduceEq, Int.reduceLT, Int.reduceLE, Int.reduceAdd, Int.reduceSub, Int.reduceMul, Nat.reduceLT, Int.reduceToNat])))
        · have hr2 : 4 < n := by omega
          rcases ownV_or vs with ⟨h0, eo⟩ | ⟨h0, eo⟩
          · rw [eo] at c1
            obtain rfl : f = .full := by rcases hf with ⟨_, a⟩ | ⟨a, _⟩; exact a; exact absurd h0 a
            rw [h0] at cf hfi
            rw [vl_nil, List.length_nil] at cf
            repeat' (first | simp -implicitDefEqProofs (maxSteps := 2000000) only [m21_1, m21_2, m21_3, m21_4, m21_5, m21_6, m21_7, m21_8, m21_9, m21_10, m21_11, m21_12, m21_13, m21_14, m21_15, m21_16, m21_17, m21_18, m21_19, m21_20, m21_21, m21_22, m21_23, m21_24, m21_25, m21_26, m21_27, m21_28, m21_29, m21_r, m21_b, m21, lb, tb, hfi, hr1, hr2, bl_scal, bl_allO, wk, act, asV, ↓reduceIte, Nat.reduceEqDiff, reduceCtorEq, Nat.reduceAdd, Nat.reduceLeDiff, Nat.reduceSub, Nat.reduceMul, List.reduceReplicate, Int.reduceEq, Int.reduceLT, Int.reduceLE, Int.reduceAdd, Int.reduceSub, Int.reduceMul, Nat.reduceLT, Int.reduceToNat] | ((first | ((with_reducible refine CallL.gate ?_); apply CallL.of) | ((with_reducible refine CallP.gate ?_); apply CallP.of)); (case h1 => (simp -implicitDefEqProofs (maxSteps := 2000000) only [m21_1, m21_2, m21_3, m21_4, m21_5, m21_6, m21_7, m21_8, m21_9, m21_10, m21_11, m21_12, m21_13, m21_14, m21_15, m21_16, m21_17, m21_18, m21_19, m21_20, m21_21, m21_22, m21_23, m21_24, m21_25, m21_26, m21_27, m21_28, m21_29, m21_r, m21_b, m21, lb, tb, hfi, hr1, hr2, bl_scal, bl_allO, wk, act, asV, ↓reduceIte, Nat.reduceEqDiff, reduceCtorEq, Nat.reduceAdd, Nat.reduceLeDiff, Nat.reduceSub, Nat.reduceMul, List.reduceReplicate, Int.reduceEq, Int.reduceLT, Int.reduceLE, Int.reduceAdd, Int.reduceSub, Int.reduceMul, Nat.reduceLT, Int.reduceToNat]; first | done | (with_reducible rfl))); (case h2 => (first | exact c1 | exact cg | exact cf)); (case h3 => simp -implicitDefEqProofs (maxSteps := 2000000) only [m21_1, m21_2, m21_3, m21_4, m21_5, m21_6, m21_7, m21_8, m21_9, m21_10, m21_11, m21_12, m21_13, m21_14, m21_15, m21_16, m21_17, m21_18, m21_19, m21_20, m21_21, m21_22, m21_23, m21_24, m21_25, m21_26, m21_27, m21_28, m21_29, m21_r, m21_b, m21, lb, tb, hfi, hr1, hr2, bl_scal, bl_allO, wk, act, asV, ↓reduceIte, Nat.reduceEqDiff, reduceCtorEq, Nat.reduceAdd, Nat.reduceLeDiff, Nat.reduceSub, Nat.reduceMul, List.reduceReplicate, Int.reduceEq, Int.reduceLT, Int.reduceLE, Int.reduceAdd, Int.reduceSub, Int.reduceMul, Nat.reduceLT, Int.reduceToNat])))
          · rw [eo] at c1
            obtain rfl : f = .plain := by rcases hf with ⟨a, _⟩ | ⟨_, a⟩; exact absurd a h0; exact a
            repeat' (first | simp -implicitDefEqProofs (maxSteps := 2000000) only [m21_1, m21_2, m21_3, m21_4, m21_5, m21_6, m21_7, m21_8, m21_9, m21_10, m21_11, m21_12, m21_13, m21_14, m21_15, m21_16, m21_17, m21_18, m21_19, m21_20, m21_21, m21_22, m21_23, m21_24, m21_25, m21_26, m21_27, m21_28, m21_29, m21_r, m21_b, m21, lb, tb, tv, lv, pv, hfi, hr1, hr2, bl_scal, bl_allO, wk, act, asV, ↓reduceIte, Nat.reduceEqDiff, reduceCtorEq, Nat.reduceAdd, Nat.reduceLeDiff, Nat.reduceSub, Nat.reduceMul, List.reduceReplicate, Int.reduceEq, Int.reduceLT, Int.reduceLE, Int.reduceAdd, Int.reduceSub, Int.reduceMul, Nat.reduceLT, Int.reduceToNat] | ((first | ((with_reducible refine CallL.gate ?_); apply CallL.of) | ((with_reducible refine CallP.gate ?_); apply CallP.of)); (case h1 => (simp -implicitDefEqProofs (maxSteps := 2000000) only [m21_1, m21_2, m21_3, m21_4, m21_5, m21_6, m21_7, m21_8, m21_9, m21_10, m21_11, m21_12, m21_13, m21_14, m21_15, m21_16, m21_17, m21_18, m21_19, m21_20, m21_21, m21_22, m21_23, m21_24, m21_25, m21_26, m21_27, m21_28, m21_29, m21_r, m21_b, m21, lb, tb, tv, lv, pv, hfi, hr1, hr2, bl_scal, bl_allO, wk, act, asV, ↓reduceIte, Nat.reduceEqDiff, reduceCtorEq, Nat.reduceAdd, Nat.reduceLeDiff, Nat.reduceSub, Nat.reduceMul, List.reduceReplicate, Int.reduceEq, Int.reduceLT, Int.reduceLE, Int.reduceAdd, Int.reduceSub, Int.reduceMul, Nat.reduceLT, Int.reduceToNat]; first | done | (with_reducible rfl))); (case h2 => (first | exact c1 | exact cg | exact cf)); (case h3 => simp -implicitDefEqProofs (maxSteps := 2000000) only [m21_1, m21_2, m21_3, m21_4, m21_5, m21_6, m21_7, m21_8, m21_9, m21_10, m21_11, m21_12, m21_13, m21_14, m21_15, m21_16, m21_17, m21_18, m21_19, m21_20, m21_21, m21_22, m21_23, m21_24, m21_25, m21_26, m21_27, m21_28, m21_29, m21_r, m21_b, m21, lb, tb, tv, lv, pv, hfi, hr1, hr2, bl_scal, bl_allO, wk, act, asV, ↓reduceIte, Nat.reduceEqDiff, reduceCtorEq, Nat.reduceAdd, Nat.reduceLeDiff, Nat.reduceSub, Nat.reduceMul, List.reduceReplicate, Int.reduceEq, Int.reduceLT, Int.reduceLE, Int.reduceAdd, Int.reduceSub, Int.reduceMul, Nat.reduceLT, Int.reduceToNat])))
      · have hr1 : ¬ n < 1 := by omega
        have hr2 : ¬ 4 < n := by omega
        by_cases h3 : 3 ≤ vs.length
        · have e : mkE vs nm n = 18 := by unfold mkE; rw [if_neg (by rw [hg]; decide), if_neg hfi, if_neg hr, if_pos h3]
          rw [e, if_neg (by decide)]
          have h3' : (3 : Int) ≤ vs.length := by omega
          rcases ownV_or vs with ⟨h0, eo⟩ | ⟨h0, eo⟩
          · rw [h0] at h3; simp at h3
          · rw [eo] at c1
            obtain rfl : f = .plain := by rcases hf with ⟨a, _⟩ | ⟨_, a⟩; exact absurd a h0; exact a
            repeat' (first | simp -implicitDefEqProofs (maxSteps := 2000000) only [m21_1, m21_2, m21_3, m21_4, m21_5, m21_6, m21_7, m21_8, m21_9, m21_10, m21_11, m21_12, m21_13, m21_14, m21_15, m21_16, m21_17, m21_18, m21_19, m21_20, m21_21, m21_22, m21_23, m21_24, m21_25, m21_26, m21_27, m21_28, m21_29, m21_r, m21_b, m21, lb, tb, tv, lv, pv, hfi, hr1, hr2, h3', bl_scal, bl_allO, wk, act, asV, ↓reduceIte, Nat.reduceEqDiff, reduceCtorEq, Nat.reduceAdd, Nat.reduceLeDiff, Nat.reduceSub, Nat.reduceMul, List.reduceReplicate, Int.reduceEq, Int.reduceLT, Int.reduceLE, Int.reduceAdd, Int.reduceSub, Int.reduceMul, Nat.reduceLT, Int.reduceToNat] | ((first | ((with_reducible refine CallL.gate ?_); apply CallL.of) | ((with_reducible refine CallP.gate ?_); apply CallP.of)); (case h1 => (simp -implicitDefEqProofs (maxSteps := 2000000) only [m21_1, m21_2, m21_3, m21_4, m21_5, m21_6, m21_7, m21_8, m21_9, m21_10, m21_11, m21_12, m21_13, m21_14, m21_15, m21_16, m21_17, m21_18, m21_19, m21_20, m21_21, m21_22, m21_23, m21_24, m21_25, m21_26, m21_27, m21_28, m21_29, m21_r, m21_b, m21, lb, tb, tv, lv, pv, hfi, hr1, hr2, h3', bl_scal, bl_allO, wk, act, asV, ↓reduceIte, Nat.reduceEqDiff, reduceCtorEq, Nat.reduceAdd, Nat.reduceLeDiff, Nat.reduceSub, Nat.reduceMul, List.reduceReplicate, Int.reduceEq, Int.reduceLT, Int.reduceLE, Int.reduceAdd, Int.reduceSub, Int.reduceMul, Nat.reduceLT, Int.reduceToNat]; first | done | (with_reducible rfl))); (case h2 => (first | exact c1 | exact cg | exact cf)); (case h3 => simp -implicitDefEqProofs (maxSteps := 2000000) only [m21_1, m21_2, m21_3, m21_4, m21_5, m21_6, m21_7, m21_8, m21_9, m21_10, m21_11, m21_12, m21_13, m21_14, m21_15, m21_16, m21_17, m21_18, m21_19, m21_20, m21_21, m21_22, m21_23, m21_24, m21_25, m21_26, m21_27, m21_28, m21_29, m21_r, m21_b, m21, lb, tb, tv, lv, pv, hfi, hr1, hr2, h3', bl_scal, bl_allO, wk, act, asV, ↓reduceIte, Nat.reduceEqDiff, reduceCtorEq, Nat.reduceAdd, Nat.reduceLeDiff, Nat.reduceSub, Nat.reduceMul, List.reduceReplicate, Int.reduceEq, Int.reduceLT, Int.reduceLE, Int.reduceAdd, Int.reduceSub, Int.reduceMul, Nat.reduceLT, Int.reduceToNat])))
        · have h3' : ¬ (3 : Int) ≤ vs.length := by omega
          by_cases hq : ((frees (used vs)).length : Int) < n
          · have e : mkE vs nm n = 18 := by unfold mkE; rw [if_neg (by rw [hg]; decide), if_neg hfi, if_neg hr, if_neg h3, if_pos hq]
            rw [e, if_neg (by decide)]
            rw [show takeR n (used vs) = [.sl .full 0 [], .int .i64 18] by unfold takeR; rw [if_neg hr, if_pos hq]] at cp
            rcases ownV_or vs with ⟨h0, eo⟩ | ⟨h0, eo⟩
            · rw [eo] at c1
              obtain rfl : f = .full := by rcases hf with ⟨_, a⟩ | ⟨a, _⟩; exact a; exact absurd h0 a
              have hl0 : vs.length = 0 := by rw [h0]; rfl
              have hv0' : vl vs = [] := by rw [h0]; rfl
              rw [hv0', hl0] at cf cp
              repeat' (first | simp -implicitDefEqProofs (maxSteps := 2000000) only [m21_1, m21_2, m21_3, m21_4, m21_5, m21_6, m21_7, m21_8, m21_9, m21_10, m21_11, m21_12, m21_13, m21_14, m21_15, m21_16, m21_17, m21_18, m21_19, m21_20, m21_21, m21_22, m21_23, m21_24, m21_25, m21_26, m21_27, m21_28, m21_29, m21_r, m21_b, m21, lb, tb, hfi, hr1, hr2, bl_scal, bl_allO, wk, act, asV, ↓reduceIte, Nat.reduceEqDiff, reduceCtorEq, Nat.reduceAdd, Nat.reduceLeDiff, Nat.reduceSub, Nat.reduceMul, List.reduceReplicate, Int.reduceEq, Int.reduceLT, Int.reduceLE, Int.reduceAdd, Int.reduceSub, Int.reduceMul, Nat.reduceLT, Int.reduceToNat] | ((first | ((with_reducible refine CallL.gate ?_); apply CallL.of) | ((with_reducible refine CallP.gate ?_); apply CallP.of)); (case h1 => (simp -implicitDefEqProofs (maxSteps := 2000000) only [m21_1, m21_2, m21_3, m21_4, m21_5, m21_6, m21_7, m21_8, m21_9, m21_10, m21_11, m21_12, m21_13, m21_14, m21_15, m21_16, m21_17, m21_18, m21_19, m21_20, m21_21, m21_22, m21_23, m21_24, m21_25, m21_26, m21_27, m21_28, m21_29, m21_r, m21_b, m21, lb, tb, hfi, hr1, hr2, bl_scal, bl_allO, wk, act, asV, ↓reduceIte, Nat.reduceEqDiff, reduceCtorEq, Nat.reduceAdd, Nat.reduceLeDiff, Nat.reduceSub, Nat.reduceMul, List.reduceReplicate, Int.reduceEq, Int.reduceLT, Int.reduceLE, Int.reduceAdd, Int.reduceSub, Int.reduceMul, Nat.reduceLT, Int.reduceToNat]; first | done | (with_reducible rfl))); (case h2 => (first | exact c1 | exact cg | exact cf | exact cp)); (case h3 => simp -implicitDefEqProofs (maxSteps := 2000000) only [m21_1, m21_2, m21_3, m21_4, m21_5, m21_6, m21_7, m21_8, m21_9, m21_10, m21_11, m21_12, m21_13, m21_14, m21_15, m21_16, m21_17, m21_18, m21_19, m21_20, m21_21, m21_22, m21_23, m21_24, m21_25, m21_26, m21_27, m21_28, m21_29, m21_r, m21_b, m21, lb, tb, hfi, hr1, hr2, bl_scal, bl_allO, wk, act, asV, ↓reduceIte, Nat.reduceEqDiff, reduceCtorEq, Nat.reduceAdd, Nat.reduceLeDiff, Nat.reduceSub, Nat.reduceMul, List.reduceReplicate, Int.reduceEq, Int.reduceLT, Int.reduceLE, Int.reduceAdd, Int.reduceSub, Int.reduceMul, Nat.reduceLT, Int.reduceToNat])))
            · rw [eo] at c1
              obtain rfl : f = .plain := by rcases hf with ⟨a, _⟩ | ⟨_, a⟩; exact absurd a h0; exact a
              repeat' (first | simp -implicitDefEqProofs (maxSteps := 2000000) only [m21_1, m21_2, m21_3, m21_4, m21_5, m21_6, m21_7, m21_8, m21_9, m21_10, m21_11, m21_12, m21_13, m21_14, m21_15, m21_16, m21_17, m21_18, m21_19, m21_20, m21_21, m21_22, m21_23, m21_24, m21_25, m21_26, m21_27, m21_28, m21_29, m21_r, m21_b, m21, lb, tb, tv, lv, pv, hfi, hr1, hr2, h3', bl_scal, bl_allO, wk, act, asV, ↓reduceIte, Nat.reduceEqDiff, reduceCtorEq, Nat.reduceAdd, Nat.reduceLeDiff, Nat.reduceSub, Nat.reduceMul, List.reduceReplicate, Int.reduceEq, Int.reduceLT, Int.reduceLE, Int.reduceAdd, Int.reduceSub, Int.reduceMul, Nat.reduceLT, Int.reduceToNat] | ((first | ((with_reducible refine CallL.gate ?_); apply CallL.of) | ((with_reducible refine CallP.gate ?_); apply CallP.of)); (case h1 => (simp -implicitDefEqProofs (maxSteps := 2000000) only [m21_1, m21_2, m21_3, m21_4, m21_5, m21_6, m21_7, m21_8, m21_9, m21_10, m21_11, m21_12, m21_13, m21_14, m21_15, m21_16, m21_17, m21_18, m21_19, m21_20, m21_21, m21_22, m21_23, m21_24, m21_25, m21_26, m21_27, m21_28, m21_29, m21_r, m21_b, m21, lb, tb, tv, lv, pv, hfi, hr1, hr2, h3', bl_scal, bl_allO, wk, act, asV, ↓reduceIte, Nat.reduceEqDiff, reduceCtorEq, Nat.reduceAdd, Nat.reduceLeDiff, Nat.reduceSub, Nat.reduceMul, List.reduceReplicate, Int.reduceEq, Int.reduceLT, Int.reduceLE, Int.reduceAdd, Int.reduceSub, Int.reduceMul, Nat.reduceLT, Int.reduceToNat]; first | done | (with_reducible rfl))); (case h2 => (first | exact c1 | exact cg | exact cf | exact cp)); (case h3 => simp -implicitDefEqProofs (maxSteps := 2000000) only [m21_1, m21_2, m21_3, m21_4, m21_5, m21_6, m21_7, m21_8, m21_9, m21_10, m21_11, m21_12, m21_13, m21_14, m21_15, m21_16, m21_17, m21_18, m21_19, m21_20, m21_21, m21_22, m21_23, m21_24, m21_25, m21_26, m21_27, m21_28, m21_29, m21_r, m21_b, m21, lb, tb, tv, lv, pv, hfi, hr1, hr2, h3', bl_scal, bl_allO, wk, act, asV, ↓reduceIte, Nat.reduceEqDiff, reduceCtorEq, Nat.reduceAdd, Nat.reduceLeDiff, Nat.reduceSub, Nat.reduceMul, List.reduceReplicate, Int.reduceEq, Int.reduceLT, Int.reduceLE, Int.reduceAdd, Int.reduceSub, Int.reduceMul, Nat.reduceLT, Int.reduceToNat])))
          · have e : mkE vs nm n = 0 := by unfold mkE; rw [if_neg (by rw [hg]; decide), if_neg hfi, if_neg hr, if_neg h3, if_neg hq]
            rw [e, if_pos rfl]
            rw [show takeR n (used vs) = [.own n.toNat 1 (il ((frees (used vs)).take n.toNat)), .int .i64 0] by unfold takeR; rw [if_neg hr, if_neg hq]] at cp
            obtain ⟨k, rfl⟩ : ∃ k : Nat, n = (k : Int) := ⟨n.toNat, by omega⟩
            rw [Int.toNat_natCast] at cp ⊢
            have hgm := good_make (nm := nm) (n := k) hgv (by omega) hg (by omega) (by omega) (by omega) (by omega)
            have hbl : ((frees (used vs)).take k).length = k := by rw [List.length_take]; omega
            obtain ⟨bs, hbs⟩ : ∃ bs, bs = (frees (used vs)).take k := ⟨_, rfl⟩
            rw [← hbs] at cp hgm hbl ⊢
            have hPl : (zpt bs ++ [(0, tabB (vs ++ [(⟨nm, bs⟩ : Vol)]))]).length = k + 1 := by simp [zpt, hbl]
            rw [hPl]
            rcases ownV_or vs with ⟨h0, eo⟩ | ⟨h0, eo⟩
            · rw [eo] at c1
              obtain rfl : f = .full := by rcases hf with ⟨_, a⟩ | ⟨a, _⟩; exact a; exact absurd h0 a
              have hl0 : vs.length = 0 := by rw [h0]; rfl
              have hv0' : vl vs = [] := by rw [h0]; rfl
              rw [hv0', hl0] at cf cp
              repeat' (first | simp -implicitDefEqProofs (maxSteps := 2000000) only [m21, m21_r, m21_b, m21_1, m21_2, m21_3, m21_4, m21_5, m21_6, m21_7, m21_8, m21_9, m21_10, m21_11, m21_12, m21_13, m21_14, m21_15, m21_16, m21_26, m21_27, m21_28, m21_29, lb, tb, hfi, hr1, hr2, il_scal, bl_scal, bl_allO, wk, act, asV, ↓reduceIte, Nat.reduceEqDiff, reduceCtorEq, Nat.reduceAdd, Nat.reduceLeDiff, Nat.reduceSub, Nat.reduceMul, List.reduceReplicate, Int.reduceEq, Int.reduceLT, Int.reduceLE, Int.reduceAdd, Int.reduceSub, Int.reduceMul, Nat.reduceLT, Int.reduceToNat] | ((first | ((with_reducible refine CallL.gate ?_); apply CallL.of) | ((with_reducible refine CallP.gate ?_); apply CallP.of)); (case h1 => (simp -implicitDefEqProofs (maxSteps := 2000000) only [m21, m21_r, m21_b, m21_1, m21_2, m21_3, m21_4, m21_5, m21_6, m21_7, m21_8, m21_9, m21_10, m21_11, m21_12, m21_13, m21_14, m21_15, m21_16, m21_26, m21_27, m21_28, m21_29, lb, tb, hfi, hr1, hr2, il_scal, bl_scal, bl_allO, wk, act, asV, ↓reduceIte, Nat.reduceEqDiff, reduceCtorEq, Nat.reduceAdd, Nat.reduceLeDiff, Nat.reduceSub, Nat.reduceMul, List.reduceReplicate, Int.reduceEq, Int.reduceLT, Int.reduceLE, Int.reduceAdd, Int.reduceSub, Int.reduceMul, Nat.reduceLT, Int.reduceToNat]; first | done | (with_reducible rfl))); (case h2 => (first | exact c1 | exact cg | exact cf | exact cp)); (case h3 => simp -implicitDefEqProofs (maxSteps := 2000000) only [m21, m21_r, m21_b, m21_1, m21_2, m21_3, m21_4, m21_5, m21_6, m21_7, m21_8, m21_9, m21_10, m21_11, m21_12, m21_13, m21_14, m21_15, m21_16, m21_26, m21_27, m21_28, m21_29, lb, tb, hfi, hr1, hr2, il_scal, bl_scal, bl_allO, wk, act, asV, ↓reduceIte, Nat.reduceEqDiff, reduceCtorEq, Nat.reduceAdd, Nat.reduceLeDiff, Nat.reduceSub, Nat.reduceMul, List.reduceReplicate, Int.reduceEq, Int.reduceLT, Int.reduceLE, Int.reduceAdd, Int.reduceSub, Int.reduceMul, Nat.reduceLT, Int.reduceToNat])))
              exact makeP_walk (b := b) (v40 := _) (v15 := 0) hgm hbl (by omega) (by omega) (by omega) (by simp -implicitDefEqProofs (maxSteps := 2000000) only [wk, act, asV, ↓reduceIte, Nat.reduceEqDiff, reduceCtorEq, Nat.reduceAdd, Nat.reduceLeDiff, Nat.reduceSub, Nat.reduceMul, List.reduceReplicate, Int.reduceEq, Int.reduceLT, Int.reduceLE, Int.reduceAdd, Int.reduceSub, Int.reduceMul, Nat.reduceLT, Int.reduceToNat]) (by simp -implicitDefEqProofs (maxSteps := 2000000) only [wk, act, asV, ↓reduceIte, Nat.reduceEqDiff, reduceCtorEq, Nat.reduceAdd, Nat.reduceLeDiff, Nat.reduceSub, Nat.reduceMul, List.reduceReplicate, Int.reduceEq, Int.reduceLT, Int.reduceLE, Int.reduceAdd, Int.reduceSub, Int.reduceMul, Nat.reduceLT, Int.reduceToNat]; first | done | rfl) (by simp -implicitDefEqProofs (maxSteps := 2000000) only [wk, act, asV, ↓reduceIte, Nat.reduceEqDiff, reduceCtorEq, Nat.reduceAdd, Nat.reduceLeDiff, Nat.reduceSub, Nat.reduceMul, List.reduceReplicate, Int.reduceEq, Int.reduceLT, Int.reduceLE, Int.reduceAdd, Int.reduceSub, Int.reduceMul, Nat.reduceLT, Int.reduceToNat]; first | done | rfl) (.inl ⟨h0, by simp -implicitDefEqProofs (maxSteps := 2000000) only [wk, act, asV, ↓reduceIte, Nat.reduceEqDiff, reduceCtorEq, Nat.reduceAdd, Nat.reduceLeDiff, Nat.reduceSub, Nat.reduceMul, List.reduceReplicate, Int.reduceEq, Int.reduceLT, Int.reduceLE, Int.reduceAdd, Int.reduceSub, Int.reduceMul, Nat.reduceLT, Int.reduceToNat]⟩)
            · rw [eo] at c1
              obtain rfl : f = .plain := by rcases hf with ⟨a, _⟩ | ⟨_, a⟩; exact absurd a h0; exact a
              repeat' (first | simp -implicitDefEqProofs (maxSteps := 2000000) only [m21, m21_r, m21_b, m21_1, m21_2, m21_3, m21_4, m21_5, m21_6, m21_7, m21_8, m21_9, m21_10, m21_11, m21_12, m21_13, m21_14, m21_15, m21_16, m21_26, m21_27, m21_28, m21_29, lb, tb, tv, lv, pv, hfi, hr1, hr2, h3', il_scal, bl_scal, bl_allO, wk, act, asV, ↓reduceIte, Nat.reduceEqDiff, reduceCtorEq, Nat.reduceAdd, Nat.reduceLeDiff, Nat.reduceSub, Nat.reduceMul, List.reduceReplicate, Int.reduceEq, Int.reduceLT, Int.reduceLE, Int.reduceAdd, Int.reduceSub, Int.reduceMul, Nat.reduceLT, Int.reduceToNat] | ((first | ((with_reducible refine CallL.gate ?_); apply CallL.of) | ((with_reducible refine CallP.gate ?_); apply CallP.of)); (case h1 => (simp -implicitDefEqProofs (maxSteps := 2000000) only [m21, m21_r, m21_b, m21_1, m21_2, m21_3, m21_4, m21_5, m21_6, m21_7, m21_8, m21_9, m21_10, m21_11, m21_12, m21_13, m21_14, m21_15, m21_16, m21_26, m21_27, m21_28, m21_29, lb, tb, tv, lv, pv, hfi, hr1, hr2, h3', il_scal, bl_scal, bl_allO, wk, act, asV, ↓reduceIte, Nat.reduceEqDiff, reduceCtorEq, Nat.reduceAdd, Nat.reduceLeDiff, Nat.reduceSub, Nat.reduceMul, List.reduceReplicate, Int.reduceEq, Int.reduceLT, Int.reduceLE, Int.reduceAdd, Int.reduceSub, Int.reduceMul, Nat.reduceLT, Int.reduceToNat]; first | done | (with_reducible rfl))); (case h2 => (first | exact c1 | exact cg | exact cf | exact cp)); (case h3 => simp -implicitDefEqProofs (maxSteps := 2000000) only [m21, m21_r, m21_b, m21_1, m21_2, m21_3, m21_4, m21_5, m21_6, m21_7, m21_8, m21_9, m21_10, m21_11, m21_12, m21_13, m21_14, m21_15, m21_16, m21_26, m21_27, m21_28, m21_29, lb, tb, tv, lv, pv, hfi, hr1, hr2, h3', il_scal, bl_scal, bl_allO, wk, act, asV, ↓reduceIte, Nat.reduceEqDiff, reduceCtorEq, Nat.reduceAdd, Nat.reduceLeDiff, Nat.reduceSub, Nat.reduceMul, List.reduceReplicate, Int.reduceEq, Int.reduceLT, Int.reduceLE, Int.reduceAdd, Int.reduceSub, Int.reduceMul, Nat.reduceLT, Int.reduceToNat])))
              exact makeP_walk (b := b) (v40 := _) (v15 := _) hgm hbl (by omega) (by omega) (by omega) (by simp -implicitDefEqProofs (maxSteps := 2000000) only [wk, act, asV, ↓reduceIte, Nat.reduceEqDiff, reduceCtorEq, Nat.reduceAdd, Nat.reduceLeDiff, Nat.reduceSub, Nat.reduceMul, List.reduceReplicate, Int.reduceEq, Int.reduceLT, Int.reduceLE, Int.reduceAdd, Int.reduceSub, Int.reduceMul, Nat.reduceLT, Int.reduceToNat]) (by simp -implicitDefEqProofs (maxSteps := 2000000) only [wk, act, asV, ↓reduceIte, Nat.reduceEqDiff, reduceCtorEq, Nat.reduceAdd, Nat.reduceLeDiff, Nat.reduceSub, Nat.reduceMul, List.reduceReplicate, Int.reduceEq, Int.reduceLT, Int.reduceLE, Int.reduceAdd, Int.reduceSub, Int.reduceMul, Nat.reduceLT, Int.reduceToNat]; first | done | rfl) (by simp -implicitDefEqProofs (maxSteps := 2000000) only [wk, act, asV, ↓reduceIte, Nat.reduceEqDiff, reduceCtorEq, Nat.reduceAdd, Nat.reduceLeDiff, Nat.reduceSub, Nat.reduceMul, List.reduceReplicate, Int.reduceEq, Int.reduceLT, Int.reduceLE, Int.reduceAdd, Int.reduceSub, Int.reduceMul, Nat.reduceLT, Int.reduceToNat]; first | done | rfl) (.inr ⟨h0, by simp -implicitDefEqProofs (maxSteps := 2000000) only [wk, act, asV, ↓reduceIte, Nat.reduceEqDiff, reduceCtorEq, Nat.reduceAdd, Nat.reduceLeDiff, Nat.reduceSub, Nat.reduceMul, List.reduceReplicate, Int.reduceEq, Int.reduceLT, Int.reduceLE, Int.reduceAdd, Int.reduceSub, Int.reduceMul, Nat.reduceLT, Int.reduceToNat]; first | done | rfl, by simp -implicitDefEqProofs (maxSteps := 2000000) only [wk, act, asV, ↓reduceIte, Nat.reduceEqDiff, reduceCtorEq, Nat.reduceAdd, Nat.reduceLeDiff, Nat.reduceSub, Nat.reduceMul, List.reduceReplicate, Int.reduceEq, Int.reduceLT, Int.reduceLE, Int.reduceAdd, Int.reduceSub, Int.reduceMul, Nat.reduceLT, Int.reduceToNat]; first | done | rfl⟩)
end Go.Proofs.YtilbipknodpmmaaDoor
