/- Of the audit: entries, and an answer's record. -/
import Derived.Test.YtkphojcmjffccaaZ2
import Derived.Test.YtkphojcmjffccaaU3
import Derived.Test.YtkphojcmjffccaaE31
import Derived.Test.YtkphojcmjffccaaM16
set_option linter.unusedVariables false
set_option linter.unusedSimpArgs false
set_option linter.unusedSectionVars false
set_option maxRecDepth 100000
set_option maxHeartbeats 8000000
namespace Go.Proofs.Ytkphojcmjffccaa
open Go.RowKit

structure En where
  asked : List UInt8
  id : Int
  e : Int
  link : List UInt8
structure En.Ok (x : En) : Prop where
  a : x.asked.length = 32
  l : x.link.length = 32
def enC (x : En) : List IV := bl x.asked ++ (.int .i64 x.id :: .int .i64 x.e :: bl x.link)
def enL (xs : List En) : List IV := xs.flatMap enC
theorem enC_length {x : En} (h : x.Ok) : (enC x).length = 66 := by simp [enC, bl_length, h.a, h.l]
theorem enL_length {xs : List En} (h : ∀ x ∈ xs, x.Ok) : (enL xs).length = xs.length * 66 := by
  induction xs with
  | nil => rfl
  | cons x xs ih =>
    have := ih fun y hy => h y (by simp [hy])
    simp only [enL, List.flatMap_cons, List.length_append, List.length_cons] at this ⊢
    rw [this, enC_length (h x (by simp))]; omega
theorem enL_drop : ∀ {xs : List En} (h : ∀ x ∈ xs, x.Ok) {i : Nat} (hi : i < xs.length), (enL xs).drop (i * 66) = enC xs[i] ++ (enL xs).drop ((i + 1) * 66)
  | x :: xs, h, 0, hi => by
    have hl := enC_length (h x (by simp))
    simp only [enL, List.flatMap_cons, Nat.zero_mul, List.drop_zero, List.getElem_cons_zero, Nat.zero_add, Nat.one_mul]
    rw [List.drop_append, List.drop_of_length_le (by omega), hl]; simp
  | x :: xs, h, i + 1, hi => by
    have hl := enC_length (h x (by simp))
    have := enL_drop (xs := xs) (fun y hy => h y (by simp [hy])) (i := i) (by simpa using hi)
    have e1 : ∀ k, 66 ≤ k → List.drop k (enC x ++ List.flatMap enC xs) = List.drop (k - 66) (List.flatMap enC xs) := fun k hk => by
      rw [List.drop_append, List.drop_of_length_le (by omega), hl, List.nil_append]
    simp only [enL, List.flatMap_cons, List.getElem_cons_succ] at this ⊢
    rw [e1 _ (by omega), e1 _ (by omega), show (i + 1) * 66 - 66 = i * 66 by omega, show (i + 1 + 1) * 66 - 66 = (i + 1) * 66 by omega]
    exact this
theorem enC_scal (x : En) : (enC x).all IV.scal = true := by simp [enC, IV.scal, bl_scal]
theorem purL_append' : ∀ (a b : List IV), IV.purL a = true → IV.purL b = true → IV.purL (a ++ b) = true
  | [], b, _, h => h
  | x :: a, b, h1, h2 => by
    simp only [List.cons_append, IV.purL, Bool.and_eq_true] at h1 ⊢
    exact ⟨h1.1, purL_append' a b h1.2 h2⟩
theorem enC_pur (x : En) : IV.purL (enC x) = true := purL_append' _ _ (bl_pur _) (by simp only [IV.purL, IV.pur, Bool.true_and]; exact bl_pur _)
theorem enL_pur (xs : List En) : IV.purL (enL xs) = true := by
  induction xs with
  | nil => rfl
  | cons x xs ih => exact purL_append' _ _ (enC_pur x) ih
theorem enL_scal (xs : List En) : (enL xs).all IV.scal = true := by
  induction xs with
  | nil => rfl
  | cons x xs ih =>
    have := enC_scal x
    simp only [enL, List.flatMap_cons, List.all_append, Bool.and_eq_true] at ih ⊢
    exact ⟨this, ih⟩
theorem enL_append (a b : List En) : enL (a ++ b) = enL a ++ enL b := by simp [enL]

def rpE (id e : Int) : Rp := ⟨id, e, .full, []⟩
def recR (asked : List UInt8) (id e : Int) : List UInt8 := if good (rpE id e) = true then asked ++ renc (rpE id e) else []
def recE (id e : Int) : Int := encE (rpE id e)
theorem record_ok (asked : List UInt8) (ha : asked.length = 32) (r : Rp) (hf : ¬ r.f = .lit) : RC Try.prog 15 [.agg (bl asked), .agg (rc r)] [.own (recR asked r.id r.e).length 1 (bl (recR asked r.id r.e)), .int .i64 (recE r.id r.e)] := by
  refine RC.of_wpW c15 rfl ?_
  have c1 := reply_ok (rpE r.id r.e) (fun h => by cases h)
  have la : (bl asked).length = 32 := by rw [bl_length, ha]
  have ta : List.take 32 (bl asked) = bl asked := List.take_of_length_le (by omega)
  have sa := bl_scal asked
  by_cases hg : good (rpE r.id r.e) = true
  · have e1 : encB (rpE r.id r.e) = renc (rpE r.id r.e) := if_pos hg
    have e2 : encE (rpE r.id r.e) = 0 := if_pos hg
    have e3 : recR asked r.id r.e = asked ++ renc (rpE r.id r.e) := if_pos hg
    have e4 : recE r.id r.e = 0 := e2
    have hl : (renc (rpE r.id r.e)).length = 8 := renc_length _
    rw [e1, e2, hl] at c1
    rw [e3, e4, List.length_append, ha, hl, bl_append]
    obtain ⟨w, hw⟩ : ∃ w, w = renc (rpE r.id r.e) := ⟨_, rfl⟩
    rw [← hw] at c1 hl ⊢
    have lw : (bl w).length = 8 := by rw [bl_length, hl]
    have tw : List.take 8 (bl w) = bl w := List.take_of_length_le (by omega)
    have t40 : List.take 40 (bl asked ++ bl w) = bl asked ++ bl w := List.take_of_length_le (by rw [List.length_append]; omega)
    have r40 : roomy 40 1 = true := by decide
    simp only [rc, rpE, List.length_nil, bl_nil] at c1 ⊢
    repeat' (first | simp -implicitDefEqProofs (maxSteps := 2000000) only [m15_1, m15_2, m15_3, m15_4, m15_5, m15_6, m15_7, m15_r, m15_b, m15, la, ta, sa, lw, tw, r40, bl_pur, wk, act, asV, ↓reduceIte, Nat.reduceEqDiff, reduceCtorEq, Nat.reduceAdd, Nat.reduceLeDiff, Nat.reduceSub, Nat.reduceMul, List.reduceReplicate, Int.reduceEq, Int.reduceLT, Int.reduceLE, Int.reduceAdd, Int.reduceSub, Int.reduceMul, Nat.reduceLT, Int.reduceToNat] | ((first | ((with_reducible refine CallL.gate ?_); apply CallL.of) | ((with_reducible refine CallpL.gate ?_); apply CallpL.of) | ((with_reducible refine CallP.gate ?_); apply CallP.of) | ((with_reducible refine CallpP.gate ?_); apply CallpP.of)); (case h1 => (simp -implicitDefEqProofs (maxSteps := 2000000) only [m15_1, m15_2, m15_3, m15_4, m15_5, m15_6, m15_7, m15_r, m15_b, m15, la, ta, sa, lw, tw, r40, bl_pur, wk, act, asV, ↓reduceIte, Nat.reduceEqDiff, reduceCtorEq, Nat.reduceAdd, Nat.reduceLeDiff, Nat.reduceSub, Nat.reduceMul, List.reduceReplicate, Int.reduceEq, Int.reduceLT, Int.reduceLE, Int.reduceAdd, Int.reduceSub, Int.reduceMul, Nat.reduceLT, Int.reduceToNat]; first | done | (with_reducible rfl))); (case h2 => (first | exact c1)); (case h3 => simp -implicitDefEqProofs (maxSteps := 2000000) only [m15_1, m15_2, m15_3, m15_4, m15_5, m15_6, m15_7, m15_r, m15_b, m15, la, ta, sa, lw, tw, r40, bl_pur, wk, act, asV, ↓reduceIte, Nat.reduceEqDiff, reduceCtorEq, Nat.reduceAdd, Nat.reduceLeDiff, Nat.reduceSub, Nat.reduceMul, List.reduceReplicate, Int.reduceEq, Int.reduceLT, Int.reduceLE, Int.reduceAdd, Int.reduceSub, Int.reduceMul, Nat.reduceLT, Int.reduceToNat])))
    exact PostW.mk (r' := [.own 40 1 (bl asked ++ bl w), .int .i64 0]) (by simp -implicitDefEqProofs (maxSteps := 2000000) only [t40, wk, act, asV, ↓reduceIte, Nat.reduceEqDiff, reduceCtorEq, Nat.reduceAdd, Nat.reduceLeDiff, Nat.reduceSub, Nat.reduceMul, List.reduceReplicate, Int.reduceEq, Int.reduceLT, Int.reduceLE, Int.reduceAdd, Int.reduceSub, Int.reduceMul, Nat.reduceLT, Int.reduceToNat]) (.cons (.inl rfl) (.cons (.inl rfl) .nil)) (Nat.le_refl 1) (Nat.le_refl 1)
  · have e1 : encB (rpE r.id r.e) = [] := if_neg hg
    have e2 : encE (rpE r.id r.e) = 11 := if_neg hg
    have e3 : recR asked r.id r.e = [] := if_neg hg
    have e4 : recE r.id r.e = 11 := e2
    rw [e1, e2] at c1
    rw [e3, e4]
    simp only [rc, rpE, List.length_nil, bl_nil] at c1 ⊢
    repeat' (first | simp -implicitDefEqProofs (maxSteps := 2000000) only [m15_1, m15_2, m15_3, m15_4, m15_5, m15_6, m15_7, m15_r, m15_b, m15, la, ta, sa, bl_pur, wk, act, asV, ↓reduceIte, Nat.reduceEqDiff, reduceCtorEq, Nat.reduceAdd, Nat.reduceLeDiff, Nat.reduceSub, Nat.reduceMul, List.reduceReplicate, Int.reduceEq, Int.reduceLT, Int.reduceLE, Int.reduceAdd, Int.reduceSub, Int.reduceMul, Nat.reduceLT, Int.reduceToNat] | ((first | ((with_reducible refine CallL.gate ?_); apply CallL.of) | ((with_reducible refine CallpL.gate ?_); apply CallpL.of) | ((with_reducible refine CallP.gate ?_); apply CallP.of) | ((with_reducible refine CallpP.gate ?_); apply CallpP.of)); (case h1 => (simp -implicitDefEqProofs (maxSteps := 2000000) only [m15_1, m15_2, m15_3, m15_4, m15_5, m15_6, m15_7, m15_r, m15_b, m15, la, ta, sa, bl_pur, wk, act, asV, ↓reduceIte, Nat.reduceEqDiff, reduceCtorEq, Nat.reduceAdd, Nat.reduceLeDiff, Nat.reduceSub, Nat.reduceMul, List.reduceReplicate, Int.reduceEq, Int.reduceLT, Int.reduceLE, Int.reduceAdd, Int.reduceSub, Int.reduceMul, Nat.reduceLT, Int.reduceToNat]; first | done | (with_reducible rfl))); (case h2 => (first | exact c1)); (case h3 => simp -implicitDefEqProofs (maxSteps := 2000000) only [m15_1, m15_2, m15_3, m15_4, m15_5, m15_6, m15_7, m15_r, m15_b, m15, la, ta, sa, bl_pur, wk, act, asV, ↓reduceIte, Nat.reduceEqDiff, reduceCtorEq, Nat.reduceAdd, Nat.reduceLeDiff, Nat.reduceSub, Nat.reduceMul, List.reduceReplicate, Int.reduceEq, Int.reduceLT, Int.reduceLE, Int.reduceAdd, Int.reduceSub, Int.reduceMul, Nat.reduceLT, Int.reduceToNat])))
    exact PostW.mk (r' := [.sl .full 0 [], .int .i64 11]) (by simp -implicitDefEqProofs (maxSteps := 2000000) only [wk, act, asV, ↓reduceIte, Nat.reduceEqDiff, reduceCtorEq, Nat.reduceAdd, Nat.reduceLeDiff, Nat.reduceSub, Nat.reduceMul, List.reduceReplicate, Int.reduceEq, Int.reduceLT, Int.reduceLE, Int.reduceAdd, Int.reduceSub, Int.reduceMul, Nat.reduceLT, Int.reduceToNat]) (.cons (.inr ⟨rfl, 1, rfl⟩) (.cons (.inl rfl) .nil)) (by decide) (by decide)
end Go.Proofs.Ytkphojcmjffccaa
/- Of the audit: the first entry that is not right. -/
set_option linter.unusedVariables false
set_option linter.unusedSimpArgs false
set_option linter.unusedSectionVars false
set_option maxRecDepth 100000
set_option maxHeartbeats 8000000
namespace Go.Proofs.Ytkphojcmjffccaa
open Go.RowKit

def y32 : List UInt8 := List.replicate 32 0
theorem y32_cells : List.replicate 32 (IV.int .u8 0) = bl y32 := rfl
theorem recR_le (a : List UInt8) (ha : a.length = 32) (id e : Int) : (recR a id e).length ≤ 40 := by
  unfold recR; split
  · rw [List.length_append, ha, renc_length]; simp [rpE]
  · simp
def verG : List UInt8 → List En → Nat → Int
  | _, [], _ => -1
  | h, x :: xs, i => if recE x.id x.e = 0 ∧ shaB (h ++ recR x.asked x.id x.e) = x.link then verG x.link xs (i + 1) else (i : Int)
theorem recE_cases (id e : Int) : recE id e = 0 ∨ recE id e = 11 := by
  unfold recE encE; split <;> simp
theorem en_takes {x : En} (h : x.Ok) : List.take 32 (enC x) = bl x.asked ∧ List.take 1 (List.drop 32 (enC x)) = [.int .i64 x.id] ∧ List.take 1 (List.drop 33 (enC x)) = [.int .i64 x.e] ∧ List.take 32 (List.drop 34 (enC x)) = bl x.link := by
  have la : (bl x.asked).length = 32 := by rw [bl_length, h.a]
  have ll : (bl x.link).length = 32 := by rw [bl_length, h.l]
  have d : ∀ k, List.drop (32 + k) (enC x) = List.drop k (.int .i64 x.id :: .int .i64 x.e :: bl x.link) := fun k => by
    rw [enC, List.drop_append, List.drop_of_length_le (by omega), la, List.nil_append, show 32 + k - 32 = k by omega]
  refine ⟨?_, ?_, ?_, ?_⟩
  · rw [enC, List.take_append, la, Nat.sub_self, List.take_zero, List.append_nil, List.take_of_length_le (by omega)]
  · rw [d 0]; rfl
  · rw [d 1]; rfl
  · rw [d 2]; show List.take 32 (bl x.link) = _; exact List.take_of_length_le (by omega)
theorem verify_ok (f : Fl) (xs : List En) (hx : ∀ x ∈ xs, x.Ok) (hn : xs.length < 2 ^ 62) : RC Try.prog 20 [.sl f xs.length (enL xs)] [.int .i64 (verG y32 xs 0)] := by
  refine RC.of_wp c20 rfl ?_
  have y6 := y32_cells
  simp -implicitDefEqProofs (maxSteps := 2000000) only [m20_1, m20_2, m20_3, m20_4, m20_5, m20_6, m20_7, m20_8, m20_9, m20_10, m20_11, m20_12, m20_13, m20_14, m20_15, m20_r, m20_b, m20, y6, wk, act, asV, ↓reduceIte, Nat.reduceEqDiff, reduceCtorEq, Nat.reduceAdd, Nat.reduceLeDiff, Nat.reduceSub, Nat.reduceMul, List.reduceReplicate, Int.reduceEq, Int.reduceLT, Int.reduceLE, Int.reduceAdd, Int.reduceSub, Int.reduceMul, Nat.reduceLT, Int.reduceToNat]
  refine Wp_loop (fun m s => ∃ i h, i ≤ xs.length ∧ m = xs.length - i ∧ h.length = 32 ∧ verG y32 xs 0 = verG h (xs.drop i) i ∧ s.t 8 = .sl f xs.length (enL xs) ∧ s.t 9 = .int .i64 (xs.length : Nat) ∧ s.t 10 = .int .i64 (i : Nat) ∧ ∃ v, s.t 3 = .ptr 3 0 v ∧ s.h 3 = ⟨v, true, true, false, bl h⟩) xs.length ⟨0, y32, by omega, rfl, rfl, rfl, rfl, rfl, rfl, _, rfl, rfl⟩ ?_
  rintro m s ⟨i, h, hi, rfl, hh, hv, k8, k9, k10, v, k3, kh3⟩
  rw [hv]
  by_cases hil : i < xs.length
  · have hil' : (i : Int) < xs.length := by omega
    have hxi := hx _ (List.getElem_mem hil)
    obtain ⟨x, hxx⟩ : ∃ x, x = xs[i] := ⟨_, rfl⟩
    rw [← hxx] at hxi
    have eX := enL_drop hx hil
    rw [← hxx] at eX
    have lX := enC_length hxi
    have tX : List.take 66 (enC x ++ List.drop ((i + 1) * 66) (enL xs)) = enC x := by rw [List.take_append, lX, Nat.sub_self, List.take_zero, List.append_nil, List.take_of_length_le (by omega)]
    have lL := enL_length hx
    have l66 : 66 ≤ (enC x ++ List.drop ((i + 1) * 66) (enL xs)).length := by rw [List.length_append]; omega
    have sX := enC_scal x
    obtain ⟨p1, p2, p3, p4⟩ := en_takes hxi
    have dX : List.take 66 (enC x) = enC x := List.take_of_length_le (by omega)
    have c1 := record_ok x.asked hxi.a (rpE x.id x.e) (fun h => by cases h)
    have rl := recR_le x.asked hxi.a x.id x.e
    have c2 := step_ok .full (by decide) h [(.plain, recR x.asked x.id x.e)] hh (by simp) (by rw [one_part]; omega)
    have ep : pl [(Fl.plain, recR x.asked x.id x.e)] = [.sl .plain (recR x.asked x.id x.e).length (bl (recR x.asked x.id x.e))] := rfl
    rw [one_part, ep, List.length_cons, List.length_nil] at c2
    have dl : (shaB (h ++ recR x.asked x.id x.e)).length = 32 := digest_length _
    have q1 := eqL_by (shaB (h ++ recR x.asked x.id x.e)) x.link (by rw [dl, hxi.l])
    have q2 := fitR_by dl
    have hd : xs.drop i = x :: xs.drop (i + 1) := by rw [hxx]; exact List.drop_eq_getElem_cons hil
    rw [hd, verG]
    have hlh : (bl h).length = 32 := by rw [bl_length, hh]
    have th : List.take 32 (bl h) = bl h := List.take_of_length_le (by omega)
    have xh : List.drop 32 (bl h) = [] := List.drop_of_length_le (by omega)
    have lk := hxi.l
    obtain ⟨G, hG⟩ : ∃ G, G = shaB (h ++ recR x.asked x.id x.e) := ⟨_, rfl⟩
    rw [← hG] at c2 dl q1 q2 ⊢
    have lG : (bl G).length = 32 := by rw [bl_length, dl]
    have tG : List.take 32 (bl G) = bl G := List.take_of_length_le (by omega)
    have wi : IntKind.i64.wrap (((i : Nat) : Int) + 1) = ((i + 1 : Nat) : Int) := by rw [IntKind.wrap_i64]; omega
    have e0 : (rpE x.id x.e).id = x.id := rfl
    have e1 : (rpE x.id x.e).e = x.e := rfl
    rw [e0, e1] at c1
    obtain ⟨R, hR⟩ : ∃ R, R = recR x.asked x.id x.e := ⟨_, rfl⟩
    rw [← hR] at c1 c2
    have tR := take_bl R
    have hlR : (bl R).length = R.length := bl_length R
    simp only [rc, rpE, List.length_nil, bl_nil] at c1
    rcases recE_cases x.id x.e with hr | hr
    · rw [hr] at c1
      by_cases hk : G = x.link
      · rw [if_pos ⟨hr, hk⟩]
        rw [decide_eq_true hk] at q1
        repeat' (first | simp -implicitDefEqProofs (maxSteps := 2000000) only [k8, k9, k10, k3, kh3, hil', eX, lX, tX, lL, l66, sX, p1, p2, p3, p4, dX, q1, q2, hlh, th, xh, lG, tG, wi, tR, hlR, bl_scal, bl_pur, wk, act, asV, ↓reduceIte, Nat.reduceEqDiff, reduceCtorEq, Nat.reduceAdd, Nat.reduceLeDiff, Nat.reduceSub, Nat.reduceMul, List.reduceReplicate, Int.reduceEq, Int.reduceLT, Int.reduceLE, Int.reduceAdd, Int.reduceSub, Int.reduceMul, Nat.reduceLT, Int.reduceToNat] | ((first | ((with_reducible refine CallL.gate ?_); apply CallL.of) | ((with_reducible refine CallpL.gate ?_); apply CallpL.of) | ((with_reducible refine CallP.gate ?_); apply CallP.of) | ((with_reducible refine CallpP.gate ?_); apply CallpP.of)); (case h1 => (simp -implicitDefEqProofs (maxSteps := 2000000) only [k8, k9, k10, k3, kh3, hil', eX, lX, tX, lL, l66, sX, p1, p2, p3, p4, dX, q1, q2, hlh, th, xh, lG, tG, wi, tR, hlR, bl_scal, bl_pur, wk, act, asV, ↓reduceIte, Nat.reduceEqDiff, reduceCtorEq, Nat.reduceAdd, Nat.reduceLeDiff, Nat.reduceSub, Nat.reduceMul, List.reduceReplicate, Int.reduceEq, Int.reduceLT, Int.reduceLE, Int.reduceAdd, Int.reduceSub, Int.reduceMul, Nat.reduceLT, Int.reduceToNat]; first | done | (with_reducible rfl))); (case h2 => (first | exact c1 | exact c2)); (case h3 => simp -implicitDefEqProofs (maxSteps := 2000000) only [k8, k9, k10, k3, kh3, hil', eX, lX, tX, lL, l66, sX, p1, p2, p3, p4, dX, q1, q2, hlh, th, xh, lG, tG, wi, tR, hlR, bl_scal, bl_pur, wk, act, asV, ↓reduceIte, Nat.reduceEqDiff, reduceCtorEq, Nat.reduceAdd, Nat.reduceLeDiff, Nat.reduceSub, Nat.reduceMul, List.reduceReplicate, Int.reduceEq, Int.reduceLT, Int.reduceLE, Int.reduceAdd, Int.reduceSub, Int.reduceMul, Nat.reduceLT, Int.reduceToNat])))
        exact ⟨xs.length - (i + 1), by omega, i + 1, x.link, by omega, rfl, lk, rfl, rfl, v, rfl, by rw [hk]⟩
      · rw [if_neg (fun h => hk h.2)]
        rw [decide_eq_false hk] at q1
        repeat' (first | simp -implicitDefEqProofs (maxSteps := 2000000) only [k8, k9, k10, k3, kh3, hil', eX, lX, tX, lL, l66, sX, p1, p2, p3, p4, dX, q1, q2, hlh, th, xh, lG, tG, wi, tR, hlR, bl_scal, bl_pur, wk, act, asV, ↓reduceIte, Nat.reduceEqDiff, reduceCtorEq, Nat.reduceAdd, Nat.reduceLeDiff, Nat.reduceSub, Nat.reduceMul, List.reduceReplicate, Int.reduceEq, Int.reduceLT, Int.reduceLE, Int.reduceAdd, Int.reduceSub, Int.reduceMul, Nat.reduceLT, Int.reduceToNat] | ((first | ((with_reducible refine CallL.gate ?_); apply CallL.of) | ((with_reducible refine CallpL.gate ?_); apply CallpL.of) | ((with_reducible refine CallP.gate ?_); apply CallP.of) | ((with_reducible refine CallpP.gate ?_); apply CallpP.of)); (case h1 => (simp -implicitDefEqProofs (maxSteps := 2000000) only [k8, k9, k10, k3, kh3, hil', eX, lX, tX, lL, l66, sX, p1, p2, p3, p4, dX, q1, q2, hlh, th, xh, lG, tG, wi, tR, hlR, bl_scal, bl_pur, wk, act, asV, ↓reduceIte, Nat.reduceEqDiff, reduceCtorEq, Nat.reduceAdd, Nat.reduceLeDiff, Nat.reduceSub, Nat.reduceMul, List.reduceReplicate, Int.reduceEq, Int.reduceLT, Int.reduceLE, Int.reduceAdd, Int.reduceSub, Int.reduceMul, Nat.reduceLT, Int.reduceToNat]; first | done | (with_reducible rfl))); (case h2 => (first | exact c1 | exact c2)); (case h3 => simp -implicitDefEqProofs (maxSteps := 2000000) only [k8, k9, k10, k3, kh3, hil', eX, lX, tX, lL, l66, sX, p1, p2, p3, p4, dX, q1, q2, hlh, th, xh, lG, tG, wi, tR, hlR, bl_scal, bl_pur, wk, act, asV, ↓reduceIte, Nat.reduceEqDiff, reduceCtorEq, Nat.reduceAdd, Nat.reduceLeDiff, Nat.reduceSub, Nat.reduceMul, List.reduceReplicate, Int.reduceEq, Int.reduceLT, Int.reduceLE, Int.reduceAdd, Int.reduceSub, Int.reduceMul, Nat.reduceLT, Int.reduceToNat])))
    · rw [hr] at c1
      rw [if_neg (fun h => by rw [hr] at h; exact absurd h.1 (by decide))]
      repeat' (first | simp -implicitDefEqProofs (maxSteps := 2000000) only [k8, k9, k10, k3, kh3, hil', eX, lX, tX, lL, l66, sX, p1, p2, p3, p4, dX, hlh, th, xh, wi, tR, hlR, bl_scal, bl_pur, wk, act, asV, ↓reduceIte, Nat.reduceEqDiff, reduceCtorEq, Nat.reduceAdd, Nat.reduceLeDiff, Nat.reduceSub, Nat.reduceMul, List.reduceReplicate, Int.reduceEq, Int.reduceLT, Int.reduceLE, Int.reduceAdd, Int.reduceSub, Int.reduceMul, Nat.reduceLT, Int.reduceToNat] | ((first | ((with_reducible refine CallL.gate ?_); apply CallL.of) | ((with_reducible refine CallpL.gate ?_); apply CallpL.of) | ((with_reducible refine CallP.gate ?_); apply CallP.of) | ((with_reducible refine CallpP.gate ?_); apply CallpP.of)); (case h1 => (simp -implicitDefEqProofs (maxSteps := 2000000) only [k8, k9, k10, k3, kh3, hil', eX, lX, tX, lL, l66, sX, p1, p2, p3, p4, dX, hlh, th, xh, wi, tR, hlR, bl_scal, bl_pur, wk, act, asV, ↓reduceIte, Nat.reduceEqDiff, reduceCtorEq, Nat.reduceAdd, Nat.reduceLeDiff, Nat.reduceSub, Nat.reduceMul, List.reduceReplicate, Int.reduceEq, Int.reduceLT, Int.reduceLE, Int.reduceAdd, Int.reduceSub, Int.reduceMul, Nat.reduceLT, Int.reduceToNat]; first | done | (with_reducible rfl))); (case h2 => (first | exact c1 | exact c2)); (case h3 => simp -implicitDefEqProofs (maxSteps := 2000000) only [k8, k9, k10, k3, kh3, hil', eX, lX, tX, lL, l66, sX, p1, p2, p3, p4, dX, hlh, th, xh, wi, tR, hlR, bl_scal, bl_pur, wk, act, asV, ↓reduceIte, Nat.reduceEqDiff, reduceCtorEq, Nat.reduceAdd, Nat.reduceLeDiff, Nat.reduceSub, Nat.reduceMul, List.reduceReplicate, Int.reduceEq, Int.reduceLT, Int.reduceLE, Int.reduceAdd, Int.reduceSub, Int.reduceMul, Nat.reduceLT, Int.reduceToNat])))
  · obtain rfl : i = xs.length := by omega
    have hil' : ¬ ((xs.length : Nat) : Int) < xs.length := by omega
    rw [List.drop_of_length_le (Nat.le_refl _), verG]
    simp -implicitDefEqProofs (maxSteps := 2000000) only [k8, k9, k10, hil', wk, act, asV, ↓reduceIte, Nat.reduceEqDiff, reduceCtorEq, Nat.reduceAdd, Nat.reduceLeDiff, Nat.reduceSub, Nat.reduceMul, List.reduceReplicate, Int.reduceEq, Int.reduceLT, Int.reduceLE, Int.reduceAdd, Int.reduceSub, Int.reduceMul, Nat.reduceLT, Int.reduceToNat]
end Go.Proofs.Ytkphojcmjffccaa
/- Of the audit: the first entry that is not right, by the reference; entries of one's own. -/
set_option linter.unusedVariables false
set_option linter.unusedSimpArgs false
set_option linter.unusedSectionVars false
set_option maxRecDepth 100000
set_option maxHeartbeats 8000000
namespace Go.Proofs.Ytkphojcmjffccaa
open Go.RowKit

theorem en_takesA {x : En} (h : x.Ok) (Z : List IV) : List.take 32 (enC x ++ Z) = bl x.asked ∧ List.take 1 (List.drop 32 (enC x ++ Z)) = [.int .i64 x.id] ∧ List.take 1 (List.drop 33 (enC x ++ Z)) = [.int .i64 x.e] ∧ List.take 32 (List.drop 34 (enC x ++ Z)) = bl x.link ∧
    32 ≤ (enC x ++ Z).length ∧ 1 ≤ (List.drop 32 (enC x ++ Z)).length ∧ 1 ≤ (List.drop 33 (enC x ++ Z)).length ∧ 32 ≤ (List.drop 34 (enC x ++ Z)).length := by
  obtain ⟨p1, p2, p3, p4⟩ := en_takes h
  have lX := enC_length h
  have t : ∀ n k, k + n ≤ 66 → List.take n (List.drop k (enC x ++ Z)) = List.take n (List.drop k (enC x)) := fun n k hk => by
    rw [List.drop_append_of_le_length (by omega), List.take_append_of_le_length (by rw [List.length_drop]; omega)]
  have l : (enC x ++ Z).length = 66 + Z.length := by rw [List.length_append, lX]
  have t0 := t 32 0 (by omega)
  rw [List.drop_zero, List.drop_zero, p1] at t0
  exact ⟨t0, (t 1 32 (by omega)).trans p2, (t 1 33 (by omega)).trans p3, (t 32 34 (by omega)).trans p4, by omega, by rw [List.length_drop]; omega, by rw [List.length_drop]; omega, by rw [List.length_drop]; omega⟩
theorem roomy80 {n : Nat} (h : n ≤ 2 ^ 30) : roomy n 80 = true := by simp [roomy]; omega
theorem enL_take (xs : List En) (h : ∀ x ∈ xs, x.Ok) : List.take (xs.length * 66) (enL xs) = enL xs := List.take_of_length_le (by rw [enL_length h]; exact Nat.le_refl _)
theorem cloneE_ok (f : Fl) (hf : ¬ f = .lit) (xs : List En) (hx : ∀ x ∈ xs, x.Ok) (hn : xs.length ≤ 2 ^ 30) : RC Try.prog 30 [.sl f xs.length (enL xs)] [.own xs.length 66 (enL xs)] := by
  refine RC.of_wpW c30 rfl ?_
  have hr := roomy80 hn
  have hl := enL_length hx
  have hp := enL_pur xs
  have ht := enL_take xs hx
  by_cases h0 : xs = []
  · subst h0
    have hr0 : roomy 0 80 = true := by decide
    simp -implicitDefEqProofs (maxSteps := 2000000) only [m30_1, m30_2, m30_3, m30_r, m30_b, m30, (show enL [] = [] from rfl), Int.lt_irrefl, hr0, wk, act, asV, ↓reduceIte, Nat.reduceEqDiff, reduceCtorEq, Nat.reduceAdd, Nat.reduceLeDiff, Nat.reduceSub, Nat.reduceMul, List.reduceReplicate, Int.reduceEq, Int.reduceLT, Int.reduceLE, Int.reduceAdd, Int.reduceSub, Int.reduceMul, Nat.reduceLT, Int.reduceToNat]
    constructor
    · exact PostW.mk (r' := [.sl .full 0 []]) (by simp -implicitDefEqProofs (maxSteps := 2000000) only [wk, act, asV, ↓reduceIte, Nat.reduceEqDiff, reduceCtorEq, Nat.reduceAdd, Nat.reduceLeDiff, Nat.reduceSub, Nat.reduceMul, List.reduceReplicate, Int.reduceEq, Int.reduceLT, Int.reduceLE, Int.reduceAdd, Int.reduceSub, Int.reduceMul, Nat.reduceLT, Int.reduceToNat]) (.cons (.inr ⟨rfl, 66, rfl⟩) .nil) (by decide) (by decide)
    · exact PostW.mk (r' := [.own 0 66 []]) (by simp -implicitDefEqProofs (maxSteps := 2000000) only [wk, act, asV, ↓reduceIte, Nat.reduceEqDiff, reduceCtorEq, Nat.reduceAdd, Nat.reduceLeDiff, Nat.reduceSub, Nat.reduceMul, List.reduceReplicate, Int.reduceEq, Int.reduceLT, Int.reduceLE, Int.reduceAdd, Int.reduceSub, Int.reduceMul, Nat.reduceLT, Int.reduceToNat]) (.cons (.inl rfl) .nil) (by decide) (by decide)
  · have hpos : 0 < xs.length := List.length_pos_iff.2 h0
    have hpos2 : 0 < xs.length * 66 := by omega
    simp -implicitDefEqProofs (maxSteps := 2000000) only [m30_1, m30_2, m30_3, m30_r, m30_b, m30, hpos, hpos2, hr, hl, hp, wk, act, asV, ↓reduceIte, Nat.reduceEqDiff, reduceCtorEq, Nat.reduceAdd, Nat.reduceLeDiff, Nat.reduceSub, Nat.reduceMul, List.reduceReplicate, Int.reduceEq, Int.reduceLT, Int.reduceLE, Int.reduceAdd, Int.reduceSub, Int.reduceMul, Nat.reduceLT, Int.reduceToNat]
    exact PostW.mk (r' := [.own xs.length 66 (enL xs)]) (by simp -implicitDefEqProofs (maxSteps := 2000000) only [ht, hl, wk, act, asV, ↓reduceIte, Nat.reduceEqDiff, reduceCtorEq, Nat.reduceAdd, Nat.reduceLeDiff, Nat.reduceSub, Nat.reduceMul, List.reduceReplicate, Int.reduceEq, Int.reduceLT, Int.reduceLE, Int.reduceAdd, Int.reduceSub, Int.reduceMul, Nat.reduceLT, Int.reduceToNat]) (.cons (.inl rfl) .nil) (Nat.le_refl 1) (Nat.le_refl 1)
end Go.Proofs.Ytkphojcmjffccaa
/- Of the audit: a log's last digest, and its entries. -/
set_option linter.unusedVariables false
set_option linter.unusedSimpArgs false
set_option linter.unusedSectionVars false
set_option maxRecDepth 100000
set_option maxHeartbeats 8000000
namespace Go.Proofs.Ytkphojcmjffccaa
open Go.RowKit

@[reducible] def offA : Off := ⟨1000⟩
@[reducible] def offB : Off := ⟨2000⟩
@[reducible] def offC : Off := ⟨3000⟩
@[reducible] def offD : Off := ⟨4000⟩
@[reducible] def offE : Off := ⟨5000⟩
theorem homA {d : Nat} : @hom offA d = 1000 + d := rfl
theorem homB {d : Nat} : @hom offB d = 2000 + d := rfl
theorem homE {d : Nat} : @hom offE d = 5000 + d := rfl
def HeldE (x : Nat) (H : Nat → Blk) (v : IV) (xs : List En) : Prop :=
  (xs = [] ∧ v = .sl .full 0 []) ∨ (0 < xs.length ∧ ∃ ver, v = .row x 0 xs.length 66 ver ∧ H x = ⟨ver, true, true, true, enL xs⟩)
def ObjE (h hv x : Nat) (H : Nat → Blk) (xs : List En) : Prop := ∃ v, H h = ⟨hv, true, true, false, [v]⟩ ∧ HeldE x H v xs
def lastE (xs : List En) : List UInt8 := match xs.getLast? with | some x => x.link | none => y32
theorem lastE_len {xs : List En} (hx : ∀ x ∈ xs, x.Ok) : (lastE xs).length = 32 := by
  unfold lastE
  split
  · rename_i x hl
    exact (hx x (List.mem_of_getLast? hl)).l
  · rfl
theorem lastE_at {xs : List En} (hx : ∀ x ∈ xs, x.Ok) (hp : 0 < xs.length) : List.take 32 (List.drop ((xs.length - 1) * 66 + 34) (enL xs)) = bl (lastE xs) ∧ (xs.length - 1) * 66 + 34 + 32 ≤ (enL xs).length := by
  have hi : xs.length - 1 < xs.length := by omega
  have e := enL_drop hx hi
  have lL := enL_length hx
  have hl : xs.getLast? = some xs[xs.length - 1] := by rw [List.getLast?_eq_getElem?, List.getElem?_eq_getElem hi]
  obtain ⟨_, _, _, p4, _⟩ := en_takesA (hx _ (List.getElem_mem hi)) (List.drop ((xs.length - 1 + 1) * 66) (enL xs))
  refine ⟨?_, by omega⟩
  rw [← List.drop_drop, e, p4, lastE, hl]

theorem last_ok {h hv : Nat} {H : Nat → Blk} {xs : List En} (hh : h < 1000) (hx : ∀ x ∈ xs, x.Ok) (hn : xs.length < 2 ^ 62) (ho : ObjE h hv 1041 H xs) :
    IC Try.prog 13 H [.ptr h 0 hv] (fun r h' => r = [.agg (bl (lastE xs))] ∧ ∀ y, (y < 2000 ∨ 3000 ≤ y) → h' y = H y) := by
  refine @IC.of_wp offB Try.prog 13 m13 m13 c13 H [.ptr h 0 hv] _ rfl ?_
  obtain ⟨v, hH, hheld⟩ := ho
  have n1 : ¬ (h = 2002) := by omega
  have n2 : ¬ (2002 = h) := by omega
  have hne : ∀ k, 1000 ≤ k → (h = k) = False := fun k hk => by simp; omega
  have hne' : ∀ k, 1000 ≤ k → (k = h) = False := fun k hk => by simp; omega
  have lz := lastE_len hx
  rcases hheld with ⟨rfl, rfl⟩ | ⟨hp, ver, rfl, hrow⟩
  · have y6 := y32_cells
    have ly : (bl y32).length = 32 := rfl
    have ty : List.take 32 (bl y32) = bl y32 := rfl
    have xy : List.drop 32 (bl y32) = [] := rfl
    have e : lastE [] = y32 := rfl
    rw [e]
    simp -implicitDefEqProofs (maxSteps := 2000000) only [m13_1, m13_2, m13_3, m13_4, m13_r, m13_b, m13, homB, hH, n1, n2, y6, ly, ty, xy, placed, wk, act, asV, ↓reduceIte, Nat.reduceEqDiff, reduceCtorEq, Nat.reduceAdd, Nat.reduceLeDiff, Nat.reduceSub, Nat.reduceMul, List.reduceReplicate, Int.reduceEq, Int.reduceLT, Int.reduceLE, Int.reduceAdd, Int.reduceSub, Int.reduceMul, Nat.reduceLT, Int.reduceToNat]
    refine PostI.mk (by simp -implicitDefEqProofs (maxSteps := 2000000) only [St.raws, St.raw, hH, n1, n2, ly, ty, xy, wk, act, asV, ↓reduceIte, Nat.reduceEqDiff, reduceCtorEq, Nat.reduceAdd, Nat.reduceLeDiff, Nat.reduceSub, Nat.reduceMul, List.reduceReplicate, Int.reduceEq, Int.reduceLT, Int.reduceLE, Int.reduceAdd, Int.reduceSub, Int.reduceMul, Nat.reduceLT, Int.reduceToNat]; first | done | (with_reducible rfl)) ⟨by rfl, fun y y1 => by
      have y2 : ∀ k, 2000 ≤ k → k < 3000 → (y = k) = False := fun k _ _ => by simp; omega
      simp -implicitDefEqProofs (maxSteps := 2000000) only [y2, wk, act, asV, ↓reduceIte, Nat.reduceEqDiff, reduceCtorEq, Nat.reduceAdd, Nat.reduceLeDiff, Nat.reduceSub, Nat.reduceMul, List.reduceReplicate, Int.reduceEq, Int.reduceLT, Int.reduceLE, Int.reduceAdd, Int.reduceSub, Int.reduceMul, Nat.reduceLT, Int.reduceToNat]⟩
  · obtain ⟨l1, l2⟩ := lastE_at hx hp
    have p0 : ¬ ((xs.length : Nat) : Int) = 0 := by omega
    have w1 : IntKind.i64.wrap (((xs.length : Nat) : Int) - 1) = ((xs.length - 1 : Nat) : Int) := by rw [IntKind.wrap_i64]; omega
    have p1 : ((xs.length - 1 : Nat) : Int) < ((xs.length : Nat) : Int) := by omega
    obtain ⟨G, hG⟩ : ∃ G, G = lastE xs := ⟨_, rfl⟩
    rw [← hG] at l1 lz ⊢
    have lG : (bl G).length = 32 := by rw [bl_length, lz]
    have tG : List.take 32 (bl G) = bl G := List.take_of_length_le (by omega)
    simp -implicitDefEqProofs (maxSteps := 2000000) only [m13_1, m13_2, m13_3, m13_4, m13_r, m13_b, m13, homB, hH, hrow, n1, n2, p0, w1, p1, l1, l2, lG, tG, hne, hne', wk, act, asV, ↓reduceIte, Nat.reduceEqDiff, reduceCtorEq, Nat.reduceAdd, Nat.reduceLeDiff, Nat.reduceSub, Nat.reduceMul, List.reduceReplicate, Int.reduceEq, Int.reduceLT, Int.reduceLE, Int.reduceAdd, Int.reduceSub, Int.reduceMul, Nat.reduceLT, Int.reduceToNat]
    refine PostI.mk (by simp -implicitDefEqProofs (maxSteps := 2000000) only [St.raws, St.raw, hH, n1, n2, lG, tG, wk, act, asV, ↓reduceIte, Nat.reduceEqDiff, reduceCtorEq, Nat.reduceAdd, Nat.reduceLeDiff, Nat.reduceSub, Nat.reduceMul, List.reduceReplicate, Int.reduceEq, Int.reduceLT, Int.reduceLE, Int.reduceAdd, Int.reduceSub, Int.reduceMul, Nat.reduceLT, Int.reduceToNat]; first | done | (with_reducible rfl)) ⟨by rfl, fun y y1 => by
      have y2 : ∀ k, 2000 ≤ k → k < 3000 → (y = k) = False := fun k _ _ => by simp; omega
      simp -implicitDefEqProofs (maxSteps := 2000000) only [y2, wk, act, asV, ↓reduceIte, Nat.reduceEqDiff, reduceCtorEq, Nat.reduceAdd, Nat.reduceLeDiff, Nat.reduceSub, Nat.reduceMul, List.reduceReplicate, Int.reduceEq, Int.reduceLT, Int.reduceLE, Int.reduceAdd, Int.reduceSub, Int.reduceMul, Nat.reduceLT, Int.reduceToNat]⟩
theorem entries_ok {h hv : Nat} {H : Nat → Blk} {xs : List En} (hh : h < 1000) (hx : ∀ x ∈ xs, x.Ok) (hn : xs.length ≤ 2 ^ 30) (ho : ObjE h hv 1041 H xs) :
    IC Try.prog 19 H [.ptr h 0 hv] (fun r h' => ∃ ver, r = [.row 5009 0 xs.length 66 ver] ∧ h' 5009 = ⟨ver, true, true, true, enL xs⟩ ∧ ∀ y, (y < 5000 ∨ 6000 ≤ y) → h' y = H y) := by
  refine @IC.of_wp offE Try.prog 19 m19 m19 c19 H [.ptr h 0 hv] _ rfl ?_
  obtain ⟨v, hH, hheld⟩ := ho
  have n1 : ¬ (h = 5009) := by omega
  have n2 : ¬ (5009 = h) := by omega
  have lL := enL_length hx
  have tL := enL_take xs hx
  have pL := enL_pur xs
  have sL := enL_scal xs
  rcases hheld with ⟨rfl, rfl⟩ | ⟨hp, ver, rfl, hrow⟩
  · have c1 := cloneE_ok .full (by decide) [] (by simp) (by simp)
    repeat' (first | simp -implicitDefEqProofs (maxSteps := 2000000) only [m19_1, m19_2, m19_3, m19_r, m19_b, m19, homE, hH, n1, n2, wk, act, asV, ↓reduceIte, Nat.reduceEqDiff, reduceCtorEq, Nat.reduceAdd, Nat.reduceLeDiff, Nat.reduceSub, Nat.reduceMul, List.reduceReplicate, Int.reduceEq, Int.reduceLT, Int.reduceLE, Int.reduceAdd, Int.reduceSub, Int.reduceMul, Nat.reduceLT, Int.reduceToNat] | ((first | ((with_reducible refine CallL.gate ?_); apply CallL.of) | ((with_reducible refine CallpL.gate ?_); apply CallpL.of) | ((with_reducible refine CallP.gate ?_); apply CallP.of) | ((with_reducible refine CallpP.gate ?_); apply CallpP.of)); (case h1 => (simp -implicitDefEqProofs (maxSteps := 2000000) only [m19_1, m19_2, m19_3, m19_r, m19_b, m19, homE, hH, n1, n2, wk, act, asV, ↓reduceIte, Nat.reduceEqDiff, reduceCtorEq, Nat.reduceAdd, Nat.reduceLeDiff, Nat.reduceSub, Nat.reduceMul, List.reduceReplicate, Int.reduceEq, Int.reduceLT, Int.reduceLE, Int.reduceAdd, Int.reduceSub, Int.reduceMul, Nat.reduceLT, Int.reduceToNat]; first | done | (with_reducible rfl))); (case h2 => (first | exact c1)); (case h3 => simp -implicitDefEqProofs (maxSteps := 2000000) only [m19_1, m19_2, m19_3, m19_r, m19_b, m19, homE, hH, n1, n2, wk, act, asV, ↓reduceIte, Nat.reduceEqDiff, reduceCtorEq, Nat.reduceAdd, Nat.reduceLeDiff, Nat.reduceSub, Nat.reduceMul, List.reduceReplicate, Int.reduceEq, Int.reduceLT, Int.reduceLE, Int.reduceAdd, Int.reduceSub, Int.reduceMul, Nat.reduceLT, Int.reduceToNat])))
    refine PostI.mk (by simp -implicitDefEqProofs (maxSteps := 2000000) only [St.raws, St.raw, hH, n1, n2, wk, act, asV, ↓reduceIte, Nat.reduceEqDiff, reduceCtorEq, Nat.reduceAdd, Nat.reduceLeDiff, Nat.reduceSub, Nat.reduceMul, List.reduceReplicate, Int.reduceEq, Int.reduceLT, Int.reduceLE, Int.reduceAdd, Int.reduceSub, Int.reduceMul, Nat.reduceLT, Int.reduceToNat]; first | done | (with_reducible rfl)) ⟨_, by rfl, by simp -implicitDefEqProofs (maxSteps := 2000000) only [wk, act, asV, ↓reduceIte, Nat.reduceEqDiff, reduceCtorEq, Nat.reduceAdd, Nat.reduceLeDiff, Nat.reduceSub, Nat.reduceMul, List.reduceReplicate, Int.reduceEq, Int.reduceLT, Int.reduceLE, Int.reduceAdd, Int.reduceSub, Int.reduceMul, Nat.reduceLT, Int.reduceToNat], fun y y1 => by
      have y2 : ∀ k, 5000 ≤ k → k < 6000 → (y = k) = False := fun k _ _ => by simp; omega
      simp -implicitDefEqProofs (maxSteps := 2000000) only [y2, wk, act, asV, ↓reduceIte, Nat.reduceEqDiff, reduceCtorEq, Nat.reduceAdd, Nat.reduceLeDiff, Nat.reduceSub, Nat.reduceMul, List.reduceReplicate, Int.reduceEq, Int.reduceLT, Int.reduceLE, Int.reduceAdd, Int.reduceSub, Int.reduceMul, Nat.reduceLT, Int.reduceToNat]⟩
  · have c1 := cloneE_ok .plain (by decide) xs hx hn
    repeat' (first | simp -implicitDefEqProofs (maxSteps := 2000000) only [m19_1, m19_2, m19_3, m19_r, m19_b, m19, homE, hH, hrow, n1, n2, tL, lL, pL, sL, wk, act, asV, ↓reduceIte, Nat.reduceEqDiff, reduceCtorEq, Nat.reduceAdd, Nat.reduceLeDiff, Nat.reduceSub, Nat.reduceMul, List.reduceReplicate, Int.reduceEq, Int.reduceLT, Int.reduceLE, Int.reduceAdd, Int.reduceSub, Int.reduceMul, Nat.reduceLT, Int.reduceToNat] | ((first | ((with_reducible refine CallL.gate ?_); apply CallL.of) | ((with_reducible refine CallpL.gate ?_); apply CallpL.of) | ((with_reducible refine CallP.gate ?_); apply CallP.of) | ((with_reducible refine CallpP.gate ?_); apply CallpP.of)); (case h1 => (simp -implicitDefEqProofs (maxSteps := 2000000) only [m19_1, m19_2, m19_3, m19_r, m19_b, m19, homE, hH, hrow, n1, n2, tL, lL, pL, sL, wk, act, asV, ↓reduceIte, Nat.reduceEqDiff, reduceCtorEq, Nat.reduceAdd, Nat.reduceLeDiff, Nat.reduceSub, Nat.reduceMul, List.reduceReplicate, Int.reduceEq, Int.reduceLT, Int.reduceLE, Int.reduceAdd, Int.reduceSub, Int.reduceMul, Nat.reduceLT, Int.reduceToNat]; first | done | (with_reducible rfl))); (case h2 => (first | exact c1)); (case h3 => simp -implicitDefEqProofs (maxSteps := 2000000) only [m19_1, m19_2, m19_3, m19_r, m19_b, m19, homE, hH, hrow, n1, n2, tL, lL, pL, sL, wk, act, asV, ↓reduceIte, Nat.reduceEqDiff, reduceCtorEq, Nat.reduceAdd, Nat.reduceLeDiff, Nat.reduceSub, Nat.reduceMul, List.reduceReplicate, Int.reduceEq, Int.reduceLT, Int.reduceLE, Int.reduceAdd, Int.reduceSub, Int.reduceMul, Nat.reduceLT, Int.reduceToNat])))
    refine PostI.mk (by simp -implicitDefEqProofs (maxSteps := 2000000) only [St.raws, St.raw, hH, n1, n2, wk, act, asV, ↓reduceIte, Nat.reduceEqDiff, reduceCtorEq, Nat.reduceAdd, Nat.reduceLeDiff, Nat.reduceSub, Nat.reduceMul, List.reduceReplicate, Int.reduceEq, Int.reduceLT, Int.reduceLE, Int.reduceAdd, Int.reduceSub, Int.reduceMul, Nat.reduceLT, Int.reduceToNat]; first | done | (with_reducible rfl)) ⟨_, by rfl, by simp -implicitDefEqProofs (maxSteps := 2000000) only [wk, act, asV, ↓reduceIte, Nat.reduceEqDiff, reduceCtorEq, Nat.reduceAdd, Nat.reduceLeDiff, Nat.reduceSub, Nat.reduceMul, List.reduceReplicate, Int.reduceEq, Int.reduceLT, Int.reduceLE, Int.reduceAdd, Int.reduceSub, Int.reduceMul, Nat.reduceLT, Int.reduceToNat], fun y y1 => by
      have y2 : ∀ k, 5000 ≤ k → k < 6000 → (y = k) = False := fun k _ _ => by simp; omega
      simp -implicitDefEqProofs (maxSteps := 2000000) only [y2, wk, act, asV, ↓reduceIte, Nat.reduceEqDiff, reduceCtorEq, Nat.reduceAdd, Nat.reduceLeDiff, Nat.reduceSub, Nat.reduceMul, List.reduceReplicate, Int.reduceEq, Int.reduceLT, Int.reduceLE, Int.reduceAdd, Int.reduceSub, Int.reduceMul, Nat.reduceLT, Int.reduceToNat]⟩
end Go.Proofs.Ytkphojcmjffccaa
