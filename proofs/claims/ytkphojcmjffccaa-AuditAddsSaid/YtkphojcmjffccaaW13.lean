/- The law AuditAdds. -/
import Derived.Test.YtkphojcmjffccaaW12
import Derived.Test.YtkphojcmjffccaaW10
import Derived.Test.YtkphojcmjffccaaK5
import Derived.Test.YtkphojcmjffccaaE31
import Derived.Test.YtkphojcmjffccaaM16
set_option linter.unusedVariables false
set_option linter.unusedSimpArgs false
set_option linter.unusedSectionVars false
set_option maxRecDepth 100000
set_option maxHeartbeats 8000000
namespace Go.Proofs.Ytkphojcmjffccaa
open Go.RowKit

def adds (xs : List Sd) : List En := xs.foldl (fun es x => addE es x.asked x.r) []
theorem adds_snoc (xs : List Sd) (x : Sd) : adds (xs ++ [x]) = addE (adds xs) x.asked x.r := by simp [adds]
theorem addE_ok {es : List En} (h : ∀ e ∈ es, e.Ok) (a : List UInt8) (r : Rp) : ∀ e ∈ addE es a r, e.Ok := by
  intro e he
  unfold addE at he
  split at he
  · rcases List.mem_append.1 he with he | he
    · exact h e he
    · obtain rfl := List.mem_singleton.1 he
      exact newE_ok _ _ _
  · exact h e he
theorem addE_len (es : List En) (a : List UInt8) (r : Rp) : (addE es a r).length ≤ es.length + 1 := by
  unfold addE
  split <;> simp
theorem adds_facts : ∀ (n : Nat) (xs : List Sd), xs.length = n → (adds xs).length ≤ n ∧ ∀ e ∈ adds xs, e.Ok
  | 0, xs, h => by
    obtain rfl := List.eq_nil_of_length_eq_zero h
    exact ⟨by simp [adds], by simp [adds]⟩
  | n + 1, xs, h => by
    rcases List.eq_nil_or_concat xs with rfl | ⟨A, x, rfl⟩
    · simp at h
    rw [List.concat_eq_append] at h ⊢
    obtain ⟨h1, h2⟩ := adds_facts n A (by simpa using h)
    rw [adds_snoc]
    have := addE_len (adds A) x.asked x.r
    exact ⟨by omega, addE_ok h2 _ _⟩

theorem a3_body {s : St} {xs : List Sd} {i va vq v3 : Nat} {es es2 : List En} {D a d : List UInt8} {id e : Int} {Q : Ex → St → Prop} (hil : i < xs.length) (hn : xs.length ≤ 30)
    (hes : ∀ x ∈ es, x.Ok) (hle : es.length ≤ i) (hD : D.length = 32) (eX : List.drop (i * 4) (sdL xs) = sdC ⟨a, ⟨id, e, .plain, d⟩⟩ ++ List.drop ((i + 1) * 4) (sdL xs)) (ha : a.length ≤ 300) (hd : d.length ≤ 600) (e2 : es2 = addE es a ⟨id, e, .plain, d⟩)
    (k0 : s.t 0 = .sl .plain xs.length (sdL xs)) (k7 : s.t 7 = .int .i64 (i : Nat)) (k5 : s.t 5 = .ptr 19 0 va) (k6 : s.t 6 = .ptr 21 0 vq) (k3 : s.t 3 = .ptr 3 0 v3) (kh3 : s.h 3 = ⟨v3, true, true, false, bl D⟩) (ko : ObjE 19 va 1041 s.h es) (kq : ObjE 21 vq 6042 s.h es)
    (hQ : ∀ s' : St, s'.t 0 = .sl .plain xs.length (sdL xs) → s'.t 7 = .int .i64 ((i + 1 : Nat) : Int) → s'.t 5 = .ptr 19 0 va → s'.t 6 = .ptr 21 0 vq → s'.t 3 = .ptr 3 0 v3 → s'.h 3 = ⟨v3, true, true, false, bl D⟩ → ObjE 19 va 1041 s'.h es2 → ObjE 21 vq 6042 s'.h es2 → Q .normal s') :
    Wp (RCs Try.prog) m3_13 Q s := by
  have hil' : (i : Int) < xs.length := by omega
  have lL := sdL_length xs
  have wi : IntKind.i64.wrap (((i : Nat) : Int) + 1) = ((i + 1 : Nat) : Int) := by rw [IntKind.wrap_i64]; omega
  have l4 : 4 ≤ (sdC ⟨a, ⟨id, e, .plain, d⟩⟩ ++ List.drop ((i + 1) * 4) (sdL xs)).length := by simp [sdC, rc]
  have la : (bl a).length = a.length := bl_length a
  have ld : (bl d).length = d.length := bl_length d
  have r1 : roomy a.length 1 = true := by simp [roomy]; omega
  have r2 : roomy d.length 1 = true := by simp [roomy]; omega
  have hok2 : ∀ x ∈ es2, x.Ok := by rw [e2]; exact addE_ok hes _ _
  have hle2 : es2.length ≤ i + 1 := by have := addE_len es a ⟨id, e, .plain, d⟩; rw [e2]; omega
  have ca := fun {H : Nat → Blk} (o : ObjE 19 va 1041 H es) => add_ok (h := 19) (by decide) hes (by omega) .plain a (by omega) ⟨id, e, .plain, d⟩ (by simp) o
  have cq := fun {H : Nat → Blk} (o : ObjE 21 vq 6042 H es) => addR_ok (h := 21) (by decide) hes (by omega) .plain a (by omega) id e o
  have e2' : addE es a (rpE id e) = es2 := e2.symm
  rw [← e2] at ca
  rw [e2'] at cq
  simp only [rc] at ca
  have la1 := fun {H : Nat → Blk} (o : ObjE 19 va 1041 H es2) => last_ok (h := 19) (by decide) hok2 (by omega) o
  have lq1 := fun {H : Nat → Blk} (o : ObjE 21 vq 6042 H es2) => lastR_ok (h := 21) (by decide) hok2 (by omega) o
  have lG := lastE_len hok2
  have q1 := eqL_by (lastE es2) (lastE es2) rfl
  rw [decide_eq_true rfl] at q1
  have q2 := fitR_by lG
  obtain ⟨G, hG⟩ : ∃ G, G = lastE es2 := ⟨_, rfl⟩
  rw [← hG] at la1 lq1 lG q1 q2
  have lGl : (bl G).length = 32 := by rw [bl_length, lG]
  have tG : List.take 32 (bl G) = bl G := List.take_of_length_le (by omega)
  simp -implicitDefEqProofs (maxSteps := 2000000) only [m3_13, m3_12, k0, k7, k5, k6, k3, kh3, hil', eX, lL, l4, la, ld, r1, r2, sdC, rc, wk, act, asV, ↓reduceIte, Nat.reduceEqDiff, reduceCtorEq, Nat.reduceAdd, Nat.reduceLeDiff, Nat.reduceSub, Nat.reduceMul, List.reduceReplicate, Int.reduceEq, Int.reduceLT, Int.reduceLE, Int.reduceAdd, Int.reduceSub, Int.reduceMul, Nat.reduceLT, Int.reduceToNat]
  simp -implicitDefEqProofs (maxSteps := 2000000) only [m3_11, wk, act, asV, ↓reduceIte, Nat.reduceEqDiff, reduceCtorEq, Nat.reduceAdd, Nat.reduceLeDiff, Nat.reduceSub, Nat.reduceMul, List.reduceReplicate, Int.reduceEq, Int.reduceLT, Int.reduceLE, Int.reduceAdd, Int.reduceSub, Int.reduceMul, Nat.reduceLT, Int.reduceToNat]
  obtain ⟨Inv, hInv⟩ : ∃ Inv : (Nat → Bool) → St → Prop, Inv = fun (L : Nat → Bool) (s : St) => ∃ v8 v9, s.t 0 = .sl .plain xs.length (sdL xs) ∧ s.t 7 = .int .i64 (i : Nat) ∧ s.t 5 = .ptr 19 0 va ∧ s.t 6 = .ptr 21 0 vq ∧ s.t 3 = .ptr 3 0 v3 ∧ s.h 3 = ⟨v3, true, true, false, bl D⟩ ∧ s.t 8 = .ptr 8 0 v8 ∧ s.h 8 = ⟨v8, true, true, false, [.sl .plain a.length (bl a), .int .i64 id, .int .i64 e, .sl .plain d.length (bl d)]⟩ ∧ s.t 9 = .ptr 9 0 v9 ∧ s.h 9 = ⟨v9, true, true, false, [.int .i64 id, .int .i64 e, .sl .plain d.length (bl d)]⟩ ∧ ObjE 19 va 1041 s.h (cond (L 6) es2 es) ∧ ObjE 21 vq 6042 s.h (cond (L 16) es2 es) ∧ (L 0 = true → s.t 44 = .ptr 19 0 va) ∧ (L 1 = true → s.t 45 = .sl .lit 0 []) ∧ (L 2 = true → s.t 46 = .ptr 8 0 v8) ∧ (L 3 = true → s.t 47 = .sl .plain a.length (bl a)) ∧ (L 4 = true → s.t 48 = .sl .plain a.length (bl a)) ∧ (L 5 = true → s.t 49 = .agg [.int .i64 id, .int .i64 e, .sl .plain d.length (bl d)]) ∧ (L 6 = true → s.t 50 = .int .i64 (recE id e)) ∧ (L 7 = true → s.t 51 = .ptr 21 0 vq) ∧ (L 8 = true → s.t 52 = .ptr 8 0 v8) ∧ (L 9 = true → s.t 53 = .sl .plain a.length (bl a)) ∧ (L 10 = true → s.t 54 = .ptr 8 1 v8) ∧ (L 11 = true → s.t 55 = .ptr 8 1 v8) ∧ (L 12 = true → s.t 56 = .int .i64 id) ∧ (L 13 = true → s.t 57 = .ptr 8 1 v8) ∧ (L 14 = true → s.t 58 = .ptr 8 2 v8) ∧ (L 15 = true → s.t 59 = .int .i64 e) ∧ (L 16 = true → s.t 60 = .int .i64 (recE id e)) ∧ (L 17 = true → s.t 61 = .bool false) ∧ (L 18 = true → s.t 62 = .bool false) ∧ (L 19 = true → s.t 63 = .ptr 19 0 va) ∧ (L 20 = true → s.t 64 = .agg (bl G)) ∧ (L 21 = true → s.t 65 = .ptr 21 0 vq) ∧ (L 22 = true → s.t 66 = .agg (bl G)) ∧ (L 23 = true → s.t 67 = .bool false) ∧ (L 24 = true → s.t 68 = .bool false) ∧ (L 16 = true → L 6 = true) ∧ (L 17 = true → L 16 = true) ∧ (L 18 = true → L 17 = true) := ⟨_, rfl⟩
  refine Wp_drxI Inv ?_ ?_ ?_
  · rw [hInv]
    exact ⟨_, _, by simp -implicitDefEqProofs (maxSteps := 2000000) only [hideH, k0, k5, k6, k7, k3, kh3, wk, act, asV, ↓reduceIte, Nat.reduceEqDiff, reduceCtorEq, Nat.reduceAdd, Nat.reduceLeDiff, Nat.reduceSub, Nat.reduceMul, List.reduceReplicate, Int.reduceEq, Int.reduceLT, Int.reduceLE, Int.reduceAdd, Int.reduceSub, Int.reduceMul, Nat.reduceLT, Int.reduceToNat]; first | done | rfl, by simp -implicitDefEqProofs (maxSteps := 2000000) only [hideH, k0, k5, k6, k7, k3, kh3, wk, act, asV, ↓reduceIte, Nat.reduceEqDiff, reduceCtorEq, Nat.reduceAdd, Nat.reduceLeDiff, Nat.reduceSub, Nat.reduceMul, List.reduceReplicate, Int.reduceEq, Int.reduceLT, Int.reduceLE, Int.reduceAdd, Int.reduceSub, Int.reduceMul, Nat.reduceLT, Int.reduceToNat]; first | done | rfl, by simp -implicitDefEqProofs (maxSteps := 2000000) only [hideH, k0, k5, k6, k7, k3, kh3, wk, act, asV, ↓reduceIte, Nat.reduceEqDiff, reduceCtorEq, Nat.reduceAdd, Nat.reduceLeDiff, Nat.reduceSub, Nat.reduceMul, List.reduceReplicate, Int.reduceEq, Int.reduceLT, Int.reduceLE, Int.reduceAdd, Int.reduceSub, Int.reduceMul, Nat.reduceLT, Int.reduceToNat]; first | done | rfl, by simp -implicitDefEqProofs (maxSteps := 2000000) only [hideH, k0, k5, k6, k7, k3, kh3, wk, act, asV, ↓reduceIte, Nat.reduceEqDiff, reduceCtorEq, Nat.reduceAdd, Nat.reduceLeDiff, Nat.reduceSub, Nat.reduceMul, List.reduceReplicate, Int.reduceEq, Int.reduceLT, Int.reduceLE, Int.reduceAdd, Int.reduceSub, Int.reduceMul, Nat.reduceLT, Int.reduceToNat]; first | done | rfl, by simp -implicitDefEqProofs (maxSteps := 2000000) only [hideH, k0, k5, k6, k7, k3, kh3, wk, act, asV, ↓reduceIte, Nat.reduceEqDiff, reduceCtorEq, Nat.reduceAdd, Nat.reduceLeDiff, Nat.reduceSub, Nat.reduceMul, List.reduceReplicate, Int.reduceEq, Int.reduceLT, Int.reduceLE, Int.reduceAdd, Int.reduceSub, Int.reduceMul, Nat.reduceLT, Int.reduceToNat]; first | done | rfl, by simp -implicitDefEqProofs (maxSteps := 2000000) only [hideH, k0, k5, k6, k7, k3, kh3, wk, act, asV, ↓reduceIte, Nat.reduceEqDiff, reduceCtorEq, Nat.reduceAdd, Nat.reduceLeDiff, Nat.reduceSub, Nat.reduceMul, List.reduceReplicate, Int.reduceEq, Int.reduceLT, Int.reduceLE, Int.reduceAdd, Int.reduceSub, Int.reduceMul, Nat.reduceLT, Int.reduceToNat]; first | done | rfl, by simp -implicitDefEqProofs (maxSteps := 2000000) only [hideH, k0, k5, k6, k7, k3, kh3, wk, act, asV, ↓reduceIte, Nat.reduceEqDiff, reduceCtorEq, Nat.reduceAdd, Nat.reduceLeDiff, Nat.reduceSub, Nat.reduceMul, List.reduceReplicate, Int.reduceEq, Int.reduceLT, Int.reduceLE, Int.reduceAdd, Int.reduceSub, Int.reduceMul, Nat.reduceLT, Int.reduceToNat]; first | done | rfl, by simp -implicitDefEqProofs (maxSteps := 2000000) only [hideH, k0, k5, k6, k7, k3, kh3, wk, act, asV, ↓reduceIte, Nat.reduceEqDiff, reduceCtorEq, Nat.reduceAdd, Nat.reduceLeDiff, Nat.reduceSub, Nat.reduceMul, List.reduceReplicate, Int.reduceEq, Int.reduceLT, Int.reduceLE, Int.reduceAdd, Int.reduceSub, Int.reduceMul, Nat.reduceLT, Int.reduceToNat]; first | done | rfl, by simp -implicitDefEqProofs (maxSteps := 2000000) only [hideH, k0, k5, k6, k7, k3, kh3, wk, act, asV, ↓reduceIte, Nat.reduceEqDiff, reduceCtorEq, Nat.reduceAdd, Nat.reduceLeDiff, Nat.reduceSub, Nat.reduceMul, List.reduceReplicate, Int.reduceEq, Int.reduceLT, Int.reduceLE, Int.reduceAdd, Int.reduceSub, Int.reduceMul, Nat.reduceLT, Int.reduceToNat]; first | done | rfl, by simp -implicitDefEqProofs (maxSteps := 2000000) only [hideH, k0, k5, k6, k7, k3, kh3, wk, act, asV, ↓reduceIte, Nat.reduceEqDiff, reduceCtorEq, Nat.reduceAdd, Nat.reduceLeDiff, Nat.reduceSub, Nat.reduceMul, List.reduceReplicate, Int.reduceEq, Int.reduceLT, Int.reduceLE, Int.reduceAdd, Int.reduceSub, Int.reduceMul, Nat.reduceLT, Int.reduceToNat]; first | done | rfl, ObjE_fr ko (by simp -implicitDefEqProofs (maxSteps := 2000000) only [hideH, wk, act, asV, ↓reduceIte, Nat.reduceEqDiff, reduceCtorEq, Nat.reduceAdd, Nat.reduceLeDiff, Nat.reduceSub, Nat.reduceMul, List.reduceReplicate, Int.reduceEq, Int.reduceLT, Int.reduceLE, Int.reduceAdd, Int.reduceSub, Int.reduceMul, Nat.reduceLT, Int.reduceToNat]; first | done | rfl) (by simp -implicitDefEqProofs (maxSteps := 2000000) only [hideH, wk, act, asV, ↓reduceIte, Nat.reduceEqDiff, reduceCtorEq, Nat.reduceAdd, Nat.reduceLeDiff, Nat.reduceSub, Nat.reduceMul, List.reduceReplicate, Int.reduceEq, Int.reduceLT, Int.reduceLE, Int.reduceAdd, Int.reduceSub, Int.reduceMul, Nat.reduceLT, Int.reduceToNat]; first | done | rfl), ObjE_fr kq (by simp -implicitDefEqProofs (maxSteps := 2000000) only [hideH, wk, act, asV, ↓reduceIte, Nat.reduceEqDiff, reduceCtorEq, Nat.reduceAdd, Nat.reduceLeDiff, Nat.reduceSub, Nat.reduceMul, List.reduceReplicate, Int.reduceEq, Int.reduceLT, Int.reduceLE, Int.reduceAdd, Int.reduceSub, Int.reduceMul, Nat.reduceLT, Int.reduceToNat]; first | done | rfl) (by simp -implicitDefEqProofs (maxSteps := 2000000) only [hideH, wk, act, asV, ↓reduceIte, Nat.reduceEqDiff, reduceCtorEq, Nat.reduceAdd, Nat.reduceLeDiff, Nat.reduceSub, Nat.reduceMul, List.reduceReplicate, Int.reduceEq, Int.reduceLT, Int.reduceLE, Int.reduceAdd, Int.reduceSub, Int.reduceMul, Nat.reduceLT, Int.reduceToNat]; first | done | rfl), fun h => absurd (h : false = true) (by decide), fun h => absurd (h : false = true) (by decide), fun h => absurd (h : false = true) (by decide), fun h => absurd (h : false = true) (by decide), fun h => absurd (h : false = true) (by decide), fun h => absurd (h : false = true) (by decide), fun h => absurd (h : false = true) (by decide), fun h => absurd (h : false = true) (by decide), fun h => absurd (h : false = true) (by decide), fun h => absurd (h : false = true) (by decide), fun h => absurd (h : false = true) (by decide), fun h => absurd (h : false = true) (by decide), fun h => absurd (h : false = true) (by decide), fun h => absurd (h : false = true) (by decide), fun h => absurd (h : false = true) (by decide), fun h => absurd (h : false = true) (by decide), fun h => absurd (h : false = true) (by decide), fun h => absurd (h : false = true) (by decide), fun h => absurd (h : false = true) (by decide), fun h => absurd (h : false = true) (by decide), fun h => absurd (h : false = true) (by decide), fun h => absurd (h : false = true) (by decide), fun h => absurd (h : false = true) (by decide), fun h => absurd (h : false = true) (by decide), fun h => absurd (h : false = true) (by decide), fun h => absurd (h : false = true) (by decide), fun h => absurd (h : false = true) (by decide), fun h => absurd (h : false = true) (by decide)⟩
  · refine stepsX_cons ?_ (stepsX_cons ?_ (stepsX_cons ?_ (stepsX_cons ?_ (stepsX_cons ?_ (stepsX_cons ?_ (stepsX_cons ?_ (stepsX_cons ?_ (stepsX_cons ?_ (stepsX_cons ?_ (stepsX_cons ?_ (stepsX_cons ?_ (stepsX_cons ?_ (stepsX_cons ?_ (stepsX_cons ?_ (stepsX_cons ?_ (stepsX_cons ?_ (stepsX_cons ?_ (stepsX_cons ?_ (stepsX_cons ?_ (stepsX_cons ?_ (stepsX_cons ?_ (stepsX_cons ?_ (stepsX_cons ?_ (stepsX_cons ?_ (stepsX_nil)))))))))))))))))))))))))
    · intro L s hL hp hI
      rw [hInv] at hI
      obtain ⟨v8, v9, k0, k7, k5, k6, k3, kh3, k8, kh8, k9, kh9, oa, oq, f0, f1, f2, f3, f4, f5, f6, f7, f8, f9, f10, f11, f12, f13, f14, f15, f16, f17, f18, f19, f20, f21, f22, f23, f24, g16, g17, g18⟩ := hI
      simp -implicitDefEqProofs (maxSteps := 2000000) only [k5, wk, act, asV, ↓reduceIte, Nat.reduceEqDiff, reduceCtorEq, Nat.reduceAdd, Nat.reduceLeDiff, Nat.reduceSub, Nat.reduceMul, List.reduceReplicate, Int.reduceEq, Int.reduceLT, Int.reduceLE, Int.reduceAdd, Int.reduceSub, Int.reduceMul, Nat.reduceLT, Int.reduceToNat]
      rw [hInv]
      exact ⟨v8, v9, k0, k7, k5, k6, k3, kh3, k8, kh8, k9, kh9, oa, oq, fun _ => rfl, f1, f2, f3, f4, f5, f6, f7, f8, f9, f10, f11, f12, f13, f14, f15, f16, f17, f18, f19, f20, f21, f22, f23, f24, g16, g17, g18⟩
    · intro L s hL hp hI
      rw [hInv] at hI
      obtain ⟨v8, v9, k0, k7, k5, k6, k3, kh3, k8, kh8, k9, kh9, oa, oq, f0, f1, f2, f3, f4, f5, f6, f7, f8, f9, f10, f11, f12, f13, f14, f15, f16, f17, f18, f19, f20, f21, f22, f23, f24, g16, g17, g18⟩ := hI
      simp -implicitDefEqProofs (maxSteps := 2000000) only [wk, act, asV, ↓reduceIte, Nat.reduceEqDiff, reduceCtorEq, Nat.reduceAdd, Nat.reduceLeDiff, Nat.reduceSub, Nat.reduceMul, List.reduceReplicate, Int.reduceEq, Int.reduceLT, Int.reduceLE, Int.reduceAdd, Int.reduceSub, Int.reduceMul, Nat.reduceLT, Int.reduceToNat]
      rw [hInv]
      exact ⟨v8, v9, k0, k7, k5, k6, k3, kh3, k8, kh8, k9, kh9, oa, oq, f0, fun _ => rfl, f2, f3, f4, f5, f6, f7, f8, f9, f10, f11, f12, f13, f14, f15, f16, f17, f18, f19, f20, f21, f22, f23, f24, g16, g17, g18⟩
    · intro L s hL hp hI
      rw [hInv] at hI
      obtain ⟨v8, v9, k0, k7, k5, k6, k3, kh3, k8, kh8, k9, kh9, oa, oq, f0, f1, f2, f3, f4, f5, f6, f7, f8, f9, f10, f11, f12, f13, f14, f15, f16, f17, f18, f19, f20, f21, f22, f23, f24, g16, g17, g18⟩ := hI
      simp -implicitDefEqProofs (maxSteps := 2000000) only [k8, kh8, wk, act, asV, ↓reduceIte, Nat.reduceEqDiff, reduceCtorEq, Nat.reduceAdd, Nat.reduceLeDiff, Nat.reduceSub, Nat.reduceMul, List.reduceReplicate, Int.reduceEq, Int.reduceLT, Int.reduceLE, Int.reduceAdd, Int.reduceSub, Int.reduceMul, Nat.reduceLT, Int.reduceToNat]
      rw [hInv]
      exact ⟨v8, v9, k0, k7, k5, k6, k3, kh3, k8, kh8, k9, kh9, oa, oq, f0, f1, fun _ => rfl, f3, f4, f5, f6, f7, f8, f9, f10, f11, f12, f13, f14, f15, f16, f17, f18, f19, f20, f21, f22, f23, f24, g16, g17, g18⟩
    · intro L s hL hp hI
      rw [hInv] at hI
      obtain ⟨v8, v9, k0, k7, k5, k6, k3, kh3, k8, kh8, k9, kh9, oa, oq, f0, f1, f2, f3, f4, f5, f6, f7, f8, f9, f10, f11, f12, f13, f14, f15, f16, f17, f18, f19, f20, f21, f22, f23, f24, g16, g17, g18⟩ := hI
      have p2 := f2 (hp 2 (by simp))
      simp -implicitDefEqProofs (maxSteps := 2000000) only [p2, kh8, wk, act, asV, ↓reduceIte, Nat.reduceEqDiff, reduceCtorEq, Nat.reduceAdd, Nat.reduceLeDiff, Nat.reduceSub, Nat.reduceMul, List.reduceReplicate, Int.reduceEq, Int.reduceLT, Int.reduceLE, Int.reduceAdd, Int.reduceSub, Int.reduceMul, Nat.reduceLT, Int.reduceToNat]
      rw [hInv]
      exact ⟨v8, v9, k0, k7, k5, k6, k3, kh3, k8, kh8, k9, kh9, oa, oq, f0, f1, f2, fun _ => rfl, f4, f5, f6, f7, f8, f9, f10, f11, f12, f13, f14, f15, f16, f17, f18, f19, f20, f21, f22, f23, f24, g16, g17, g18⟩
    · intro L s hL hp hI
      rw [hInv] at hI
      obtain ⟨v8, v9, k0, k7, k5, k6, k3, kh3, k8, kh8, k9, kh9, oa, oq, f0, f1, f2, f3, f4, f5, f6, f7, f8, f9, f10, f11, f12, f13, f14, f15, f16, f17, f18, f19, f20, f21, f22, f23, f24, g16, g17, g18⟩ := hI
      have p1 := f1 (hp 1 (by simp))
      have p3 := f3 (hp 3 (by simp))
      simp -implicitDefEqProofs (maxSteps := 2000000) only [p1, p3, la, r1, wk, act, asV, ↓reduceIte, Nat.reduceEqDiff, reduceCtorEq, Nat.reduceAdd, Nat.reduceLeDiff, Nat.reduceSub, Nat.reduceMul, List.reduceReplicate, Int.reduceEq, Int.reduceLT, Int.reduceLE, Int.reduceAdd, Int.reduceSub, Int.reduceMul, Nat.reduceLT, Int.reduceToNat]
      rw [hInv]
      exact ⟨v8, v9, k0, k7, k5, k6, k3, kh3, k8, kh8, k9, kh9, oa, oq, f0, f1, f2, f3, fun _ => rfl, f5, f6, f7, f8, f9, f10, f11, f12, f13, f14, f15, f16, f17, f18, f19, f20, f21, f22, f23, f24, g16, g17, g18⟩
    · intro L s hL hp hI
      rw [hInv] at hI
      obtain ⟨v8, v9, k0, k7, k5, k6, k3, kh3, k8, kh8, k9, kh9, oa, oq, f0, f1, f2, f3, f4, f5, f6, f7, f8, f9, f10, f11, f12, f13, f14, f15, f16, f17, f18, f19, f20, f21, f22, f23, f24, g16, g17, g18⟩ := hI
      simp -implicitDefEqProofs (maxSteps := 2000000) only [k9, kh9, wk, act, asV, ↓reduceIte, Nat.reduceEqDiff, reduceCtorEq, Nat.reduceAdd, Nat.reduceLeDiff, Nat.reduceSub, Nat.reduceMul, List.reduceReplicate, Int.reduceEq, Int.reduceLT, Int.reduceLE, Int.reduceAdd, Int.reduceSub, Int.reduceMul, Nat.reduceLT, Int.reduceToNat]
      rw [hInv]
      exact ⟨v8, v9, k0, k7, k5, k6, k3, kh3, k8, kh8, k9, kh9, oa, oq, f0, f1, f2, f3, f4, fun _ => rfl, f6, f7, f8, f9, f10, f11, f12, f13, f14, f15, f16, f17, f18, f19, f20, f21, f22, f23, f24, g16, g17, g18⟩
    · intro L s hL hp hI
      rw [hInv] at hI
      obtain ⟨v8, v9, k0, k7, k5, k6, k3, kh3, k8, kh8, k9, kh9, oa, oq, f0, f1, f2, f3, f4, f5, f6, f7, f8, f9, f10, f11, f12, f13, f14, f15, f16, f17, f18, f19, f20, f21, f22, f23, f24, g16, g17, g18⟩ := hI
      have p0 := f0 (hp 0 (by simp))
      have p4 := f4 (hp 4 (by simp))
      have p5 := f5 (hp 5 (by simp))
      have oa' := oa
      rw [hL] at oa'
      simp -implicitDefEqProofs (maxSteps := 2000000) only [p0, p4, p5, wk, act, asV, ↓reduceIte, Nat.reduceEqDiff, reduceCtorEq, Nat.reduceAdd, Nat.reduceLeDiff, Nat.reduceSub, Nat.reduceMul, List.reduceReplicate, Int.reduceEq, Int.reduceLT, Int.reduceLE, Int.reduceAdd, Int.reduceSub, Int.reduceMul, Nat.reduceLT, Int.reduceToNat]
      refine CallnL.of (by simp -implicitDefEqProofs (maxSteps := 2000000) only [p0, p4, p5, wk, act, asV, ↓reduceIte, Nat.reduceEqDiff, reduceCtorEq, Nat.reduceAdd, Nat.reduceLeDiff, Nat.reduceSub, Nat.reduceMul, List.reduceReplicate, Int.reduceEq, Int.reduceLT, Int.reduceLE, Int.reduceAdd, Int.reduceSub, Int.reduceMul, Nat.reduceLT, Int.reduceToNat]; first | done | rfl) (ca oa') ?_
      rintro _ h' ⟨rfl, o', hfr⟩
      simp -implicitDefEqProofs (maxSteps := 2000000) only [wk, act, asV, ↓reduceIte, Nat.reduceEqDiff, reduceCtorEq, Nat.reduceAdd, Nat.reduceLeDiff, Nat.reduceSub, Nat.reduceMul, List.reduceReplicate, Int.reduceEq, Int.reduceLT, Int.reduceLE, Int.reduceAdd, Int.reduceSub, Int.reduceMul, Nat.reduceLT, Int.reduceToNat]
      rw [hInv]
      exact ⟨v8, v9, k0, k7, k5, k6, k3, (hfr 3 (by decide) (by decide)).trans kh3, k8, (hfr 8 (by decide) (by decide)).trans kh8, k9, (hfr 9 (by decide) (by decide)).trans kh9, o', ObjE_fr oq (hfr 21 (by decide) (by decide)) (hfr 6042 (by decide) (by decide)), f0, f1, f2, f3, f4, f5, fun _ => rfl, f7, f8, f9, f10, f11, f12, f13, f14, f15, f16, f17, f18, f19, f20, f21, f22, f23, f24, fun _ => rfl, g17, g18⟩
    · intro L s hL hp hI
      rw [hInv] at hI
      obtain ⟨v8, v9, k0, k7, k5, k6, k3, kh3, k8, kh8, k9, kh9, oa, oq, f0, f1, f2, f3, f4, f5, f6, f7, f8, f9, f10, f11, f12, f13, f14, f15, f16, f17, f18, f19, f20, f21, f22, f23, f24, g16, g17, g18⟩ := hI
      simp -implicitDefEqProofs (maxSteps := 2000000) only [k6, wk, act, asV, ↓reduceIte, Nat.reduceEqDiff, reduceCtorEq, Nat.reduceAdd, Nat.reduceLeDiff, Nat.reduceSub, Nat.reduceMul, List.reduceReplicate, Int.reduceEq, Int.reduceLT, Int.reduceLE, Int.reduceAdd, Int.reduceSub, Int.reduceMul, Nat.reduceLT, Int.reduceToNat]
      rw [hInv]
      exact ⟨v8, v9, k0, k7, k5, k6, k3, kh3, k8, kh8, k9, kh9, oa, oq, f0, f1, f2, f3, f4, f5, f6, fun _ => rfl, f8, f9, f10, f11, f12, f13, f14, f15, f16, f17, f18, f19, f20, f21, f22, f23, f24, g16, g17, g18⟩
    · intro L s hL hp hI
      rw [hInv] at hI
      obtain ⟨v8, v9, k0, k7, k5, k6, k3, kh3, k8, kh8, k9, kh9, oa, oq, f0, f1, f2, f3, f4, f5, f6, f7, f8, f9, f10, f11, f12, f13, f14, f15, f16, f17, f18, f19, f20, f21, f22, f23, f24, g16, g17, g18⟩ := hI
      simp -implicitDefEqProofs (maxSteps := 2000000) only [k8, kh8, wk, act, asV, ↓reduceIte, Nat.reduceEqDiff, reduceCtorEq, Nat.reduceAdd, Nat.reduceLeDiff, Nat.reduceSub, Nat.reduceMul, List.reduceReplicate, Int.reduceEq, Int.reduceLT, Int.reduceLE, Int.reduceAdd, Int.reduceSub, Int.reduceMul, Nat.reduceLT, Int.reduceToNat]
      rw [hInv]
      exact ⟨v8, v9, k0, k7, k5, k6, k3, kh3, k8, kh8, k9, kh9, oa, oq, f0, f1, f2, f3, f4, f5, f6, f7, fun _ => rfl, f9, f10, f11, f12, f13, f14, f15, f16, f17, f18, f19, f20, f21, f22, f23, f24, g16, g17, g18⟩
    · intro L s hL hp hI
      rw [hInv] at hI
      obtain ⟨v8, v9, k0, k7, k5, k6, k3, kh3, k8, kh8, k9, kh9, oa, oq, f0, f1, f2, f3, f4, f5, f6, f7, f8, f9, f10, f11, f12, f13, f14, f15, f16, f17, f18, f19, f20, f21, f22, f23, f24, g16, g17, g18⟩ := hI
      have p8 := f8 (hp 8 (by simp))
      simp -implicitDefEqProofs (maxSteps := 2000000) only [p8, kh8, wk, act, asV, ↓reduceIte, Nat.reduceEqDiff, reduceCtorEq, Nat.reduceAdd, Nat.reduceLeDiff, Nat.reduceSub, Nat.reduceMul, List.reduceReplicate, Int.reduceEq, Int.reduceLT, Int.reduceLE, Int.reduceAdd, Int.reduceSub, Int.reduceMul, Nat.reduceLT, Int.reduceToNat]
      rw [hInv]
      exact ⟨v8, v9, k0, k7, k5, k6, k3, kh3, k8, kh8, k9, kh9, oa, oq, f0, f1, f2, f3, f4, f5, f6, f7, f8, fun _ => rfl, f10, f11, f12, f13, f14, f15, f16, f17, f18, f19, f20, f21, f22, f23, f24, g16, g17, g18⟩
    · intro L s hL hp hI
      rw [hInv] at hI
      obtain ⟨v8, v9, k0, k7, k5, k6, k3, kh3, k8, kh8, k9, kh9, oa, oq, f0, f1, f2, f3, f4, f5, f6, f7, f8, f9, f10, f11, f12, f13, f14, f15, f16, f17, f18, f19, f20, f21, f22, f23, f24, g16, g17, g18⟩ := hI
      simp -implicitDefEqProofs (maxSteps := 2000000) only [k8, kh8, wk, act, asV, ↓reduceIte, Nat.reduceEqDiff, reduceCtorEq, Nat.reduceAdd, Nat.reduceLeDiff, Nat.reduceSub, Nat.reduceMul, List.reduceReplicate, Int.reduceEq, Int.reduceLT, Int.reduceLE, Int.reduceAdd, Int.reduceSub, Int.reduceMul, Nat.reduceLT, Int.reduceToNat]
      rw [hInv]
      exact ⟨v8, v9, k0, k7, k5, k6, k3, kh3, k8, kh8, k9, kh9, oa, oq, f0, f1, f2, f3, f4, f5, f6, f7, f8, f9, fun _ => rfl, f11, f12, f13, f14, f15, f16, f17, f18, f19, f20, f21, f22, f23, f24, g16, g17, g18⟩
    · intro L s hL hp hI
      rw [hInv] at hI
      obtain ⟨v8, v9, k0, k7, k5, k6, k3, kh3, k8, kh8, k9, kh9, oa, oq, f0, f1, f2, f3, f4, f5, f6, f7, f8, f9, f10, f11, f12, f13, f14, f15, f16, f17, f18, f19, f20, f21, f22, f23, f24, g16, g17, g18⟩ := hI
      have p10 := f10 (hp 10 (by simp))
      simp -implicitDefEqProofs (maxSteps := 2000000) only [p10, kh8, wk, act, asV, ↓reduceIte, Nat.reduceEqDiff, reduceCtorEq, Nat.reduceAdd, Nat.reduceLeDiff, Nat.reduceSub, Nat.reduceMul, List.reduceReplicate, Int.reduceEq, Int.reduceLT, Int.reduceLE, Int.reduceAdd, Int.reduceSub, Int.reduceMul, Nat.reduceLT, Int.reduceToNat]
      rw [hInv]
      exact ⟨v8, v9, k0, k7, k5, k6, k3, kh3, k8, kh8, k9, kh9, oa, oq, f0, f1, f2, f3, f4, f5, f6, f7, f8, f9, f10, fun _ => rfl, f12, f13, f14, f15, f16, f17, f18, f19, f20, f21, f22, f23, f24, g16, g17, g18⟩
    · intro L s hL hp hI
      rw [hInv] at hI
      obtain ⟨v8, v9, k0, k7, k5, k6, k3, kh3, k8, kh8, k9, kh9, oa, oq, f0, f1, f2, f3, f4, f5, f6, f7, f8, f9, f10, f11, f12, f13, f14, f15, f16, f17, f18, f19, f20, f21, f22, f23, f24, g16, g17, g18⟩ := hI
      have p11 := f11 (hp 11 (by simp))
      simp -implicitDefEqProofs (maxSteps := 2000000) only [p11, kh8, wk, act, asV, ↓reduceIte, Nat.reduceEqDiff, reduceCtorEq, Nat.reduceAdd, Nat.reduceLeDiff, Nat.reduceSub, Nat.reduceMul, List.reduceReplicate, Int.reduceEq, Int.reduceLT, Int.reduceLE, Int.reduceAdd, Int.reduceSub, Int.reduceMul, Nat.reduceLT, Int.reduceToNat]
      rw [hInv]
      exact ⟨v8, v9, k0, k7, k5, k6, k3, kh3, k8, kh8, k9, kh9, oa, oq, f0, f1, f2, f3, f4, f5, f6, f7, f8, f9, f10, f11, fun _ => rfl, f13, f14, f15, f16, f17, f18, f19, f20, f21, f22, f23, f24, g16, g17, g18⟩
    · intro L s hL hp hI
      rw [hInv] at hI
      obtain ⟨v8, v9, k0, k7, k5, k6, k3, kh3, k8, kh8, k9, kh9, oa, oq, f0, f1, f2, f3, f4, f5, f6, f7, f8, f9, f10, f11, f12, f13, f14, f15, f16, f17, f18, f19, f20, f21, f22, f23, f24, g16, g17, g18⟩ := hI
      simp -implicitDefEqProofs (maxSteps := 2000000) only [k8, kh8, wk, act, asV, ↓reduceIte, Nat.reduceEqDiff, reduceCtorEq, Nat.reduceAdd, Nat.reduceLeDiff, Nat.reduceSub, Nat.reduceMul, List.reduceReplicate, Int.reduceEq, Int.reduceLT, Int.reduceLE, Int.reduceAdd, Int.reduceSub, Int.reduceMul, Nat.reduceLT, Int.reduceToNat]
      rw [hInv]
      exact ⟨v8, v9, k0, k7, k5, k6, k3, kh3, k8, kh8, k9, kh9, oa, oq, f0, f1, f2, f3, f4, f5, f6, f7, f8, f9, f10, f11, f12, fun _ => rfl, f14, f15, f16, f17, f18, f19, f20, f21, f22, f23, f24, g16, g17, g18⟩
    · intro L s hL hp hI
      rw [hInv] at hI
      obtain ⟨v8, v9, k0, k7, k5, k6, k3, kh3, k8, kh8, k9, kh9, oa, oq, f0, f1, f2, f3, f4, f5, f6, f7, f8, f9, f10, f11, f12, f13, f14, f15, f16, f17, f18, f19, f20, f21, f22, f23, f24, g16, g17, g18⟩ := hI
      have p13 := f13 (hp 13 (by simp))
      simp -implicitDefEqProofs (maxSteps := 2000000) only [p13, kh8, wk, act, asV, ↓reduceIte, Nat.reduceEqDiff, reduceCtorEq, Nat.reduceAdd, Nat.reduceLeDiff, Nat.reduceSub, Nat.reduceMul, List.reduceReplicate, Int.reduceEq, Int.reduceLT, Int.reduceLE, Int.reduceAdd, Int.reduceSub, Int.reduceMul, Nat.reduceLT, Int.reduceToNat]
      rw [hInv]
      exact ⟨v8, v9, k0, k7, k5, k6, k3, kh3, k8, kh8, k9, kh9, oa, oq, f0, f1, f2, f3, f4, f5, f6, f7, f8, f9, f10, f11, f12, f13, fun _ => rfl, f15, f16, f17, f18, f19, f20, f21, f22, f23, f24, g16, g17, g18⟩
    · intro L s hL hp hI
      rw [hInv] at hI
      obtain ⟨v8, v9, k0, k7, k5, k6, k3, kh3, k8, kh8, k9, kh9, oa, oq, f0, f1, f2, f3, f4, f5, f6, f7, f8, f9, f10, f11, f12, f13, f14, f15, f16, f17, f18, f19, f20, f21, f22, f23, f24, g16, g17, g18⟩ := hI
      have p14 := f14 (hp 14 (by simp))
      simp -implicitDefEqProofs (maxSteps := 2000000) only [p14, kh8, wk, act, asV, ↓reduceIte, Nat.reduceEqDiff, reduceCtorEq, Nat.reduceAdd, Nat.reduceLeDiff, Nat.reduceSub, Nat.reduceMul, List.reduceReplicate, Int.reduceEq, Int.reduceLT, Int.reduceLE, Int.reduceAdd, Int.reduceSub, Int.reduceMul, Nat.reduceLT, Int.reduceToNat]
      rw [hInv]
      exact ⟨v8, v9, k0, k7, k5, k6, k3, kh3, k8, kh8, k9, kh9, oa, oq, f0, f1, f2, f3, f4, f5, f6, f7, f8, f9, f10, f11, f12, f13, f14, fun _ => rfl, f16, f17, f18, f19, f20, f21, f22, f23, f24, g16, g17, g18⟩
    · intro L s hL hp hI
      rw [hInv] at hI
      obtain ⟨v8, v9, k0, k7, k5, k6, k3, kh3, k8, kh8, k9, kh9, oa, oq, f0, f1, f2, f3, f4, f5, f6, f7, f8, f9, f10, f11, f12, f13, f14, f15, f16, f17, f18, f19, f20, f21, f22, f23, f24, g16, g17, g18⟩ := hI
      have p7 := f7 (hp 7 (by simp))
      have p9 := f9 (hp 9 (by simp))
      have p12 := f12 (hp 12 (by simp))
      have p15 := f15 (hp 15 (by simp))
      have oq' := oq
      rw [hL] at oq'
      simp -implicitDefEqProofs (maxSteps := 2000000) only [p7, p9, p12, p15, wk, act, asV, ↓reduceIte, Nat.reduceEqDiff, reduceCtorEq, Nat.reduceAdd, Nat.reduceLeDiff, Nat.reduceSub, Nat.reduceMul, List.reduceReplicate, Int.reduceEq, Int.reduceLT, Int.reduceLE, Int.reduceAdd, Int.reduceSub, Int.reduceMul, Nat.reduceLT, Int.reduceToNat]
      refine CallnL.of (by simp -implicitDefEqProofs (maxSteps := 2000000) only [p7, p9, p12, p15, wk, act, asV, ↓reduceIte, Nat.reduceEqDiff, reduceCtorEq, Nat.reduceAdd, Nat.reduceLeDiff, Nat.reduceSub, Nat.reduceMul, List.reduceReplicate, Int.reduceEq, Int.reduceLT, Int.reduceLE, Int.reduceAdd, Int.reduceSub, Int.reduceMul, Nat.reduceLT, Int.reduceToNat]; first | done | rfl) (cq oq') ?_
      rintro _ h' ⟨rfl, o', hfr⟩
      simp -implicitDefEqProofs (maxSteps := 2000000) only [wk, act, asV, ↓reduceIte, Nat.reduceEqDiff, reduceCtorEq, Nat.reduceAdd, Nat.reduceLeDiff, Nat.reduceSub, Nat.reduceMul, List.reduceReplicate, Int.reduceEq, Int.reduceLT, Int.reduceLE, Int.reduceAdd, Int.reduceSub, Int.reduceMul, Nat.reduceLT, Int.reduceToNat]
      rw [hInv]
      exact ⟨v8, v9, k0, k7, k5, k6, k3, (hfr 3 (by decide) (by decide)).trans kh3, k8, (hfr 8 (by decide) (by decide)).trans kh8, k9, (hfr 9 (by decide) (by decide)).trans kh9, ObjE_fr oa (hfr 19 (by decide) (by decide)) (hfr 1041 (by decide) (by decide)), o', f0, f1, f2, f3, f4, f5, f6, f7, f8, f9, f10, f11, f12, f13, f14, f15, fun _ => rfl, f17, f18, f19, f20, f21, f22, f23, f24, fun _ => hp 6 (by simp), fun _ => rfl, g18⟩
    · intro L s hL hp hI
      rw [hInv] at hI
      obtain ⟨v8, v9, k0, k7, k5, k6, k3, kh3, k8, kh8, k9, kh9, oa, oq, f0, f1, f2, f3, f4, f5, f6, f7, f8, f9, f10, f11, f12, f13, f14, f15, f16, f17, f18, f19, f20, f21, f22, f23, f24, g16, g17, g18⟩ := hI
      have p6 := f6 (hp 6 (by simp))
      have p16 := f16 (hp 16 (by simp))
      simp -implicitDefEqProofs (maxSteps := 2000000) only [p6, p16, wk, act, asV, ↓reduceIte, Nat.reduceEqDiff, reduceCtorEq, Nat.reduceAdd, Nat.reduceLeDiff, Nat.reduceSub, Nat.reduceMul, List.reduceReplicate, Int.reduceEq, Int.reduceLT, Int.reduceLE, Int.reduceAdd, Int.reduceSub, Int.reduceMul, Nat.reduceLT, Int.reduceToNat]
      rw [hInv]
      exact ⟨v8, v9, k0, k7, k5, k6, k3, kh3, k8, kh8, k9, kh9, oa, oq, f0, f1, f2, f3, f4, f5, f6, f7, f8, f9, f10, f11, f12, f13, f14, f15, f16, fun _ => rfl, f18, f19, f20, f21, f22, f23, f24, g16, fun _ => hp 16 (by simp), fun _ => rfl⟩
    · intro L s hL hp hI
      rw [hInv] at hI
      obtain ⟨v8, v9, k0, k7, k5, k6, k3, kh3, k8, kh8, k9, kh9, oa, oq, f0, f1, f2, f3, f4, f5, f6, f7, f8, f9, f10, f11, f12, f13, f14, f15, f16, f17, f18, f19, f20, f21, f22, f23, f24, g16, g17, g18⟩ := hI
      have p17 := f17 (hp 17 (by simp))
      simp -implicitDefEqProofs (maxSteps := 2000000) only [p17, wk, act, asV, ↓reduceIte, Nat.reduceEqDiff, reduceCtorEq, Nat.reduceAdd, Nat.reduceLeDiff, Nat.reduceSub, Nat.reduceMul, List.reduceReplicate, Int.reduceEq, Int.reduceLT, Int.reduceLE, Int.reduceAdd, Int.reduceSub, Int.reduceMul, Nat.reduceLT, Int.reduceToNat]
      rw [hInv]
      exact ⟨v8, v9, k0, k7, k5, k6, k3, kh3, k8, kh8, k9, kh9, oa, oq, f0, f1, f2, f3, f4, f5, f6, f7, f8, f9, f10, f11, f12, f13, f14, f15, f16, f17, fun _ => rfl, f19, f20, f21, f22, f23, f24, g16, g17, fun _ => hp 17 (by simp)⟩
    · intro L s hL hp hI
      rw [hInv] at hI
      obtain ⟨v8, v9, k0, k7, k5, k6, k3, kh3, k8, kh8, k9, kh9, oa, oq, f0, f1, f2, f3, f4, f5, f6, f7, f8, f9, f10, f11, f12, f13, f14, f15, f16, f17, f18, f19, f20, f21, f22, f23, f24, g16, g17, g18⟩ := hI
      have p18 := f18 (hp 18 (by simp))
      simp -implicitDefEqProofs (maxSteps := 2000000) only [p18, k5, wk, act, asV, ↓reduceIte, Nat.reduceEqDiff, reduceCtorEq, Nat.reduceAdd, Nat.reduceLeDiff, Nat.reduceSub, Nat.reduceMul, List.reduceReplicate, Int.reduceEq, Int.reduceLT, Int.reduceLE, Int.reduceAdd, Int.reduceSub, Int.reduceMul, Nat.reduceLT, Int.reduceToNat]
      rw [hInv]
      exact ⟨v8, v9, k0, k7, k5, k6, k3, kh3, k8, kh8, k9, kh9, oa, oq, f0, f1, f2, f3, f4, f5, f6, f7, f8, f9, f10, f11, f12, f13, f14, f15, f16, f17, f18, fun _ => rfl, f20, f21, f22, f23, f24, g16, g17, g18⟩
    · intro L s hL hp hI
      rw [hInv] at hI
      obtain ⟨v8, v9, k0, k7, k5, k6, k3, kh3, k8, kh8, k9, kh9, oa, oq, f0, f1, f2, f3, f4, f5, f6, f7, f8, f9, f10, f11, f12, f13, f14, f15, f16, f17, f18, f19, f20, f21, f22, f23, f24, g16, g17, g18⟩ := hI
      have p19 := f19 (hp 19 (by simp))
      have p18 := f18 (hp 18 (by simp))
      have oa' := oa
      rw [g16 (g17 (g18 (hp 18 (by simp))))] at oa'
      simp -implicitDefEqProofs (maxSteps := 2000000) only [p19, p18, wk, act, asV, ↓reduceIte, Nat.reduceEqDiff, reduceCtorEq, Nat.reduceAdd, Nat.reduceLeDiff, Nat.reduceSub, Nat.reduceMul, List.reduceReplicate, Int.reduceEq, Int.reduceLT, Int.reduceLE, Int.reduceAdd, Int.reduceSub, Int.reduceMul, Nat.reduceLT, Int.reduceToNat]
      refine CallnL.of (by simp -implicitDefEqProofs (maxSteps := 2000000) only [p19, p18, wk, act, asV, ↓reduceIte, Nat.reduceEqDiff, reduceCtorEq, Nat.reduceAdd, Nat.reduceLeDiff, Nat.reduceSub, Nat.reduceMul, List.reduceReplicate, Int.reduceEq, Int.reduceLT, Int.reduceLE, Int.reduceAdd, Int.reduceSub, Int.reduceMul, Nat.reduceLT, Int.reduceToNat]; first | done | rfl) (la1 oa') ?_
      rintro _ h' ⟨rfl, hfr⟩
      simp -implicitDefEqProofs (maxSteps := 2000000) only [wk, act, asV, ↓reduceIte, Nat.reduceEqDiff, reduceCtorEq, Nat.reduceAdd, Nat.reduceLeDiff, Nat.reduceSub, Nat.reduceMul, List.reduceReplicate, Int.reduceEq, Int.reduceLT, Int.reduceLE, Int.reduceAdd, Int.reduceSub, Int.reduceMul, Nat.reduceLT, Int.reduceToNat]
      rw [hInv]
      exact ⟨v8, v9, k0, k7, k5, k6, k3, (hfr 3 (by decide)).trans kh3, k8, (hfr 8 (by decide)).trans kh8, k9, (hfr 9 (by decide)).trans kh9, ObjE_fr oa (hfr 19 (by decide)) (hfr 1041 (by decide)), ObjE_fr oq (hfr 21 (by decide)) (hfr 6042 (by decide)), f0, f1, f2, f3, f4, f5, f6, f7, f8, f9, f10, f11, f12, f13, f14, f15, f16, f17, f18, f19, fun _ => rfl, f21, f22, f23, f24, g16, g17, g18⟩
    · intro L s hL hp hI
      rw [hInv] at hI
      obtain ⟨v8, v9, k0, k7, k5, k6, k3, kh3, k8, kh8, k9, kh9, oa, oq, f0, f1, f2, f3, f4, f5, f6, f7, f8, f9, f10, f11, f12, f13, f14, f15, f16, f17, f18, f19, f20, f21, f22, f23, f24, g16, g17, g18⟩ := hI
      have p18 := f18 (hp 18 (by simp))
      simp -implicitDefEqProofs (maxSteps := 2000000) only [p18, k6, wk, act, asV, ↓reduceIte, Nat.reduceEqDiff, reduceCtorEq, Nat.reduceAdd, Nat.reduceLeDiff, Nat.reduceSub, Nat.reduceMul, List.reduceReplicate, Int.reduceEq, Int.reduceLT, Int.reduceLE, Int.reduceAdd, Int.reduceSub, Int.reduceMul, Nat.reduceLT, Int.reduceToNat]
      rw [hInv]
      exact ⟨v8, v9, k0, k7, k5, k6, k3, kh3, k8, kh8, k9, kh9, oa, oq, f0, f1, f2, f3, f4, f5, f6, f7, f8, f9, f10, f11, f12, f13, f14, f15, f16, f17, f18, f19, f20, fun _ => rfl, f22, f23, f24, g16, g17, g18⟩
    · intro L s hL hp hI
      rw [hInv] at hI
      obtain ⟨v8, v9, k0, k7, k5, k6, k3, kh3, k8, kh8, k9, kh9, oa, oq, f0, f1, f2, f3, f4, f5, f6, f7, f8, f9, f10, f11, f12, f13, f14, f15, f16, f17, f18, f19, f20, f21, f22, f23, f24, g16, g17, g18⟩ := hI
      have p21 := f21 (hp 21 (by simp))
      have p18 := f18 (hp 18 (by simp))
      have oq' := oq
      rw [g17 (g18 (hp 18 (by simp)))] at oq'
      simp -implicitDefEqProofs (maxSteps := 2000000) only [p21, p18, wk, act, asV, ↓reduceIte, Nat.reduceEqDiff, reduceCtorEq, Nat.reduceAdd, Nat.reduceLeDiff, Nat.reduceSub, Nat.reduceMul, List.reduceReplicate, Int.reduceEq, Int.reduceLT, Int.reduceLE, Int.reduceAdd, Int.reduceSub, Int.reduceMul, Nat.reduceLT, Int.reduceToNat]
      refine CallnL.of (by simp -implicitDefEqProofs (maxSteps := 2000000) only [p21, p18, wk, act, asV, ↓reduceIte, Nat.reduceEqDiff, reduceCtorEq, Nat.reduceAdd, Nat.reduceLeDiff, Nat.reduceSub, Nat.reduceMul, List.reduceReplicate, Int.reduceEq, Int.reduceLT, Int.reduceLE, Int.reduceAdd, Int.reduceSub, Int.reduceMul, Nat.reduceLT, Int.reduceToNat]; first | done | rfl) (lq1 oq') ?_
      rintro _ h' ⟨rfl, hfr⟩
      simp -implicitDefEqProofs (maxSteps := 2000000) only [wk, act, asV, ↓reduceIte, Nat.reduceEqDiff, reduceCtorEq, Nat.reduceAdd, Nat.reduceLeDiff, Nat.reduceSub, Nat.reduceMul, List.reduceReplicate, Int.reduceEq, Int.reduceLT, Int.reduceLE, Int.reduceAdd, Int.reduceSub, Int.reduceMul, Nat.reduceLT, Int.reduceToNat]
      rw [hInv]
      exact ⟨v8, v9, k0, k7, k5, k6, k3, (hfr 3 (by decide)).trans kh3, k8, (hfr 8 (by decide)).trans kh8, k9, (hfr 9 (by decide)).trans kh9, ObjE_fr oa (hfr 19 (by decide)) (hfr 1041 (by decide)), ObjE_fr oq (hfr 21 (by decide)) (hfr 6042 (by decide)), f0, f1, f2, f3, f4, f5, f6, f7, f8, f9, f10, f11, f12, f13, f14, f15, f16, f17, f18, f19, f20, f21, fun _ => rfl, f23, f24, g16, g17, g18⟩
    · intro L s hL hp hI
      rw [hInv] at hI
      obtain ⟨v8, v9, k0, k7, k5, k6, k3, kh3, k8, kh8, k9, kh9, oa, oq, f0, f1, f2, f3, f4, f5, f6, f7, f8, f9, f10, f11, f12, f13, f14, f15, f16, f17, f18, f19, f20, f21, f22, f23, f24, g16, g17, g18⟩ := hI
      have p18 := f18 (hp 18 (by simp))
      have p20 := f20 (hp 20 (by simp))
      have p22 := f22 (hp 22 (by simp))
      simp -implicitDefEqProofs (maxSteps := 2000000) only [p18, p20, p22, q1, q2, wk, act, asV, ↓reduceIte, Nat.reduceEqDiff, reduceCtorEq, Nat.reduceAdd, Nat.reduceLeDiff, Nat.reduceSub, Nat.reduceMul, List.reduceReplicate, Int.reduceEq, Int.reduceLT, Int.reduceLE, Int.reduceAdd, Int.reduceSub, Int.reduceMul, Nat.reduceLT, Int.reduceToNat]
      rw [hInv]
      exact ⟨v8, v9, k0, k7, k5, k6, k3, kh3, k8, kh8, k9, kh9, oa, oq, f0, f1, f2, f3, f4, f5, f6, f7, f8, f9, f10, f11, f12, f13, f14, f15, f16, f17, f18, f19, f20, f21, f22, fun _ => rfl, f24, g16, g17, g18⟩
    · intro L s hL hp hI
      rw [hInv] at hI
      obtain ⟨v8, v9, k0, k7, k5, k6, k3, kh3, k8, kh8, k9, kh9, oa, oq, f0, f1, f2, f3, f4, f5, f6, f7, f8, f9, f10, f11, f12, f13, f14, f15, f16, f17, f18, f19, f20, f21, f22, f23, f24, g16, g17, g18⟩ := hI
      have p18 := f18 (hp 18 (by simp))
      have p23 := f23 (hp 23 (by simp))
      simp -implicitDefEqProofs (maxSteps := 2000000) only [p18, p23, wk, act, asV, ↓reduceIte, Nat.reduceEqDiff, reduceCtorEq, Nat.reduceAdd, Nat.reduceLeDiff, Nat.reduceSub, Nat.reduceMul, List.reduceReplicate, Int.reduceEq, Int.reduceLT, Int.reduceLE, Int.reduceAdd, Int.reduceSub, Int.reduceMul, Nat.reduceLT, Int.reduceToNat]
      rw [hInv]
      exact ⟨v8, v9, k0, k7, k5, k6, k3, kh3, k8, kh8, k9, kh9, oa, oq, f0, f1, f2, f3, f4, f5, f6, f7, f8, f9, f10, f11, f12, f13, f14, f15, f16, f17, f18, f19, f20, f21, f22, f23, fun _ => rfl, g16, g17, g18⟩
  · intro s hI
    rw [hInv] at hI
    obtain ⟨v8, v9, k0, k7, k5, k6, k3, kh3, k8, kh8, k9, kh9, oa, oq, f0, f1, f2, f3, f4, f5, f6, f7, f8, f9, f10, f11, f12, f13, f14, f15, f16, f17, f18, f19, f20, f21, f22, f23, f24, g16, g17, g18⟩ := hI
    have f24 := f24 (by decide)
    have k68 : s.t 68 = .bool false := f24
    have oa' : ObjE 19 va 1041 s.h es2 := oa
    have oq' : ObjE 21 vq 6042 s.h es2 := oq
    have lD : (bl D).length = 32 := by rw [bl_length, hD]
    have tD : List.take 32 (bl D) = bl D := List.take_of_length_le (by omega)
    have c1 := record_ok D hD ⟨id, e, .plain, d⟩ (by simp)
    have c2 := recordR_ok D hD id e
    simp only [rc] at c1
    obtain ⟨R, hR⟩ : ∃ R, R = recR D id e := ⟨_, rfl⟩
    rw [← hR] at c1 c2
    have c3 := bytes_ok .plain .plain R R
    rw [decide_eq_true rfl] at c3
    have tR := take_bl R
    have hlR : (bl R).length = R.length := bl_length R
    have pR := bl_pur R
    have sR := bl_scal R
    repeat' (first | simp -implicitDefEqProofs (maxSteps := 2000000) only [m3_3, m3_4, m3_5, m3_6, m3_7, m3_8, m3_9, m3_10, k68, k0, k7, k5, k6, k3, kh3, k8, kh8, k9, kh9, lD, tD, tR, hlR, bl_pur, bl_scal, wi, wk, act, asV, ↓reduceIte, Nat.reduceEqDiff, reduceCtorEq, Nat.reduceAdd, Nat.reduceLeDiff, Nat.reduceSub, Nat.reduceMul, List.reduceReplicate, Int.reduceEq, Int.reduceLT, Int.reduceLE, Int.reduceAdd, Int.reduceSub, Int.reduceMul, Nat.reduceLT, Int.reduceToNat] | ((first | ((with_reducible refine CallL.gate ?_); apply CallL.of) | ((with_reducible refine CallpL.gate ?_); apply CallpL.of) | ((with_reducible refine CallP.gate ?_); apply CallP.of) | ((with_reducible refine CallpP.gate ?_); apply CallpP.of)); (case h1 => (simp -implicitDefEqProofs (maxSteps := 2000000) only [m3_3, m3_4, m3_5, m3_6, m3_7, m3_8, m3_9, m3_10, k68, k0, k7, k5, k6, k3, kh3, k8, kh8, k9, kh9, lD, tD, tR, hlR, bl_pur, bl_scal, wi, wk, act, asV, ↓reduceIte, Nat.reduceEqDiff, reduceCtorEq, Nat.reduceAdd, Nat.reduceLeDiff, Nat.reduceSub, Nat.reduceMul, List.reduceReplicate, Int.reduceEq, Int.reduceLT, Int.reduceLE, Int.reduceAdd, Int.reduceSub, Int.reduceMul, Nat.reduceLT, Int.reduceToNat]; first | done | (with_reducible rfl))); (case h2 => (first | exact c1 | exact c2 | exact c3)); (case h3 => simp -implicitDefEqProofs (maxSteps := 2000000) only [m3_3, m3_4, m3_5, m3_6, m3_7, m3_8, m3_9, m3_10, k68, k0, k7, k5, k6, k3, kh3, k8, kh8, k9, kh9, lD, tD, tR, hlR, bl_pur, bl_scal, wi, wk, act, asV, ↓reduceIte, Nat.reduceEqDiff, reduceCtorEq, Nat.reduceAdd, Nat.reduceLeDiff, Nat.reduceSub, Nat.reduceMul, List.reduceReplicate, Int.reduceEq, Int.reduceLT, Int.reduceLE, Int.reduceAdd, Int.reduceSub, Int.reduceMul, Nat.reduceLT, Int.reduceToNat])))
    refine hQ _ (by simp -implicitDefEqProofs (maxSteps := 2000000) only [k0, wk, act, asV, ↓reduceIte, Nat.reduceEqDiff, reduceCtorEq, Nat.reduceAdd, Nat.reduceLeDiff, Nat.reduceSub, Nat.reduceMul, List.reduceReplicate, Int.reduceEq, Int.reduceLT, Int.reduceLE, Int.reduceAdd, Int.reduceSub, Int.reduceMul, Nat.reduceLT, Int.reduceToNat]) (by simp -implicitDefEqProofs (maxSteps := 2000000) only [wk, act, asV, ↓reduceIte, Nat.reduceEqDiff, reduceCtorEq, Nat.reduceAdd, Nat.reduceLeDiff, Nat.reduceSub, Nat.reduceMul, List.reduceReplicate, Int.reduceEq, Int.reduceLT, Int.reduceLE, Int.reduceAdd, Int.reduceSub, Int.reduceMul, Nat.reduceLT, Int.reduceToNat]) (by simp -implicitDefEqProofs (maxSteps := 2000000) only [k5, wk, act, asV, ↓reduceIte, Nat.reduceEqDiff, reduceCtorEq, Nat.reduceAdd, Nat.reduceLeDiff, Nat.reduceSub, Nat.reduceMul, List.reduceReplicate, Int.reduceEq, Int.reduceLT, Int.reduceLE, Int.reduceAdd, Int.reduceSub, Int.reduceMul, Nat.reduceLT, Int.reduceToNat]) (by simp -implicitDefEqProofs (maxSteps := 2000000) only [k6, wk, act, asV, ↓reduceIte, Nat.reduceEqDiff, reduceCtorEq, Nat.reduceAdd, Nat.reduceLeDiff, Nat.reduceSub, Nat.reduceMul, List.reduceReplicate, Int.reduceEq, Int.reduceLT, Int.reduceLE, Int.reduceAdd, Int.reduceSub, Int.reduceMul, Nat.reduceLT, Int.reduceToNat]) (by simp -implicitDefEqProofs (maxSteps := 2000000) only [k3, wk, act, asV, ↓reduceIte, Nat.reduceEqDiff, reduceCtorEq, Nat.reduceAdd, Nat.reduceLeDiff, Nat.reduceSub, Nat.reduceMul, List.reduceReplicate, Int.reduceEq, Int.reduceLT, Int.reduceLE, Int.reduceAdd, Int.reduceSub, Int.reduceMul, Nat.reduceLT, Int.reduceToNat]) (by simp -implicitDefEqProofs (maxSteps := 2000000) only [kh3, wk, act, asV, ↓reduceIte, Nat.reduceEqDiff, reduceCtorEq, Nat.reduceAdd, Nat.reduceLeDiff, Nat.reduceSub, Nat.reduceMul, List.reduceReplicate, Int.reduceEq, Int.reduceLT, Int.reduceLE, Int.reduceAdd, Int.reduceSub, Int.reduceMul, Nat.reduceLT, Int.reduceToNat]) (ObjE_fr oa' (by simp -implicitDefEqProofs (maxSteps := 2000000) only [wk, act, asV, ↓reduceIte, Nat.reduceEqDiff, reduceCtorEq, Nat.reduceAdd, Nat.reduceLeDiff, Nat.reduceSub, Nat.reduceMul, List.reduceReplicate, Int.reduceEq, Int.reduceLT, Int.reduceLE, Int.reduceAdd, Int.reduceSub, Int.reduceMul, Nat.reduceLT, Int.reduceToNat]; first | done | rfl) (by simp -implicitDefEqProofs (maxSteps := 2000000) only [wk, act, asV, ↓reduceIte, Nat.reduceEqDiff, reduceCtorEq, Nat.reduceAdd, Nat.reduceLeDiff, Nat.reduceSub, Nat.reduceMul, List.reduceReplicate, Int.reduceEq, Int.reduceLT, Int.reduceLE, Int.reduceAdd, Int.reduceSub, Int.reduceMul, Nat.reduceLT, Int.reduceToNat]; first | done | rfl)) (ObjE_fr oq' (by simp -implicitDefEqProofs (maxSteps := 2000000) only [wk, act, asV, ↓reduceIte, Nat.reduceEqDiff, reduceCtorEq, Nat.reduceAdd, Nat.reduceLeDiff, Nat.reduceSub, Nat.reduceMul, List.reduceReplicate, Int.reduceEq, Int.reduceLT, Int.reduceLE, Int.reduceAdd, Int.reduceSub, Int.reduceMul, Nat.reduceLT, Int.reduceToNat]; first | done | rfl) (by simp -implicitDefEqProofs (maxSteps := 2000000) only [wk, act, asV, ↓reduceIte, Nat.reduceEqDiff, reduceCtorEq, Nat.reduceAdd, Nat.reduceLeDiff, Nat.reduceSub, Nat.reduceMul, List.reduceReplicate, Int.reduceEq, Int.reduceLT, Int.reduceLE, Int.reduceAdd, Int.reduceSub, Int.reduceMul, Nat.reduceLT, Int.reduceToNat]; first | done | rfl))

theorem auditAdds (xs : List Sd) (hx : ∀ x ∈ xs, x.Ok) (hn : xs.length < 2 ^ 63) (D : List UInt8) (hD : D.length = 32) : RC Try.prog 3 [.sl .plain xs.length (sdL xs), .agg (bl D)] [.bool true] := by
  refine RC.of_wp c3 rfl ?_
  have c0 := fairS_ok .plain xs hn (fun x h => (hx x h).f)
  by_cases hf : fairS xs = false
  · rw [hf] at c0
    repeat' (first | simp -implicitDefEqProofs (maxSteps := 2000000) only [m3_1, m3_2, m3_3, m3_4, m3_5, m3_6, m3_7, m3_8, m3_9, m3_10, m3_11, m3_12, m3_13, m3_14, m3_15, m3_16, m3_17, m3_18, m3_19, m3_r, m3_b, m3, wk, act, asV, ↓reduceIte, Nat.reduceEqDiff, reduceCtorEq, Nat.reduceAdd, Nat.reduceLeDiff, Nat.reduceSub, Nat.reduceMul, List.reduceReplicate, Int.reduceEq, Int.reduceLT, Int.reduceLE, Int.reduceAdd, Int.reduceSub, Int.reduceMul, Nat.reduceLT, Int.reduceToNat] | ((first | ((with_reducible refine CallL.gate ?_); apply CallL.of) | ((with_reducible refine CallpL.gate ?_); apply CallpL.of) | ((with_reducible refine CallP.gate ?_); apply CallP.of) | ((with_reducible refine CallpP.gate ?_); apply CallpP.of)); (case h1 => (simp -implicitDefEqProofs (maxSteps := 2000000) only [m3_1, m3_2, m3_3, m3_4, m3_5, m3_6, m3_7, m3_8, m3_9, m3_10, m3_11, m3_12, m3_13, m3_14, m3_15, m3_16, m3_17, m3_18, m3_19, m3_r, m3_b, m3, wk, act, asV, ↓reduceIte, Nat.reduceEqDiff, reduceCtorEq, Nat.reduceAdd, Nat.reduceLeDiff, Nat.reduceSub, Nat.reduceMul, List.reduceReplicate, Int.reduceEq, Int.reduceLT, Int.reduceLE, Int.reduceAdd, Int.reduceSub, Int.reduceMul, Nat.reduceLT, Int.reduceToNat]; first | done | (with_reducible rfl))); (case h2 => (first | exact c0 | exact wakesA_ok)); (case h3 => simp -implicitDefEqProofs (maxSteps := 2000000) only [m3_1, m3_2, m3_3, m3_4, m3_5, m3_6, m3_7, m3_8, m3_9, m3_10, m3_11, m3_12, m3_13, m3_14, m3_15, m3_16, m3_17, m3_18, m3_19, m3_r, m3_b, m3, wk, act, asV, ↓reduceIte, Nat.reduceEqDiff, reduceCtorEq, Nat.reduceAdd, Nat.reduceLeDiff, Nat.reduceSub, Nat.reduceMul, List.reduceReplicate, Int.reduceEq, Int.reduceLT, Int.reduceLE, Int.reduceAdd, Int.reduceSub, Int.reduceMul, Nat.reduceLT, Int.reduceToNat])))
  have hf' : fairS xs = true := by simpa using hf
  obtain ⟨f30, fmem⟩ := fairS_of hf'
  rw [hf'] at c0
  repeat' (first | simp -implicitDefEqProofs (maxSteps := 2000000) only [m3, m3_r, m3_b, m3_1, m3_2, m3_14, m3_15, m3_16, m3_17, m3_18, m3_19, wk, act, asV, ↓reduceIte, Nat.reduceEqDiff, reduceCtorEq, Nat.reduceAdd, Nat.reduceLeDiff, Nat.reduceSub, Nat.reduceMul, List.reduceReplicate, Int.reduceEq, Int.reduceLT, Int.reduceLE, Int.reduceAdd, Int.reduceSub, Int.reduceMul, Nat.reduceLT, Int.reduceToNat] | ((first | ((with_reducible refine CallL.gate ?_); apply CallL.of) | ((with_reducible refine CallpL.gate ?_); apply CallpL.of) | ((with_reducible refine CallP.gate ?_); apply CallP.of) | ((with_reducible refine CallpP.gate ?_); apply CallpP.of)); (case h1 => (simp -implicitDefEqProofs (maxSteps := 2000000) only [m3, m3_r, m3_b, m3_1, m3_2, m3_14, m3_15, m3_16, m3_17, m3_18, m3_19, wk, act, asV, ↓reduceIte, Nat.reduceEqDiff, reduceCtorEq, Nat.reduceAdd, Nat.reduceLeDiff, Nat.reduceSub, Nat.reduceMul, List.reduceReplicate, Int.reduceEq, Int.reduceLT, Int.reduceLE, Int.reduceAdd, Int.reduceSub, Int.reduceMul, Nat.reduceLT, Int.reduceToNat]; first | done | (with_reducible rfl))); (case h2 => (first | exact c0)); (case h3 => simp -implicitDefEqProofs (maxSteps := 2000000) only [m3, m3_r, m3_b, m3_1, m3_2, m3_14, m3_15, m3_16, m3_17, m3_18, m3_19, wk, act, asV, ↓reduceIte, Nat.reduceEqDiff, reduceCtorEq, Nat.reduceAdd, Nat.reduceLeDiff, Nat.reduceSub, Nat.reduceMul, List.reduceReplicate, Int.reduceEq, Int.reduceLT, Int.reduceLE, Int.reduceAdd, Int.reduceSub, Int.reduceMul, Nat.reduceLT, Int.reduceToNat])))
  refine Wp_loop (fun m s => ∃ i, i ≤ xs.length ∧ m = xs.length - i ∧ s.t 0 = .sl .plain xs.length (sdL xs) ∧ s.t 7 = .int .i64 (i : Nat) ∧ ∃ va vq v3, s.t 5 = .ptr 19 0 va ∧ s.t 6 = .ptr 21 0 vq ∧ s.t 3 = .ptr 3 0 v3 ∧ s.h 3 = ⟨v3, true, true, false, bl D⟩ ∧ ObjE 19 va 1041 s.h (adds (xs.take i)) ∧ ObjE 21 vq 6042 s.h (adds (xs.take i))) xs.length ⟨0, by omega, rfl, rfl, rfl, _, _, _, rfl, rfl, rfl, rfl, ⟨_, rfl, .inl ⟨rfl, rfl⟩⟩, ⟨_, rfl, .inl ⟨rfl, rfl⟩⟩⟩ ?_
  rintro m s ⟨i, hi, rfl, k0, k7, va, vq, v3, k5, k6, k3, kh3, ko, kq⟩
  by_cases hil : i < xs.length
  · have hil' : (i : Int) < xs.length := by omega
    have eX := sdL_drop hil
    have hfi := fmem _ (List.getElem_mem hil)
    have hpl := (hx _ (List.getElem_mem hil)).f
    obtain ⟨t1, t2⟩ := adds_facts i (xs.take i) (by rw [List.length_take]; omega)
    have et : adds (xs.take (i + 1)) = addE (adds (xs.take i)) xs[i].asked xs[i].r := by rw [List.take_succ_eq_append_getElem hil, adds_snoc]
    obtain ⟨x, hxx⟩ : ∃ x, x = xs[i] := ⟨_, rfl⟩
    rw [← hxx] at eX hfi hpl et
    obtain ⟨a, ⟨id, e, f, d⟩⟩ := x
    simp only at hfi hpl et
    subst hpl
    simp -implicitDefEqProofs (maxSteps := 2000000) only [k0, k7, hil', wk, act, asV, ↓reduceIte, Nat.reduceEqDiff, reduceCtorEq, Nat.reduceAdd, Nat.reduceLeDiff, Nat.reduceSub, Nat.reduceMul, List.reduceReplicate, Int.reduceEq, Int.reduceLT, Int.reduceLE, Int.reduceAdd, Int.reduceSub, Int.reduceMul, Nat.reduceLT, Int.reduceToNat]
    refine a3_body (va := va) (vq := vq) (v3 := v3) hil f30 t2 t1 hD eX hfi.1 hfi.2 et (by simp -implicitDefEqProofs (maxSteps := 2000000) only [k0, wk, act, asV, ↓reduceIte, Nat.reduceEqDiff, reduceCtorEq, Nat.reduceAdd, Nat.reduceLeDiff, Nat.reduceSub, Nat.reduceMul, List.reduceReplicate, Int.reduceEq, Int.reduceLT, Int.reduceLE, Int.reduceAdd, Int.reduceSub, Int.reduceMul, Nat.reduceLT, Int.reduceToNat]) (by simp -implicitDefEqProofs (maxSteps := 2000000) only [k7, wk, act, asV, ↓reduceIte, Nat.reduceEqDiff, reduceCtorEq, Nat.reduceAdd, Nat.reduceLeDiff, Nat.reduceSub, Nat.reduceMul, List.reduceReplicate, Int.reduceEq, Int.reduceLT, Int.reduceLE, Int.reduceAdd, Int.reduceSub, Int.reduceMul, Nat.reduceLT, Int.reduceToNat]) (by simp -implicitDefEqProofs (maxSteps := 2000000) only [k5, wk, act, asV, ↓reduceIte, Nat.reduceEqDiff, reduceCtorEq, Nat.reduceAdd, Nat.reduceLeDiff, Nat.reduceSub, Nat.reduceMul, List.reduceReplicate, Int.reduceEq, Int.reduceLT, Int.reduceLE, Int.reduceAdd, Int.reduceSub, Int.reduceMul, Nat.reduceLT, Int.reduceToNat]) (by simp -implicitDefEqProofs (maxSteps := 2000000) only [k6, wk, act, asV, ↓reduceIte, Nat.reduceEqDiff, reduceCtorEq, Nat.reduceAdd, Nat.reduceLeDiff, Nat.reduceSub, Nat.reduceMul, List.reduceReplicate, Int.reduceEq, Int.reduceLT, Int.reduceLE, Int.reduceAdd, Int.reduceSub, Int.reduceMul, Nat.reduceLT, Int.reduceToNat]) (by simp -implicitDefEqProofs (maxSteps := 2000000) only [k3, wk, act, asV, ↓reduceIte, Nat.reduceEqDiff, reduceCtorEq, Nat.reduceAdd, Nat.reduceLeDiff, Nat.reduceSub, Nat.reduceMul, List.reduceReplicate, Int.reduceEq, Int.reduceLT, Int.reduceLE, Int.reduceAdd, Int.reduceSub, Int.reduceMul, Nat.reduceLT, Int.reduceToNat]) (by simp -implicitDefEqProofs (maxSteps := 2000000) only [kh3, wk, act, asV, ↓reduceIte, Nat.reduceEqDiff, reduceCtorEq, Nat.reduceAdd, Nat.reduceLeDiff, Nat.reduceSub, Nat.reduceMul, List.reduceReplicate, Int.reduceEq, Int.reduceLT, Int.reduceLE, Int.reduceAdd, Int.reduceSub, Int.reduceMul, Nat.reduceLT, Int.reduceToNat]) (ObjE_fr ko (by simp -implicitDefEqProofs (maxSteps := 2000000) only [wk, act, asV, ↓reduceIte, Nat.reduceEqDiff, reduceCtorEq, Nat.reduceAdd, Nat.reduceLeDiff, Nat.reduceSub, Nat.reduceMul, List.reduceReplicate, Int.reduceEq, Int.reduceLT, Int.reduceLE, Int.reduceAdd, Int.reduceSub, Int.reduceMul, Nat.reduceLT, Int.reduceToNat]; first | done | rfl) (by simp -implicitDefEqProofs (maxSteps := 2000000) only [wk, act, asV, ↓reduceIte, Nat.reduceEqDiff, reduceCtorEq, Nat.reduceAdd, Nat.reduceLeDiff, Nat.reduceSub, Nat.reduceMul, List.reduceReplicate, Int.reduceEq, Int.reduceLT, Int.reduceLE, Int.reduceAdd, Int.reduceSub, Int.reduceMul, Nat.reduceLT, Int.reduceToNat]; first | done | rfl)) (ObjE_fr kq (by simp -implicitDefEqProofs (maxSteps := 2000000) only [wk, act, asV, ↓reduceIte, Nat.reduceEqDiff, reduceCtorEq, Nat.reduceAdd, Nat.reduceLeDiff, Nat.reduceSub, Nat.reduceMul, List.reduceReplicate, Int.reduceEq, Int.reduceLT, Int.reduceLE, Int.reduceAdd, Int.reduceSub, Int.reduceMul, Nat.reduceLT, Int.reduceToNat]; first | done | rfl) (by simp -implicitDefEqProofs (maxSteps := 2000000) only [wk, act, asV, ↓reduceIte, Nat.reduceEqDiff, reduceCtorEq, Nat.reduceAdd, Nat.reduceLeDiff, Nat.reduceSub, Nat.reduceMul, List.reduceReplicate, Int.reduceEq, Int.reduceLT, Int.reduceLE, Int.reduceAdd, Int.reduceSub, Int.reduceMul, Nat.reduceLT, Int.reduceToNat]; first | done | rfl)) ?_
    intro s' j0 j7 j5 j6 j3 jh3 jo jq
    simp -implicitDefEqProofs (maxSteps := 2000000) only [wk, act, asV, ↓reduceIte, Nat.reduceEqDiff, reduceCtorEq, Nat.reduceAdd, Nat.reduceLeDiff, Nat.reduceSub, Nat.reduceMul, List.reduceReplicate, Int.reduceEq, Int.reduceLT, Int.reduceLE, Int.reduceAdd, Int.reduceSub, Int.reduceMul, Nat.reduceLT, Int.reduceToNat]
    exact ⟨xs.length - (i + 1), by omega, i + 1, by omega, rfl, j0, j7, va, vq, v3, j5, j6, j3, jh3, jo, jq⟩
  · obtain rfl : i = xs.length := by omega
    have hil' : ¬ ((xs.length : Nat) : Int) < xs.length := by omega
    rw [List.take_length] at ko kq
    obtain ⟨t1, t2⟩ := adds_facts xs.length xs rfl
    obtain ⟨es, hes⟩ : ∃ es, es = adds xs := ⟨_, rfl⟩
    rw [← hes] at ko kq t1 t2
    have lL := enL_length t2
    have tL := enL_take es t2
    have pL := enL_pur es
    have sL := enL_scal es
    have kq0 := kq
    obtain ⟨v, hq, hheld⟩ := kq
    rcases hheld with ⟨h0, rfl⟩ | ⟨hp, ver, rfl, hrow⟩
    · have c5 := same_ok .full es t2 (by omega)
      have hE : enL es = [] := by rw [h0]; rfl
      have hl0 : es.length = 0 := by rw [h0]; rfl
      rw [hl0, hE] at c5
      simp -implicitDefEqProofs (maxSteps := 2000000) only [k0, k7, k5, k6, hil', wk, act, asV, ↓reduceIte, Nat.reduceEqDiff, reduceCtorEq, Nat.reduceAdd, Nat.reduceLeDiff, Nat.reduceSub, Nat.reduceMul, List.reduceReplicate, Int.reduceEq, Int.reduceLT, Int.reduceLE, Int.reduceAdd, Int.reduceSub, Int.reduceMul, Nat.reduceLT, Int.reduceToNat]
      refine DrcA.of [21] (by simp -implicitDefEqProofs (maxSteps := 2000000) only [k5, wk, act, asV, ↓reduceIte, Nat.reduceEqDiff, reduceCtorEq, Nat.reduceAdd, Nat.reduceLeDiff, Nat.reduceSub, Nat.reduceMul, List.reduceReplicate, Int.reduceEq, Int.reduceLT, Int.reduceLE, Int.reduceAdd, Int.reduceSub, Int.reduceMul, Nat.reduceLT, Int.reduceToNat]; first | done | rfl) (entries_ok (h := 19) (by decide) t2 (by omega) (ObjE_fr ko (by simp -implicitDefEqProofs (maxSteps := 2000000) only [hideH, wk, act, asV, ↓reduceIte, Nat.reduceEqDiff, reduceCtorEq, Nat.reduceAdd, Nat.reduceLeDiff, Nat.reduceSub, Nat.reduceMul, List.reduceReplicate, Int.reduceEq, Int.reduceLT, Int.reduceLE, Int.reduceAdd, Int.reduceSub, Int.reduceMul, Nat.reduceLT, Int.reduceToNat]) (by simp -implicitDefEqProofs (maxSteps := 2000000) only [hideH, wk, act, asV, ↓reduceIte, Nat.reduceEqDiff, reduceCtorEq, Nat.reduceAdd, Nat.reduceLeDiff, Nat.reduceSub, Nat.reduceMul, List.reduceReplicate, Int.reduceEq, Int.reduceLT, Int.reduceLE, Int.reduceAdd, Int.reduceSub, Int.reduceMul, Nat.reduceLT, Int.reduceToNat]))) ?_ (by simp [dsts, hom0]) ?_
      · rintro r h3 ⟨ver3, rfl, e3, hfr3⟩
        refine ⟨fun y hy => ?_, fun z hz => ?_⟩
        · simp only [List.mem_cons, List.not_mem_nil, or_false] at hy
          subst hy
          rw [hfr3 _ (by decide)]; simp -implicitDefEqProofs (maxSteps := 2000000) only [hideH, wk, act, asV, ↓reduceIte, Nat.reduceEqDiff, reduceCtorEq, Nat.reduceAdd, Nat.reduceLeDiff, Nat.reduceSub, Nat.reduceMul, List.reduceReplicate, Int.reduceEq, Int.reduceLT, Int.reduceLE, Int.reduceAdd, Int.reduceSub, Int.reduceMul, Nat.reduceLT, Int.reduceToNat]
        · simp only [dsts, List.mem_cons, List.not_mem_nil, or_false] at hz
          rw [hom0, hfr3 z (by omega)]
          rcases hz with rfl | rfl | rfl | rfl <;> simp -implicitDefEqProofs (maxSteps := 2000000) only [hideH, wk, act, asV, ↓reduceIte, Nat.reduceEqDiff, reduceCtorEq, Nat.reduceAdd, Nat.reduceLeDiff, Nat.reduceSub, Nat.reduceMul, List.reduceReplicate, Int.reduceEq, Int.reduceLT, Int.reduceLE, Int.reduceAdd, Int.reduceSub, Int.reduceMul, Nat.reduceLT, Int.reduceToNat]
      · simp -implicitDefEqProofs (maxSteps := 2000000) only [k6, hq, wk, act, asV, ↓reduceIte, Nat.reduceEqDiff, reduceCtorEq, Nat.reduceAdd, Nat.reduceLeDiff, Nat.reduceSub, Nat.reduceMul, List.reduceReplicate, Int.reduceEq, Int.reduceLT, Int.reduceLE, Int.reduceAdd, Int.reduceSub, Int.reduceMul, Nat.reduceLT, Int.reduceToNat]
        refine DrcB.of ?_
        rintro r h3 ⟨ver3, rfl, e3, hfr3⟩
        rw [hE, hl0] at *
        repeat' (first | simp -implicitDefEqProofs (maxSteps := 2000000) only [e3, wk, act, asV, ↓reduceIte, Nat.reduceEqDiff, reduceCtorEq, Nat.reduceAdd, Nat.reduceLeDiff, Nat.reduceSub, Nat.reduceMul, List.reduceReplicate, Int.reduceEq, Int.reduceLT, Int.reduceLE, Int.reduceAdd, Int.reduceSub, Int.reduceMul, Nat.reduceLT, Int.reduceToNat] | ((first | ((with_reducible refine CallL.gate ?_); apply CallL.of) | ((with_reducible refine CallpL.gate ?_); apply CallpL.of) | ((with_reducible refine CallP.gate ?_); apply CallP.of) | ((with_reducible refine CallpP.gate ?_); apply CallpP.of)); (case h1 => (simp -implicitDefEqProofs (maxSteps := 2000000) only [e3, wk, act, asV, ↓reduceIte, Nat.reduceEqDiff, reduceCtorEq, Nat.reduceAdd, Nat.reduceLeDiff, Nat.reduceSub, Nat.reduceMul, List.reduceReplicate, Int.reduceEq, Int.reduceLT, Int.reduceLE, Int.reduceAdd, Int.reduceSub, Int.reduceMul, Nat.reduceLT, Int.reduceToNat]; first | done | (with_reducible rfl))); (case h2 => (first | exact c5 | exact wakesA_ok)); (case h3 => simp -implicitDefEqProofs (maxSteps := 2000000) only [e3, wk, act, asV, ↓reduceIte, Nat.reduceEqDiff, reduceCtorEq, Nat.reduceAdd, Nat.reduceLeDiff, Nat.reduceSub, Nat.reduceMul, List.reduceReplicate, Int.reduceEq, Int.reduceLT, Int.reduceLE, Int.reduceAdd, Int.reduceSub, Int.reduceMul, Nat.reduceLT, Int.reduceToNat])))
    · have c5 := same_ok .plain es t2 (by omega)
      simp -implicitDefEqProofs (maxSteps := 2000000) only [k0, k7, k5, k6, hil', wk, act, asV, ↓reduceIte, Nat.reduceEqDiff, reduceCtorEq, Nat.reduceAdd, Nat.reduceLeDiff, Nat.reduceSub, Nat.reduceMul, List.reduceReplicate, Int.reduceEq, Int.reduceLT, Int.reduceLE, Int.reduceAdd, Int.reduceSub, Int.reduceMul, Nat.reduceLT, Int.reduceToNat]
      refine DrcA.of [21] (by simp -implicitDefEqProofs (maxSteps := 2000000) only [k5, wk, act, asV, ↓reduceIte, Nat.reduceEqDiff, reduceCtorEq, Nat.reduceAdd, Nat.reduceLeDiff, Nat.reduceSub, Nat.reduceMul, List.reduceReplicate, Int.reduceEq, Int.reduceLT, Int.reduceLE, Int.reduceAdd, Int.reduceSub, Int.reduceMul, Nat.reduceLT, Int.reduceToNat]; first | done | rfl) (entries_ok (h := 19) (by decide) t2 (by omega) (ObjE_fr ko (by simp -implicitDefEqProofs (maxSteps := 2000000) only [hideH, wk, act, asV, ↓reduceIte, Nat.reduceEqDiff, reduceCtorEq, Nat.reduceAdd, Nat.reduceLeDiff, Nat.reduceSub, Nat.reduceMul, List.reduceReplicate, Int.reduceEq, Int.reduceLT, Int.reduceLE, Int.reduceAdd, Int.reduceSub, Int.reduceMul, Nat.reduceLT, Int.reduceToNat]) (by simp -implicitDefEqProofs (maxSteps := 2000000) only [hideH, wk, act, asV, ↓reduceIte, Nat.reduceEqDiff, reduceCtorEq, Nat.reduceAdd, Nat.reduceLeDiff, Nat.reduceSub, Nat.reduceMul, List.reduceReplicate, Int.reduceEq, Int.reduceLT, Int.reduceLE, Int.reduceAdd, Int.reduceSub, Int.reduceMul, Nat.reduceLT, Int.reduceToNat]))) ?_ (by simp [dsts, hom0]) ?_
      · rintro r h3 ⟨ver3, rfl, e3, hfr3⟩
        refine ⟨fun y hy => ?_, fun z hz => ?_⟩
        · simp only [List.mem_cons, List.not_mem_nil, or_false] at hy
          subst hy
          rw [hfr3 _ (by decide)]; simp -implicitDefEqProofs (maxSteps := 2000000) only [hideH, wk, act, asV, ↓reduceIte, Nat.reduceEqDiff, reduceCtorEq, Nat.reduceAdd, Nat.reduceLeDiff, Nat.reduceSub, Nat.reduceMul, List.reduceReplicate, Int.reduceEq, Int.reduceLT, Int.reduceLE, Int.reduceAdd, Int.reduceSub, Int.reduceMul, Nat.reduceLT, Int.reduceToNat]
        · simp only [dsts, List.mem_cons, List.not_mem_nil, or_false] at hz
          rw [hom0, hfr3 z (by omega)]
          rcases hz with rfl | rfl | rfl | rfl <;> simp -implicitDefEqProofs (maxSteps := 2000000) only [hideH, wk, act, asV, ↓reduceIte, Nat.reduceEqDiff, reduceCtorEq, Nat.reduceAdd, Nat.reduceLeDiff, Nat.reduceSub, Nat.reduceMul, List.reduceReplicate, Int.reduceEq, Int.reduceLT, Int.reduceLE, Int.reduceAdd, Int.reduceSub, Int.reduceMul, Nat.reduceLT, Int.reduceToNat]
      · simp -implicitDefEqProofs (maxSteps := 2000000) only [k6, hq, wk, act, asV, ↓reduceIte, Nat.reduceEqDiff, reduceCtorEq, Nat.reduceAdd, Nat.reduceLeDiff, Nat.reduceSub, Nat.reduceMul, List.reduceReplicate, Int.reduceEq, Int.reduceLT, Int.reduceLE, Int.reduceAdd, Int.reduceSub, Int.reduceMul, Nat.reduceLT, Int.reduceToNat]
        refine DrcB.of ?_
        rintro r h3 ⟨ver3, rfl, e3, hfr3⟩
        have hr3 : h3 6042 = ⟨ver, true, true, true, enL es⟩ := by rw [hfr3 _ (by decide)]; simp -implicitDefEqProofs (maxSteps := 2000000) only [hideH, hrow, wk, act, asV, ↓reduceIte, Nat.reduceEqDiff, reduceCtorEq, Nat.reduceAdd, Nat.reduceLeDiff, Nat.reduceSub, Nat.reduceMul, List.reduceReplicate, Int.reduceEq, Int.reduceLT, Int.reduceLE, Int.reduceAdd, Int.reduceSub, Int.reduceMul, Nat.reduceLT, Int.reduceToNat]
        repeat' (first | simp -implicitDefEqProofs (maxSteps := 2000000) only [e3, hr3, tL, lL, pL, sL, wk, act, asV, ↓reduceIte, Nat.reduceEqDiff, reduceCtorEq, Nat.reduceAdd, Nat.reduceLeDiff, Nat.reduceSub, Nat.reduceMul, List.reduceReplicate, Int.reduceEq, Int.reduceLT, Int.reduceLE, Int.reduceAdd, Int.reduceSub, Int.reduceMul, Nat.reduceLT, Int.reduceToNat] | ((first | ((with_reducible refine CallL.gate ?_); apply CallL.of) | ((with_reducible refine CallpL.gate ?_); apply CallpL.of) | ((with_reducible refine CallP.gate ?_); apply CallP.of) | ((with_reducible refine CallpP.gate ?_); apply CallpP.of)); (case h1 => (simp -implicitDefEqProofs (maxSteps := 2000000) only [e3, hr3, tL, lL, pL, sL, wk, act, asV, ↓reduceIte, Nat.reduceEqDiff, reduceCtorEq, Nat.reduceAdd, Nat.reduceLeDiff, Nat.reduceSub, Nat.reduceMul, List.reduceReplicate, Int.reduceEq, Int.reduceLT, Int.reduceLE, Int.reduceAdd, Int.reduceSub, Int.reduceMul, Nat.reduceLT, Int.reduceToNat]; first | done | (with_reducible rfl))); (case h2 => (first | exact c5 | exact wakesA_ok)); (case h3 => simp -implicitDefEqProofs (maxSteps := 2000000) only [e3, hr3, tL, lL, pL, sL, wk, act, asV, ↓reduceIte, Nat.reduceEqDiff, reduceCtorEq, Nat.reduceAdd, Nat.reduceLeDiff, Nat.reduceSub, Nat.reduceMul, List.reduceReplicate, Int.reduceEq, Int.reduceLT, Int.reduceLE, Int.reduceAdd, Int.reduceSub, Int.reduceMul, Nat.reduceLT, Int.reduceToNat])))
end Go.Proofs.Ytkphojcmjffccaa
