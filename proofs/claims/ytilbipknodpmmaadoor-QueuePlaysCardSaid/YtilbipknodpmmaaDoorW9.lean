/- The law QueuePlays: what is asked behind each step. -/
import Derived.Test.YtilbipknodpmmaaDoorW8
import Derived.Test.YtilbipknodpmmaaDoorE31
set_option linter.unusedVariables false
set_option linter.unusedSimpArgs false
set_option linter.unusedSectionVars false
set_option maxRecDepth 100000
set_option maxHeartbeats 8000000
namespace Go.Proofs.YtilbipknodpmmaaDoor
open Go.RowKit

theorem qp_T {s : St} {va vr v9 : Nat} {a : It} {t : List It} {off ver : Nat} {cs : List IV} {Q : Ex → St → Prop} (k10 : s.t 10 = .bool true) (k3 : s.t 3 = .ptr 16 0 va) (k4 : s.t 4 = .ptr 18 0 vr) (k9 : s.t 9 = .ptr 9 0 v9) (k9h : s.h 9 = ⟨v9, true, true, false, itC a⟩) (hH : s.h 18 = ⟨vr, true, true, false, [.row 5022 off (t.length + 1) 36 ver]⟩) (hx' : s.h 5022 = ⟨ver, true, true, true, cs⟩) (hok : a.Ok) (hcs : List.take 36 (List.drop off cs) = itC a) (b1 : off + 36 ≤ cs.length) (ka : ObjQ 16 va 1024 s.h (a :: t))
    (hQ : ∀ s' : St, (∀ k, k < 84 → s'.t k = s.t k) → s'.h = s.h → Q .normal s') : Wp (RCs Tryd.prog) m7_29 Q s := by
  have p0n : (0 : Int) < ((t.length + 1 : Nat) : Int) := by omega
  have l0 := itC_length hok
  have t0 : List.take 36 (itC a) = itC a := List.take_of_length_le (by omega)
  have s0 := itC_scal a
  have co := own_it a hok
  have t1 := hcs
  have q1 := itC_eq a
  have q2 := itC_fit hok
  simp -implicitDefEqProofs (maxSteps := 2000000) only [m7_29, wk, act, asV, ↓reduceIte, Nat.reduceEqDiff, reduceCtorEq, Nat.reduceAdd, Nat.reduceLeDiff, Nat.reduceSub, Nat.reduceMul, List.reduceReplicate, Int.reduceEq, Int.reduceLT, Int.reduceLE, Int.reduceAdd, Int.reduceSub, Int.reduceMul, Nat.reduceLT, Int.reduceToNat]
  obtain ⟨vv, hvv⟩ : ∃ vv : Nat → IV, vv = fun i => (IV.bool true :: IV.ptr 18 0 vr :: IV.ptr 18 0 vr :: IV.ptr 18 0 vr :: IV.row 5022 off (t.length + 1) 36 ver :: IV.int .i64 ((t.length + 1 : Nat) : Int) :: IV.bool true :: IV.bool false :: IV.bool false :: IV.bool true :: IV.bool true :: IV.agg (itC a) :: IV.agg (itC a) :: IV.ptr 18 0 vr :: IV.ptr 18 0 vr :: IV.ptr 18 0 vr :: IV.row 5022 off (t.length + 1) 36 ver :: IV.ptr 5022 off ver :: IV.agg (itC a) :: IV.bool false :: IV.bool false :: IV.bool false :: IV.bool false :: IV.bool true :: IV.bool false :: IV.bool false :: IV.tup [] :: IV.tup [] :: IV.tup [] :: IV.bool false :: IV.bool false :: IV.bool false :: IV.ptr 16 0 va :: IV.int .i64 ((t.length + 1 : Nat) : Int) :: IV.ptr 18 0 vr :: IV.ptr 18 0 vr :: IV.ptr 18 0 vr :: IV.row 5022 off (t.length + 1) 36 ver :: IV.int .i64 ((t.length + 1 : Nat) : Int) :: IV.bool false :: IV.bool false :: [] : List IV).getD i .undef := ⟨_, rfl⟩
  refine Wp_drxI (PInv 84 41 vv s.t s.h) ⟨rfl, fun _ _ => rfl, fun i hi hl => absurd (hl : false = true) (by decide)⟩ ?_ ?_
  · have hb : ∀ L s', PInv 84 41 vv s.t s.h L s' → s'.t 10 = .bool true ∧ s'.t 3 = .ptr 16 0 va ∧ s'.t 4 = .ptr 18 0 vr ∧ s'.t 9 = .ptr 9 0 v9 ∧ s'.h 18 = ⟨vr, true, true, false, [.row 5022 off (t.length + 1) 36 ver]⟩ ∧ s'.h 9 = ⟨v9, true, true, false, itC a⟩ ∧ s'.h 5022 = ⟨ver, true, true, true, cs⟩ ∧ ObjQ 16 va 1024 s'.h (a :: t) := fun L s' hI =>
      ⟨(hI.t 10 (by decide)).trans k10, (hI.t 3 (by decide)).trans k3, (hI.t 4 (by decide)).trans k4, (hI.t 9 (by decide)).trans k9, by rw [hI.h]; exact hH, by rw [hI.h]; exact k9h, by rw [hI.h]; exact hx', by rw [hI.h]; exact ka⟩
    refine stepsX_cons ?_ (stepsX_cons ?_ (stepsX_cons ?_ (stepsX_cons ?_ (stepsX_cons ?_ (stepsX_cons ?_ (stepsX_cons ?_ (stepsX_cons ?_ (stepsX_cons ?_ (stepsX_cons ?_ (stepsX_cons ?_ (stepsX_cons ?_ (stepsX_cons ?_ (stepsX_cons ?_ (stepsX_cons ?_ (stepsX_cons ?_ (stepsX_cons ?_ (stepsX_cons ?_ (stepsX_cons ?_ (stepsX_cons ?_ (stepsX_cons ?_ (stepsX_cons ?_ (stepsX_cons ?_ (stepsX_cons ?_ (stepsX_cons ?_ (stepsX_cons ?_ (stepsX_cons ?_ (stepsX_cons ?_ (stepsX_cons ?_ (stepsX_cons ?_ (stepsX_cons ?_ (stepsX_cons ?_ (stepsX_cons ?_ (stepsX_cons ?_ (stepsX_cons ?_ (stepsX_cons ?_ (stepsX_cons ?_ (stepsX_cons ?_ (stepsX_cons ?_ (stepsX_cons ?_ (stepsX_cons ?_ (stepsX_nil)))))))))))))))))))))))))))))))))))))))))
    · intro L s' hL hp hI
      obtain ⟨e10, e3, e4, e9, e18, k9h, e22, ea⟩ := hb L s' hI
      simp -implicitDefEqProofs (maxSteps := 2000000) only [e10, wk, act, asV, ↓reduceIte, Nat.reduceEqDiff, reduceCtorEq, Nat.reduceAdd, Nat.reduceLeDiff, Nat.reduceSub, Nat.reduceMul, List.reduceReplicate, Int.reduceEq, Int.reduceLT, Int.reduceLE, Int.reduceAdd, Int.reduceSub, Int.reduceMul, Nat.reduceLT, Int.reduceToNat]
      exact hI.step (i := 0) (by decide) rfl (by rw [hvv]; rfl)
    · intro L s' hL hp hI
      obtain ⟨e10, e3, e4, e9, e18, k9h, e22, ea⟩ := hb L s' hI
      simp -implicitDefEqProofs (maxSteps := 2000000) only [e4, wk, act, asV, ↓reduceIte, Nat.reduceEqDiff, reduceCtorEq, Nat.reduceAdd, Nat.reduceLeDiff, Nat.reduceSub, Nat.reduceMul, List.reduceReplicate, Int.reduceEq, Int.reduceLT, Int.reduceLE, Int.reduceAdd, Int.reduceSub, Int.reduceMul, Nat.reduceLT, Int.reduceToNat]
      exact hI.step (i := 1) (by decide) rfl (by rw [hvv]; rfl)
    · intro L s' hL hp hI
      obtain ⟨e10, e3, e4, e9, e18, k9h, e22, ea⟩ := hb L s' hI
      have p1 : s'.t 85 = .ptr 18 0 vr := by have := hI.v 1 (by decide) (hp 1 (by simp)); rw [hvv] at this; exact this
      simp -implicitDefEqProofs (maxSteps := 2000000) only [e18, p1, wk, act, asV, ↓reduceIte, Nat.reduceEqDiff, reduceCtorEq, Nat.reduceAdd, Nat.reduceLeDiff, Nat.reduceSub, Nat.reduceMul, List.reduceReplicate, Int.reduceEq, Int.reduceLT, Int.reduceLE, Int.reduceAdd, Int.reduceSub, Int.reduceMul, Nat.reduceLT, Int.reduceToNat]
      exact hI.step (i := 2) (by decide) rfl (by rw [hvv]; rfl)
    · intro L s' hL hp hI
      obtain ⟨e10, e3, e4, e9, e18, k9h, e22, ea⟩ := hb L s' hI
      have p2 : s'.t 86 = .ptr 18 0 vr := by have := hI.v 2 (by decide) (hp 2 (by simp)); rw [hvv] at this; exact this
      simp -implicitDefEqProofs (maxSteps := 2000000) only [e18, p2, wk, act, asV, ↓reduceIte, Nat.reduceEqDiff, reduceCtorEq, Nat.reduceAdd, Nat.reduceLeDiff, Nat.reduceSub, Nat.reduceMul, List.reduceReplicate, Int.reduceEq, Int.reduceLT, Int.reduceLE, Int.reduceAdd, Int.reduceSub, Int.reduceMul, Nat.reduceLT, Int.reduceToNat]
      exact hI.step (i := 3) (by decide) rfl (by rw [hvv]; rfl)
    · intro L s' hL hp hI
      obtain ⟨e10, e3, e4, e9, e18, k9h, e22, ea⟩ := hb L s' hI
      have p3 : s'.t 87 = .ptr 18 0 vr := by have := hI.v 3 (by decide) (hp 3 (by simp)); rw [hvv] at this; exact this
      simp -implicitDefEqProofs (maxSteps := 2000000) only [e18, p3, wk, act, asV, ↓reduceIte, Nat.reduceEqDiff, reduceCtorEq, Nat.reduceAdd, Nat.reduceLeDiff, Nat.reduceSub, Nat.reduceMul, List.reduceReplicate, Int.reduceEq, Int.reduceLT, Int.reduceLE, Int.reduceAdd, Int.reduceSub, Int.reduceMul, Nat.reduceLT, Int.reduceToNat]
      exact hI.step (i := 4) (by decide) rfl (by rw [hvv]; rfl)
    · intro L s' hL hp hI
      obtain ⟨e10, e3, e4, e9, e18, k9h, e22, ea⟩ := hb L s' hI
      have p4 : s'.t 88 = .row 5022 off (t.length + 1) 36 ver := by have := hI.v 4 (by decide) (hp 4 (by simp)); rw [hvv] at this; exact this
      simp -implicitDefEqProofs (maxSteps := 2000000) only [e22, p4, List.length_nil, Int.natCast_zero, wk, act, asV, ↓reduceIte, Nat.reduceEqDiff, reduceCtorEq, Nat.reduceAdd, Nat.reduceLeDiff, Nat.reduceSub, Nat.reduceMul, List.reduceReplicate, Int.reduceEq, Int.reduceLT, Int.reduceLE, Int.reduceAdd, Int.reduceSub, Int.reduceMul, Nat.reduceLT, Int.reduceToNat]
      exact hI.step (i := 5) (by decide) rfl (by rw [hvv]; rfl)
    · intro L s' hL hp hI
      obtain ⟨e10, e3, e4, e9, e18, k9h, e22, ea⟩ := hb L s' hI
      have p5 : s'.t 89 = .int .i64 ((t.length + 1 : Nat) : Int) := by have := hI.v 5 (by decide) (hp 5 (by simp)); rw [hvv] at this; exact this
      simp -implicitDefEqProofs (maxSteps := 2000000) only [p0n, p5, wk, act, asV, ↓reduceIte, Nat.reduceEqDiff, reduceCtorEq, Nat.reduceAdd, Nat.reduceLeDiff, Nat.reduceSub, Nat.reduceMul, List.reduceReplicate, Int.reduceEq, Int.reduceLT, Int.reduceLE, Int.reduceAdd, Int.reduceSub, Int.reduceMul, Nat.reduceLT, Int.reduceToNat]
      exact hI.step (i := 6) (by decide) rfl (by rw [hvv]; rfl)
    · intro L s' hL hp hI
      obtain ⟨e10, e3, e4, e9, e18, k9h, e22, ea⟩ := hb L s' hI
      have p0 : s'.t 84 = .bool true := by have := hI.v 0 (by decide) (hp 0 (by simp)); rw [hvv] at this; exact this
      have p6 : s'.t 90 = .bool true := by have := hI.v 6 (by decide) (hp 6 (by simp)); rw [hvv] at this; exact this
      simp -implicitDefEqProofs (maxSteps := 2000000) only [p0, p6, wk, act, asV, ↓reduceIte, Nat.reduceEqDiff, reduceCtorEq, Nat.reduceAdd, Nat.reduceLeDiff, Nat.reduceSub, Nat.reduceMul, List.reduceReplicate, Int.reduceEq, Int.reduceLT, Int.reduceLE, Int.reduceAdd, Int.reduceSub, Int.reduceMul, Nat.reduceLT, Int.reduceToNat]
      exact hI.step (i := 7) (by decide) rfl (by rw [hvv]; rfl)
    · intro L s' hL hp hI
      obtain ⟨e10, e3, e4, e9, e18, k9h, e22, ea⟩ := hb L s' hI
      have p7 : s'.t 91 = .bool false := by have := hI.v 7 (by decide) (hp 7 (by simp)); rw [hvv] at this; exact this
      simp -implicitDefEqProofs (maxSteps := 2000000) only [p7, wk, act, asV, ↓reduceIte, Nat.reduceEqDiff, reduceCtorEq, Nat.reduceAdd, Nat.reduceLeDiff, Nat.reduceSub, Nat.reduceMul, List.reduceReplicate, Int.reduceEq, Int.reduceLT, Int.reduceLE, Int.reduceAdd, Int.reduceSub, Int.reduceMul, Nat.reduceLT, Int.reduceToNat]
      exact hI.step (i := 8) (by decide) rfl (by rw [hvv]; rfl)
    · intro L s' hL hp hI
      obtain ⟨e10, e3, e4, e9, e18, k9h, e22, ea⟩ := hb L s' hI
      have p8 : s'.t 92 = .bool false := by have := hI.v 8 (by decide) (hp 8 (by simp)); rw [hvv] at this; exact this
      simp -implicitDefEqProofs (maxSteps := 2000000) only [e10, p8, wk, act, asV, ↓reduceIte, Nat.reduceEqDiff, reduceCtorEq, Nat.reduceAdd, Nat.reduceLeDiff, Nat.reduceSub, Nat.reduceMul, List.reduceReplicate, Int.reduceEq, Int.reduceLT, Int.reduceLE, Int.reduceAdd, Int.reduceSub, Int.reduceMul, Nat.reduceLT, Int.reduceToNat]
      exact hI.step (i := 9) (by decide) rfl (by rw [hvv]; rfl)
    · intro L s' hL hp hI
      obtain ⟨e10, e3, e4, e9, e18, k9h, e22, ea⟩ := hb L s' hI
      have p8 : s'.t 92 = .bool false := by have := hI.v 8 (by decide) (hp 8 (by simp)); rw [hvv] at this; exact this
      have p9 : s'.t 93 = .bool true := by have := hI.v 9 (by decide) (hp 9 (by simp)); rw [hvv] at this; exact this
      simp -implicitDefEqProofs (maxSteps := 2000000) only [p8, p9, wk, act, asV, ↓reduceIte, Nat.reduceEqDiff, reduceCtorEq, Nat.reduceAdd, Nat.reduceLeDiff, Nat.reduceSub, Nat.reduceMul, List.reduceReplicate, Int.reduceEq, Int.reduceLT, Int.reduceLE, Int.reduceAdd, Int.reduceSub, Int.reduceMul, Nat.reduceLT, Int.reduceToNat]
      exact hI.step (i := 10) (by decide) rfl (by rw [hvv]; rfl)
    · intro L s' hL hp hI
      obtain ⟨e10, e3, e4, e9, e18, k9h, e22, ea⟩ := hb L s' hI
      have p10 : s'.t 94 = .bool true := by have := hI.v 10 (by decide) (hp 10 (by simp)); rw [hvv] at this; exact this
      simp -implicitDefEqProofs (maxSteps := 2000000) only [e9, k9h, l0, t0, p10, wk, act, asV, ↓reduceIte, Nat.reduceEqDiff, reduceCtorEq, Nat.reduceAdd, Nat.reduceLeDiff, Nat.reduceSub, Nat.reduceMul, List.reduceReplicate, Int.reduceEq, Int.reduceLT, Int.reduceLE, Int.reduceAdd, Int.reduceSub, Int.reduceMul, Nat.reduceLT, Int.reduceToNat]
      exact hI.step (i := 11) (by decide) rfl (by rw [hvv]; rfl)
    · intro L s' hL hp hI
      obtain ⟨e10, e3, e4, e9, e18, k9h, e22, ea⟩ := hb L s' hI
      have p10 : s'.t 94 = .bool true := by have := hI.v 10 (by decide) (hp 10 (by simp)); rw [hvv] at this; exact this
      have p11 : s'.t 95 = .agg (itC a) := by have := hI.v 11 (by decide) (hp 11 (by simp)); rw [hvv] at this; exact this
      repeat' (first | simp -implicitDefEqProofs (maxSteps := 2000000) only [s0, p10, p11, wk, act, asV, ↓reduceIte, Nat.reduceEqDiff, reduceCtorEq, Nat.reduceAdd, Nat.reduceLeDiff, Nat.reduceSub, Nat.reduceMul, List.reduceReplicate, Int.reduceEq, Int.reduceLT, Int.reduceLE, Int.reduceAdd, Int.reduceSub, Int.reduceMul, Nat.reduceLT, Int.reduceToNat] | ((first | ((with_reducible refine CallL.gate ?_); apply CallL.of) | ((with_reducible refine CallpL.gate ?_); apply CallpL.of) | ((with_reducible refine CallP.gate ?_); apply CallP.of) | ((with_reducible refine CallpP.gate ?_); apply CallpP.of)); (case h1 => (simp -implicitDefEqProofs (maxSteps := 2000000) only [s0, p10, p11, wk, act, asV, ↓reduceIte, Nat.reduceEqDiff, reduceCtorEq, Nat.reduceAdd, Nat.reduceLeDiff, Nat.reduceSub, Nat.reduceMul, List.reduceReplicate, Int.reduceEq, Int.reduceLT, Int.reduceLE, Int.reduceAdd, Int.reduceSub, Int.reduceMul, Nat.reduceLT, Int.reduceToNat]; first | done | (with_reducible rfl))); (case h2 => (first | exact co)); (case h3 => simp -implicitDefEqProofs (maxSteps := 2000000) only [s0, p10, p11, wk, act, asV, ↓reduceIte, Nat.reduceEqDiff, reduceCtorEq, Nat.reduceAdd, Nat.reduceLeDiff, Nat.reduceSub, Nat.reduceMul, List.reduceReplicate, Int.reduceEq, Int.reduceLT, Int.reduceLE, Int.reduceAdd, Int.reduceSub, Int.reduceMul, Nat.reduceLT, Int.reduceToNat])))
      exact hI.step (i := 12) (by decide) rfl (by rw [hvv]; rfl)
    · intro L s' hL hp hI
      obtain ⟨e10, e3, e4, e9, e18, k9h, e22, ea⟩ := hb L s' hI
      have p10 : s'.t 94 = .bool true := by have := hI.v 10 (by decide) (hp 10 (by simp)); rw [hvv] at this; exact this
      simp -implicitDefEqProofs (maxSteps := 2000000) only [e4, p10, wk, act, asV, ↓reduceIte, Nat.reduceEqDiff, reduceCtorEq, Nat.reduceAdd, Nat.reduceLeDiff, Nat.reduceSub, Nat.reduceMul, List.reduceReplicate, Int.reduceEq, Int.reduceLT, Int.reduceLE, Int.reduceAdd, Int.reduceSub, Int.reduceMul, Nat.reduceLT, Int.reduceToNat]
      exact hI.step (i := 13) (by decide) rfl (by rw [hvv]; rfl)
    · intro L s' hL hp hI
      obtain ⟨e10, e3, e4, e9, e18, k9h, e22, ea⟩ := hb L s' hI
      have p10 : s'.t 94 = .bool true := by have := hI.v 10 (by decide) (hp 10 (by simp)); rw [hvv] at this; exact this
      have p13 : s'.t 97 = .ptr 18 0 vr := by have := hI.v 13 (by decide) (hp 13 (by simp)); rw [hvv] at this; exact this
      simp -implicitDefEqProofs (maxSteps := 2000000) only [e18, p10, p13, wk, act, asV, ↓reduceIte, Nat.reduceEqDiff, reduceCtorEq, Nat.reduceAdd, Nat.reduceLeDiff, Nat.reduceSub, Nat.reduceMul, List.reduceReplicate, Int.reduceEq, Int.reduceLT, Int.reduceLE, Int.reduceAdd, Int.reduceSub, Int.reduceMul, Nat.reduceLT, Int.reduceToNat]
      exact hI.step (i := 14) (by decide) rfl (by rw [hvv]; rfl)
    · intro L s' hL hp hI
      obtain ⟨e10, e3, e4, e9, e18, k9h, e22, ea⟩ := hb L s' hI
      have p10 : s'.t 94 = .bool true := by have := hI.v 10 (by decide) (hp 10 (by simp)); rw [hvv] at this; exact this
      have p14 : s'.t 98 = .ptr 18 0 vr := by have := hI.v 14 (by decide) (hp 14 (by simp)); rw [hvv] at this; exact this
      simp -implicitDefEqProofs (maxSteps := 2000000) only [e18, p10, p14, wk, act, asV, ↓reduceIte, Nat.reduceEqDiff, reduceCtorEq, Nat.reduceAdd, Nat.reduceLeDiff, Nat.reduceSub, Nat.reduceMul, List.reduceReplicate, Int.reduceEq, Int.reduceLT, Int.reduceLE, Int.reduceAdd, Int.reduceSub, Int.reduceMul, Nat.reduceLT, Int.reduceToNat]
      exact hI.step (i := 15) (by decide) rfl (by rw [hvv]; rfl)
    · intro L s' hL hp hI
      obtain ⟨e10, e3, e4, e9, e18, k9h, e22, ea⟩ := hb L s' hI
      have p10 : s'.t 94 = .bool true := by have := hI.v 10 (by decide) (hp 10 (by simp)); rw [hvv] at this; exact this
      have p15 : s'.t 99 = .ptr 18 0 vr := by have := hI.v 15 (by decide) (hp 15 (by simp)); rw [hvv] at this; exact this
      simp -implicitDefEqProofs (maxSteps := 2000000) only [e18, p10, p15, wk, act, asV, ↓reduceIte, Nat.reduceEqDiff, reduceCtorEq, Nat.reduceAdd, Nat.reduceLeDiff, Nat.reduceSub, Nat.reduceMul, List.reduceReplicate, Int.reduceEq, Int.reduceLT, Int.reduceLE, Int.reduceAdd, Int.reduceSub, Int.reduceMul, Nat.reduceLT, Int.reduceToNat]
      exact hI.step (i := 16) (by decide) rfl (by rw [hvv]; rfl)
    · intro L s' hL hp hI
      obtain ⟨e10, e3, e4, e9, e18, k9h, e22, ea⟩ := hb L s' hI
      have p10 : s'.t 94 = .bool true := by have := hI.v 10 (by decide) (hp 10 (by simp)); rw [hvv] at this; exact this
      have p16 : s'.t 100 = .row 5022 off (t.length + 1) 36 ver := by have := hI.v 16 (by decide) (hp 16 (by simp)); rw [hvv] at this; exact this
      simp -implicitDefEqProofs (maxSteps := 2000000) only [e22, p0n, p10, p16, wk, act, asV, ↓reduceIte, Nat.reduceEqDiff, reduceCtorEq, Nat.reduceAdd, Nat.reduceLeDiff, Nat.reduceSub, Nat.reduceMul, List.reduceReplicate, Int.reduceEq, Int.reduceLT, Int.reduceLE, Int.reduceAdd, Int.reduceSub, Int.reduceMul, Nat.reduceLT, Int.reduceToNat]
      exact hI.step (i := 17) (by decide) rfl (by rw [hvv]; rfl)
    · intro L s' hL hp hI
      obtain ⟨e10, e3, e4, e9, e18, k9h, e22, ea⟩ := hb L s' hI
      have p10 : s'.t 94 = .bool true := by have := hI.v 10 (by decide) (hp 10 (by simp)); rw [hvv] at this; exact this
      have p17 : s'.t 101 = .ptr 5022 off ver := by have := hI.v 17 (by decide) (hp 17 (by simp)); rw [hvv] at this; exact this
      simp -implicitDefEqProofs (maxSteps := 2000000) only [e22, t1, b1, p10, p17, wk, act, asV, ↓reduceIte, Nat.reduceEqDiff, reduceCtorEq, Nat.reduceAdd, Nat.reduceLeDiff, Nat.reduceSub, Nat.reduceMul, List.reduceReplicate, Int.reduceEq, Int.reduceLT, Int.reduceLE, Int.reduceAdd, Int.reduceSub, Int.reduceMul, Nat.reduceLT, Int.reduceToNat]
      exact hI.step (i := 18) (by decide) rfl (by rw [hvv]; rfl)
    · intro L s' hL hp hI
      obtain ⟨e10, e3, e4, e9, e18, k9h, e22, ea⟩ := hb L s' hI
      have p10 : s'.t 94 = .bool true := by have := hI.v 10 (by decide) (hp 10 (by simp)); rw [hvv] at this; exact this
      have p12 : s'.t 96 = .agg (itC a) := by have := hI.v 12 (by decide) (hp 12 (by simp)); rw [hvv] at this; exact this
      have p18 : s'.t 102 = .agg (itC a) := by have := hI.v 18 (by decide) (hp 18 (by simp)); rw [hvv] at this; exact this
      simp -implicitDefEqProofs (maxSteps := 2000000) only [q1, q2, p10, p12, p18, wk, act, asV, ↓reduceIte, Nat.reduceEqDiff, reduceCtorEq, Nat.reduceAdd, Nat.reduceLeDiff, Nat.reduceSub, Nat.reduceMul, List.reduceReplicate, Int.reduceEq, Int.reduceLT, Int.reduceLE, Int.reduceAdd, Int.reduceSub, Int.reduceMul, Nat.reduceLT, Int.reduceToNat]
      exact hI.step (i := 19) (by decide) rfl (by rw [hvv]; rfl)
    · intro L s' hL hp hI
      obtain ⟨e10, e3, e4, e9, e18, k9h, e22, ea⟩ := hb L s' hI
      have p8 : s'.t 92 = .bool false := by have := hI.v 8 (by decide) (hp 8 (by simp)); rw [hvv] at this; exact this
      have p10 : s'.t 94 = .bool true := by have := hI.v 10 (by decide) (hp 10 (by simp)); rw [hvv] at this; exact this
      have p19 : s'.t 103 = .bool false := by have := hI.v 19 (by decide) (hp 19 (by simp)); rw [hvv] at this; exact this
      simp -implicitDefEqProofs (maxSteps := 2000000) only [p8, p10, p19, wk, act, asV, ↓reduceIte, Nat.reduceEqDiff, reduceCtorEq, Nat.reduceAdd, Nat.reduceLeDiff, Nat.reduceSub, Nat.reduceMul, List.reduceReplicate, Int.reduceEq, Int.reduceLT, Int.reduceLE, Int.reduceAdd, Int.reduceSub, Int.reduceMul, Nat.reduceLT, Int.reduceToNat]
      exact hI.step (i := 20) (by decide) rfl (by rw [hvv]; rfl)
    · intro L s' hL hp hI
      obtain ⟨e10, e3, e4, e9, e18, k9h, e22, ea⟩ := hb L s' hI
      have p8 : s'.t 92 = .bool false := by have := hI.v 8 (by decide) (hp 8 (by simp)); rw [hvv] at this; exact this
      have p20 : s'.t 104 = .bool false := by have := hI.v 20 (by decide) (hp 20 (by simp)); rw [hvv] at this; exact this
      simp -implicitDefEqProofs (maxSteps := 2000000) only [p8, p20, wk, act, asV, ↓reduceIte, Nat.reduceEqDiff, reduceCtorEq, Nat.reduceAdd, Nat.reduceLeDiff, Nat.reduceSub, Nat.reduceMul, List.reduceReplicate, Int.reduceEq, Int.reduceLT, Int.reduceLE, Int.reduceAdd, Int.reduceSub, Int.reduceMul, Nat.reduceLT, Int.reduceToNat]
      exact hI.step (i := 21) (by decide) rfl (by rw [hvv]; rfl)
    · intro L s' hL hp hI
      obtain ⟨e10, e3, e4, e9, e18, k9h, e22, ea⟩ := hb L s' hI
      have p21 : s'.t 105 = .bool false := by have := hI.v 21 (by decide) (hp 21 (by simp)); rw [hvv] at this; exact this
      simp -implicitDefEqProofs (maxSteps := 2000000) only [p21, wk, act, asV, ↓reduceIte, Nat.reduceEqDiff, reduceCtorEq, Nat.reduceAdd, Nat.reduceLeDiff, Nat.reduceSub, Nat.reduceMul, List.reduceReplicate, Int.reduceEq, Int.reduceLT, Int.reduceLE, Int.reduceAdd, Int.reduceSub, Int.reduceMul, Nat.reduceLT, Int.reduceToNat]
      exact hI.step (i := 22) (by decide) rfl (by rw [hvv]; rfl)
    · intro L s' hL hp hI
      obtain ⟨e10, e3, e4, e9, e18, k9h, e22, ea⟩ := hb L s' hI
      have p22 : s'.t 106 = .bool false := by have := hI.v 22 (by decide) (hp 22 (by simp)); rw [hvv] at this; exact this
      simp -implicitDefEqProofs (maxSteps := 2000000) only [e10, p22, wk, act, asV, ↓reduceIte, Nat.reduceEqDiff, reduceCtorEq, Nat.reduceAdd, Nat.reduceLeDiff, Nat.reduceSub, Nat.reduceMul, List.reduceReplicate, Int.reduceEq, Int.reduceLT, Int.reduceLE, Int.reduceAdd, Int.reduceSub, Int.reduceMul, Nat.reduceLT, Int.reduceToNat]
      exact hI.step (i := 23) (by decide) rfl (by rw [hvv]; rfl)
    · intro L s' hL hp hI
      obtain ⟨e10, e3, e4, e9, e18, k9h, e22, ea⟩ := hb L s' hI
      have p22 : s'.t 106 = .bool false := by have := hI.v 22 (by decide) (hp 22 (by simp)); rw [hvv] at this; exact this
      have p23 : s'.t 107 = .bool true := by have := hI.v 23 (by decide) (hp 23 (by simp)); rw [hvv] at this; exact this
      simp -implicitDefEqProofs (maxSteps := 2000000) only [p22, p23, wk, act, asV, ↓reduceIte, Nat.reduceEqDiff, reduceCtorEq, Nat.reduceAdd, Nat.reduceLeDiff, Nat.reduceSub, Nat.reduceMul, List.reduceReplicate, Int.reduceEq, Int.reduceLT, Int.reduceLE, Int.reduceAdd, Int.reduceSub, Int.reduceMul, Nat.reduceLT, Int.reduceToNat]
      exact hI.step (i := 24) (by decide) rfl (by rw [hvv]; rfl)
    · intro L s' hL hp hI
      obtain ⟨e10, e3, e4, e9, e18, k9h, e22, ea⟩ := hb L s' hI
      have p22 : s'.t 106 = .bool false := by have := hI.v 22 (by decide) (hp 22 (by simp)); rw [hvv] at this; exact this
      have p24 : s'.t 108 = .bool false := by have := hI.v 24 (by decide) (hp 24 (by simp)); rw [hvv] at this; exact this
      simp -implicitDefEqProofs (maxSteps := 2000000) only [p22, p24, wk, act, asV, ↓reduceIte, Nat.reduceEqDiff, reduceCtorEq, Nat.reduceAdd, Nat.reduceLeDiff, Nat.reduceSub, Nat.reduceMul, List.reduceReplicate, Int.reduceEq, Int.reduceLT, Int.reduceLE, Int.reduceAdd, Int.reduceSub, Int.reduceMul, Nat.reduceLT, Int.reduceToNat]
      exact hI.step (i := 25) (by decide) rfl (by rw [hvv]; rfl)
    · intro L s' hL hp hI
      obtain ⟨e10, e3, e4, e9, e18, k9h, e22, ea⟩ := hb L s' hI
      have p25 : s'.t 109 = .bool false := by have := hI.v 25 (by decide) (hp 25 (by simp)); rw [hvv] at this; exact this
      simp -implicitDefEqProofs (maxSteps := 2000000) only [p25, wk, act, asV, ↓reduceIte, Nat.reduceEqDiff, reduceCtorEq, Nat.reduceAdd, Nat.reduceLeDiff, Nat.reduceSub, Nat.reduceMul, List.reduceReplicate, Int.reduceEq, Int.reduceLT, Int.reduceLE, Int.reduceAdd, Int.reduceSub, Int.reduceMul, Nat.reduceLT, Int.reduceToNat]
      exact hI.step (i := 26) (by decide) rfl (by rw [hvv]; rfl)
    · intro L s' hL hp hI
      obtain ⟨e10, e3, e4, e9, e18, k9h, e22, ea⟩ := hb L s' hI
      have p25 : s'.t 109 = .bool false := by have := hI.v 25 (by decide) (hp 25 (by simp)); rw [hvv] at this; exact this
      simp -implicitDefEqProofs (maxSteps := 2000000) only [p25, wk, act, asV, ↓reduceIte, Nat.reduceEqDiff, reduceCtorEq, Nat.reduceAdd, Nat.reduceLeDiff, Nat.reduceSub, Nat.reduceMul, List.reduceReplicate, Int.reduceEq, Int.reduceLT, Int.reduceLE, Int.reduceAdd, Int.reduceSub, Int.reduceMul, Nat.reduceLT, Int.reduceToNat]
      exact hI.step (i := 27) (by decide) rfl (by rw [hvv]; rfl)
    · intro L s' hL hp hI
      obtain ⟨e10, e3, e4, e9, e18, k9h, e22, ea⟩ := hb L s' hI
      have p25 : s'.t 109 = .bool false := by have := hI.v 25 (by decide) (hp 25 (by simp)); rw [hvv] at this; exact this
      simp -implicitDefEqProofs (maxSteps := 2000000) only [p25, wk, act, asV, ↓reduceIte, Nat.reduceEqDiff, reduceCtorEq, Nat.reduceAdd, Nat.reduceLeDiff, Nat.reduceSub, Nat.reduceMul, List.reduceReplicate, Int.reduceEq, Int.reduceLT, Int.reduceLE, Int.reduceAdd, Int.reduceSub, Int.reduceMul, Nat.reduceLT, Int.reduceToNat]
      exact hI.step (i := 28) (by decide) rfl (by rw [hvv]; rfl)
    · intro L s' hL hp hI
      obtain ⟨e10, e3, e4, e9, e18, k9h, e22, ea⟩ := hb L s' hI
      have p22 : s'.t 106 = .bool false := by have := hI.v 22 (by decide) (hp 22 (by simp)); rw [hvv] at this; exact this
      have p25 : s'.t 109 = .bool false := by have := hI.v 25 (by decide) (hp 25 (by simp)); rw [hvv] at this; exact this
      have p28 : s'.t 112 = .tup [] := by have := hI.v 28 (by decide) (hp 28 (by simp)); rw [hvv] at this; exact this
      simp -implicitDefEqProofs (maxSteps := 2000000) only [p22, p25, p28, wk, act, asV, ↓reduceIte, Nat.reduceEqDiff, reduceCtorEq, Nat.reduceAdd, Nat.reduceLeDiff, Nat.reduceSub, Nat.reduceMul, List.reduceReplicate, Int.reduceEq, Int.reduceLT, Int.reduceLE, Int.reduceAdd, Int.reduceSub, Int.reduceMul, Nat.reduceLT, Int.reduceToNat]
      exact hI.step (i := 29) (by decide) rfl (by rw [hvv]; rfl)
    · intro L s' hL hp hI
      obtain ⟨e10, e3, e4, e9, e18, k9h, e22, ea⟩ := hb L s' hI
      have p22 : s'.t 106 = .bool false := by have := hI.v 22 (by decide) (hp 22 (by simp)); rw [hvv] at this; exact this
      have p29 : s'.t 113 = .bool false := by have := hI.v 29 (by decide) (hp 29 (by simp)); rw [hvv] at this; exact this
      simp -implicitDefEqProofs (maxSteps := 2000000) only [p22, p29, wk, act, asV, ↓reduceIte, Nat.reduceEqDiff, reduceCtorEq, Nat.reduceAdd, Nat.reduceLeDiff, Nat.reduceSub, Nat.reduceMul, List.reduceReplicate, Int.reduceEq, Int.reduceLT, Int.reduceLE, Int.reduceAdd, Int.reduceSub, Int.reduceMul, Nat.reduceLT, Int.reduceToNat]
      exact hI.step (i := 30) (by decide) rfl (by rw [hvv]; rfl)
    · intro L s' hL hp hI
      obtain ⟨e10, e3, e4, e9, e18, k9h, e22, ea⟩ := hb L s' hI
      have p30 : s'.t 114 = .bool false := by have := hI.v 30 (by decide) (hp 30 (by simp)); rw [hvv] at this; exact this
      simp -implicitDefEqProofs (maxSteps := 2000000) only [p30, wk, act, asV, ↓reduceIte, Nat.reduceEqDiff, reduceCtorEq, Nat.reduceAdd, Nat.reduceLeDiff, Nat.reduceSub, Nat.reduceMul, List.reduceReplicate, Int.reduceEq, Int.reduceLT, Int.reduceLE, Int.reduceAdd, Int.reduceSub, Int.reduceMul, Nat.reduceLT, Int.reduceToNat]
      exact hI.step (i := 31) (by decide) rfl (by rw [hvv]; rfl)
    · intro L s' hL hp hI
      obtain ⟨e10, e3, e4, e9, e18, k9h, e22, ea⟩ := hb L s' hI
      have p31 : s'.t 115 = .bool false := by have := hI.v 31 (by decide) (hp 31 (by simp)); rw [hvv] at this; exact this
      simp -implicitDefEqProofs (maxSteps := 2000000) only [e3, p31, wk, act, asV, ↓reduceIte, Nat.reduceEqDiff, reduceCtorEq, Nat.reduceAdd, Nat.reduceLeDiff, Nat.reduceSub, Nat.reduceMul, List.reduceReplicate, Int.reduceEq, Int.reduceLT, Int.reduceLE, Int.reduceAdd, Int.reduceSub, Int.reduceMul, Nat.reduceLT, Int.reduceToNat]
      exact hI.step (i := 32) (by decide) rfl (by rw [hvv]; rfl)
    · intro L s' hL hp hI
      obtain ⟨e10, e3, e4, e9, e18, k9h, e22, ea⟩ := hb L s' hI
      have p31 : s'.t 115 = .bool false := by have := hI.v 31 (by decide) (hp 31 (by simp)); rw [hvv] at this; exact this
      have p32 : s'.t 116 = .ptr 16 0 va := by have := hI.v 32 (by decide) (hp 32 (by simp)); rw [hvv] at this; exact this
      simp -implicitDefEqProofs (maxSteps := 2000000) only [p31, p32, wk, act, asV, ↓reduceIte, Nat.reduceEqDiff, reduceCtorEq, Nat.reduceAdd, Nat.reduceLeDiff, Nat.reduceSub, Nat.reduceMul, List.reduceReplicate, Int.reduceEq, Int.reduceLT, Int.reduceLE, Int.reduceAdd, Int.reduceSub, Int.reduceMul, Nat.reduceLT, Int.reduceToNat]
      refine CallnL.of (by simp -implicitDefEqProofs (maxSteps := 2000000) only [p31, p32, wk, act, asV, ↓reduceIte, Nat.reduceEqDiff, reduceCtorEq, Nat.reduceAdd, Nat.reduceLeDiff, Nat.reduceSub, Nat.reduceMul, List.reduceReplicate, Int.reduceEq, Int.reduceLT, Int.reduceLE, Int.reduceAdd, Int.reduceSub, Int.reduceMul, Nat.reduceLT, Int.reduceToNat]; first | done | rfl) (qlen_ok ea) ?_
      rintro _ _ ⟨rfl, rfl⟩
      simp -implicitDefEqProofs (maxSteps := 2000000) only [List.length_cons, List.length_nil, Int.natCast_zero, wk, act, asV, ↓reduceIte, Nat.reduceEqDiff, reduceCtorEq, Nat.reduceAdd, Nat.reduceLeDiff, Nat.reduceSub, Nat.reduceMul, List.reduceReplicate, Int.reduceEq, Int.reduceLT, Int.reduceLE, Int.reduceAdd, Int.reduceSub, Int.reduceMul, Nat.reduceLT, Int.reduceToNat]
      exact hI.step (i := 33) (by decide) rfl (by rw [hvv]; rfl)
    · intro L s' hL hp hI
      obtain ⟨e10, e3, e4, e9, e18, k9h, e22, ea⟩ := hb L s' hI
      have p31 : s'.t 115 = .bool false := by have := hI.v 31 (by decide) (hp 31 (by simp)); rw [hvv] at this; exact this
      simp -implicitDefEqProofs (maxSteps := 2000000) only [e4, p31, wk, act, asV, ↓reduceIte, Nat.reduceEqDiff, reduceCtorEq, Nat.reduceAdd, Nat.reduceLeDiff, Nat.reduceSub, Nat.reduceMul, List.reduceReplicate, Int.reduceEq, Int.reduceLT, Int.reduceLE, Int.reduceAdd, Int.reduceSub, Int.reduceMul, Nat.reduceLT, Int.reduceToNat]
      exact hI.step (i := 34) (by decide) rfl (by rw [hvv]; rfl)
    · intro L s' hL hp hI
      obtain ⟨e10, e3, e4, e9, e18, k9h, e22, ea⟩ := hb L s' hI
      have p31 : s'.t 115 = .bool false := by have := hI.v 31 (by decide) (hp 31 (by simp)); rw [hvv] at this; exact this
      have p34 : s'.t 118 = .ptr 18 0 vr := by have := hI.v 34 (by decide) (hp 34 (by simp)); rw [hvv] at this; exact this
      simp -implicitDefEqProofs (maxSteps := 2000000) only [e18, p31, p34, wk, act, asV, ↓reduceIte, Nat.reduceEqDiff, reduceCtorEq, Nat.reduceAdd, Nat.reduceLeDiff, Nat.reduceSub, Nat.reduceMul, List.reduceReplicate, Int.reduceEq, Int.reduceLT, Int.reduceLE, Int.reduceAdd, Int.reduceSub, Int.reduceMul, Nat.reduceLT, Int.reduceToNat]
      exact hI.step (i := 35) (by decide) rfl (by rw [hvv]; rfl)
    · intro L s' hL hp hI
      obtain ⟨e10, e3, e4, e9, e18, k9h, e22, ea⟩ := hb L s' hI
      have p31 : s'.t 115 = .bool false := by have := hI.v 31 (by decide) (hp 31 (by simp)); rw [hvv] at this; exact this
      have p35 : s'.t 119 = .ptr 18 0 vr := by have := hI.v 35 (by decide) (hp 35 (by simp)); rw [hvv] at this; exact this
      simp -implicitDefEqProofs (maxSteps := 2000000) only [e18, p31, p35, wk, act, asV, ↓reduceIte, Nat.reduceEqDiff, reduceCtorEq, Nat.reduceAdd, Nat.reduceLeDiff, Nat.reduceSub, Nat.reduceMul, List.reduceReplicate, Int.reduceEq, Int.reduceLT, Int.reduceLE, Int.reduceAdd, Int.reduceSub, Int.reduceMul, Nat.reduceLT, Int.reduceToNat]
      exact hI.step (i := 36) (by decide) rfl (by rw [hvv]; rfl)
    · intro L s' hL hp hI
      obtain ⟨e10, e3, e4, e9, e18, k9h, e22, ea⟩ := hb L s' hI
      have p31 : s'.t 115 = .bool false := by have := hI.v 31 (by decide) (hp 31 (by simp)); rw [hvv] at this; exact this
      have p36 : s'.t 120 = .ptr 18 0 vr := by have := hI.v 36 (by decide) (hp 36 (by simp)); rw [hvv] at this; exact this
      simp -implicitDefEqProofs (maxSteps := 2000000) only [e18, p31, p36, wk, act, asV, ↓reduceIte, Nat.reduceEqDiff, reduceCtorEq, Nat.reduceAdd, Nat.reduceLeDiff, Nat.reduceSub, Nat.reduceMul, List.reduceReplicate, Int.reduceEq, Int.reduceLT, Int.reduceLE, Int.reduceAdd, Int.reduceSub, Int.reduceMul, Nat.reduceLT, Int.reduceToNat]
      exact hI.step (i := 37) (by decide) rfl (by rw [hvv]; rfl)
    · intro L s' hL hp hI
      obtain ⟨e10, e3, e4, e9, e18, k9h, e22, ea⟩ := hb L s' hI
      have p31 : s'.t 115 = .bool false := by have := hI.v 31 (by decide) (hp 31 (by simp)); rw [hvv] at this; exact this
      have p37 : s'.t 121 = .row 5022 off (t.length + 1) 36 ver := by have := hI.v 37 (by decide) (hp 37 (by simp)); rw [hvv] at this; exact this
      simp -implicitDefEqProofs (maxSteps := 2000000) only [e22, p31, p37, List.length_nil, Int.natCast_zero, wk, act, asV, ↓reduceIte, Nat.reduceEqDiff, reduceCtorEq, Nat.reduceAdd, Nat.reduceLeDiff, Nat.reduceSub, Nat.reduceMul, List.reduceReplicate, Int.reduceEq, Int.reduceLT, Int.reduceLE, Int.reduceAdd, Int.reduceSub, Int.reduceMul, Nat.reduceLT, Int.reduceToNat]
      exact hI.step (i := 38) (by decide) rfl (by rw [hvv]; rfl)
    · intro L s' hL hp hI
      obtain ⟨e10, e3, e4, e9, e18, k9h, e22, ea⟩ := hb L s' hI
      have p31 : s'.t 115 = .bool false := by have := hI.v 31 (by decide) (hp 31 (by simp)); rw [hvv] at this; exact this
      have p33 : s'.t 117 = .int .i64 ((t.length + 1 : Nat) : Int) := by have := hI.v 33 (by decide) (hp 33 (by simp)); rw [hvv] at this; exact this
      have p38 : s'.t 122 = .int .i64 ((t.length + 1 : Nat) : Int) := by have := hI.v 38 (by decide) (hp 38 (by simp)); rw [hvv] at this; exact this
      simp -implicitDefEqProofs (maxSteps := 2000000) only [p31, p33, p38, wk, act, asV, ↓reduceIte, Nat.reduceEqDiff, reduceCtorEq, Nat.reduceAdd, Nat.reduceLeDiff, Nat.reduceSub, Nat.reduceMul, List.reduceReplicate, Int.reduceEq, Int.reduceLT, Int.reduceLE, Int.reduceAdd, Int.reduceSub, Int.reduceMul, Nat.reduceLT, Int.reduceToNat]
      exact hI.step (i := 39) (by decide) rfl (by rw [hvv]; rfl)
    · intro L s' hL hp hI
      obtain ⟨e10, e3, e4, e9, e18, k9h, e22, ea⟩ := hb L s' hI
      have p31 : s'.t 115 = .bool false := by have := hI.v 31 (by decide) (hp 31 (by simp)); rw [hvv] at this; exact this
      have p39 : s'.t 123 = .bool false := by have := hI.v 39 (by decide) (hp 39 (by simp)); rw [hvv] at this; exact this
      simp -implicitDefEqProofs (maxSteps := 2000000) only [p31, p39, wk, act, asV, ↓reduceIte, Nat.reduceEqDiff, reduceCtorEq, Nat.reduceAdd, Nat.reduceLeDiff, Nat.reduceSub, Nat.reduceMul, List.reduceReplicate, Int.reduceEq, Int.reduceLT, Int.reduceLE, Int.reduceAdd, Int.reduceSub, Int.reduceMul, Nat.reduceLT, Int.reduceToNat]
      exact hI.step (i := 40) (by decide) rfl (by rw [hvv]; rfl)
  · intro s' hI
    have k124 : s'.t 124 = .bool false := by have := hI.v 40 (by decide) (by decide); rw [hvv] at this; exact this
    simp -implicitDefEqProofs (maxSteps := 2000000) only [m7_28, k124, wk, act, asV, ↓reduceIte, Nat.reduceEqDiff, reduceCtorEq, Nat.reduceAdd, Nat.reduceLeDiff, Nat.reduceSub, Nat.reduceMul, List.reduceReplicate, Int.reduceEq, Int.reduceLT, Int.reduceLE, Int.reduceAdd, Int.reduceSub, Int.reduceMul, Nat.reduceLT, Int.reduceToNat]
    exact hQ s' (fun k hk => hI.t k (.inl (by omega))) hI.h
theorem qp_F1 {s : St} {va vr v9 : Nat}  {Q : Ex → St → Prop} (k10 : s.t 10 = .bool false) (k3 : s.t 3 = .ptr 16 0 va) (k4 : s.t 4 = .ptr 18 0 vr) (k9 : s.t 9 = .ptr 9 0 v9) (k9h : s.h 9 = ⟨v9, true, true, false, itC it0⟩) (hH : s.h 18 = ⟨vr, true, true, false, [.sl .full 0 []]⟩) (ka : ObjQ 16 va 1024 s.h [])
    (hQ : ∀ s' : St, (∀ k, k < 84 → s'.t k = s.t k) → s'.h = s.h → Q .normal s') : Wp (RCs Tryd.prog) m7_29 Q s := by
  have l0 : (itC it0).length = 36 := rfl
  have t0 : List.take 36 (itC it0) = itC it0 := rfl
  have q1 : eqL (itC it0) [IV.int .i64 0, IV.int .i64 0, IV.str [], IV.int .i64 0, IV.int .u8 0, IV.int .u8 0, IV.int .u8 0, IV.int .u8 0, IV.int .u8 0, IV.int .u8 0, IV.int .u8 0, IV.int .u8 0, IV.int .u8 0, IV.int .u8 0, IV.int .u8 0, IV.int .u8 0, IV.int .u8 0, IV.int .u8 0, IV.int .u8 0, IV.int .u8 0, IV.int .u8 0, IV.int .u8 0, IV.int .u8 0, IV.int .u8 0, IV.int .u8 0, IV.int .u8 0, IV.int .u8 0, IV.int .u8 0, IV.int .u8 0, IV.int .u8 0, IV.int .u8 0, IV.int .u8 0, IV.int .u8 0, IV.int .u8 0, IV.int .u8 0, IV.int .u8 0] = some true := itC_eq it0
  have q2 : fitR [(2, .i), (1, .s), (33, .i)] (itC it0) = true := itC_fit it0_ok
  simp -implicitDefEqProofs (maxSteps := 2000000) only [m7_29, wk, act, asV, ↓reduceIte, Nat.reduceEqDiff, reduceCtorEq, Nat.reduceAdd, Nat.reduceLeDiff, Nat.reduceSub, Nat.reduceMul, List.reduceReplicate, Int.reduceEq, Int.reduceLT, Int.reduceLE, Int.reduceAdd, Int.reduceSub, Int.reduceMul, Nat.reduceLT, Int.reduceToNat]
  obtain ⟨vv, hvv⟩ : ∃ vv : Nat → IV, vv = fun i => (IV.bool false :: IV.ptr 18 0 vr :: IV.ptr 18 0 vr :: IV.ptr 18 0 vr :: IV.sl .full 0 [] :: IV.int .i64 0 :: IV.bool false :: IV.bool false :: IV.bool false :: IV.bool false :: IV.bool false :: IV.tup [] :: IV.tup [] :: IV.tup [] :: IV.tup [] :: IV.tup [] :: IV.tup [] :: IV.tup [] :: IV.tup [] :: IV.tup [] :: IV.bool false :: IV.bool false :: IV.bool false :: IV.bool false :: IV.bool true :: IV.bool true :: IV.agg (itC it0) :: IV.agg [IV.int .i64 0, IV.int .i64 0, IV.str [], IV.int .i64 0, IV.int .u8 0, IV.int .u8 0, IV.int .u8 0, IV.int .u8 0, IV.int .u8 0, IV.int .u8 0, IV.int .u8 0, IV.int .u8 0, IV.int .u8 0, IV.int .u8 0, IV.int .u8 0, IV.int .u8 0, IV.int .u8 0, IV.int .u8 0, IV.int .u8 0, IV.int .u8 0, IV.int .u8 0, IV.int .u8 0, IV.int .u8 0, IV.int .u8 0, IV.int .u8 0, IV.int .u8 0, IV.int .u8 0, IV.int .u8 0, IV.int .u8 0, IV.int .u8 0, IV.int .u8 0, IV.int .u8 0, IV.int .u8 0, IV.int .u8 0, IV.int .u8 0, IV.int .u8 0] :: IV.bool false :: IV.bool false :: IV.bool false :: IV.bool false :: IV.ptr 16 0 va :: IV.int .i64 0 :: IV.ptr 18 0 vr :: IV.ptr 18 0 vr :: IV.ptr 18 0 vr :: IV.sl .full 0 [] :: IV.int .i64 0 :: IV.bool false :: IV.bool false :: [] : List IV).getD i .undef := ⟨_, rfl⟩
  refine Wp_drxI (PInv 84 41 vv s.t s.h) ⟨rfl, fun _ _ => rfl, fun i hi hl => absurd (hl : false = true) (by decide)⟩ ?_ ?_
  · have hb : ∀ L s', PInv 84 41 vv s.t s.h L s' → s'.t 10 = .bool false ∧ s'.t 3 = .ptr 16 0 va ∧ s'.t 4 = .ptr 18 0 vr ∧ s'.t 9 = .ptr 9 0 v9 ∧ s'.h 18 = ⟨vr, true, true, false, [.sl .full 0 []]⟩ ∧ s'.h 9 = ⟨v9, true, true, false, itC it0⟩ ∧ True ∧ ObjQ 16 va 1024 s'.h [] := fun L s' hI =>
      ⟨(hI.t 10 (by decide)).trans k10, (hI.t 3 (by decide)).trans k3, (hI.t 4 (by decide)).trans k4, (hI.t 9 (by decide)).trans k9, by rw [hI.h]; exact hH, by rw [hI.h]; exact k9h, trivial, by rw [hI.h]; exact ka⟩
    refine stepsX_cons ?_ (stepsX_cons ?_ (stepsX_cons ?_ (stepsX_cons ?_ (stepsX_cons ?_ (stepsX_cons ?_ (stepsX_cons ?_ (stepsX_cons ?_ (stepsX_cons ?_ (stepsX_cons ?_ (stepsX_cons ?_ (stepsX_cons ?_ (stepsX_cons ?_ (stepsX_cons ?_ (stepsX_cons ?_ (stepsX_cons ?_ (stepsX_cons ?_ (stepsX_cons ?_ (stepsX_cons ?_ (stepsX_cons ?_ (stepsX_cons ?_ (stepsX_cons ?_ (stepsX_cons ?_ (stepsX_cons ?_ (stepsX_cons ?_ (stepsX_cons ?_ (stepsX_cons ?_ (stepsX_cons ?_ (stepsX_cons ?_ (stepsX_cons ?_ (stepsX_cons ?_ (stepsX_cons ?_ (stepsX_cons ?_ (stepsX_cons ?_ (stepsX_cons ?_ (stepsX_cons ?_ (stepsX_cons ?_ (stepsX_cons ?_ (stepsX_cons ?_ (stepsX_cons ?_ (stepsX_cons ?_ (stepsX_nil)))))))))))))))))))))))))))))))))))))))))
    · intro L s' hL hp hI
      obtain ⟨e10, e3, e4, e9, e18, k9h, e22, ea⟩ := hb L s' hI
      simp -implicitDefEqProofs (maxSteps := 2000000) only [e10, wk, act, asV, ↓reduceIte, Nat.reduceEqDiff, reduceCtorEq, Nat.reduceAdd, Nat.reduceLeDiff, Nat.reduceSub, Nat.reduceMul, List.reduceReplicate, Int.reduceEq, Int.reduceLT, Int.reduceLE, Int.reduceAdd, Int.reduceSub, Int.reduceMul, Nat.reduceLT, Int.reduceToNat]
      exact hI.step (i := 0) (by decide) rfl (by rw [hvv]; rfl)
    · intro L s' hL hp hI
      obtain ⟨e10, e3, e4, e9, e18, k9h, e22, ea⟩ := hb L s' hI
      simp -implicitDefEqProofs (maxSteps := 2000000) only [e4, wk, act, asV, ↓reduceIte, Nat.reduceEqDiff, reduceCtorEq, Nat.reduceAdd, Nat.reduceLeDiff, Nat.reduceSub, Nat.reduceMul, List.reduceReplicate, Int.reduceEq, Int.reduceLT, Int.reduceLE, Int.reduceAdd, Int.reduceSub, Int.reduceMul, Nat.reduceLT, Int.reduceToNat]
      exact hI.step (i := 1) (by decide) rfl (by rw [hvv]; rfl)
    · intro L s' hL hp hI
      obtain ⟨e10, e3, e4, e9, e18, k9h, e22, ea⟩ := hb L s' hI
      have p1 : s'.t 85 = .ptr 18 0 vr := by have := hI.v 1 (by decide) (hp 1 (by simp)); rw [hvv] at this; exact this
      simp -implicitDefEqProofs (maxSteps := 2000000) only [e18, p1, wk, act, asV, ↓reduceIte, Nat.reduceEqDiff, reduceCtorEq, Nat.reduceAdd, Nat.reduceLeDiff, Nat.reduceSub, Nat.reduceMul, List.reduceReplicate, Int.reduceEq, Int.reduceLT, Int.reduceLE, Int.reduceAdd, Int.reduceSub, Int.reduceMul, Nat.reduceLT, Int.reduceToNat]
      exact hI.step (i := 2) (by decide) rfl (by rw [hvv]; rfl)
    · intro L s' hL hp hI
      obtain ⟨e10, e3, e4, e9, e18, k9h, e22, ea⟩ := hb L s' hI
      have p2 : s'.t 86 = .ptr 18 0 vr := by have := hI.v 2 (by decide) (hp 2 (by simp)); rw [hvv] at this; exact this
      simp -implicitDefEqProofs (maxSteps := 2000000) only [e18, p2, wk, act, asV, ↓reduceIte, Nat.reduceEqDiff, reduceCtorEq, Nat.reduceAdd, Nat.reduceLeDiff, Nat.reduceSub, Nat.reduceMul, List.reduceReplicate, Int.reduceEq, Int.reduceLT, Int.reduceLE, Int.reduceAdd, Int.reduceSub, Int.reduceMul, Nat.reduceLT, Int.reduceToNat]
      exact hI.step (i := 3) (by decide) rfl (by rw [hvv]; rfl)
    · intro L s' hL hp hI
      obtain ⟨e10, e3, e4, e9, e18, k9h, e22, ea⟩ := hb L s' hI
      have p3 : s'.t 87 = .ptr 18 0 vr := by have := hI.v 3 (by decide) (hp 3 (by simp)); rw [hvv] at this; exact this
      simp -implicitDefEqProofs (maxSteps := 2000000) only [e18, p3, wk, act, asV, ↓reduceIte, Nat.reduceEqDiff, reduceCtorEq, Nat.reduceAdd, Nat.reduceLeDiff, Nat.reduceSub, Nat.reduceMul, List.reduceReplicate, Int.reduceEq, Int.reduceLT, Int.reduceLE, Int.reduceAdd, Int.reduceSub, Int.reduceMul, Nat.reduceLT, Int.reduceToNat]
      exact hI.step (i := 4) (by decide) rfl (by rw [hvv]; rfl)
    · intro L s' hL hp hI
      obtain ⟨e10, e3, e4, e9, e18, k9h, e22, ea⟩ := hb L s' hI
      have p4 : s'.t 88 = .sl .full 0 [] := by have := hI.v 4 (by decide) (hp 4 (by simp)); rw [hvv] at this; exact this
      simp -implicitDefEqProofs (maxSteps := 2000000) only [p4, List.length_nil, Int.natCast_zero, wk, act, asV, ↓reduceIte, Nat.reduceEqDiff, reduceCtorEq, Nat.reduceAdd, Nat.reduceLeDiff, Nat.reduceSub, Nat.reduceMul, List.reduceReplicate, Int.reduceEq, Int.reduceLT, Int.reduceLE, Int.reduceAdd, Int.reduceSub, Int.reduceMul, Nat.reduceLT, Int.reduceToNat]
      exact hI.step (i := 5) (by decide) rfl (by rw [hvv]; rfl)
    · intro L s' hL hp hI
      obtain ⟨e10, e3, e4, e9, e18, k9h, e22, ea⟩ := hb L s' hI
      have p5 : s'.t 89 = .int .i64 0 := by have := hI.v 5 (by decide) (hp 5 (by simp)); rw [hvv] at this; exact this
      simp -implicitDefEqProofs (maxSteps := 2000000) only [p5, wk, act, asV, ↓reduceIte, Nat.reduceEqDiff, reduceCtorEq, Nat.reduceAdd, Nat.reduceLeDiff, Nat.reduceSub, Nat.reduceMul, List.reduceReplicate, Int.reduceEq, Int.reduceLT, Int.reduceLE, Int.reduceAdd, Int.reduceSub, Int.reduceMul, Nat.reduceLT, Int.reduceToNat]
      exact hI.step (i := 6) (by decide) rfl (by rw [hvv]; rfl)
    · intro L s' hL hp hI
      obtain ⟨e10, e3, e4, e9, e18, k9h, e22, ea⟩ := hb L s' hI
      have p0 : s'.t 84 = .bool false := by have := hI.v 0 (by decide) (hp 0 (by simp)); rw [hvv] at this; exact this
      have p6 : s'.t 90 = .bool false := by have := hI.v 6 (by decide) (hp 6 (by simp)); rw [hvv] at this; exact this
      simp -implicitDefEqProofs (maxSteps := 2000000) only [p0, p6, wk, act, asV, ↓reduceIte, Nat.reduceEqDiff, reduceCtorEq, Nat.reduceAdd, Nat.reduceLeDiff, Nat.reduceSub, Nat.reduceMul, List.reduceReplicate, Int.reduceEq, Int.reduceLT, Int.reduceLE, Int.reduceAdd, Int.reduceSub, Int.reduceMul, Nat.reduceLT, Int.reduceToNat]
      exact hI.step (i := 7) (by decide) rfl (by rw [hvv]; rfl)
    · intro L s' hL hp hI
      obtain ⟨e10, e3, e4, e9, e18, k9h, e22, ea⟩ := hb L s' hI
      have p7 : s'.t 91 = .bool false := by have := hI.v 7 (by decide) (hp 7 (by simp)); rw [hvv] at this; exact this
      simp -implicitDefEqProofs (maxSteps := 2000000) only [p7, wk, act, asV, ↓reduceIte, Nat.reduceEqDiff, reduceCtorEq, Nat.reduceAdd, Nat.reduceLeDiff, Nat.reduceSub, Nat.reduceMul, List.reduceReplicate, Int.reduceEq, Int.reduceLT, Int.reduceLE, Int.reduceAdd, Int.reduceSub, Int.reduceMul, Nat.reduceLT, Int.reduceToNat]
      exact hI.step (i := 8) (by decide) rfl (by rw [hvv]; rfl)
    · intro L s' hL hp hI
      obtain ⟨e10, e3, e4, e9, e18, k9h, e22, ea⟩ := hb L s' hI
      have p8 : s'.t 92 = .bool false := by have := hI.v 8 (by decide) (hp 8 (by simp)); rw [hvv] at this; exact this
      simp -implicitDefEqProofs (maxSteps := 2000000) only [e10, p8, wk, act, asV, ↓reduceIte, Nat.reduceEqDiff, reduceCtorEq, Nat.reduceAdd, Nat.reduceLeDiff, Nat.reduceSub, Nat.reduceMul, List.reduceReplicate, Int.reduceEq, Int.reduceLT, Int.reduceLE, Int.reduceAdd, Int.reduceSub, Int.reduceMul, Nat.reduceLT, Int.reduceToNat]
      exact hI.step (i := 9) (by decide) rfl (by rw [hvv]; rfl)
    · intro L s' hL hp hI
      obtain ⟨e10, e3, e4, e9, e18, k9h, e22, ea⟩ := hb L s' hI
      have p8 : s'.t 92 = .bool false := by have := hI.v 8 (by decide) (hp 8 (by simp)); rw [hvv] at this; exact this
      have p9 : s'.t 93 = .bool false := by have := hI.v 9 (by decide) (hp 9 (by simp)); rw [hvv] at this; exact this
      simp -implicitDefEqProofs (maxSteps := 2000000) only [p8, p9, wk, act, asV, ↓reduceIte, Nat.reduceEqDiff, reduceCtorEq, Nat.reduceAdd, Nat.reduceLeDiff, Nat.reduceSub, Nat.reduceMul, List.reduceReplicate, Int.reduceEq, Int.reduceLT, Int.reduceLE, Int.reduceAdd, Int.reduceSub, Int.reduceMul, Nat.reduceLT, Int.reduceToNat]
      exact hI.step (i := 10) (by decide) rfl (by rw [hvv]; rfl)
    · intro L s' hL hp hI
      obtain ⟨e10, e3, e4, e9, e18, k9h, e22, ea⟩ := hb L s' hI
      have p10 : s'.t 94 = .bool false := by have := hI.v 10 (by decide) (hp 10 (by simp)); rw [hvv] at this; exact this
      simp -implicitDefEqProofs (maxSteps := 2000000) only [p10, wk, act, asV, ↓reduceIte, Nat.reduceEqDiff, reduceCtorEq, Nat.reduceAdd, Nat.reduceLeDiff, Nat.reduceSub, Nat.reduceMul, List.reduceReplicate, Int.reduceEq, Int.reduceLT, Int.reduceLE, Int.reduceAdd, Int.reduceSub, Int.reduceMul, Nat.reduceLT, Int.reduceToNat]
      exact hI.step (i := 11) (by decide) rfl (by rw [hvv]; rfl)
    · intro L s' hL hp hI
      obtain ⟨e10, e3, e4, e9, e18, k9h, e22, ea⟩ := hb L s' hI
      have p10 : s'.t 94 = .bool false := by have := hI.v 10 (by decide) (hp 10 (by simp)); rw [hvv] at this; exact this
      simp -implicitDefEqProofs (maxSteps := 2000000) only [p10, wk, act, asV, ↓reduceIte, Nat.reduceEqDiff, reduceCtorEq, Nat.reduceAdd, Nat.reduceLeDiff, Nat.reduceSub, Nat.reduceMul, List.reduceReplicate, Int.reduceEq, Int.reduceLT, Int.reduceLE, Int.reduceAdd, Int.reduceSub, Int.reduceMul, Nat.reduceLT, Int.reduceToNat]
      exact hI.step (i := 12) (by decide) rfl (by rw [hvv]; rfl)
    · intro L s' hL hp hI
      obtain ⟨e10, e3, e4, e9, e18, k9h, e22, ea⟩ := hb L s' hI
      have p10 : s'.t 94 = .bool false := by have := hI.v 10 (by decide) (hp 10 (by simp)); rw [hvv] at this; exact this
      simp -implicitDefEqProofs (maxSteps := 2000000) only [p10, wk, act, asV, ↓reduceIte, Nat.reduceEqDiff, reduceCtorEq, Nat.reduceAdd, Nat.reduceLeDiff, Nat.reduceSub, Nat.reduceMul, List.reduceReplicate, Int.reduceEq, Int.reduceLT, Int.reduceLE, Int.reduceAdd, Int.reduceSub, Int.reduceMul, Nat.reduceLT, Int.reduceToNat]
      exact hI.step (i := 13) (by decide) rfl (by rw [hvv]; rfl)
    · intro L s' hL hp hI
      obtain ⟨e10, e3, e4, e9, e18, k9h, e22, ea⟩ := hb L s' hI
      have p10 : s'.t 94 = .bool false := by have := hI.v 10 (by decide) (hp 10 (by simp)); rw [hvv] at this; exact this
      simp -implicitDefEqProofs (maxSteps := 2000000) only [p10, wk, act, asV, ↓reduceIte, Nat.reduceEqDiff, reduceCtorEq, Nat.reduceAdd, Nat.reduceLeDiff, Nat.reduceSub, Nat.reduceMul, List.reduceReplicate, Int.reduceEq, Int.reduceLT, Int.reduceLE, Int.reduceAdd, Int.reduceSub, Int.reduceMul, Nat.reduceLT, Int.reduceToNat]
      exact hI.step (i := 14) (by decide) rfl (by rw [hvv]; rfl)
    · intro L s' hL hp hI
      obtain ⟨e10, e3, e4, e9, e18, k9h, e22, ea⟩ := hb L s' hI
      have p10 : s'.t 94 = .bool false := by have := hI.v 10 (by decide) (hp 10 (by simp)); rw [hvv] at this; exact this
      simp -implicitDefEqProofs (maxSteps := 2000000) only [p10, wk, act, asV, ↓reduceIte, Nat.reduceEqDiff, reduceCtorEq, Nat.reduceAdd, Nat.reduceLeDiff, Nat.reduceSub, Nat.reduceMul, List.reduceReplicate, Int.reduceEq, Int.reduceLT, Int.reduceLE, Int.reduceAdd, Int.reduceSub, Int.reduceMul, Nat.reduceLT, Int.reduceToNat]
      exact hI.step (i := 15) (by decide) rfl (by rw [hvv]; rfl)
    · intro L s' hL hp hI
      obtain ⟨e10, e3, e4, e9, e18, k9h, e22, ea⟩ := hb L s' hI
      have p10 : s'.t 94 = .bool false := by have := hI.v 10 (by decide) (hp 10 (by simp)); rw [hvv] at this; exact this
      simp -implicitDefEqProofs (maxSteps := 2000000) only [p10, wk, act, asV, ↓reduceIte, Nat.reduceEqDiff, reduceCtorEq, Nat.reduceAdd, Nat.reduceLeDiff, Nat.reduceSub, Nat.reduceMul, List.reduceReplicate, Int.reduceEq, Int.reduceLT, Int.reduceLE, Int.reduceAdd, Int.reduceSub, Int.reduceMul, Nat.reduceLT, Int.reduceToNat]
      exact hI.step (i := 16) (by decide) rfl (by rw [hvv]; rfl)
    · intro L s' hL hp hI
      obtain ⟨e10, e3, e4, e9, e18, k9h, e22, ea⟩ := hb L s' hI
      have p10 : s'.t 94 = .bool false := by have := hI.v 10 (by decide) (hp 10 (by simp)); rw [hvv] at this; exact this
      simp -implicitDefEqProofs (maxSteps := 2000000) only [p10, wk, act, asV, ↓reduceIte, Nat.reduceEqDiff, reduceCtorEq, Nat.reduceAdd, Nat.reduceLeDiff, Nat.reduceSub, Nat.reduceMul, List.reduceReplicate, Int.reduceEq, Int.reduceLT, Int.reduceLE, Int.reduceAdd, Int.reduceSub, Int.reduceMul, Nat.reduceLT, Int.reduceToNat]
      exact hI.step (i := 17) (by decide) rfl (by rw [hvv]; rfl)
    · intro L s' hL hp hI
      obtain ⟨e10, e3, e4, e9, e18, k9h, e22, ea⟩ := hb L s' hI
      have p10 : s'.t 94 = .bool false := by have := hI.v 10 (by decide) (hp 10 (by simp)); rw [hvv] at this; exact this
      simp -implicitDefEqProofs (maxSteps := 2000000) only [p10, wk, act, asV, ↓reduceIte, Nat.reduceEqDiff, reduceCtorEq, Nat.reduceAdd, Nat.reduceLeDiff, Nat.reduceSub, Nat.reduceMul, List.reduceReplicate, Int.reduceEq, Int.reduceLT, Int.reduceLE, Int.reduceAdd, Int.reduceSub, Int.reduceMul, Nat.reduceLT, Int.reduceToNat]
      exact hI.step (i := 18) (by decide) rfl (by rw [hvv]; rfl)
    · intro L s' hL hp hI
      obtain ⟨e10, e3, e4, e9, e18, k9h, e22, ea⟩ := hb L s' hI
      have p10 : s'.t 94 = .bool false := by have := hI.v 10 (by decide) (hp 10 (by simp)); rw [hvv] at this; exact this
      simp -implicitDefEqProofs (maxSteps := 2000000) only [p10, wk, act, asV, ↓reduceIte, Nat.reduceEqDiff, reduceCtorEq, Nat.reduceAdd, Nat.reduceLeDiff, Nat.reduceSub, Nat.reduceMul, List.reduceReplicate, Int.reduceEq, Int.reduceLT, Int.reduceLE, Int.reduceAdd, Int.reduceSub, Int.reduceMul, Nat.reduceLT, Int.reduceToNat]
      exact hI.step (i := 19) (by decide) rfl (by rw [hvv]; rfl)
    · intro L s' hL hp hI
      obtain ⟨e10, e3, e4, e9, e18, k9h, e22, ea⟩ := hb L s' hI
      have p8 : s'.t 92 = .bool false := by have := hI.v 8 (by decide) (hp 8 (by simp)); rw [hvv] at this; exact this
      have p10 : s'.t 94 = .bool false := by have := hI.v 10 (by decide) (hp 10 (by simp)); rw [hvv] at this; exact this
      have p19 : s'.t 103 = .tup [] := by have := hI.v 19 (by decide) (hp 19 (by simp)); rw [hvv] at this; exact this
      simp -implicitDefEqProofs (maxSteps := 2000000) only [p8, p10, p19, wk, act, asV, ↓reduceIte, Nat.reduceEqDiff, reduceCtorEq, Nat.reduceAdd, Nat.reduceLeDiff, Nat.reduceSub, Nat.reduceMul, List.reduceReplicate, Int.reduceEq, Int.reduceLT, Int.reduceLE, Int.reduceAdd, Int.reduceSub, Int.reduceMul, Nat.reduceLT, Int.reduceToNat]
      exact hI.step (i := 20) (by decide) rfl (by rw [hvv]; rfl)
    · intro L s' hL hp hI
      obtain ⟨e10, e3, e4, e9, e18, k9h, e22, ea⟩ := hb L s' hI
      have p8 : s'.t 92 = .bool false := by have := hI.v 8 (by decide) (hp 8 (by simp)); rw [hvv] at this; exact this
      have p20 : s'.t 104 = .bool false := by have := hI.v 20 (by decide) (hp 20 (by simp)); rw [hvv] at this; exact this
      simp -implicitDefEqProofs (maxSteps := 2000000) only [p8, p20, wk, act, asV, ↓reduceIte, Nat.reduceEqDiff, reduceCtorEq, Nat.reduceAdd, Nat.reduceLeDiff, Nat.reduceSub, Nat.reduceMul, List.reduceReplicate, Int.reduceEq, Int.reduceLT, Int.reduceLE, Int.reduceAdd, Int.reduceSub, Int.reduceMul, Nat.reduceLT, Int.reduceToNat]
      exact hI.step (i := 21) (by decide) rfl (by rw [hvv]; rfl)
    · intro L s' hL hp hI
      obtain ⟨e10, e3, e4, e9, e18, k9h, e22, ea⟩ := hb L s' hI
      have p21 : s'.t 105 = .bool false := by have := hI.v 21 (by decide) (hp 21 (by simp)); rw [hvv] at this; exact this
      simp -implicitDefEqProofs (maxSteps := 2000000) only [p21, wk, act, asV, ↓reduceIte, Nat.reduceEqDiff, reduceCtorEq, Nat.reduceAdd, Nat.reduceLeDiff, Nat.reduceSub, Nat.reduceMul, List.reduceReplicate, Int.reduceEq, Int.reduceLT, Int.reduceLE, Int.reduceAdd, Int.reduceSub, Int.reduceMul, Nat.reduceLT, Int.reduceToNat]
      exact hI.step (i := 22) (by decide) rfl (by rw [hvv]; rfl)
    · intro L s' hL hp hI
      obtain ⟨e10, e3, e4, e9, e18, k9h, e22, ea⟩ := hb L s' hI
      have p22 : s'.t 106 = .bool false := by have := hI.v 22 (by decide) (hp 22 (by simp)); rw [hvv] at this; exact this
      simp -implicitDefEqProofs (maxSteps := 2000000) only [e10, p22, wk, act, asV, ↓reduceIte, Nat.reduceEqDiff, reduceCtorEq, Nat.reduceAdd, Nat.reduceLeDiff, Nat.reduceSub, Nat.reduceMul, List.reduceReplicate, Int.reduceEq, Int.reduceLT, Int.reduceLE, Int.reduceAdd, Int.reduceSub, Int.reduceMul, Nat.reduceLT, Int.reduceToNat]
      exact hI.step (i := 23) (by decide) rfl (by rw [hvv]; rfl)
    · intro L s' hL hp hI
      obtain ⟨e10, e3, e4, e9, e18, k9h, e22, ea⟩ := hb L s' hI
      have p22 : s'.t 106 = .bool false := by have := hI.v 22 (by decide) (hp 22 (by simp)); rw [hvv] at this; exact this
      have p23 : s'.t 107 = .bool false := by have := hI.v 23 (by decide) (hp 23 (by simp)); rw [hvv] at this; exact this
      simp -implicitDefEqProofs (maxSteps := 2000000) only [p22, p23, wk, act, asV, ↓reduceIte, Nat.reduceEqDiff, reduceCtorEq, Nat.reduceAdd, Nat.reduceLeDiff, Nat.reduceSub, Nat.reduceMul, List.reduceReplicate, Int.reduceEq, Int.reduceLT, Int.reduceLE, Int.reduceAdd, Int.reduceSub, Int.reduceMul, Nat.reduceLT, Int.reduceToNat]
      exact hI.step (i := 24) (by decide) rfl (by rw [hvv]; rfl)
    · intro L s' hL hp hI
      obtain ⟨e10, e3, e4, e9, e18, k9h, e22, ea⟩ := hb L s' hI
      have p22 : s'.t 106 = .bool false := by have := hI.v 22 (by decide) (hp 22 (by simp)); rw [hvv] at this; exact this
      have p24 : s'.t 108 = .bool true := by have := hI.v 24 (by decide) (hp 24 (by simp)); rw [hvv] at this; exact this
      simp -implicitDefEqProofs (maxSteps := 2000000) only [p22, p24, wk, act, asV, ↓reduceIte, Nat.reduceEqDiff, reduceCtorEq, Nat.reduceAdd, Nat.reduceLeDiff, Nat.reduceSub, Nat.reduceMul, List.reduceReplicate, Int.reduceEq, Int.reduceLT, Int.reduceLE, Int.reduceAdd, Int.reduceSub, Int.reduceMul, Nat.reduceLT, Int.reduceToNat]
      exact hI.step (i := 25) (by decide) rfl (by rw [hvv]; rfl)
    · intro L s' hL hp hI
      obtain ⟨e10, e3, e4, e9, e18, k9h, e22, ea⟩ := hb L s' hI
      have p25 : s'.t 109 = .bool true := by have := hI.v 25 (by decide) (hp 25 (by simp)); rw [hvv] at this; exact this
      simp -implicitDefEqProofs (maxSteps := 2000000) only [e9, k9h, l0, t0, p25, wk, act, asV, ↓reduceIte, Nat.reduceEqDiff, reduceCtorEq, Nat.reduceAdd, Nat.reduceLeDiff, Nat.reduceSub, Nat.reduceMul, List.reduceReplicate, Int.reduceEq, Int.reduceLT, Int.reduceLE, Int.reduceAdd, Int.reduceSub, Int.reduceMul, Nat.reduceLT, Int.reduceToNat]
      exact hI.step (i := 26) (by decide) rfl (by rw [hvv]; rfl)
    · intro L s' hL hp hI
      obtain ⟨e10, e3, e4, e9, e18, k9h, e22, ea⟩ := hb L s' hI
      have p25 : s'.t 109 = .bool true := by have := hI.v 25 (by decide) (hp 25 (by simp)); rw [hvv] at this; exact this
      simp -implicitDefEqProofs (maxSteps := 2000000) only [p25, wk, act, asV, ↓reduceIte, Nat.reduceEqDiff, reduceCtorEq, Nat.reduceAdd, Nat.reduceLeDiff, Nat.reduceSub, Nat.reduceMul, List.reduceReplicate, Int.reduceEq, Int.reduceLT, Int.reduceLE, Int.reduceAdd, Int.reduceSub, Int.reduceMul, Nat.reduceLT, Int.reduceToNat]
      exact hI.step (i := 27) (by decide) rfl (by rw [hvv]; rfl)
    · intro L s' hL hp hI
      obtain ⟨e10, e3, e4, e9, e18, k9h, e22, ea⟩ := hb L s' hI
      have p25 : s'.t 109 = .bool true := by have := hI.v 25 (by decide) (hp 25 (by simp)); rw [hvv] at this; exact this
      have p26 : s'.t 110 = .agg (itC it0) := by have := hI.v 26 (by decide) (hp 26 (by simp)); rw [hvv] at this; exact this
      have p27 : s'.t 111 = .agg [IV.int .i64 0, IV.int .i64 0, IV.str [], IV.int .i64 0, IV.int .u8 0, IV.int .u8 0, IV.int .u8 0, IV.int .u8 0, IV.int .u8 0, IV.int .u8 0, IV.int .u8 0, IV.int .u8 0, IV.int .u8 0, IV.int .u8 0, IV.int .u8 0, IV.int .u8 0, IV.int .u8 0, IV.int .u8 0, IV.int .u8 0, IV.int .u8 0, IV.int .u8 0, IV.int .u8 0, IV.int .u8 0, IV.int .u8 0, IV.int .u8 0, IV.int .u8 0, IV.int .u8 0, IV.int .u8 0, IV.int .u8 0, IV.int .u8 0, IV.int .u8 0, IV.int .u8 0, IV.int .u8 0, IV.int .u8 0, IV.int .u8 0, IV.int .u8 0] := by have := hI.v 27 (by decide) (hp 27 (by simp)); rw [hvv] at this; exact this
      simp -implicitDefEqProofs (maxSteps := 2000000) only [q1, q2, p25, p26, p27, wk, act, asV, ↓reduceIte, Nat.reduceEqDiff, reduceCtorEq, Nat.reduceAdd, Nat.reduceLeDiff, Nat.reduceSub, Nat.reduceMul, List.reduceReplicate, Int.reduceEq, Int.reduceLT, Int.reduceLE, Int.reduceAdd, Int.reduceSub, Int.reduceMul, Nat.reduceLT, Int.reduceToNat]
      exact hI.step (i := 28) (by decide) rfl (by rw [hvv]; rfl)
    · intro L s' hL hp hI
      obtain ⟨e10, e3, e4, e9, e18, k9h, e22, ea⟩ := hb L s' hI
      have p22 : s'.t 106 = .bool false := by have := hI.v 22 (by decide) (hp 22 (by simp)); rw [hvv] at this; exact this
      have p25 : s'.t 109 = .bool true := by have := hI.v 25 (by decide) (hp 25 (by simp)); rw [hvv] at this; exact this
      have p28 : s'.t 112 = .bool false := by have := hI.v 28 (by decide) (hp 28 (by simp)); rw [hvv] at this; exact this
      simp -implicitDefEqProofs (maxSteps := 2000000) only [p22, p25, p28, wk, act, asV, ↓reduceIte, Nat.reduceEqDiff, reduceCtorEq, Nat.reduceAdd, Nat.reduceLeDiff, Nat.reduceSub, Nat.reduceMul, List.reduceReplicate, Int.reduceEq, Int.reduceLT, Int.reduceLE, Int.reduceAdd, Int.reduceSub, Int.reduceMul, Nat.reduceLT, Int.reduceToNat]
      exact hI.step (i := 29) (by decide) rfl (by rw [hvv]; rfl)
    · intro L s' hL hp hI
      obtain ⟨e10, e3, e4, e9, e18, k9h, e22, ea⟩ := hb L s' hI
      have p22 : s'.t 106 = .bool false := by have := hI.v 22 (by decide) (hp 22 (by simp)); rw [hvv] at this; exact this
      have p29 : s'.t 113 = .bool false := by have := hI.v 29 (by decide) (hp 29 (by simp)); rw [hvv] at this; exact this
      simp -implicitDefEqProofs (maxSteps := 2000000) only [p22, p29, wk, act, asV, ↓reduceIte, Nat.reduceEqDiff, reduceCtorEq, Nat.reduceAdd, Nat.reduceLeDiff, Nat.reduceSub, Nat.reduceMul, List.reduceReplicate, Int.reduceEq, Int.reduceLT, Int.reduceLE, Int.reduceAdd, Int.reduceSub, Int.reduceMul, Nat.reduceLT, Int.reduceToNat]
      exact hI.step (i := 30) (by decide) rfl (by rw [hvv]; rfl)
    · intro L s' hL hp hI
      obtain ⟨e10, e3, e4, e9, e18, k9h, e22, ea⟩ := hb L s' hI
      have p30 : s'.t 114 = .bool false := by have := hI.v 30 (by decide) (hp 30 (by simp)); rw [hvv] at this; exact this
      simp -implicitDefEqProofs (maxSteps := 2000000) only [p30, wk, act, asV, ↓reduceIte, Nat.reduceEqDiff, reduceCtorEq, Nat.reduceAdd, Nat.reduceLeDiff, Nat.reduceSub, Nat.reduceMul, List.reduceReplicate, Int.reduceEq, Int.reduceLT, Int.reduceLE, Int.reduceAdd, Int.reduceSub, Int.reduceMul, Nat.reduceLT, Int.reduceToNat]
      exact hI.step (i := 31) (by decide) rfl (by rw [hvv]; rfl)
    · intro L s' hL hp hI
      obtain ⟨e10, e3, e4, e9, e18, k9h, e22, ea⟩ := hb L s' hI
      have p31 : s'.t 115 = .bool false := by have := hI.v 31 (by decide) (hp 31 (by simp)); rw [hvv] at this; exact this
      simp -implicitDefEqProofs (maxSteps := 2000000) only [e3, p31, wk, act, asV, ↓reduceIte, Nat.reduceEqDiff, reduceCtorEq, Nat.reduceAdd, Nat.reduceLeDiff, Nat.reduceSub, Nat.reduceMul, List.reduceReplicate, Int.reduceEq, Int.reduceLT, Int.reduceLE, Int.reduceAdd, Int.reduceSub, Int.reduceMul, Nat.reduceLT, Int.reduceToNat]
      exact hI.step (i := 32) (by decide) rfl (by rw [hvv]; rfl)
    · intro L s' hL hp hI
      obtain ⟨e10, e3, e4, e9, e18, k9h, e22, ea⟩ := hb L s' hI
      have p31 : s'.t 115 = .bool false := by have := hI.v 31 (by decide) (hp 31 (by simp)); rw [hvv] at this; exact this
      have p32 : s'.t 116 = .ptr 16 0 va := by have := hI.v 32 (by decide) (hp 32 (by simp)); rw [hvv] at this; exact this
      simp -implicitDefEqProofs (maxSteps := 2000000) only [p31, p32, wk, act, asV, ↓reduceIte, Nat.reduceEqDiff, reduceCtorEq, Nat.reduceAdd, Nat.reduceLeDiff, Nat.reduceSub, Nat.reduceMul, List.reduceReplicate, Int.reduceEq, Int.reduceLT, Int.reduceLE, Int.reduceAdd, Int.reduceSub, Int.reduceMul, Nat.reduceLT, Int.reduceToNat]
      refine CallnL.of (by simp -implicitDefEqProofs (maxSteps := 2000000) only [p31, p32, wk, act, asV, ↓reduceIte, Nat.reduceEqDiff, reduceCtorEq, Nat.reduceAdd, Nat.reduceLeDiff, Nat.reduceSub, Nat.reduceMul, List.reduceReplicate, Int.reduceEq, Int.reduceLT, Int.reduceLE, Int.reduceAdd, Int.reduceSub, Int.reduceMul, Nat.reduceLT, Int.reduceToNat]; first | done | rfl) (qlen_ok ea) ?_
      rintro _ _ ⟨rfl, rfl⟩
      simp -implicitDefEqProofs (maxSteps := 2000000) only [List.length_cons, List.length_nil, Int.natCast_zero, wk, act, asV, ↓reduceIte, Nat.reduceEqDiff, reduceCtorEq, Nat.reduceAdd, Nat.reduceLeDiff, Nat.reduceSub, Nat.reduceMul, List.reduceReplicate, Int.reduceEq, Int.reduceLT, Int.reduceLE, Int.reduceAdd, Int.reduceSub, Int.reduceMul, Nat.reduceLT, Int.reduceToNat]
      exact hI.step (i := 33) (by decide) rfl (by rw [hvv]; rfl)
    · intro L s' hL hp hI
      obtain ⟨e10, e3, e4, e9, e18, k9h, e22, ea⟩ := hb L s' hI
      have p31 : s'.t 115 = .bool false := by have := hI.v 31 (by decide) (hp 31 (by simp)); rw [hvv] at this; exact this
      simp -implicitDefEqProofs (maxSteps := 2000000) only [e4, p31, wk, act, asV, ↓reduceIte, Nat.reduceEqDiff, reduceCtorEq, Nat.reduceAdd, Nat.reduceLeDiff, Nat.reduceSub, Nat.reduceMul, List.reduceReplicate, Int.reduceEq, Int.reduceLT, Int.reduceLE, Int.reduceAdd, Int.reduceSub, Int.reduceMul, Nat.reduceLT, Int.reduceToNat]
      exact hI.step (i := 34) (by decide) rfl (by rw [hvv]; rfl)
    · intro L s' hL hp hI
      obtain ⟨e10, e3, e4, e9, e18, k9h, e22, ea⟩ := hb L s' hI
      have p31 : s'.t 115 = .bool false := by have := hI.v 31 (by decide) (hp 31 (by simp)); rw [hvv] at this; exact this
      have p34 : s'.t 118 = .ptr 18 0 vr := by have := hI.v 34 (by decide) (hp 34 (by simp)); rw [hvv] at this; exact this
      simp -implicitDefEqProofs (maxSteps := 2000000) only [e18, p31, p34, wk, act, asV, ↓reduceIte, Nat.reduceEqDiff, reduceCtorEq, Nat.reduceAdd, Nat.reduceLeDiff, Nat.reduceSub, Nat.reduceMul, List.reduceReplicate, Int.reduceEq, Int.reduceLT, Int.reduceLE, Int.reduceAdd, Int.reduceSub, Int.reduceMul, Nat.reduceLT, Int.reduceToNat]
      exact hI.step (i := 35) (by decide) rfl (by rw [hvv]; rfl)
    · intro L s' hL hp hI
      obtain ⟨e10, e3, e4, e9, e18, k9h, e22, ea⟩ := hb L s' hI
      have p31 : s'.t 115 = .bool false := by have := hI.v 31 (by decide) (hp 31 (by simp)); rw [hvv] at this; exact this
      have p35 : s'.t 119 = .ptr 18 0 vr := by have := hI.v 35 (by decide) (hp 35 (by simp)); rw [hvv] at this; exact this
      simp -implicitDefEqProofs (maxSteps := 2000000) only [e18, p31, p35, wk, act, asV, ↓reduceIte, Nat.reduceEqDiff, reduceCtorEq, Nat.reduceAdd, Nat.reduceLeDiff, Nat.reduceSub, Nat.reduceMul, List.reduceReplicate, Int.reduceEq, Int.reduceLT, Int.reduceLE, Int.reduceAdd, Int.reduceSub, Int.reduceMul, Nat.reduceLT, Int.reduceToNat]
      exact hI.step (i := 36) (by decide) rfl (by rw [hvv]; rfl)
    · intro L s' hL hp hI
      obtain ⟨e10, e3, e4, e9, e18, k9h, e22, ea⟩ := hb L s' hI
      have p31 : s'.t 115 = .bool false := by have := hI.v 31 (by decide) (hp 31 (by simp)); rw [hvv] at this; exact this
      have p36 : s'.t 120 = .ptr 18 0 vr := by have := hI.v 36 (by decide) (hp 36 (by simp)); rw [hvv] at this; exact this
      simp -implicitDefEqProofs (maxSteps := 2000000) only [e18, p31, p36, wk, act, asV, ↓reduceIte, Nat.reduceEqDiff, reduceCtorEq, Nat.reduceAdd, Nat.reduceLeDiff, Nat.reduceSub, Nat.reduceMul, List.reduceReplicate, Int.reduceEq, Int.reduceLT, Int.reduceLE, Int.reduceAdd, Int.reduceSub, Int.reduceMul, Nat.reduceLT, Int.reduceToNat]
      exact hI.step (i := 37) (by decide) rfl (by rw [hvv]; rfl)
    · intro L s' hL hp hI
      obtain ⟨e10, e3, e4, e9, e18, k9h, e22, ea⟩ := hb L s' hI
      have p31 : s'.t 115 = .bool false := by have := hI.v 31 (by decide) (hp 31 (by simp)); rw [hvv] at this; exact this
      have p37 : s'.t 121 = .sl .full 0 [] := by have := hI.v 37 (by decide) (hp 37 (by simp)); rw [hvv] at this; exact this
      simp -implicitDefEqProofs (maxSteps := 2000000) only [p31, p37, List.length_nil, Int.natCast_zero, wk, act, asV, ↓reduceIte, Nat.reduceEqDiff, reduceCtorEq, Nat.reduceAdd, Nat.reduceLeDiff, Nat.reduceSub, Nat.reduceMul, List.reduceReplicate, Int.reduceEq, Int.reduceLT, Int.reduceLE, Int.reduceAdd, Int.reduceSub, Int.reduceMul, Nat.reduceLT, Int.reduceToNat]
      exact hI.step (i := 38) (by decide) rfl (by rw [hvv]; rfl)
    · intro L s' hL hp hI
      obtain ⟨e10, e3, e4, e9, e18, k9h, e22, ea⟩ := hb L s' hI
      have p31 : s'.t 115 = .bool false := by have := hI.v 31 (by decide) (hp 31 (by simp)); rw [hvv] at this; exact this
      have p33 : s'.t 117 = .int .i64 0 := by have := hI.v 33 (by decide) (hp 33 (by simp)); rw [hvv] at this; exact this
      have p38 : s'.t 122 = .int .i64 0 := by have := hI.v 38 (by decide) (hp 38 (by simp)); rw [hvv] at this; exact this
      simp -implicitDefEqProofs (maxSteps := 2000000) only [p31, p33, p38, wk, act, asV, ↓reduceIte, Nat.reduceEqDiff, reduceCtorEq, Nat.reduceAdd, Nat.reduceLeDiff, Nat.reduceSub, Nat.reduceMul, List.reduceReplicate, Int.reduceEq, Int.reduceLT, Int.reduceLE, Int.reduceAdd, Int.reduceSub, Int.reduceMul, Nat.reduceLT, Int.reduceToNat]
      exact hI.step (i := 39) (by decide) rfl (by rw [hvv]; rfl)
    · intro L s' hL hp hI
      obtain ⟨e10, e3, e4, e9, e18, k9h, e22, ea⟩ := hb L s' hI
      have p31 : s'.t 115 = .bool false := by have := hI.v 31 (by decide) (hp 31 (by simp)); rw [hvv] at this; exact this
      have p39 : s'.t 123 = .bool false := by have := hI.v 39 (by decide) (hp 39 (by simp)); rw [hvv] at this; exact this
      simp -implicitDefEqProofs (maxSteps := 2000000) only [p31, p39, wk, act, asV, ↓reduceIte, Nat.reduceEqDiff, reduceCtorEq, Nat.reduceAdd, Nat.reduceLeDiff, Nat.reduceSub, Nat.reduceMul, List.reduceReplicate, Int.reduceEq, Int.reduceLT, Int.reduceLE, Int.reduceAdd, Int.reduceSub, Int.reduceMul, Nat.reduceLT, Int.reduceToNat]
      exact hI.step (i := 40) (by decide) rfl (by rw [hvv]; rfl)
  · intro s' hI
    have k124 : s'.t 124 = .bool false := by have := hI.v 40 (by decide) (by decide); rw [hvv] at this; exact this
    simp -implicitDefEqProofs (maxSteps := 2000000) only [m7_28, k124, wk, act, asV, ↓reduceIte, Nat.reduceEqDiff, reduceCtorEq, Nat.reduceAdd, Nat.reduceLeDiff, Nat.reduceSub, Nat.reduceMul, List.reduceReplicate, Int.reduceEq, Int.reduceLT, Int.reduceLE, Int.reduceAdd, Int.reduceSub, Int.reduceMul, Nat.reduceLT, Int.reduceToNat]
    exact hQ s' (fun k hk => hI.t k (.inl (by omega))) hI.h
theorem qp_F2 {s : St} {va vr v9 : Nat} {off ver : Nat} {cs : List IV} {Q : Ex → St → Prop} (k10 : s.t 10 = .bool false) (k3 : s.t 3 = .ptr 16 0 va) (k4 : s.t 4 = .ptr 18 0 vr) (k9 : s.t 9 = .ptr 9 0 v9) (k9h : s.h 9 = ⟨v9, true, true, false, itC it0⟩) (hH : s.h 18 = ⟨vr, true, true, false, [.row 5022 off 0 36 ver]⟩) (hx' : s.h 5022 = ⟨ver, true, true, true, cs⟩) (ka : ObjQ 16 va 1024 s.h [])
    (hQ : ∀ s' : St, (∀ k, k < 84 → s'.t k = s.t k) → s'.h = s.h → Q .normal s') : Wp (RCs Tryd.prog) m7_29 Q s := by
  have l0 : (itC it0).length = 36 := rfl
  have t0 : List.take 36 (itC it0) = itC it0 := rfl
  have q1 : eqL (itC it0) [IV.int .i64 0, IV.int .i64 0, IV.str [], IV.int .i64 0, IV.int .u8 0, IV.int .u8 0, IV.int .u8 0, IV.int .u8 0, IV.int .u8 0, IV.int .u8 0, IV.int .u8 0, IV.int .u8 0, IV.int .u8 0, IV.int .u8 0, IV.int .u8 0, IV.int .u8 0, IV.int .u8 0, IV.int .u8 0, IV.int .u8 0, IV.int .u8 0, IV.int .u8 0, IV.int .u8 0, IV.int .u8 0, IV.int .u8 0, IV.int .u8 0, IV.int .u8 0, IV.int .u8 0, IV.int .u8 0, IV.int .u8 0, IV.int .u8 0, IV.int .u8 0, IV.int .u8 0, IV.int .u8 0, IV.int .u8 0, IV.int .u8 0, IV.int .u8 0] = some true := itC_eq it0
  have q2 : fitR [(2, .i), (1, .s), (33, .i)] (itC it0) = true := itC_fit it0_ok
  simp -implicitDefEqProofs (maxSteps := 2000000) only [m7_29, wk, act, asV, ↓reduceIte, Nat.reduceEqDiff, reduceCtorEq, Nat.reduceAdd, Nat.reduceLeDiff, Nat.reduceSub, Nat.reduceMul, List.reduceReplicate, Int.reduceEq, Int.reduceLT, Int.reduceLE, Int.reduceAdd, Int.reduceSub, Int.reduceMul, Nat.reduceLT, Int.reduceToNat]
  obtain ⟨vv, hvv⟩ : ∃ vv : Nat → IV, vv = fun i => (IV.bool false :: IV.ptr 18 0 vr :: IV.ptr 18 0 vr :: IV.ptr 18 0 vr :: IV.row 5022 off 0 36 ver :: IV.int .i64 0 :: IV.bool false :: IV.bool false :: IV.bool false :: IV.bool false :: IV.bool false :: IV.tup [] :: IV.tup [] :: IV.tup [] :: IV.tup [] :: IV.tup [] :: IV.tup [] :: IV.tup [] :: IV.tup [] :: IV.tup [] :: IV.bool false :: IV.bool false :: IV.bool false :: IV.bool false :: IV.bool true :: IV.bool true :: IV.agg (itC it0) :: IV.agg [IV.int .i64 0, IV.int .i64 0, IV.str [], IV.int .i64 0, IV.int .u8 0, IV.int .u8 0, IV.int .u8 0, IV.int .u8 0, IV.int .u8 0, IV.int .u8 0, IV.int .u8 0, IV.int .u8 0, IV.int .u8 0, IV.int .u8 0, IV.int .u8 0, IV.int .u8 0, IV.int .u8 0, IV.int .u8 0, IV.int .u8 0, IV.int .u8 0, IV.int .u8 0, IV.int .u8 0, IV.int .u8 0, IV.int .u8 0, IV.int .u8 0, IV.int .u8 0, IV.int .u8 0, IV.int .u8 0, IV.int .u8 0, IV.int .u8 0, IV.int .u8 0, IV.int .u8 0, IV.int .u8 0, IV.int .u8 0, IV.int .u8 0, IV.int .u8 0] :: IV.bool false :: IV.bool false :: IV.bool false :: IV.bool false :: IV.ptr 16 0 va :: IV.int .i64 0 :: IV.ptr 18 0 vr :: IV.ptr 18 0 vr :: IV.ptr 18 0 vr :: IV.row 5022 off 0 36 ver :: IV.int .i64 0 :: IV.bool false :: IV.bool false :: [] : List IV).getD i .undef := ⟨_, rfl⟩
  refine Wp_drxI (PInv 84 41 vv s.t s.h) ⟨rfl, fun _ _ => rfl, fun i hi hl => absurd (hl : false = true) (by decide)⟩ ?_ ?_
  · have hb : ∀ L s', PInv 84 41 vv s.t s.h L s' → s'.t 10 = .bool false ∧ s'.t 3 = .ptr 16 0 va ∧ s'.t 4 = .ptr 18 0 vr ∧ s'.t 9 = .ptr 9 0 v9 ∧ s'.h 18 = ⟨vr, true, true, false, [.row 5022 off 0 36 ver]⟩ ∧ s'.h 9 = ⟨v9, true, true, false, itC it0⟩ ∧ s'.h 5022 = ⟨ver, true, true, true, cs⟩ ∧ ObjQ 16 va 1024 s'.h [] := fun L s' hI =>
      ⟨(hI.t 10 (by decide)).trans k10, (hI.t 3 (by decide)).trans k3, (hI.t 4 (by decide)).trans k4, (hI.t 9 (by decide)).trans k9, by rw [hI.h]; exact hH, by rw [hI.h]; exact k9h, by rw [hI.h]; exact hx', by rw [hI.h]; exact ka⟩
    refine stepsX_cons ?_ (stepsX_cons ?_ (stepsX_cons ?_ (stepsX_cons ?_ (stepsX_cons ?_ (stepsX_cons ?_ (stepsX_cons ?_ (stepsX_cons ?_ (stepsX_cons ?_ (stepsX_cons ?_ (stepsX_cons ?_ (stepsX_cons ?_ (stepsX_cons ?_ (stepsX_cons ?_ (stepsX_cons ?_ (stepsX_cons ?_ (stepsX_cons ?_ (stepsX_cons ?_ (stepsX_cons ?_ (stepsX_cons ?_ (stepsX_cons ?_ (stepsX_cons ?_ (stepsX_cons ?_ (stepsX_cons ?_ (stepsX_cons ?_ (stepsX_cons ?_ (stepsX_cons ?_ (stepsX_cons ?_ (stepsX_cons ?_ (stepsX_cons ?_ (stepsX_cons ?_ (stepsX_cons ?_ (stepsX_cons ?_ (stepsX_cons ?_ (stepsX_cons ?_ (stepsX_cons ?_ (stepsX_cons ?_ (stepsX_cons ?_ (stepsX_cons ?_ (stepsX_cons ?_ (stepsX_cons ?_ (stepsX_nil)))))))))))))))))))))))))))))))))))))))))
    · intro L s' hL hp hI
      obtain ⟨e10, e3, e4, e9, e18, k9h, e22, ea⟩ := hb L s' hI
      simp -implicitDefEqProofs (maxSteps := 2000000) only [e10, wk, act, asV, ↓reduceIte, Nat.reduceEqDiff, reduceCtorEq, Nat.reduceAdd, Nat.reduceLeDiff, Nat.reduceSub, Nat.reduceMul, List.reduceReplicate, Int.reduceEq, Int.reduceLT, Int.reduceLE, Int.reduceAdd, Int.reduceSub, Int.reduceMul, Nat.reduceLT, Int.reduceToNat]
      exact hI.step (i := 0) (by decide) rfl (by rw [hvv]; rfl)
    · intro L s' hL hp hI
      obtain ⟨e10, e3, e4, e9, e18, k9h, e22, ea⟩ := hb L s' hI
      simp -implicitDefEqProofs (maxSteps := 2000000) only [e4, wk, act, asV, ↓reduceIte, Nat.reduceEqDiff, reduceCtorEq, Nat.reduceAdd, Nat.reduceLeDiff, Nat.reduceSub, Nat.reduceMul, List.reduceReplicate, Int.reduceEq, Int.reduceLT, Int.reduceLE, Int.reduceAdd, Int.reduceSub, Int.reduceMul, Nat.reduceLT, Int.reduceToNat]
      exact hI.step (i := 1) (by decide) rfl (by rw [hvv]; rfl)
    · intro L s' hL hp hI
      obtain ⟨e10, e3, e4, e9, e18, k9h, e22, ea⟩ := hb L s' hI
      have p1 : s'.t 85 = .ptr 18 0 vr := by have := hI.v 1 (by decide) (hp 1 (by simp)); rw [hvv] at this; exact this
      simp -implicitDefEqProofs (maxSteps := 2000000) only [e18, p1, wk, act, asV, ↓reduceIte, Nat.reduceEqDiff, reduceCtorEq, Nat.reduceAdd, Nat.reduceLeDiff, Nat.reduceSub, Nat.reduceMul, List.reduceReplicate, Int.reduceEq, Int.reduceLT, Int.reduceLE, Int.reduceAdd, Int.reduceSub, Int.reduceMul, Nat.reduceLT, Int.reduceToNat]
      exact hI.step (i := 2) (by decide) rfl (by rw [hvv]; rfl)
    · intro L s' hL hp hI
      obtain ⟨e10, e3, e4, e9, e18, k9h, e22, ea⟩ := hb L s' hI
      have p2 : s'.t 86 = .ptr 18 0 vr := by have := hI.v 2 (by decide) (hp 2 (by simp)); rw [hvv] at this; exact this
      simp -implicitDefEqProofs (maxSteps := 2000000) only [e18, p2, wk, act, asV, ↓reduceIte, Nat.reduceEqDiff, reduceCtorEq, Nat.reduceAdd, Nat.reduceLeDiff, Nat.reduceSub, Nat.reduceMul, List.reduceReplicate, Int.reduceEq, Int.reduceLT, Int.reduceLE, Int.reduceAdd, Int.reduceSub, Int.reduceMul, Nat.reduceLT, Int.reduceToNat]
      exact hI.step (i := 3) (by decide) rfl (by rw [hvv]; rfl)
    · intro L s' hL hp hI
      obtain ⟨e10, e3, e4, e9, e18, k9h, e22, ea⟩ := hb L s' hI
      have p3 : s'.t 87 = .ptr 18 0 vr := by have := hI.v 3 (by decide) (hp 3 (by simp)); rw [hvv] at this; exact this
      simp -implicitDefEqProofs (maxSteps := 2000000) only [e18, p3, wk, act, asV, ↓reduceIte, Nat.reduceEqDiff, reduceCtorEq, Nat.reduceAdd, Nat.reduceLeDiff, Nat.reduceSub, Nat.reduceMul, List.reduceReplicate, Int.reduceEq, Int.reduceLT, Int.reduceLE, Int.reduceAdd, Int.reduceSub, Int.reduceMul, Nat.reduceLT, Int.reduceToNat]
      exact hI.step (i := 4) (by decide) rfl (by rw [hvv]; rfl)
    · intro L s' hL hp hI
      obtain ⟨e10, e3, e4, e9, e18, k9h, e22, ea⟩ := hb L s' hI
      have p4 : s'.t 88 = .row 5022 off 0 36 ver := by have := hI.v 4 (by decide) (hp 4 (by simp)); rw [hvv] at this; exact this
      simp -implicitDefEqProofs (maxSteps := 2000000) only [e22, p4, List.length_nil, Int.natCast_zero, wk, act, asV, ↓reduceIte, Nat.reduceEqDiff, reduceCtorEq, Nat.reduceAdd, Nat.reduceLeDiff, Nat.reduceSub, Nat.reduceMul, List.reduceReplicate, Int.reduceEq, Int.reduceLT, Int.reduceLE, Int.reduceAdd, Int.reduceSub, Int.reduceMul, Nat.reduceLT, Int.reduceToNat]
      exact hI.step (i := 5) (by decide) rfl (by rw [hvv]; rfl)
    · intro L s' hL hp hI
      obtain ⟨e10, e3, e4, e9, e18, k9h, e22, ea⟩ := hb L s' hI
      have p5 : s'.t 89 = .int .i64 0 := by have := hI.v 5 (by decide) (hp 5 (by simp)); rw [hvv] at this; exact this
      simp -implicitDefEqProofs (maxSteps := 2000000) only [p5, wk, act, asV, ↓reduceIte, Nat.reduceEqDiff, reduceCtorEq, Nat.reduceAdd, Nat.reduceLeDiff, Nat.reduceSub, Nat.reduceMul, List.reduceReplicate, Int.reduceEq, Int.reduceLT, Int.reduceLE, Int.reduceAdd, Int.reduceSub, Int.reduceMul, Nat.reduceLT, Int.reduceToNat]
      exact hI.step (i := 6) (by decide) rfl (by rw [hvv]; rfl)
    · intro L s' hL hp hI
      obtain ⟨e10, e3, e4, e9, e18, k9h, e22, ea⟩ := hb L s' hI
      have p0 : s'.t 84 = .bool false := by have := hI.v 0 (by decide) (hp 0 (by simp)); rw [hvv] at this; exact this
      have p6 : s'.t 90 = .bool false := by have := hI.v 6 (by decide) (hp 6 (by simp)); rw [hvv] at this; exact this
      simp -implicitDefEqProofs (maxSteps := 2000000) only [p0, p6, wk, act, asV, ↓reduceIte, Nat.reduceEqDiff, reduceCtorEq, Nat.reduceAdd, Nat.reduceLeDiff, Nat.reduceSub, Nat.reduceMul, List.reduceReplicate, Int.reduceEq, Int.reduceLT, Int.reduceLE, Int.reduceAdd, Int.reduceSub, Int.reduceMul, Nat.reduceLT, Int.reduceToNat]
      exact hI.step (i := 7) (by decide) rfl (by rw [hvv]; rfl)
    · intro L s' hL hp hI
      obtain ⟨e10, e3, e4, e9, e18, k9h, e22, ea⟩ := hb L s' hI
      have p7 : s'.t 91 = .bool false := by have := hI.v 7 (by decide) (hp 7 (by simp)); rw [hvv] at this; exact this
      simp -implicitDefEqProofs (maxSteps := 2000000) only [p7, wk, act, asV, ↓reduceIte, Nat.reduceEqDiff, reduceCtorEq, Nat.reduceAdd, Nat.reduceLeDiff, Nat.reduceSub, Nat.reduceMul, List.reduceReplicate, Int.reduceEq, Int.reduceLT, Int.reduceLE, Int.reduceAdd, Int.reduceSub, Int.reduceMul, Nat.reduceLT, Int.reduceToNat]
      exact hI.step (i := 8) (by decide) rfl (by rw [hvv]; rfl)
    · intro L s' hL hp hI
      obtain ⟨e10, e3, e4, e9, e18, k9h, e22, ea⟩ := hb L s' hI
      have p8 : s'.t 92 = .bool false := by have := hI.v 8 (by decide) (hp 8 (by simp)); rw [hvv] at this; exact this
      simp -implicitDefEqProofs (maxSteps := 2000000) only [e10, p8, wk, act, asV, ↓reduceIte, Nat.reduceEqDiff, reduceCtorEq, Nat.reduceAdd, Nat.reduceLeDiff, Nat.reduceSub, Nat.reduceMul, List.reduceReplicate, Int.reduceEq, Int.reduceLT, Int.reduceLE, Int.reduceAdd, Int.reduceSub, Int.reduceMul, Nat.reduceLT, Int.reduceToNat]
      exact hI.step (i := 9) (by decide) rfl (by rw [hvv]; rfl)
    · intro L s' hL hp hI
      obtain ⟨e10, e3, e4, e9, e18, k9h, e22, ea⟩ := hb L s' hI
      have p8 : s'.t 92 = .bool false := by have := hI.v 8 (by decide) (hp 8 (by simp)); rw [hvv] at this; exact this
      have p9 : s'.t 93 = .bool false := by have := hI.v 9 (by decide) (hp 9 (by simp)); rw [hvv] at this; exact this
      simp -implicitDefEqProofs (maxSteps := 2000000) only [p8, p9, wk, act, asV, ↓reduceIte, Nat.reduceEqDiff, reduceCtorEq, Nat.reduceAdd, Nat.reduceLeDiff, Nat.reduceSub, Nat.reduceMul, List.reduceReplicate, Int.reduceEq, Int.reduceLT, Int.reduceLE, Int.reduceAdd, Int.reduceSub, Int.reduceMul, Nat.reduceLT, Int.reduceToNat]
      exact hI.step (i := 10) (by decide) rfl (by rw [hvv]; rfl)
    · intro L s' hL hp hI
      obtain ⟨e10, e3, e4, e9, e18, k9h, e22, ea⟩ := hb L s' hI
      have p10 : s'.t 94 = .bool false := by have := hI.v 10 (by decide) (hp 10 (by simp)); rw [hvv] at this; exact this
      simp -implicitDefEqProofs (maxSteps := 2000000) only [p10, wk, act, asV, ↓reduceIte, Nat.reduceEqDiff, reduceCtorEq, Nat.reduceAdd, Nat.reduceLeDiff, Nat.reduceSub, Nat.reduceMul, List.reduceReplicate, Int.reduceEq, Int.reduceLT, Int.reduceLE, Int.reduceAdd, Int.reduceSub, Int.reduceMul, Nat.reduceLT, Int.reduceToNat]
      exact hI.step (i := 11) (by decide) rfl (by rw [hvv]; rfl)
    · intro L s' hL hp hI
      obtain ⟨e10, e3, e4, e9, e18, k9h, e22, ea⟩ := hb L s' hI
      have p10 : s'.t 94 = .bool false := by have := hI.v 10 (by decide) (hp 10 (by simp)); rw [hvv] at this; exact this
      simp -implicitDefEqProofs (maxSteps := 2000000) only [p10, wk, act, asV, ↓reduceIte, Nat.reduceEqDiff, reduceCtorEq, Nat.reduceAdd, Nat.reduceLeDiff, Nat.reduceSub, Nat.reduceMul, List.reduceReplicate, Int.reduceEq, Int.reduceLT, Int.reduceLE, Int.reduceAdd, Int.reduceSub, Int.reduceMul, Nat.reduceLT, Int.reduceToNat]
      exact hI.step (i := 12) (by decide) rfl (by rw [hvv]; rfl)
    · intro L s' hL hp hI
      obtain ⟨e10, e3, e4, e9, e18, k9h, e22, ea⟩ := hb L s' hI
      have p10 : s'.t 94 = .bool false := by have := hI.v 10 (by decide) (hp 10 (by simp)); rw [hvv] at this; exact this
      simp -implicitDefEqProofs (maxSteps := 2000000) only [p10, wk, act, asV, ↓reduceIte, Nat.reduceEqDiff, reduceCtorEq, Nat.reduceAdd, Nat.reduceLeDiff, Nat.reduceSub, Nat.reduceMul, List.reduceReplicate, Int.reduceEq, Int.reduceLT, Int.reduceLE, Int.reduceAdd, Int.reduceSub, Int.reduceMul, Nat.reduceLT, Int.reduceToNat]
      exact hI.step (i := 13) (by decide) rfl (by rw [hvv]; rfl)
    · intro L s' hL hp hI
      obtain ⟨e10, e3, e4, e9, e18, k9h, e22, ea⟩ := hb L s' hI
      have p10 : s'.t 94 = .bool false := by have := hI.v 10 (by decide) (hp 10 (by simp)); rw [hvv] at this; exact this
      simp -implicitDefEqProofs (maxSteps := 2000000) only [p10, wk, act, asV, ↓reduceIte, Nat.reduceEqDiff, reduceCtorEq, Nat.reduceAdd, Nat.reduceLeDiff, Nat.reduceSub, Nat.reduceMul, List.reduceReplicate, Int.reduceEq, Int.reduceLT, Int.reduceLE, Int.reduceAdd, Int.reduceSub, Int.reduceMul, Nat.reduceLT, Int.reduceToNat]
      exact hI.step (i := 14) (by decide) rfl (by rw [hvv]; rfl)
    · intro L s' hL hp hI
      obtain ⟨e10, e3, e4, e9, e18, k9h, e22, ea⟩ := hb L s' hI
      have p10 : s'.t 94 = .bool false := by have := hI.v 10 (by decide) (hp 10 (by simp)); rw [hvv] at this; exact this
      simp -implicitDefEqProofs (maxSteps := 2000000) only [p10, wk, act, asV, ↓reduceIte, Nat.reduceEqDiff, reduceCtorEq, Nat.reduceAdd, Nat.reduceLeDiff, Nat.reduceSub, Nat.reduceMul, List.reduceReplicate, Int.reduceEq, Int.reduceLT, Int.reduceLE, Int.reduceAdd, Int.reduceSub, Int.reduceMul, Nat.reduceLT, Int.reduceToNat]
      exact hI.step (i := 15) (by decide) rfl (by rw [hvv]; rfl)
    · intro L s' hL hp hI
      obtain ⟨e10, e3, e4, e9, e18, k9h, e22, ea⟩ := hb L s' hI
      have p10 : s'.t 94 = .bool false := by have := hI.v 10 (by decide) (hp 10 (by simp)); rw [hvv] at this; exact this
      simp -implicitDefEqProofs (maxSteps := 2000000) only [p10, wk, act, asV, ↓reduceIte, Nat.reduceEqDiff, reduceCtorEq, Nat.reduceAdd, Nat.reduceLeDiff, Nat.reduceSub, Nat.reduceMul, List.reduceReplicate, Int.reduceEq, Int.reduceLT, Int.reduceLE, Int.reduceAdd, Int.reduceSub, Int.reduceMul, Nat.reduceLT, Int.reduceToNat]
      exact hI.step (i := 16) (by decide) rfl (by rw [hvv]; rfl)
    · intro L s' hL hp hI
      obtain ⟨e10, e3, e4, e9, e18, k9h, e22, ea⟩ := hb L s' hI
      have p10 : s'.t 94 = .bool false := by have := hI.v 10 (by decide) (hp 10 (by simp)); rw [hvv] at this; exact this
      simp -implicitDefEqProofs (maxSteps := 2000000) only [p10, wk, act, asV, ↓reduceIte, Nat.reduceEqDiff, reduceCtorEq, Nat.reduceAdd, Nat.reduceLeDiff, Nat.reduceSub, Nat.reduceMul, List.reduceReplicate, Int.reduceEq, Int.reduceLT, Int.reduceLE, Int.reduceAdd, Int.reduceSub, Int.reduceMul, Nat.reduceLT, Int.reduceToNat]
      exact hI.step (i := 17) (by decide) rfl (by rw [hvv]; rfl)
    · intro L s' hL hp hI
      obtain ⟨e10, e3, e4, e9, e18, k9h, e22, ea⟩ := hb L s' hI
      have p10 : s'.t 94 = .bool false := by have := hI.v 10 (by decide) (hp 10 (by simp)); rw [hvv] at this; exact this
      simp -implicitDefEqProofs (maxSteps := 2000000) only [p10, wk, act, asV, ↓reduceIte, Nat.reduceEqDiff, reduceCtorEq, Nat.reduceAdd, Nat.reduceLeDiff, Nat.reduceSub, Nat.reduceMul, List.reduceReplicate, Int.reduceEq, Int.reduceLT, Int.reduceLE, Int.reduceAdd, Int.reduceSub, Int.reduceMul, Nat.reduceLT, Int.reduceToNat]
      exact hI.step (i := 18) (by decide) rfl (by rw [hvv]; rfl)
    · intro L s' hL hp hI
      obtain ⟨e10, e3, e4, e9, e18, k9h, e22, ea⟩ := hb L s' hI
      have p10 : s'.t 94 = .bool false := by have := hI.v 10 (by decide) (hp 10 (by simp)); rw [hvv] at this; exact this
      simp -implicitDefEqProofs (maxSteps := 2000000) only [p10, wk, act, asV, ↓reduceIte, Nat.reduceEqDiff, reduceCtorEq, Nat.reduceAdd, Nat.reduceLeDiff, Nat.reduceSub, Nat.reduceMul, List.reduceReplicate, Int.reduceEq, Int.reduceLT, Int.reduceLE, Int.reduceAdd, Int.reduceSub, Int.reduceMul, Nat.reduceLT, Int.reduceToNat]
      exact hI.step (i := 19) (by decide) rfl (by rw [hvv]; rfl)
    · intro L s' hL hp hI
      obtain ⟨e10, e3, e4, e9, e18, k9h, e22, ea⟩ := hb L s' hI
      have p8 : s'.t 92 = .bool false := by have := hI.v 8 (by decide) (hp 8 (by simp)); rw [hvv] at this; exact this
      have p10 : s'.t 94 = .bool false := by have := hI.v 10 (by decide) (hp 10 (by simp)); rw [hvv] at this; exact this
      have p19 : s'.t 103 = .tup [] := by have := hI.v 19 (by decide) (hp 19 (by simp)); rw [hvv] at this; exact this
      simp -implicitDefEqProofs (maxSteps := 2000000) only [p8, p10, p19, wk, act, asV, ↓reduceIte, Nat.reduceEqDiff, reduceCtorEq, Nat.reduceAdd, Nat.reduceLeDiff, Nat.reduceSub, Nat.reduceMul, List.reduceReplicate, Int.reduceEq, Int.reduceLT, Int.reduceLE, Int.reduceAdd, Int.reduceSub, Int.reduceMul, Nat.reduceLT, Int.reduceToNat]
      exact hI.step (i := 20) (by decide) rfl (by rw [hvv]; rfl)
    · intro L s' hL hp hI
      obtain ⟨e10, e3, e4, e9, e18, k9h, e22, ea⟩ := hb L s' hI
      have p8 : s'.t 92 = .bool false := by have := hI.v 8 (by decide) (hp 8 (by simp)); rw [hvv] at this; exact this
      have p20 : s'.t 104 = .bool false := by have := hI.v 20 (by decide) (hp 20 (by simp)); rw [hvv] at this; exact this
      simp -implicitDefEqProofs (maxSteps := 2000000) only [p8, p20, wk, act, asV, ↓reduceIte, Nat.reduceEqDiff, reduceCtorEq, Nat.reduceAdd, Nat.reduceLeDiff, Nat.reduceSub, Nat.reduceMul, List.reduceReplicate, Int.reduceEq, Int.reduceLT, Int.reduceLE, Int.reduceAdd, Int.reduceSub, Int.reduceMul, Nat.reduceLT, Int.reduceToNat]
      exact hI.step (i := 21) (by decide) rfl (by rw [hvv]; rfl)
    · intro L s' hL hp hI
      obtain ⟨e10, e3, e4, e9, e18, k9h, e22, ea⟩ := hb L s' hI
      have p21 : s'.t 105 = .bool false := by have := hI.v 21 (by decide) (hp 21 (by simp)); rw [hvv] at this; exact this
      simp -implicitDefEqProofs (maxSteps := 2000000) only [p21, wk, act, asV, ↓reduceIte, Nat.reduceEqDiff, reduceCtorEq, Nat.reduceAdd, Nat.reduceLeDiff, Nat.reduceSub, Nat.reduceMul, List.reduceReplicate, Int.reduceEq, Int.reduceLT, Int.reduceLE, Int.reduceAdd, Int.reduceSub, Int.reduceMul, Nat.reduceLT, Int.reduceToNat]
      exact hI.step (i := 22) (by decide) rfl (by rw [hvv]; rfl)
    · intro L s' hL hp hI
      obtain ⟨e10, e3, e4, e9, e18, k9h, e22, ea⟩ := hb L s' hI
      have p22 : s'.t 106 = .bool false := by have := hI.v 22 (by decide) (hp 22 (by simp)); rw [hvv] at this; exact this
      simp -implicitDefEqProofs (maxSteps := 2000000) only [e10, p22, wk, act, asV, ↓reduceIte, Nat.reduceEqDiff, reduceCtorEq, Nat.reduceAdd, Nat.reduceLeDiff, Nat.reduceSub, Nat.reduceMul, List.reduceReplicate, Int.reduceEq, Int.reduceLT, Int.reduceLE, Int.reduceAdd, Int.reduceSub, Int.reduceMul, Nat.reduceLT, Int.reduceToNat]
      exact hI.step (i := 23) (by decide) rfl (by rw [hvv]; rfl)
    · intro L s' hL hp hI
      obtain ⟨e10, e3, e4, e9, e18, k9h, e22, ea⟩ := hb L s' hI
      have p22 : s'.t 106 = .bool false := by have := hI.v 22 (by decide) (hp 22 (by simp)); rw [hvv] at this; exact this
      have p23 : s'.t 107 = .bool false := by have := hI.v 23 (by decide) (hp 23 (by simp)); rw [hvv] at this; exact this
      simp -implicitDefEqProofs (maxSteps := 2000000) only [p22, p23, wk, act, asV, ↓reduceIte, Nat.reduceEqDiff, reduceCtorEq, Nat.reduceAdd, Nat.reduceLeDiff, Nat.reduceSub, Nat.reduceMul, List.reduceReplicate, Int.reduceEq, Int.reduceLT, Int.reduceLE, Int.reduceAdd, Int.reduceSub, Int.reduceMul, Nat.reduceLT, Int.reduceToNat]
      exact hI.step (i := 24) (by decide) rfl (by rw [hvv]; rfl)
    · intro L s' hL hp hI
      obtain ⟨e10, e3, e4, e9, e18, k9h, e22, ea⟩ := hb L s' hI
      have p22 : s'.t 106 = .bool false := by have := hI.v 22 (by decide) (hp 22 (by simp)); rw [hvv] at this; exact this
      have p24 : s'.t 108 = .bool true := by have := hI.v 24 (by decide) (hp 24 (by simp)); rw [hvv] at this; exact this
      simp -implicitDefEqProofs (maxSteps := 2000000) only [p22, p24, wk, act, asV, ↓reduceIte, Nat.reduceEqDiff, reduceCtorEq, Nat.reduceAdd, Nat.reduceLeDiff, Nat.reduceSub, Nat.reduceMul, List.reduceReplicate, Int.reduceEq, Int.reduceLT, Int.reduceLE, Int.reduceAdd, Int.reduceSub, Int.reduceMul, Nat.reduceLT, Int.reduceToNat]
      exact hI.step (i := 25) (by decide) rfl (by rw [hvv]; rfl)
    · intro L s' hL hp hI
      obtain ⟨e10, e3, e4, e9, e18, k9h, e22, ea⟩ := hb L s' hI
      have p25 : s'.t 109 = .bool true := by have := hI.v 25 (by decide) (hp 25 (by simp)); rw [hvv] at this; exact this
      simp -implicitDefEqProofs (maxSteps := 2000000) only [e9, k9h, l0, t0, p25, wk, act, asV, ↓reduceIte, Nat.reduceEqDiff, reduceCtorEq, Nat.reduceAdd, Nat.reduceLeDiff, Nat.reduceSub, Nat.reduceMul, List.reduceReplicate, Int.reduceEq, Int.reduceLT, Int.reduceLE, Int.reduceAdd, Int.reduceSub, Int.reduceMul, Nat.reduceLT, Int.reduceToNat]
      exact hI.step (i := 26) (by decide) rfl (by rw [hvv]; rfl)
    · intro L s' hL hp hI
      obtain ⟨e10, e3, e4, e9, e18, k9h, e22, ea⟩ := hb L s' hI
      have p25 : s'.t 109 = .bool true := by have := hI.v 25 (by decide) (hp 25 (by simp)); rw [hvv] at this; exact this
      simp -implicitDefEqProofs (maxSteps := 2000000) only [p25, wk, act, asV, ↓reduceIte, Nat.reduceEqDiff, reduceCtorEq, Nat.reduceAdd, Nat.reduceLeDiff, Nat.reduceSub, Nat.reduceMul, List.reduceReplicate, Int.reduceEq, Int.reduceLT, Int.reduceLE, Int.reduceAdd, Int.reduceSub, Int.reduceMul, Nat.reduceLT, Int.reduceToNat]
      exact hI.step (i := 27) (by decide) rfl (by rw [hvv]; rfl)
    · intro L s' hL hp hI
      obtain ⟨e10, e3, e4, e9, e18, k9h, e22, ea⟩ := hb L s' hI
      have p25 : s'.t 109 = .bool true := by have := hI.v 25 (by decide) (hp 25 (by simp)); rw [hvv] at this; exact this
      have p26 : s'.t 110 = .agg (itC it0) := by have := hI.v 26 (by decide) (hp 26 (by simp)); rw [hvv] at this; exact this
      have p27 : s'.t 111 = .agg [IV.int .i64 0, IV.int .i64 0, IV.str [], IV.int .i64 0, IV.int .u8 0, IV.int .u8 0, IV.int .u8 0, IV.int .u8 0, IV.int .u8 0, IV.int .u8 0, IV.int .u8 0, IV.int .u8 0, IV.int .u8 0, IV.int .u8 0, IV.int .u8 0, IV.int .u8 0, IV.int .u8 0, IV.int .u8 0, IV.int .u8 0, IV.int .u8 0, IV.int .u8 0, IV.int .u8 0, IV.int .u8 0, IV.int .u8 0, IV.int .u8 0, IV.int .u8 0, IV.int .u8 0, IV.int .u8 0, IV.int .u8 0, IV.int .u8 0, IV.int .u8 0, IV.int .u8 0, IV.int .u8 0, IV.int .u8 0, IV.int .u8 0, IV.int .u8 0] := by have := hI.v 27 (by decide) (hp 27 (by simp)); rw [hvv] at this; exact this
      simp -implicitDefEqProofs (maxSteps := 2000000) only [q1, q2, p25, p26, p27, wk, act, asV, ↓reduceIte, Nat.reduceEqDiff, reduceCtorEq, Nat.reduceAdd, Nat.reduceLeDiff, Nat.reduceSub, Nat.reduceMul, List.reduceReplicate, Int.reduceEq, Int.reduceLT, Int.reduceLE, Int.reduceAdd, Int.reduceSub, Int.reduceMul, Nat.reduceLT, Int.reduceToNat]
      exact hI.step (i := 28) (by decide) rfl (by rw [hvv]; rfl)
    · intro L s' hL hp hI
      obtain ⟨e10, e3, e4, e9, e18, k9h, e22, ea⟩ := hb L s' hI
      have p22 : s'.t 106 = .bool false := by have := hI.v 22 (by decide) (hp 22 (by simp)); rw [hvv] at this; exact this
      have p25 : s'.t 109 = .bool true := by have := hI.v 25 (by decide) (hp 25 (by simp)); rw [hvv] at this; exact this
      have p28 : s'.t 112 = .bool false := by have := hI.v 28 (by decide) (hp 28 (by simp)); rw [hvv] at this; exact this
      simp -implicitDefEqProofs (maxSteps := 2000000) only [p22, p25, p28, wk, act, asV, ↓reduceIte, Nat.reduceEqDiff, reduceCtorEq, Nat.reduceAdd, Nat.reduceLeDiff, Nat.reduceSub, Nat.reduceMul, List.reduceReplicate, Int.reduceEq, Int.reduceLT, Int.reduceLE, Int.reduceAdd, Int.reduceSub, Int.reduceMul, Nat.reduceLT, Int.reduceToNat]
      exact hI.step (i := 29) (by decide) rfl (by rw [hvv]; rfl)
    · intro L s' hL hp hI
      obtain ⟨e10, e3, e4, e9, e18, k9h, e22, ea⟩ := hb L s' hI
      have p22 : s'.t 106 = .bool false := by have := hI.v 22 (by decide) (hp 22 (by simp)); rw [hvv] at this; exact this
      have p29 : s'.t 113 = .bool false := by have := hI.v 29 (by decide) (hp 29 (by simp)); rw [hvv] at this; exact this
      simp -implicitDefEqProofs (maxSteps := 2000000) only [p22, p29, wk, act, asV, ↓reduceIte, Nat.reduceEqDiff, reduceCtorEq, Nat.reduceAdd, Nat.reduceLeDiff, Nat.reduceSub, Nat.reduceMul, List.reduceReplicate, Int.reduceEq, Int.reduceLT, Int.reduceLE, Int.reduceAdd, Int.reduceSub, Int.reduceMul, Nat.reduceLT, Int.reduceToNat]
      exact hI.step (i := 30) (by decide) rfl (by rw [hvv]; rfl)
    · intro L s' hL hp hI
      obtain ⟨e10, e3, e4, e9, e18, k9h, e22, ea⟩ := hb L s' hI
      have p30 : s'.t 114 = .bool false := by have := hI.v 30 (by decide) (hp 30 (by simp)); rw [hvv] at this; exact this
      simp -implicitDefEqProofs (maxSteps := 2000000) only [p30, wk, act, asV, ↓reduceIte, Nat.reduceEqDiff, reduceCtorEq, Nat.reduceAdd, Nat.reduceLeDiff, Nat.reduceSub, Nat.reduceMul, List.reduceReplicate, Int.reduceEq, Int.reduceLT, Int.reduceLE, Int.reduceAdd, Int.reduceSub, Int.reduceMul, Nat.reduceLT, Int.reduceToNat]
      exact hI.step (i := 31) (by decide) rfl (by rw [hvv]; rfl)
    · intro L s' hL hp hI
      obtain ⟨e10, e3, e4, e9, e18, k9h, e22, ea⟩ := hb L s' hI
      have p31 : s'.t 115 = .bool false := by have := hI.v 31 (by decide) (hp 31 (by simp)); rw [hvv] at this; exact this
      simp -implicitDefEqProofs (maxSteps := 2000000) only [e3, p31, wk, act, asV, ↓reduceIte, Nat.reduceEqDiff, reduceCtorEq, Nat.reduceAdd, Nat.reduceLeDiff, Nat.reduceSub, Nat.reduceMul, List.reduceReplicate, Int.reduceEq, Int.reduceLT, Int.reduceLE, Int.reduceAdd, Int.reduceSub, Int.reduceMul, Nat.reduceLT, Int.reduceToNat]
      exact hI.step (i := 32) (by decide) rfl (by rw [hvv]; rfl)
    · intro L s' hL hp hI
      obtain ⟨e10, e3, e4, e9, e18, k9h, e22, ea⟩ := hb L s' hI
      have p31 : s'.t 115 = .bool false := by have := hI.v 31 (by decide) (hp 31 (by simp)); rw [hvv] at this; exact this
      have p32 : s'.t 116 = .ptr 16 0 va := by have := hI.v 32 (by decide) (hp 32 (by simp)); rw [hvv] at this; exact this
      simp -implicitDefEqProofs (maxSteps := 2000000) only [p31, p32, wk, act, asV, ↓reduceIte, Nat.reduceEqDiff, reduceCtorEq, Nat.reduceAdd, Nat.reduceLeDiff, Nat.reduceSub, Nat.reduceMul, List.reduceReplicate, Int.reduceEq, Int.reduceLT, Int.reduceLE, Int.reduceAdd, Int.reduceSub, Int.reduceMul, Nat.reduceLT, Int.reduceToNat]
      refine CallnL.of (by simp -implicitDefEqProofs (maxSteps := 2000000) only [p31, p32, wk, act, asV, ↓reduceIte, Nat.reduceEqDiff, reduceCtorEq, Nat.reduceAdd, Nat.reduceLeDiff, Nat.reduceSub, Nat.reduceMul, List.reduceReplicate, Int.reduceEq, Int.reduceLT, Int.reduceLE, Int.reduceAdd, Int.reduceSub, Int.reduceMul, Nat.reduceLT, Int.reduceToNat]; first | done | rfl) (qlen_ok ea) ?_
      rintro _ _ ⟨rfl, rfl⟩
      simp -implicitDefEqProofs (maxSteps := 2000000) only [List.length_cons, List.length_nil, Int.natCast_zero, wk, act, asV, ↓reduceIte, Nat.reduceEqDiff, reduceCtorEq, Nat.reduceAdd, Nat.reduceLeDiff, Nat.reduceSub, Nat.reduceMul, List.reduceReplicate, Int.reduceEq, Int.reduceLT, Int.reduceLE, Int.reduceAdd, Int.reduceSub, Int.reduceMul, Nat.reduceLT, Int.reduceToNat]
      exact hI.step (i := 33) (by decide) rfl (by rw [hvv]; rfl)
    · intro L s' hL hp hI
      obtain ⟨e10, e3, e4, e9, e18, k9h, e22, ea⟩ := hb L s' hI
      have p31 : s'.t 115 = .bool false := by have := hI.v 31 (by decide) (hp 31 (by simp)); rw [hvv] at this; exact this
      simp -implicitDefEqProofs (maxSteps := 2000000) only [e4, p31, wk, act, asV, ↓reduceIte, Nat.reduceEqDiff, reduceCtorEq, Nat.reduceAdd, Nat.reduceLeDiff, Nat.reduceSub, Nat.reduceMul, List.reduceReplicate, Int.reduceEq, Int.reduceLT, Int.reduceLE, Int.reduceAdd, Int.reduceSub, Int.reduceMul, Nat.reduceLT, Int.reduceToNat]
      exact hI.step (i := 34) (by decide) rfl (by rw [hvv]; rfl)
    · intro L s' hL hp hI
      obtain ⟨e10, e3, e4, e9, e18, k9h, e22, ea⟩ := hb L s' hI
      have p31 : s'.t 115 = .bool false := by have := hI.v 31 (by decide) (hp 31 (by simp)); rw [hvv] at this; exact this
      have p34 : s'.t 118 = .ptr 18 0 vr := by have := hI.v 34 (by decide) (hp 34 (by simp)); rw [hvv] at this; exact this
      simp -implicitDefEqProofs (maxSteps := 2000000) only [e18, p31, p34, wk, act, asV, ↓reduceIte, Nat.reduceEqDiff, reduceCtorEq, Nat.reduceAdd, Nat.reduceLeDiff, Nat.reduceSub, Nat.reduceMul, List.reduceReplicate, Int.reduceEq, Int.reduceLT, Int.reduceLE, Int.reduceAdd, Int.reduceSub, Int.reduceMul, Nat.reduceLT, Int.reduceToNat]
      exact hI.step (i := 35) (by decide) rfl (by rw [hvv]; rfl)
    · intro L s' hL hp hI
      obtain ⟨e10, e3, e4, e9, e18, k9h, e22, ea⟩ := hb L s' hI
      have p31 : s'.t 115 = .bool false := by have := hI.v 31 (by decide) (hp 31 (by simp)); rw [hvv] at this; exact this
      have p35 : s'.t 119 = .ptr 18 0 vr := by have := hI.v 35 (by decide) (hp 35 (by simp)); rw [hvv] at this; exact this
      simp -implicitDefEqProofs (maxSteps := 2000000) only [e18, p31, p35, wk, act, asV, ↓reduceIte, Nat.reduceEqDiff, reduceCtorEq, Nat.reduceAdd, Nat.reduceLeDiff, Nat.reduceSub, Nat.reduceMul, List.reduceReplicate, Int.reduceEq, Int.reduceLT, Int.reduceLE, Int.reduceAdd, Int.reduceSub, Int.reduceMul, Nat.reduceLT, Int.reduceToNat]
      exact hI.step (i := 36) (by decide) rfl (by rw [hvv]; rfl)
    · intro L s' hL hp hI
      obtain ⟨e10, e3, e4, e9, e18, k9h, e22, ea⟩ := hb L s' hI
      have p31 : s'.t 115 = .bool false := by have := hI.v 31 (by decide) (hp 31 (by simp)); rw [hvv] at this; exact this
      have p36 : s'.t 120 = .ptr 18 0 vr := by have := hI.v 36 (by decide) (hp 36 (by simp)); rw [hvv] at this; exact this
      simp -implicitDefEqProofs (maxSteps := 2000000) only [e18, p31, p36, wk, act, asV, ↓reduceIte, Nat.reduceEqDiff, reduceCtorEq, Nat.reduceAdd, Nat.reduceLeDiff, Nat.reduceSub, Nat.reduceMul, List.reduceReplicate, Int.reduceEq, Int.reduceLT, Int.reduceLE, Int.reduceAdd, Int.reduceSub, Int.reduceMul, Nat.reduceLT, Int.reduceToNat]
      exact hI.step (i := 37) (by decide) rfl (by rw [hvv]; rfl)
    · intro L s' hL hp hI
      obtain ⟨e10, e3, e4, e9, e18, k9h, e22, ea⟩ := hb L s' hI
      have p31 : s'.t 115 = .bool false := by have := hI.v 31 (by decide) (hp 31 (by simp)); rw [hvv] at this; exact this
      have p37 : s'.t 121 = .row 5022 off 0 36 ver := by have := hI.v 37 (by decide) (hp 37 (by simp)); rw [hvv] at this; exact this
      simp -implicitDefEqProofs (maxSteps := 2000000) only [e22, p31, p37, List.length_nil, Int.natCast_zero, wk, act, asV, ↓reduceIte, Nat.reduceEqDiff, reduceCtorEq, Nat.reduceAdd, Nat.reduceLeDiff, Nat.reduceSub, Nat.reduceMul, List.reduceReplicate, Int.reduceEq, Int.reduceLT, Int.reduceLE, Int.reduceAdd, Int.reduceSub, Int.reduceMul, Nat.reduceLT, Int.reduceToNat]
      exact hI.step (i := 38) (by decide) rfl (by rw [hvv]; rfl)
    · intro L s' hL hp hI
      obtain ⟨e10, e3, e4, e9, e18, k9h, e22, ea⟩ := hb L s' hI
      have p31 : s'.t 115 = .bool false := by have := hI.v 31 (by decide) (hp 31 (by simp)); rw [hvv] at this; exact this
      have p33 : s'.t 117 = .int .i64 0 := by have := hI.v 33 (by decide) (hp 33 (by simp)); rw [hvv] at this; exact this
      have p38 : s'.t 122 = .int .i64 0 := by have := hI.v 38 (by decide) (hp 38 (by simp)); rw [hvv] at this; exact this
      simp -implicitDefEqProofs (maxSteps := 2000000) only [p31, p33, p38, wk, act, asV, ↓reduceIte, Nat.reduceEqDiff, reduceCtorEq, Nat.reduceAdd, Nat.reduceLeDiff, Nat.reduceSub, Nat.reduceMul, List.reduceReplicate, Int.reduceEq, Int.reduceLT, Int.reduceLE, Int.reduceAdd, Int.reduceSub, Int.reduceMul, Nat.reduceLT, Int.reduceToNat]
      exact hI.step (i := 39) (by decide) rfl (by rw [hvv]; rfl)
    · intro L s' hL hp hI
      obtain ⟨e10, e3, e4, e9, e18, k9h, e22, ea⟩ := hb L s' hI
      have p31 : s'.t 115 = .bool false := by have := hI.v 31 (by decide) (hp 31 (by simp)); rw [hvv] at this; exact this
      have p39 : s'.t 123 = .bool false := by have := hI.v 39 (by decide) (hp 39 (by simp)); rw [hvv] at this; exact this
      simp -implicitDefEqProofs (maxSteps := 2000000) only [p31, p39, wk, act, asV, ↓reduceIte, Nat.reduceEqDiff, reduceCtorEq, Nat.reduceAdd, Nat.reduceLeDiff, Nat.reduceSub, Nat.reduceMul, List.reduceReplicate, Int.reduceEq, Int.reduceLT, Int.reduceLE, Int.reduceAdd, Int.reduceSub, Int.reduceMul, Nat.reduceLT, Int.reduceToNat]
      exact hI.step (i := 40) (by decide) rfl (by rw [hvv]; rfl)
  · intro s' hI
    have k124 : s'.t 124 = .bool false := by have := hI.v 40 (by decide) (by decide); rw [hvv] at this; exact this
    simp -implicitDefEqProofs (maxSteps := 2000000) only [m7_28, k124, wk, act, asV, ↓reduceIte, Nat.reduceEqDiff, reduceCtorEq, Nat.reduceAdd, Nat.reduceLeDiff, Nat.reduceSub, Nat.reduceMul, List.reduceReplicate, Int.reduceEq, Int.reduceLT, Int.reduceLE, Int.reduceAdd, Int.reduceSub, Int.reduceMul, Nat.reduceLT, Int.reduceToNat]
    exact hQ s' (fun k hk => hI.t k (.inl (by omega))) hI.h
end Go.Proofs.YtilbipknodpmmaaDoor
