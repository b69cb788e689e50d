/- Of the replies: the document's bytes; replies joined. -/
import Derived.Test.YtfohfnhimgmnlaaC2
set_option linter.unusedVariables false
set_option linter.unusedSimpArgs false
set_option maxRecDepth 100000
set_option maxHeartbeats 4000000
namespace Go.Proofs.Ytfohfnhimgmnlaa
open Go.RowKit

theorem putle4 (n : Nat) : putle n 4 = [u8 n, u8 (n >>> 8), u8 (n >>> 16), u8 (n >>> 24)] := by
  simp [putle, List.range_succ]

theorem enc39 (r : Rp) (hf : ¬ r.f = .lit) : RC Try.prog 39 [.agg (rc r)] [.own (encB r).length 1 (bl (encB r)), .int .i64 (encE r)] := by
  obtain ⟨id, e, f, d⟩ := r
  refine RC.of_wpW c39 rfl ?_
  have bad : ∀ s : St, id < 0 ∨ (2147483647 : Int) < id ∨ e < 0 ∨ (255 : Int) < e ∨ (255 : Int) < d.length → s.ress [MRes.tmp 2, MRes.tmp 3] = some [.sl .full 0 [], .int .i64 11] → PostW [MRes.tmp 2, MRes.tmp 3] [.own (encB ⟨id, e, f, d⟩).length 1 (bl (encB ⟨id, e, f, d⟩)), .int .i64 (encE ⟨id, e, f, d⟩)] .ret s := by
    intro s hb hs
    have hb' := bad_of (f := f) hb
    have e1 : encB ⟨id, e, f, d⟩ = [] := if_neg hb'
    have e2 : encE ⟨id, e, f, d⟩ = 11 := if_neg hb'
    rw [e1, e2]
    exact PostW.mk (r' := [.sl .full 0 [], .int .i64 11]) hs (.cons (.inr ⟨rfl, 1, rfl⟩) (.cons (.inl rfl) .nil)) (by decide) (by decide)
  by_cases h1 : id < 0
  · simp -implicitDefEqProofs (maxSteps := 2000000) only [m39_1, m39_2, m39_3, m39_4, m39_5, m39_6, m39_r, m39_b, m39, rc, h1, wk, act, ↓reduceIte, Nat.reduceEqDiff, reduceCtorEq, Nat.reduceAdd, Nat.reduceLeDiff, Nat.reduceSub, Nat.reduceMul, List.reduceReplicate, Int.reduceEq, Int.reduceLT, Int.reduceLE, Int.reduceAdd, Int.reduceSub, Int.reduceMul, Nat.reduceLT, Int.reduceToNat]
    exact bad _ (.inl h1) (by simp -implicitDefEqProofs (maxSteps := 2000000) only [wk, act, ↓reduceIte, Nat.reduceEqDiff, reduceCtorEq, Nat.reduceAdd, Nat.reduceLeDiff, Nat.reduceSub, Nat.reduceMul, List.reduceReplicate, Int.reduceEq, Int.reduceLT, Int.reduceLE, Int.reduceAdd, Int.reduceSub, Int.reduceMul, Nat.reduceLT, Int.reduceToNat])
  by_cases h2 : (2147483647 : Int) < id
  · have h2' : (2147483648 : Int) ≤ id := by omega
    simp -implicitDefEqProofs (maxSteps := 2000000) only [m39_1, m39_2, m39_3, m39_4, m39_5, m39_6, m39_r, m39_b, m39, rc, h1, h2', wk, act, ↓reduceIte, Nat.reduceEqDiff, reduceCtorEq, Nat.reduceAdd, Nat.reduceLeDiff, Nat.reduceSub, Nat.reduceMul, List.reduceReplicate, Int.reduceEq, Int.reduceLT, Int.reduceLE, Int.reduceAdd, Int.reduceSub, Int.reduceMul, Nat.reduceLT, Int.reduceToNat]
    exact bad _ (.inr (.inl h2)) (by simp -implicitDefEqProofs (maxSteps := 2000000) only [wk, act, ↓reduceIte, Nat.reduceEqDiff, reduceCtorEq, Nat.reduceAdd, Nat.reduceLeDiff, Nat.reduceSub, Nat.reduceMul, List.reduceReplicate, Int.reduceEq, Int.reduceLT, Int.reduceLE, Int.reduceAdd, Int.reduceSub, Int.reduceMul, Nat.reduceLT, Int.reduceToNat])
  have h2' : ¬ (2147483648 : Int) ≤ id := by omega
  by_cases h3 : e < 0
  · simp -implicitDefEqProofs (maxSteps := 2000000) only [m39_1, m39_2, m39_3, m39_4, m39_5, m39_6, m39_r, m39_b, m39, rc, h1, h2', h3, wk, act, ↓reduceIte, Nat.reduceEqDiff, reduceCtorEq, Nat.reduceAdd, Nat.reduceLeDiff, Nat.reduceSub, Nat.reduceMul, List.reduceReplicate, Int.reduceEq, Int.reduceLT, Int.reduceLE, Int.reduceAdd, Int.reduceSub, Int.reduceMul, Nat.reduceLT, Int.reduceToNat]
    exact bad _ (.inr (.inr (.inl h3))) (by simp -implicitDefEqProofs (maxSteps := 2000000) only [wk, act, ↓reduceIte, Nat.reduceEqDiff, reduceCtorEq, Nat.reduceAdd, Nat.reduceLeDiff, Nat.reduceSub, Nat.reduceMul, List.reduceReplicate, Int.reduceEq, Int.reduceLT, Int.reduceLE, Int.reduceAdd, Int.reduceSub, Int.reduceMul, Nat.reduceLT, Int.reduceToNat])
  by_cases h4 : (255 : Int) < e
  · simp -implicitDefEqProofs (maxSteps := 2000000) only [m39_1, m39_2, m39_3, m39_4, m39_5, m39_6, m39_r, m39_b, m39, rc, h1, h2', h3, h4, wk, act, ↓reduceIte, Nat.reduceEqDiff, reduceCtorEq, Nat.reduceAdd, Nat.reduceLeDiff, Nat.reduceSub, Nat.reduceMul, List.reduceReplicate, Int.reduceEq, Int.reduceLT, Int.reduceLE, Int.reduceAdd, Int.reduceSub, Int.reduceMul, Nat.reduceLT, Int.reduceToNat]
    exact bad _ (.inr (.inr (.inr (.inl h4)))) (by simp -implicitDefEqProofs (maxSteps := 2000000) only [wk, act, ↓reduceIte, Nat.reduceEqDiff, reduceCtorEq, Nat.reduceAdd, Nat.reduceLeDiff, Nat.reduceSub, Nat.reduceMul, List.reduceReplicate, Int.reduceEq, Int.reduceLT, Int.reduceLE, Int.reduceAdd, Int.reduceSub, Int.reduceMul, Nat.reduceLT, Int.reduceToNat])
  by_cases h5 : (255 : Int) < d.length
  · simp -implicitDefEqProofs (maxSteps := 2000000) only [m39_1, m39_2, m39_3, m39_4, m39_5, m39_6, m39_r, m39_b, m39, rc, h1, h2', h3, h4, h5, wk, act, ↓reduceIte, Nat.reduceEqDiff, reduceCtorEq, Nat.reduceAdd, Nat.reduceLeDiff, Nat.reduceSub, Nat.reduceMul, List.reduceReplicate, Int.reduceEq, Int.reduceLT, Int.reduceLE, Int.reduceAdd, Int.reduceSub, Int.reduceMul, Nat.reduceLT, Int.reduceToNat]
    exact bad _ (.inr (.inr (.inr (.inr h5)))) (by simp -implicitDefEqProofs (maxSteps := 2000000) only [wk, act, ↓reduceIte, Nat.reduceEqDiff, reduceCtorEq, Nat.reduceAdd, Nat.reduceLeDiff, Nat.reduceSub, Nat.reduceMul, List.reduceReplicate, Int.reduceEq, Int.reduceLT, Int.reduceLE, Int.reduceAdd, Int.reduceSub, Int.reduceMul, Nat.reduceLT, Int.reduceToNat])
  have hg := good_of (f := f) h1 h2 h3 h4 h5
  have e1 : encB ⟨id, e, f, d⟩ = renc ⟨id, e, f, d⟩ := if_pos hg
  have e2 : encE ⟨id, e, f, d⟩ = 0 := if_pos hg
  rw [e1, e2]
  obtain ⟨n, rfl⟩ : ∃ n : Nat, id = n := ⟨id.toNat, by omega⟩
  obtain ⟨m, rfl⟩ : ∃ n : Nat, e = n := ⟨e.toNat, by omega⟩
  have hn : n < 2 ^ 31 := by omega
  obtain ⟨body, hbody⟩ : ∃ body, body = rbody n m d := ⟨_, rfl⟩
  have hre : renc ⟨n, m, f, d⟩ = sealed body := by rw [hbody]; rfl
  rw [hre, sealed_length]
  have hbl : body.length = 6 + d.length := by rw [hbody, rbody_length]; omega
  have hd : d.length ≤ 255 := by omega
  have w32 : IntKind.u32.wrap ((n : Nat) : Int) = n := wrapN .u32 (by simp [vbits, IntKind.signed, IntKind.bits]; omega)
  have hput := put_ok (n := n) (k := 4) (by omega) (by decide) (by decide)
  rw [putle4] at hput
  have hse := sealed_ok .plain (by decide) body (by omega)
  have hbb : bl body = bl [u8 n, u8 (n >>> 8), u8 (n >>> 16), u8 (n >>> 24)] ++ [.int .u8 ((u8 m).toNat : Int), .int .u8 ((u8 d.length).toNat : Int)] ++ bl d := by rw [hbody]; simp [rbody, bl]
  have r2 : roomy (6 + d.length) 1 = true := roomyB (by omega)
  have r1 : roomy 6 1 = true := by decide
  have htk : (bl body).take (6 + d.length) = bl body := by rw [← hbl]; exact take_bl body
  have hse' : RC Try.prog 55 [.sl .plain (6 + d.length) (bl body)] [.own (body.length + 2) 1 (bl (sealed body))] := by rw [← hbl]; exact hse
  have htk2 : (bl (sealed body)).take (6 + d.length + 2) = bl (sealed body) := by rw [← hbl, ← sealed_length]; exact take_bl _
  have hL : (bl [u8 n, u8 (n >>> 8), u8 (n >>> 16), u8 (n >>> 24)]).length = 4 := rfl
  cases f with
  | lit => exact absurd rfl hf
  | _ =>
    repeat' (first | simp -implicitDefEqProofs (maxSteps := 2000000) only [m39_1, m39_2, m39_3, m39_4, m39_5, m39_6, m39_r, m39_b, m39, rc, h1, h2', h3, h4, h5, w32, wrap_u8, r1, r2, hL, List.length_append, bl_length, ← hbb, htk, bl_scal, hbl, wk, act, ↓reduceIte, Nat.reduceEqDiff, reduceCtorEq, Nat.reduceAdd, Nat.reduceLeDiff, Nat.reduceSub, Nat.reduceMul, List.reduceReplicate, Int.reduceEq, Int.reduceLT, Int.reduceLE, Int.reduceAdd, Int.reduceSub, Int.reduceMul, Nat.reduceLT, Int.reduceToNat] | ((with_reducible refine CallL.gate ?_); refine CallL.of (by simp -implicitDefEqProofs (maxSteps := 2000000) only [m39_1, m39_2, m39_3, m39_4, m39_5, m39_6, m39_r, m39_b, m39, rc, h1, h2', h3, h4, h5, w32, wrap_u8, r1, r2, hL, List.length_append, bl_length, ← hbb, htk, bl_scal, hbl, wk, act, ↓reduceIte, Nat.reduceEqDiff, reduceCtorEq, Nat.reduceAdd, Nat.reduceLeDiff, Nat.reduceSub, Nat.reduceMul, List.reduceReplicate, Int.reduceEq, Int.reduceLT, Int.reduceLE, Int.reduceAdd, Int.reduceSub, Int.reduceMul, Nat.reduceLT, Int.reduceToNat]; first | done | (with_reducible rfl)) (by first | exact hput | exact hse') (by simp -implicitDefEqProofs (maxSteps := 2000000) only [m39_1, m39_2, m39_3, m39_4, m39_5, m39_6, m39_r, m39_b, m39, rc, h1, h2', h3, h4, h5, w32, wrap_u8, r1, r2, hL, List.length_append, bl_length, ← hbb, htk, bl_scal, hbl, wk, act, ↓reduceIte, Nat.reduceEqDiff, reduceCtorEq, Nat.reduceAdd, Nat.reduceLeDiff, Nat.reduceSub, Nat.reduceMul, List.reduceReplicate, Int.reduceEq, Int.reduceLT, Int.reduceLE, Int.reduceAdd, Int.reduceSub, Int.reduceMul, Nat.reduceLT, Int.reduceToNat]) ?_) | ((with_reducible refine CallpL.gate ?_); refine CallpL.of (by simp -implicitDefEqProofs (maxSteps := 2000000) only [m39_1, m39_2, m39_3, m39_4, m39_5, m39_6, m39_r, m39_b, m39, rc, h1, h2', h3, h4, h5, w32, wrap_u8, r1, r2, hL, List.length_append, bl_length, ← hbb, htk, bl_scal, hbl, wk, act, ↓reduceIte, Nat.reduceEqDiff, reduceCtorEq, Nat.reduceAdd, Nat.reduceLeDiff, Nat.reduceSub, Nat.reduceMul, List.reduceReplicate, Int.reduceEq, Int.reduceLT, Int.reduceLE, Int.reduceAdd, Int.reduceSub, Int.reduceMul, Nat.reduceLT, Int.reduceToNat]; first | done | (with_reducible rfl)) (by first | exact hput | exact hse') (by simp -implicitDefEqProofs (maxSteps := 2000000) only [m39_1, m39_2, m39_3, m39_4, m39_5, m39_6, m39_r, m39_b, m39, rc, h1, h2', h3, h4, h5, w32, wrap_u8, r1, r2, hL, List.length_append, bl_length, ← hbb, htk, bl_scal, hbl, wk, act, ↓reduceIte, Nat.reduceEqDiff, reduceCtorEq, Nat.reduceAdd, Nat.reduceLeDiff, Nat.reduceSub, Nat.reduceMul, List.reduceReplicate, Int.reduceEq, Int.reduceLT, Int.reduceLE, Int.reduceAdd, Int.reduceSub, Int.reduceMul, Nat.reduceLT, Int.reduceToNat]) ?_) | ((with_reducible refine CallP.gate ?_); refine CallP.of (by simp -implicitDefEqProofs (maxSteps := 2000000) only [m39_1, m39_2, m39_3, m39_4, m39_5, m39_6, m39_r, m39_b, m39, rc, h1, h2', h3, h4, h5, w32, wrap_u8, r1, r2, hL, List.length_append, bl_length, ← hbb, htk, bl_scal, hbl, wk, act, ↓reduceIte, Nat.reduceEqDiff, reduceCtorEq, Nat.reduceAdd, Nat.reduceLeDiff, Nat.reduceSub, Nat.reduceMul, List.reduceReplicate, Int.reduceEq, Int.reduceLT, Int.reduceLE, Int.reduceAdd, Int.reduceSub, Int.reduceMul, Nat.reduceLT, Int.reduceToNat]; first | done | (with_reducible rfl)) (by first | exact hput | exact hse') (by simp -implicitDefEqProofs (maxSteps := 2000000) only [m39_1, m39_2, m39_3, m39_4, m39_5, m39_6, m39_r, m39_b, m39, rc, h1, h2', h3, h4, h5, w32, wrap_u8, r1, r2, hL, List.length_append, bl_length, ← hbb, htk, bl_scal, hbl, wk, act, ↓reduceIte, Nat.reduceEqDiff, reduceCtorEq, Nat.reduceAdd, Nat.reduceLeDiff, Nat.reduceSub, Nat.reduceMul, List.reduceReplicate, Int.reduceEq, Int.reduceLT, Int.reduceLE, Int.reduceAdd, Int.reduceSub, Int.reduceMul, Nat.reduceLT, Int.reduceToNat]) ?_) | ((with_reducible refine CallpP.gate ?_); refine CallpP.of (by simp -implicitDefEqProofs (maxSteps := 2000000) only [m39_1, m39_2, m39_3, m39_4, m39_5, m39_6, m39_r, m39_b, m39, rc, h1, h2', h3, h4, h5, w32, wrap_u8, r1, r2, hL, List.length_append, bl_length, ← hbb, htk, bl_scal, hbl, wk, act, ↓reduceIte, Nat.reduceEqDiff, reduceCtorEq, Nat.reduceAdd, Nat.reduceLeDiff, Nat.reduceSub, Nat.reduceMul, List.reduceReplicate, Int.reduceEq, Int.reduceLT, Int.reduceLE, Int.reduceAdd, Int.reduceSub, Int.reduceMul, Nat.reduceLT, Int.reduceToNat]; first | done | (with_reducible rfl)) (by first | exact hput | exact hse') (by simp -implicitDefEqProofs (maxSteps := 2000000) only [m39_1, m39_2, m39_3, m39_4, m39_5, m39_6, m39_r, m39_b, m39, rc, h1, h2', h3, h4, h5, w32, wrap_u8, r1, r2, hL, List.length_append, bl_length, ← hbb, htk, bl_scal, hbl, wk, act, ↓reduceIte, Nat.reduceEqDiff, reduceCtorEq, Nat.reduceAdd, Nat.reduceLeDiff, Nat.reduceSub, Nat.reduceMul, List.reduceReplicate, Int.reduceEq, Int.reduceLT, Int.reduceLE, Int.reduceAdd, Int.reduceSub, Int.reduceMul, Nat.reduceLT, Int.reduceToNat]) ?_))
    exact PostW.mk (r' := [.own (6 + d.length + 2) 1 (bl (sealed body)), .int .i64 0]) (by simp -implicitDefEqProofs (maxSteps := 2000000) only [htk2, wk, act, ↓reduceIte, Nat.reduceEqDiff, reduceCtorEq, Nat.reduceAdd, Nat.reduceLeDiff, Nat.reduceSub, Nat.reduceMul, List.reduceReplicate, Int.reduceEq, Int.reduceLT, Int.reduceLE, Int.reduceAdd, Int.reduceSub, Int.reduceMul, Nat.reduceLT, Int.reduceToNat]) (.cons (.inl rfl) (.cons (.inl rfl) .nil)) (Nat.le_refl 1) (Nat.le_refl 1)

end Go.Proofs.Ytfohfnhimgmnlaa
