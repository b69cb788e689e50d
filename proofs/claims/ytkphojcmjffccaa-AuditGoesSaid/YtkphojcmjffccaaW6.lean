/- Of the audit: the statements' own example wakes. -/
import Derived.Test.YtkphojcmjffccaaW5
import Derived.Test.YtkphojcmjffccaaE31
import Derived.Test.YtkphojcmjffccaaM16
set_option linter.unusedVariables false
set_option linter.unusedSimpArgs false
set_option linter.unusedSectionVars false
set_option maxRecDepth 100000
set_option maxHeartbeats 8000000
namespace Go.Proofs.Ytkphojcmjffccaa
open Go.RowKit

theorem ObjE_fr {h hv x : Nat} {H H' : Nat → Blk} {xs : List En} (ho : ObjE h hv x H xs) (h1 : H' h = H h) (h2 : H' x = H x) : ObjE h hv x H' xs := by
  obtain ⟨v, k1, k2⟩ := ho
  refine ⟨v, h1.trans k1, ?_⟩
  rcases k2 with ⟨a, b⟩ | ⟨a, ver, b, c⟩
  · exact .inl ⟨a, b⟩
  · exact .inr ⟨a, ver, b, h2.trans c⟩
def e1 : En := newE [] [97] ⟨1, 0, .full, []⟩
def e2 : En := newE [e1] [98] ⟨2, 16, .full, [120]⟩
theorem e1_ok : e1.Ok := newE_ok _ _ _
theorem e2_ok : e2.Ok := newE_ok _ _ _
def e3 : En := { e1 with id := 3 }
theorem e3_ok : e3.Ok := ⟨e1_ok.a, e1_ok.l⟩
theorem verG_12 : verG y32 [e1, e2] 0 = -1 := by decide +kernel
theorem verG_32 : verG y32 [e3, e2] 0 = 0 := by decide +kernel
theorem asked1 : shaB [97] = e1.asked := rfl
theorem wakesA_ok : RC Try.prog 10 [] [.bool true] := by
  refine RC.of_wp c10 rfl ?_
  have a1 : ∀ {H : Nat → Blk} {hv : Nat}, ObjE 4 hv 1041 H [] → IC Try.prog 11 H [.ptr 4 0 hv, .sl .lit 1 [.int .u8 97], .agg [.int .i64 1, .int .i64 0, .sl .full 0 []]] (fun q h' => q = [.int .i64 0] ∧ ObjE 4 hv 1041 h' [e1] ∧ ∀ y, y ≠ 4 → (y < 1000 ∨ 3000 ≤ y) → h' y = H y) := fun o => by
    have := add_ok (h := 4) (by decide) (by simp) (by decide) .lit [97] (by decide) ⟨1, 0, .full, []⟩ (by decide) o
    rw [show addE [] [97] ⟨1, 0, .full, []⟩ = [e1] from rfl] at this
    exact this
  have a2 : ∀ {H : Nat → Blk} {hv : Nat}, ObjE 4 hv 1041 H [e1] → IC Try.prog 11 H [.ptr 4 0 hv, .sl .lit 1 [.int .u8 98], .agg [.int .i64 2, .int .i64 16, .sl .full 1 [.int .u8 120]]] (fun q h' => q = [.int .i64 0] ∧ ObjE 4 hv 1041 h' [e1, e2] ∧ ∀ y, y ≠ 4 → (y < 1000 ∨ 3000 ≤ y) → h' y = H y) := fun o => by
    have := add_ok (h := 4) (by decide) (by simp [e1_ok]) (by decide) .lit [98] (by decide) ⟨2, 16, .full, [120]⟩ (by decide) o
    rw [show addE [e1] [98] ⟨2, 16, .full, [120]⟩ = [e1, e2] from rfl] at this
    exact this
  have hxs : ∀ x ∈ [e1, e2], x.Ok := by
    intro x hx
    simp only [List.mem_cons, List.mem_nil_iff, or_false] at hx
    rcases hx with rfl | rfl
    · exact e1_ok
    · exact e2_ok
  have hxs3 : ∀ x ∈ [e3, e2], x.Ok := by
    intro x hx
    simp only [List.mem_cons, List.mem_nil_iff, or_false] at hx
    rcases hx with rfl | rfl
    · exact e3_ok
    · exact e2_ok
  have a3 : ∀ {H : Nat → Blk} {hv : Nat}, ObjE 4 hv 1041 H [e1, e2] → IC Try.prog 11 H [.ptr 4 0 hv, .sl .full 0 [], .agg [.int .i64 (-1), .int .i64 0, .sl .full 0 []]] (fun q h' => q = [.int .i64 11] ∧ ObjE 4 hv 1041 h' [e1, e2] ∧ ∀ y, y ≠ 4 → (y < 1000 ∨ 3000 ≤ y) → h' y = H y) := fun o => by
    have := add_ok (h := 4) (by decide) hxs (by decide) .full [] (by decide) ⟨-1, 0, .full, []⟩ (by decide) o
    rw [show addE [e1, e2] [] ⟨-1, 0, .full, []⟩ = [e1, e2] from rfl] at this
    exact this
  have c0 := sum_ok .full (by decide) [(.plain, [97])] (by simp) (by decide)
  have ep0 : pl [(Fl.plain, [97])] = [.sl .plain 1 [.int .u8 97]] := rfl
  rw [one_part, ep0, List.length_cons, List.length_nil, asked1] at c0
  have c3 := verify_ok .plain [e1, e2] hxs (by decide)
  have c4 := verify_ok .plain [e3, e2] hxs3 (by decide)
  rw [verG_12] at c3
  rw [verG_32] at c4
  have b1 := e1_ok
  have b2 := e2_ok
  have q1 := eqL_by e1.asked e1.asked rfl
  have q2 := eqL_by e2.link e2.link rfl
  rw [decide_eq_true rfl] at q1 q2
  have f1 := fitR_by e1_ok.a
  have f2 := fitR_by e2_ok.l
  have hV : enL [e1, e2] = enC e1 ++ enC e2 := by simp [enL]
  have hV3 : enL [e3, e2] = enC e3 ++ enC e2 := by simp [enL]
  have lV : (enL [e1, e2]).length = 132 := enL_length hxs
  have lV3 : (enL [e3, e2]).length = 132 := enL_length hxs3
  have l1 := enC_length e1_ok
  obtain ⟨p1, p2, p3, p4, _⟩ := en_takesA e1_ok (enC e2)
  obtain ⟨r1, r2, r3, r4⟩ := en_takes e2_ok
  have d66 : ∀ k, List.drop (66 + k) (enC e1 ++ enC e2) = List.drop k (enC e2) := fun k => by
    rw [List.drop_append, List.drop_of_length_le (by omega), l1, List.nil_append, show 66 + k - 66 = k by omega]
  have v1 : List.take 32 (enL [e1, e2]) = bl e1.asked := by rw [hV]; exact p1
  have v2 : List.take 1 (List.drop 99 (enL [e1, e2])) = [.int .i64 16] := by rw [hV, d66 33]; exact r3
  have v3 : List.take 32 (List.drop 100 (enL [e1, e2])) = bl e2.link := by rw [hV, d66 34]; exact r4
  have tV : List.take 132 (enL [e1, e2]) = enL [e1, e2] := List.take_of_length_le (by omega)
  have tV3 : List.take 132 (enL [e3, e2]) = enL [e3, e2] := List.take_of_length_le (by omega)
  have pV := enL_pur [e1, e2]
  have pV3 := enL_pur [e3, e2]
  have sV : List.take 32 (enL [e1, e2]) ++ [IV.int .i64 3] ++ List.drop 33 (enL [e1, e2]) = enL [e3, e2] := by
    have x3 : List.drop 33 (enC e1 ++ enC e2) = .int .i64 e1.e :: (bl e1.link ++ enC e2) := by
      have la : (bl e1.asked).length = 32 := by rw [bl_length, e1_ok.a]
      rw [enC, List.append_assoc, List.drop_append, List.drop_of_length_le (by omega), la, List.nil_append]; rfl
    rw [v1, hV, hV3, x3]
    simp [enC, e3]
  have two : ([e1, e2] : List En).length = 2 := rfl
  have two3 : ([e3, e2] : List En).length = 2 := rfl
  rw [two] at c3
  rw [two3] at c4
  obtain ⟨V, hVV⟩ : ∃ V, V = enL [e1, e2] := ⟨_, rfl⟩
  obtain ⟨V3, hVV3⟩ : ∃ V, V = enL [e3, e2] := ⟨_, rfl⟩
  rw [← hVV] at c3 lV v1 v2 v3 tV pV sV
  rw [← hVV3] at c4 lV3 tV3 pV3 sV
  repeat' (first | simp -implicitDefEqProofs (maxSteps := 2000000) only [m10_1, m10_2, m10_3, m10_4, m10_5, m10_6, m10_7, m10_8, m10_9, m10_10, m10_11, m10_12, m10_r, m10_b, m10, wk, act, asV, ↓reduceIte, Nat.reduceEqDiff, reduceCtorEq, Nat.reduceAdd, Nat.reduceLeDiff, Nat.reduceSub, Nat.reduceMul, List.reduceReplicate, Int.reduceEq, Int.reduceLT, Int.reduceLE, Int.reduceAdd, Int.reduceSub, Int.reduceMul, Nat.reduceLT, Int.reduceToNat] | ((first | ((with_reducible refine CallL.gate ?_); apply CallL.of) | ((with_reducible refine CallpL.gate ?_); apply CallpL.of) | ((with_reducible refine CallP.gate ?_); apply CallP.of) | ((with_reducible refine CallpP.gate ?_); apply CallpP.of)); (case h1 => (simp -implicitDefEqProofs (maxSteps := 2000000) only [m10_1, m10_2, m10_3, m10_4, m10_5, m10_6, m10_7, m10_8, m10_9, m10_10, m10_11, m10_12, m10_r, m10_b, m10, wk, act, asV, ↓reduceIte, Nat.reduceEqDiff, reduceCtorEq, Nat.reduceAdd, Nat.reduceLeDiff, Nat.reduceSub, Nat.reduceMul, List.reduceReplicate, Int.reduceEq, Int.reduceLT, Int.reduceLE, Int.reduceAdd, Int.reduceSub, Int.reduceMul, Nat.reduceLT, Int.reduceToNat]; first | done | (with_reducible rfl))); (case h2 => (first | exact c0)); (case h3 => simp -implicitDefEqProofs (maxSteps := 2000000) only [m10_1, m10_2, m10_3, m10_4, m10_5, m10_6, m10_7, m10_8, m10_9, m10_10, m10_11, m10_12, m10_r, m10_b, m10, wk, act, asV, ↓reduceIte, Nat.reduceEqDiff, reduceCtorEq, Nat.reduceAdd, Nat.reduceLeDiff, Nat.reduceSub, Nat.reduceMul, List.reduceReplicate, Int.reduceEq, Int.reduceLT, Int.reduceLE, Int.reduceAdd, Int.reduceSub, Int.reduceMul, Nat.reduceLT, Int.reduceToNat])))
  refine CallnL.of (by simp -implicitDefEqProofs (maxSteps := 2000000) only [wk, act, asV, ↓reduceIte, Nat.reduceEqDiff, reduceCtorEq, Nat.reduceAdd, Nat.reduceLeDiff, Nat.reduceSub, Nat.reduceMul, List.reduceReplicate, Int.reduceEq, Int.reduceLT, Int.reduceLE, Int.reduceAdd, Int.reduceSub, Int.reduceMul, Nat.reduceLT, Int.reduceToNat]; first | done | rfl) (a1 ⟨_, by simp -implicitDefEqProofs (maxSteps := 2000000) only [wk, act, asV, ↓reduceIte, Nat.reduceEqDiff, reduceCtorEq, Nat.reduceAdd, Nat.reduceLeDiff, Nat.reduceSub, Nat.reduceMul, List.reduceReplicate, Int.reduceEq, Int.reduceLT, Int.reduceLE, Int.reduceAdd, Int.reduceSub, Int.reduceMul, Nat.reduceLT, Int.reduceToNat]; first | done | rfl, .inl ⟨rfl, rfl⟩⟩) ?_
  rintro _ h1 ⟨rfl, o1, fr1⟩
  repeat' (first | simp -implicitDefEqProofs (maxSteps := 2000000) only [wk, act, asV, ↓reduceIte, Nat.reduceEqDiff, reduceCtorEq, Nat.reduceAdd, Nat.reduceLeDiff, Nat.reduceSub, Nat.reduceMul, List.reduceReplicate, Int.reduceEq, Int.reduceLT, Int.reduceLE, Int.reduceAdd, Int.reduceSub, Int.reduceMul, Nat.reduceLT, Int.reduceToNat] | ((first | ((with_reducible refine CallL.gate ?_); apply CallL.of) | ((with_reducible refine CallpL.gate ?_); apply CallpL.of) | ((with_reducible refine CallP.gate ?_); apply CallP.of) | ((with_reducible refine CallpP.gate ?_); apply CallpP.of)); (case h1 => (simp -implicitDefEqProofs (maxSteps := 2000000) only [wk, act, asV, ↓reduceIte, Nat.reduceEqDiff, reduceCtorEq, Nat.reduceAdd, Nat.reduceLeDiff, Nat.reduceSub, Nat.reduceMul, List.reduceReplicate, Int.reduceEq, Int.reduceLT, Int.reduceLE, Int.reduceAdd, Int.reduceSub, Int.reduceMul, Nat.reduceLT, Int.reduceToNat]; first | done | (with_reducible rfl))); (case h2 => (first | exact c0)); (case h3 => simp -implicitDefEqProofs (maxSteps := 2000000) only [wk, act, asV, ↓reduceIte, Nat.reduceEqDiff, reduceCtorEq, Nat.reduceAdd, Nat.reduceLeDiff, Nat.reduceSub, Nat.reduceMul, List.reduceReplicate, Int.reduceEq, Int.reduceLT, Int.reduceLE, Int.reduceAdd, Int.reduceSub, Int.reduceMul, Nat.reduceLT, Int.reduceToNat])))
  refine CallnL.of (by simp -implicitDefEqProofs (maxSteps := 2000000) only [wk, act, asV, ↓reduceIte, Nat.reduceEqDiff, reduceCtorEq, Nat.reduceAdd, Nat.reduceLeDiff, Nat.reduceSub, Nat.reduceMul, List.reduceReplicate, Int.reduceEq, Int.reduceLT, Int.reduceLE, Int.reduceAdd, Int.reduceSub, Int.reduceMul, Nat.reduceLT, Int.reduceToNat]; first | done | rfl) (a2 o1) ?_
  rintro _ h2 ⟨rfl, o2, fr2⟩
  repeat' (first | simp -implicitDefEqProofs (maxSteps := 2000000) only [wk, act, asV, ↓reduceIte, Nat.reduceEqDiff, reduceCtorEq, Nat.reduceAdd, Nat.reduceLeDiff, Nat.reduceSub, Nat.reduceMul, List.reduceReplicate, Int.reduceEq, Int.reduceLT, Int.reduceLE, Int.reduceAdd, Int.reduceSub, Int.reduceMul, Nat.reduceLT, Int.reduceToNat] | ((first | ((with_reducible refine CallL.gate ?_); apply CallL.of) | ((with_reducible refine CallpL.gate ?_); apply CallpL.of) | ((with_reducible refine CallP.gate ?_); apply CallP.of) | ((with_reducible refine CallpP.gate ?_); apply CallpP.of)); (case h1 => (simp -implicitDefEqProofs (maxSteps := 2000000) only [wk, act, asV, ↓reduceIte, Nat.reduceEqDiff, reduceCtorEq, Nat.reduceAdd, Nat.reduceLeDiff, Nat.reduceSub, Nat.reduceMul, List.reduceReplicate, Int.reduceEq, Int.reduceLT, Int.reduceLE, Int.reduceAdd, Int.reduceSub, Int.reduceMul, Nat.reduceLT, Int.reduceToNat]; first | done | (with_reducible rfl))); (case h2 => (first | exact c0)); (case h3 => simp -implicitDefEqProofs (maxSteps := 2000000) only [wk, act, asV, ↓reduceIte, Nat.reduceEqDiff, reduceCtorEq, Nat.reduceAdd, Nat.reduceLeDiff, Nat.reduceSub, Nat.reduceMul, List.reduceReplicate, Int.reduceEq, Int.reduceLT, Int.reduceLE, Int.reduceAdd, Int.reduceSub, Int.reduceMul, Nat.reduceLT, Int.reduceToNat])))
  refine CallnL.of (by simp -implicitDefEqProofs (maxSteps := 2000000) only [wk, act, asV, ↓reduceIte, Nat.reduceEqDiff, reduceCtorEq, Nat.reduceAdd, Nat.reduceLeDiff, Nat.reduceSub, Nat.reduceMul, List.reduceReplicate, Int.reduceEq, Int.reduceLT, Int.reduceLE, Int.reduceAdd, Int.reduceSub, Int.reduceMul, Nat.reduceLT, Int.reduceToNat]; first | done | rfl) (a3 o2) ?_
  rintro _ h3 ⟨rfl, o3, fr3⟩
  repeat' (first | simp -implicitDefEqProofs (maxSteps := 2000000) only [wk, act, asV, ↓reduceIte, Nat.reduceEqDiff, reduceCtorEq, Nat.reduceAdd, Nat.reduceLeDiff, Nat.reduceSub, Nat.reduceMul, List.reduceReplicate, Int.reduceEq, Int.reduceLT, Int.reduceLE, Int.reduceAdd, Int.reduceSub, Int.reduceMul, Nat.reduceLT, Int.reduceToNat] | ((first | ((with_reducible refine CallL.gate ?_); apply CallL.of) | ((with_reducible refine CallpL.gate ?_); apply CallpL.of) | ((with_reducible refine CallP.gate ?_); apply CallP.of) | ((with_reducible refine CallpP.gate ?_); apply CallpP.of)); (case h1 => (simp -implicitDefEqProofs (maxSteps := 2000000) only [wk, act, asV, ↓reduceIte, Nat.reduceEqDiff, reduceCtorEq, Nat.reduceAdd, Nat.reduceLeDiff, Nat.reduceSub, Nat.reduceMul, List.reduceReplicate, Int.reduceEq, Int.reduceLT, Int.reduceLE, Int.reduceAdd, Int.reduceSub, Int.reduceMul, Nat.reduceLT, Int.reduceToNat]; first | done | (with_reducible rfl))); (case h2 => (first | exact c0)); (case h3 => simp -implicitDefEqProofs (maxSteps := 2000000) only [wk, act, asV, ↓reduceIte, Nat.reduceEqDiff, reduceCtorEq, Nat.reduceAdd, Nat.reduceLeDiff, Nat.reduceSub, Nat.reduceMul, List.reduceReplicate, Int.reduceEq, Int.reduceLT, Int.reduceLE, Int.reduceAdd, Int.reduceSub, Int.reduceMul, Nat.reduceLT, Int.reduceToNat])))
  refine CallnL.of (by simp -implicitDefEqProofs (maxSteps := 2000000) only [wk, act, asV, ↓reduceIte, Nat.reduceEqDiff, reduceCtorEq, Nat.reduceAdd, Nat.reduceLeDiff, Nat.reduceSub, Nat.reduceMul, List.reduceReplicate, Int.reduceEq, Int.reduceLT, Int.reduceLE, Int.reduceAdd, Int.reduceSub, Int.reduceMul, Nat.reduceLT, Int.reduceToNat]; first | done | rfl) (entries_ok (by decide) hxs (by decide) o3) ?_
  rintro _ h4 ⟨ver, rfl, hM, fr4⟩
  have hO := ObjE_fr o3 (fr4 4 (.inl (by decide))) (fr4 1041 (.inl (by decide)))
  rw [← hVV] at hM
  simp -implicitDefEqProofs (maxSteps := 2000000) only [two, wk, act, asV, ↓reduceIte, Nat.reduceEqDiff, reduceCtorEq, Nat.reduceAdd, Nat.reduceLeDiff, Nat.reduceSub, Nat.reduceMul, List.reduceReplicate, Int.reduceEq, Int.reduceLT, Int.reduceLE, Int.reduceAdd, Int.reduceSub, Int.reduceMul, Nat.reduceLT, Int.reduceToNat]
  obtain ⟨Inv, hInv⟩ : ∃ Inv : (Nat → Bool) → St → Prop, Inv = fun (L : Nat → Bool) (s : St) => s.t 1 = .ptr 4 0 ((deadH 4).ver + 1) ∧ s.t 2 = .row 5009 0 2 66 ver ∧ s.h 5009 = ⟨ver, true, true, true, V⟩ ∧ ObjE 4 ((deadH 4).ver + 1) 1041 s.h [e1, e2] ∧ (L 0 = true → s.t 29 = .row 5009 0 2 66 ver) ∧ (L 1 = true → s.t 30 = .int .i64 2) ∧ (L 2 = true → s.t 31 = .bool false) ∧ (L 3 = true → s.t 32 = .bool false) ∧ (L 4 = true → s.t 33 = .row 5009 0 2 66 ver) ∧ (L 5 = true → s.t 34 = .ptr 5009 0 ver) ∧ (L 6 = true → s.t 35 = .ptr 5009 0 ver) ∧ (L 7 = true → s.t 36 = .agg (bl e1.asked)) ∧ (L 8 = true → s.t 37 = .sl .lit 1 [.int .u8 97]) ∧ (L 9 = true → s.t 38 = .sl .lit 1 [.int .u8 97]) ∧ (L 10 = true → s.t 39 = .sl .lit 1 [.sl .plain 1 [.int .u8 97]]) ∧ (L 11 = true → s.t 40 = .agg (bl e1.asked)) ∧ (L 12 = true → s.t 41 = .bool false) ∧ (L 13 = true → s.t 42 = .bool false) ∧ (L 14 = true → s.t 43 = .bool false) ∧ (L 15 = true → s.t 44 = .row 5009 0 2 66 ver) ∧ (L 16 = true → s.t 45 = .ptr 5009 66 ver) ∧ (L 17 = true → s.t 46 = .ptr 5009 99 ver) ∧ (L 18 = true → s.t 47 = .int .i64 16) ∧ (L 19 = true → s.t 48 = .bool false) ∧ (L 20 = true → s.t 49 = .bool false) ∧ (L 21 = true → s.t 50 = .bool false) ∧ (L 22 = true → s.t 51 = .row 5009 0 2 66 ver) ∧ (L 23 = true → s.t 52 = .ptr 5009 66 ver) ∧ (L 24 = true → s.t 53 = .ptr 5009 100 ver) ∧ (L 25 = true → s.t 54 = .agg (bl e2.link)) ∧ (L 26 = true → s.t 55 = .ptr 4 0 ((deadH 4).ver + 1)) ∧ (L 27 = true → s.t 56 = .agg (bl e2.link)) ∧ (L 28 = true → s.t 57 = .bool false) ∧ (L 29 = true → s.t 58 = .bool false) ∧ (L 30 = true → s.t 59 = .bool false) ∧ (L 31 = true → s.t 60 = .row 5009 0 2 66 ver) ∧ (L 32 = true → s.t 61 = .int .i64 (-1)) ∧ (L 33 = true → s.t 62 = .bool false) ∧ (L 34 = true → s.t 63 = .bool false) := ⟨_, rfl⟩
  refine Wp_drxI Inv ?_ ?_ ?_
  · rw [hInv]
    exact ⟨by simp -implicitDefEqProofs (maxSteps := 2000000) only [wk, act, asV, ↓reduceIte, Nat.reduceEqDiff, reduceCtorEq, Nat.reduceAdd, Nat.reduceLeDiff, Nat.reduceSub, Nat.reduceMul, List.reduceReplicate, Int.reduceEq, Int.reduceLT, Int.reduceLE, Int.reduceAdd, Int.reduceSub, Int.reduceMul, Nat.reduceLT, Int.reduceToNat]; first | done | rfl, by simp -implicitDefEqProofs (maxSteps := 2000000) only [wk, act, asV, ↓reduceIte, Nat.reduceEqDiff, reduceCtorEq, Nat.reduceAdd, Nat.reduceLeDiff, Nat.reduceSub, Nat.reduceMul, List.reduceReplicate, Int.reduceEq, Int.reduceLT, Int.reduceLE, Int.reduceAdd, Int.reduceSub, Int.reduceMul, Nat.reduceLT, Int.reduceToNat]; first | done | rfl, hM, hO, fun h => absurd (h : false = true) (by decide), fun h => absurd (h : false = true) (by decide), fun h => absurd (h : false = true) (by decide), fun h => absurd (h : false = true) (by decide), fun h => absurd (h : false = true) (by decide), fun h => absurd (h : false = true) (by decide), fun h => absurd (h : false = true) (by decide), fun h => absurd (h : false = true) (by decide), fun h => absurd (h : false = true) (by decide), fun h => absurd (h : false = true) (by decide), fun h => absurd (h : false = true) (by decide), fun h => absurd (h : false = true) (by decide), fun h => absurd (h : false = true) (by decide), fun h => absurd (h : false = true) (by decide), fun h => absurd (h : false = true) (by decide), fun h => absurd (h : false = true) (by decide), fun h => absurd (h : false = true) (by decide), fun h => absurd (h : false = true) (by decide), fun h => absurd (h : false = true) (by decide), fun h => absurd (h : false = true) (by decide), fun h => absurd (h : false = true) (by decide), fun h => absurd (h : false = true) (by decide), fun h => absurd (h : false = true) (by decide), fun h => absurd (h : false = true) (by decide), fun h => absurd (h : false = true) (by decide), fun h => absurd (h : false = true) (by decide), fun h => absurd (h : false = true) (by decide), fun h => absurd (h : false = true) (by decide), fun h => absurd (h : false = true) (by decide), fun h => absurd (h : false = true) (by decide), fun h => absurd (h : false = true) (by decide), fun h => absurd (h : false = true) (by decide), fun h => absurd (h : false = true) (by decide), fun h => absurd (h : false = true) (by decide), fun h => absurd (h : false = true) (by decide)⟩
  · refine stepsX_cons ?_ (stepsX_cons ?_ (stepsX_cons ?_ (stepsX_cons ?_ (stepsX_cons ?_ (stepsX_cons ?_ (stepsX_cons ?_ (stepsX_cons ?_ (stepsX_cons ?_ (stepsX_cons ?_ (stepsX_cons ?_ (stepsX_cons ?_ (stepsX_cons ?_ (stepsX_cons ?_ (stepsX_cons ?_ (stepsX_cons ?_ (stepsX_cons ?_ (stepsX_cons ?_ (stepsX_cons ?_ (stepsX_cons ?_ (stepsX_cons ?_ (stepsX_cons ?_ (stepsX_cons ?_ (stepsX_cons ?_ (stepsX_cons ?_ (stepsX_cons ?_ (stepsX_cons ?_ (stepsX_cons ?_ (stepsX_cons ?_ (stepsX_cons ?_ (stepsX_cons ?_ (stepsX_cons ?_ (stepsX_cons ?_ (stepsX_cons ?_ (stepsX_cons ?_ (stepsX_nil)))))))))))))))))))))))))))))))))))
    · intro L s hL hp hI
      rw [hInv] at hI
      obtain ⟨k1, k2, kM, kO, f0, f1, f2, f3, f4, f5, f6, f7, f8, f9, f10, f11, f12, f13, f14, f15, f16, f17, f18, f19, f20, f21, f22, f23, f24, f25, f26, f27, f28, f29, f30, f31, f32, f33, f34⟩ := hI
      simp -implicitDefEqProofs (maxSteps := 2000000) only [k2, wk, act, asV, ↓reduceIte, Nat.reduceEqDiff, reduceCtorEq, Nat.reduceAdd, Nat.reduceLeDiff, Nat.reduceSub, Nat.reduceMul, List.reduceReplicate, Int.reduceEq, Int.reduceLT, Int.reduceLE, Int.reduceAdd, Int.reduceSub, Int.reduceMul, Nat.reduceLT, Int.reduceToNat]
      rw [hInv]
      exact ⟨k1, k2, kM, kO, fun _ => rfl, f1, f2, f3, f4, f5, f6, f7, f8, f9, f10, f11, f12, f13, f14, f15, f16, f17, f18, f19, f20, f21, f22, f23, f24, f25, f26, f27, f28, f29, f30, f31, f32, f33, f34⟩
    · intro L s hL hp hI
      rw [hInv] at hI
      obtain ⟨k1, k2, kM, kO, f0, f1, f2, f3, f4, f5, f6, f7, f8, f9, f10, f11, f12, f13, f14, f15, f16, f17, f18, f19, f20, f21, f22, f23, f24, f25, f26, f27, f28, f29, f30, f31, f32, f33, f34⟩ := hI
      have p0 := f0 (hp 0 (by simp))
      simp -implicitDefEqProofs (maxSteps := 2000000) only [p0, kM, wk, act, asV, ↓reduceIte, Nat.reduceEqDiff, reduceCtorEq, Nat.reduceAdd, Nat.reduceLeDiff, Nat.reduceSub, Nat.reduceMul, List.reduceReplicate, Int.reduceEq, Int.reduceLT, Int.reduceLE, Int.reduceAdd, Int.reduceSub, Int.reduceMul, Nat.reduceLT, Int.reduceToNat]
      rw [hInv]
      exact ⟨k1, k2, kM, kO, f0, fun _ => rfl, f2, f3, f4, f5, f6, f7, f8, f9, f10, f11, f12, f13, f14, f15, f16, f17, f18, f19, f20, f21, f22, f23, f24, f25, f26, f27, f28, f29, f30, f31, f32, f33, f34⟩
    · intro L s hL hp hI
      rw [hInv] at hI
      obtain ⟨k1, k2, kM, kO, f0, f1, f2, f3, f4, f5, f6, f7, f8, f9, f10, f11, f12, f13, f14, f15, f16, f17, f18, f19, f20, f21, f22, f23, f24, f25, f26, f27, f28, f29, f30, f31, f32, f33, f34⟩ := hI
      have p1 := f1 (hp 1 (by simp))
      simp -implicitDefEqProofs (maxSteps := 2000000) only [p1, wk, act, asV, ↓reduceIte, Nat.reduceEqDiff, reduceCtorEq, Nat.reduceAdd, Nat.reduceLeDiff, Nat.reduceSub, Nat.reduceMul, List.reduceReplicate, Int.reduceEq, Int.reduceLT, Int.reduceLE, Int.reduceAdd, Int.reduceSub, Int.reduceMul, Nat.reduceLT, Int.reduceToNat]
      rw [hInv]
      exact ⟨k1, k2, kM, kO, f0, f1, fun _ => rfl, f3, f4, f5, f6, f7, f8, f9, f10, f11, f12, f13, f14, f15, f16, f17, f18, f19, f20, f21, f22, f23, f24, f25, f26, f27, f28, f29, f30, f31, f32, f33, f34⟩
    · intro L s hL hp hI
      rw [hInv] at hI
      obtain ⟨k1, k2, kM, kO, f0, f1, f2, f3, f4, f5, f6, f7, f8, f9, f10, f11, f12, f13, f14, f15, f16, f17, f18, f19, f20, f21, f22, f23, f24, f25, f26, f27, f28, f29, f30, f31, f32, f33, f34⟩ := hI
      have p2 := f2 (hp 2 (by simp))
      simp -implicitDefEqProofs (maxSteps := 2000000) only [p2, wk, act, asV, ↓reduceIte, Nat.reduceEqDiff, reduceCtorEq, Nat.reduceAdd, Nat.reduceLeDiff, Nat.reduceSub, Nat.reduceMul, List.reduceReplicate, Int.reduceEq, Int.reduceLT, Int.reduceLE, Int.reduceAdd, Int.reduceSub, Int.reduceMul, Nat.reduceLT, Int.reduceToNat]
      rw [hInv]
      exact ⟨k1, k2, kM, kO, f0, f1, f2, fun _ => rfl, f4, f5, f6, f7, f8, f9, f10, f11, f12, f13, f14, f15, f16, f17, f18, f19, f20, f21, f22, f23, f24, f25, f26, f27, f28, f29, f30, f31, f32, f33, f34⟩
    · intro L s hL hp hI
      rw [hInv] at hI
      obtain ⟨k1, k2, kM, kO, f0, f1, f2, f3, f4, f5, f6, f7, f8, f9, f10, f11, f12, f13, f14, f15, f16, f17, f18, f19, f20, f21, f22, f23, f24, f25, f26, f27, f28, f29, f30, f31, f32, f33, f34⟩ := hI
      have p3 := f3 (hp 3 (by simp))
      simp -implicitDefEqProofs (maxSteps := 2000000) only [p3, k2, wk, act, asV, ↓reduceIte, Nat.reduceEqDiff, reduceCtorEq, Nat.reduceAdd, Nat.reduceLeDiff, Nat.reduceSub, Nat.reduceMul, List.reduceReplicate, Int.reduceEq, Int.reduceLT, Int.reduceLE, Int.reduceAdd, Int.reduceSub, Int.reduceMul, Nat.reduceLT, Int.reduceToNat]
      rw [hInv]
      exact ⟨k1, k2, kM, kO, f0, f1, f2, f3, fun _ => rfl, f5, f6, f7, f8, f9, f10, f11, f12, f13, f14, f15, f16, f17, f18, f19, f20, f21, f22, f23, f24, f25, f26, f27, f28, f29, f30, f31, f32, f33, f34⟩
    · intro L s hL hp hI
      rw [hInv] at hI
      obtain ⟨k1, k2, kM, kO, f0, f1, f2, f3, f4, f5, f6, f7, f8, f9, f10, f11, f12, f13, f14, f15, f16, f17, f18, f19, f20, f21, f22, f23, f24, f25, f26, f27, f28, f29, f30, f31, f32, f33, f34⟩ := hI
      have p3 := f3 (hp 3 (by simp))
      have p4 := f4 (hp 4 (by simp))
      simp -implicitDefEqProofs (maxSteps := 2000000) only [p3, p4, kM, wk, act, asV, ↓reduceIte, Nat.reduceEqDiff, reduceCtorEq, Nat.reduceAdd, Nat.reduceLeDiff, Nat.reduceSub, Nat.reduceMul, List.reduceReplicate, Int.reduceEq, Int.reduceLT, Int.reduceLE, Int.reduceAdd, Int.reduceSub, Int.reduceMul, Nat.reduceLT, Int.reduceToNat]
      rw [hInv]
      exact ⟨k1, k2, kM, kO, f0, f1, f2, f3, f4, fun _ => rfl, f6, f7, f8, f9, f10, f11, f12, f13, f14, f15, f16, f17, f18, f19, f20, f21, f22, f23, f24, f25, f26, f27, f28, f29, f30, f31, f32, f33, f34⟩
    · intro L s hL hp hI
      rw [hInv] at hI
      obtain ⟨k1, k2, kM, kO, f0, f1, f2, f3, f4, f5, f6, f7, f8, f9, f10, f11, f12, f13, f14, f15, f16, f17, f18, f19, f20, f21, f22, f23, f24, f25, f26, f27, f28, f29, f30, f31, f32, f33, f34⟩ := hI
      have p3 := f3 (hp 3 (by simp))
      have p5 := f5 (hp 5 (by simp))
      simp -implicitDefEqProofs (maxSteps := 2000000) only [p3, p5, kM, wk, act, asV, ↓reduceIte, Nat.reduceEqDiff, reduceCtorEq, Nat.reduceAdd, Nat.reduceLeDiff, Nat.reduceSub, Nat.reduceMul, List.reduceReplicate, Int.reduceEq, Int.reduceLT, Int.reduceLE, Int.reduceAdd, Int.reduceSub, Int.reduceMul, Nat.reduceLT, Int.reduceToNat]
      rw [hInv]
      exact ⟨k1, k2, kM, kO, f0, f1, f2, f3, f4, f5, fun _ => rfl, f7, f8, f9, f10, f11, f12, f13, f14, f15, f16, f17, f18, f19, f20, f21, f22, f23, f24, f25, f26, f27, f28, f29, f30, f31, f32, f33, f34⟩
    · intro L s hL hp hI
      rw [hInv] at hI
      obtain ⟨k1, k2, kM, kO, f0, f1, f2, f3, f4, f5, f6, f7, f8, f9, f10, f11, f12, f13, f14, f15, f16, f17, f18, f19, f20, f21, f22, f23, f24, f25, f26, f27, f28, f29, f30, f31, f32, f33, f34⟩ := hI
      have p3 := f3 (hp 3 (by simp))
      have p6 := f6 (hp 6 (by simp))
      simp -implicitDefEqProofs (maxSteps := 2000000) only [p3, p6, kM, lV, v1, wk, act, asV, ↓reduceIte, Nat.reduceEqDiff, reduceCtorEq, Nat.reduceAdd, Nat.reduceLeDiff, Nat.reduceSub, Nat.reduceMul, List.reduceReplicate, Int.reduceEq, Int.reduceLT, Int.reduceLE, Int.reduceAdd, Int.reduceSub, Int.reduceMul, Nat.reduceLT, Int.reduceToNat]
      rw [hInv]
      exact ⟨k1, k2, kM, kO, f0, f1, f2, f3, f4, f5, f6, fun _ => rfl, f8, f9, f10, f11, f12, f13, f14, f15, f16, f17, f18, f19, f20, f21, f22, f23, f24, f25, f26, f27, f28, f29, f30, f31, f32, f33, f34⟩
    · intro L s hL hp hI
      rw [hInv] at hI
      obtain ⟨k1, k2, kM, kO, f0, f1, f2, f3, f4, f5, f6, f7, f8, f9, f10, f11, f12, f13, f14, f15, f16, f17, f18, f19, f20, f21, f22, f23, f24, f25, f26, f27, f28, f29, f30, f31, f32, f33, f34⟩ := hI
      have p3 := f3 (hp 3 (by simp))
      simp -implicitDefEqProofs (maxSteps := 2000000) only [p3, wk, act, asV, ↓reduceIte, Nat.reduceEqDiff, reduceCtorEq, Nat.reduceAdd, Nat.reduceLeDiff, Nat.reduceSub, Nat.reduceMul, List.reduceReplicate, Int.reduceEq, Int.reduceLT, Int.reduceLE, Int.reduceAdd, Int.reduceSub, Int.reduceMul, Nat.reduceLT, Int.reduceToNat]
      rw [hInv]
      exact ⟨k1, k2, kM, kO, f0, f1, f2, f3, f4, f5, f6, f7, fun _ => rfl, f9, f10, f11, f12, f13, f14, f15, f16, f17, f18, f19, f20, f21, f22, f23, f24, f25, f26, f27, f28, f29, f30, f31, f32, f33, f34⟩
    · intro L s hL hp hI
      rw [hInv] at hI
      obtain ⟨k1, k2, kM, kO, f0, f1, f2, f3, f4, f5, f6, f7, f8, f9, f10, f11, f12, f13, f14, f15, f16, f17, f18, f19, f20, f21, f22, f23, f24, f25, f26, f27, f28, f29, f30, f31, f32, f33, f34⟩ := hI
      have p3 := f3 (hp 3 (by simp))
      have p8 := f8 (hp 8 (by simp))
      simp -implicitDefEqProofs (maxSteps := 2000000) only [p3, p8, wk, act, asV, ↓reduceIte, Nat.reduceEqDiff, reduceCtorEq, Nat.reduceAdd, Nat.reduceLeDiff, Nat.reduceSub, Nat.reduceMul, List.reduceReplicate, Int.reduceEq, Int.reduceLT, Int.reduceLE, Int.reduceAdd, Int.reduceSub, Int.reduceMul, Nat.reduceLT, Int.reduceToNat]
      rw [hInv]
      exact ⟨k1, k2, kM, kO, f0, f1, f2, f3, f4, f5, f6, f7, f8, fun _ => rfl, f10, f11, f12, f13, f14, f15, f16, f17, f18, f19, f20, f21, f22, f23, f24, f25, f26, f27, f28, f29, f30, f31, f32, f33, f34⟩
    · intro L s hL hp hI
      rw [hInv] at hI
      obtain ⟨k1, k2, kM, kO, f0, f1, f2, f3, f4, f5, f6, f7, f8, f9, f10, f11, f12, f13, f14, f15, f16, f17, f18, f19, f20, f21, f22, f23, f24, f25, f26, f27, f28, f29, f30, f31, f32, f33, f34⟩ := hI
      have p3 := f3 (hp 3 (by simp))
      have p9 := f9 (hp 9 (by simp))
      simp -implicitDefEqProofs (maxSteps := 2000000) only [p3, p9, wk, act, asV, ↓reduceIte, Nat.reduceEqDiff, reduceCtorEq, Nat.reduceAdd, Nat.reduceLeDiff, Nat.reduceSub, Nat.reduceMul, List.reduceReplicate, Int.reduceEq, Int.reduceLT, Int.reduceLE, Int.reduceAdd, Int.reduceSub, Int.reduceMul, Nat.reduceLT, Int.reduceToNat]
      rw [hInv]
      exact ⟨k1, k2, kM, kO, f0, f1, f2, f3, f4, f5, f6, f7, f8, f9, fun _ => rfl, f11, f12, f13, f14, f15, f16, f17, f18, f19, f20, f21, f22, f23, f24, f25, f26, f27, f28, f29, f30, f31, f32, f33, f34⟩
    · intro L s hL hp hI
      rw [hInv] at hI
      obtain ⟨k1, k2, kM, kO, f0, f1, f2, f3, f4, f5, f6, f7, f8, f9, f10, f11, f12, f13, f14, f15, f16, f17, f18, f19, f20, f21, f22, f23, f24, f25, f26, f27, f28, f29, f30, f31, f32, f33, f34⟩ := hI
      have p3 := f3 (hp 3 (by simp))
      have p10 := f10 (hp 10 (by simp))
      repeat' (first | simp -implicitDefEqProofs (maxSteps := 2000000) only [p3, p10, wk, act, asV, ↓reduceIte, Nat.reduceEqDiff, reduceCtorEq, Nat.reduceAdd, Nat.reduceLeDiff, Nat.reduceSub, Nat.reduceMul, List.reduceReplicate, Int.reduceEq, Int.reduceLT, Int.reduceLE, Int.reduceAdd, Int.reduceSub, Int.reduceMul, Nat.reduceLT, Int.reduceToNat] | ((first | ((with_reducible refine CallL.gate ?_); apply CallL.of) | ((with_reducible refine CallpL.gate ?_); apply CallpL.of) | ((with_reducible refine CallP.gate ?_); apply CallP.of) | ((with_reducible refine CallpP.gate ?_); apply CallpP.of)); (case h1 => (simp -implicitDefEqProofs (maxSteps := 2000000) only [p3, p10, wk, act, asV, ↓reduceIte, Nat.reduceEqDiff, reduceCtorEq, Nat.reduceAdd, Nat.reduceLeDiff, Nat.reduceSub, Nat.reduceMul, List.reduceReplicate, Int.reduceEq, Int.reduceLT, Int.reduceLE, Int.reduceAdd, Int.reduceSub, Int.reduceMul, Nat.reduceLT, Int.reduceToNat]; first | done | (with_reducible rfl))); (case h2 => (first | exact c0)); (case h3 => simp -implicitDefEqProofs (maxSteps := 2000000) only [p3, p10, wk, act, asV, ↓reduceIte, Nat.reduceEqDiff, reduceCtorEq, Nat.reduceAdd, Nat.reduceLeDiff, Nat.reduceSub, Nat.reduceMul, List.reduceReplicate, Int.reduceEq, Int.reduceLT, Int.reduceLE, Int.reduceAdd, Int.reduceSub, Int.reduceMul, Nat.reduceLT, Int.reduceToNat])))
      rw [hInv]
      exact ⟨k1, k2, kM, kO, f0, f1, f2, f3, f4, f5, f6, f7, f8, f9, f10, fun _ => rfl, f12, f13, f14, f15, f16, f17, f18, f19, f20, f21, f22, f23, f24, f25, f26, f27, f28, f29, f30, f31, f32, f33, f34⟩
    · intro L s hL hp hI
      rw [hInv] at hI
      obtain ⟨k1, k2, kM, kO, f0, f1, f2, f3, f4, f5, f6, f7, f8, f9, f10, f11, f12, f13, f14, f15, f16, f17, f18, f19, f20, f21, f22, f23, f24, f25, f26, f27, f28, f29, f30, f31, f32, f33, f34⟩ := hI
      have p3 := f3 (hp 3 (by simp))
      have p7 := f7 (hp 7 (by simp))
      have p11 := f11 (hp 11 (by simp))
      simp -implicitDefEqProofs (maxSteps := 2000000) only [p3, p7, p11, q1, f1, wk, act, asV, ↓reduceIte, Nat.reduceEqDiff, reduceCtorEq, Nat.reduceAdd, Nat.reduceLeDiff, Nat.reduceSub, Nat.reduceMul, List.reduceReplicate, Int.reduceEq, Int.reduceLT, Int.reduceLE, Int.reduceAdd, Int.reduceSub, Int.reduceMul, Nat.reduceLT, Int.reduceToNat]
      rw [hInv]
      exact ⟨k1, k2, kM, kO, f0, f1, f2, f3, f4, f5, f6, f7, f8, f9, f10, f11, fun _ => rfl, f13, f14, f15, f16, f17, f18, f19, f20, f21, f22, f23, f24, f25, f26, f27, f28, f29, f30, f31, f32, f33, f34⟩
    · intro L s hL hp hI
      rw [hInv] at hI
      obtain ⟨k1, k2, kM, kO, f0, f1, f2, f3, f4, f5, f6, f7, f8, f9, f10, f11, f12, f13, f14, f15, f16, f17, f18, f19, f20, f21, f22, f23, f24, f25, f26, f27, f28, f29, f30, f31, f32, f33, f34⟩ := hI
      have p3 := f3 (hp 3 (by simp))
      have p12 := f12 (hp 12 (by simp))
      simp -implicitDefEqProofs (maxSteps := 2000000) only [p3, p12, wk, act, asV, ↓reduceIte, Nat.reduceEqDiff, reduceCtorEq, Nat.reduceAdd, Nat.reduceLeDiff, Nat.reduceSub, Nat.reduceMul, List.reduceReplicate, Int.reduceEq, Int.reduceLT, Int.reduceLE, Int.reduceAdd, Int.reduceSub, Int.reduceMul, Nat.reduceLT, Int.reduceToNat]
      rw [hInv]
      exact ⟨k1, k2, kM, kO, f0, f1, f2, f3, f4, f5, f6, f7, f8, f9, f10, f11, f12, fun _ => rfl, f14, f15, f16, f17, f18, f19, f20, f21, f22, f23, f24, f25, f26, f27, f28, f29, f30, f31, f32, f33, f34⟩
    · intro L s hL hp hI
      rw [hInv] at hI
      obtain ⟨k1, k2, kM, kO, f0, f1, f2, f3, f4, f5, f6, f7, f8, f9, f10, f11, f12, f13, f14, f15, f16, f17, f18, f19, f20, f21, f22, f23, f24, f25, f26, f27, f28, f29, f30, f31, f32, f33, f34⟩ := hI
      have p13 := f13 (hp 13 (by simp))
      simp -implicitDefEqProofs (maxSteps := 2000000) only [p13, wk, act, asV, ↓reduceIte, Nat.reduceEqDiff, reduceCtorEq, Nat.reduceAdd, Nat.reduceLeDiff, Nat.reduceSub, Nat.reduceMul, List.reduceReplicate, Int.reduceEq, Int.reduceLT, Int.reduceLE, Int.reduceAdd, Int.reduceSub, Int.reduceMul, Nat.reduceLT, Int.reduceToNat]
      rw [hInv]
      exact ⟨k1, k2, kM, kO, f0, f1, f2, f3, f4, f5, f6, f7, f8, f9, f10, f11, f12, f13, fun _ => rfl, f15, f16, f17, f18, f19, f20, f21, f22, f23, f24, f25, f26, f27, f28, f29, f30, f31, f32, f33, f34⟩
    · intro L s hL hp hI
      rw [hInv] at hI
      obtain ⟨k1, k2, kM, kO, f0, f1, f2, f3, f4, f5, f6, f7, f8, f9, f10, f11, f12, f13, f14, f15, f16, f17, f18, f19, f20, f21, f22, f23, f24, f25, f26, f27, f28, f29, f30, f31, f32, f33, f34⟩ := hI
      have p14 := f14 (hp 14 (by simp))
      simp -implicitDefEqProofs (maxSteps := 2000000) only [p14, k2, wk, act, asV, ↓reduceIte, Nat.reduceEqDiff, reduceCtorEq, Nat.reduceAdd, Nat.reduceLeDiff, Nat.reduceSub, Nat.reduceMul, List.reduceReplicate, Int.reduceEq, Int.reduceLT, Int.reduceLE, Int.reduceAdd, Int.reduceSub, Int.reduceMul, Nat.reduceLT, Int.reduceToNat]
      rw [hInv]
      exact ⟨k1, k2, kM, kO, f0, f1, f2, f3, f4, f5, f6, f7, f8, f9, f10, f11, f12, f13, f14, fun _ => rfl, f16, f17, f18, f19, f20, f21, f22, f23, f24, f25, f26, f27, f28, f29, f30, f31, f32, f33, f34⟩
    · intro L s hL hp hI
      rw [hInv] at hI
      obtain ⟨k1, k2, kM, kO, f0, f1, f2, f3, f4, f5, f6, f7, f8, f9, f10, f11, f12, f13, f14, f15, f16, f17, f18, f19, f20, f21, f22, f23, f24, f25, f26, f27, f28, f29, f30, f31, f32, f33, f34⟩ := hI
      have p14 := f14 (hp 14 (by simp))
      have p15 := f15 (hp 15 (by simp))
      simp -implicitDefEqProofs (maxSteps := 2000000) only [p14, p15, kM, wk, act, asV, ↓reduceIte, Nat.reduceEqDiff, reduceCtorEq, Nat.reduceAdd, Nat.reduceLeDiff, Nat.reduceSub, Nat.reduceMul, List.reduceReplicate, Int.reduceEq, Int.reduceLT, Int.reduceLE, Int.reduceAdd, Int.reduceSub, Int.reduceMul, Nat.reduceLT, Int.reduceToNat]
      rw [hInv]
      exact ⟨k1, k2, kM, kO, f0, f1, f2, f3, f4, f5, f6, f7, f8, f9, f10, f11, f12, f13, f14, f15, fun _ => rfl, f17, f18, f19, f20, f21, f22, f23, f24, f25, f26, f27, f28, f29, f30, f31, f32, f33, f34⟩
    · intro L s hL hp hI
      rw [hInv] at hI
      obtain ⟨k1, k2, kM, kO, f0, f1, f2, f3, f4, f5, f6, f7, f8, f9, f10, f11, f12, f13, f14, f15, f16, f17, f18, f19, f20, f21, f22, f23, f24, f25, f26, f27, f28, f29, f30, f31, f32, f33, f34⟩ := hI
      have p14 := f14 (hp 14 (by simp))
      have p16 := f16 (hp 16 (by simp))
      simp -implicitDefEqProofs (maxSteps := 2000000) only [p14, p16, kM, wk, act, asV, ↓reduceIte, Nat.reduceEqDiff, reduceCtorEq, Nat.reduceAdd, Nat.reduceLeDiff, Nat.reduceSub, Nat.reduceMul, List.reduceReplicate, Int.reduceEq, Int.reduceLT, Int.reduceLE, Int.reduceAdd, Int.reduceSub, Int.reduceMul, Nat.reduceLT, Int.reduceToNat]
      rw [hInv]
      exact ⟨k1, k2, kM, kO, f0, f1, f2, f3, f4, f5, f6, f7, f8, f9, f10, f11, f12, f13, f14, f15, f16, fun _ => rfl, f18, f19, f20, f21, f22, f23, f24, f25, f26, f27, f28, f29, f30, f31, f32, f33, f34⟩
    · intro L s hL hp hI
      rw [hInv] at hI
      obtain ⟨k1, k2, kM, kO, f0, f1, f2, f3, f4, f5, f6, f7, f8, f9, f10, f11, f12, f13, f14, f15, f16, f17, f18, f19, f20, f21, f22, f23, f24, f25, f26, f27, f28, f29, f30, f31, f32, f33, f34⟩ := hI
      have p14 := f14 (hp 14 (by simp))
      have p17 := f17 (hp 17 (by simp))
      simp -implicitDefEqProofs (maxSteps := 2000000) only [p14, p17, kM, lV, v2, wk, act, asV, ↓reduceIte, Nat.reduceEqDiff, reduceCtorEq, Nat.reduceAdd, Nat.reduceLeDiff, Nat.reduceSub, Nat.reduceMul, List.reduceReplicate, Int.reduceEq, Int.reduceLT, Int.reduceLE, Int.reduceAdd, Int.reduceSub, Int.reduceMul, Nat.reduceLT, Int.reduceToNat]
      rw [hInv]
      exact ⟨k1, k2, kM, kO, f0, f1, f2, f3, f4, f5, f6, f7, f8, f9, f10, f11, f12, f13, f14, f15, f16, f17, fun _ => rfl, f19, f20, f21, f22, f23, f24, f25, f26, f27, f28, f29, f30, f31, f32, f33, f34⟩
    · intro L s hL hp hI
      rw [hInv] at hI
      obtain ⟨k1, k2, kM, kO, f0, f1, f2, f3, f4, f5, f6, f7, f8, f9, f10, f11, f12, f13, f14, f15, f16, f17, f18, f19, f20, f21, f22, f23, f24, f25, f26, f27, f28, f29, f30, f31, f32, f33, f34⟩ := hI
      have p14 := f14 (hp 14 (by simp))
      have p18 := f18 (hp 18 (by simp))
      simp -implicitDefEqProofs (maxSteps := 2000000) only [p14, p18, wk, act, asV, ↓reduceIte, Nat.reduceEqDiff, reduceCtorEq, Nat.reduceAdd, Nat.reduceLeDiff, Nat.reduceSub, Nat.reduceMul, List.reduceReplicate, Int.reduceEq, Int.reduceLT, Int.reduceLE, Int.reduceAdd, Int.reduceSub, Int.reduceMul, Nat.reduceLT, Int.reduceToNat]
      rw [hInv]
      exact ⟨k1, k2, kM, kO, f0, f1, f2, f3, f4, f5, f6, f7, f8, f9, f10, f11, f12, f13, f14, f15, f16, f17, f18, fun _ => rfl, f20, f21, f22, f23, f24, f25, f26, f27, f28, f29, f30, f31, f32, f33, f34⟩
    · intro L s hL hp hI
      rw [hInv] at hI
      obtain ⟨k1, k2, kM, kO, f0, f1, f2, f3, f4, f5, f6, f7, f8, f9, f10, f11, f12, f13, f14, f15, f16, f17, f18, f19, f20, f21, f22, f23, f24, f25, f26, f27, f28, f29, f30, f31, f32, f33, f34⟩ := hI
      have p14 := f14 (hp 14 (by simp))
      have p19 := f19 (hp 19 (by simp))
      simp -implicitDefEqProofs (maxSteps := 2000000) only [p14, p19, wk, act, asV, ↓reduceIte, Nat.reduceEqDiff, reduceCtorEq, Nat.reduceAdd, Nat.reduceLeDiff, Nat.reduceSub, Nat.reduceMul, List.reduceReplicate, Int.reduceEq, Int.reduceLT, Int.reduceLE, Int.reduceAdd, Int.reduceSub, Int.reduceMul, Nat.reduceLT, Int.reduceToNat]
      rw [hInv]
      exact ⟨k1, k2, kM, kO, f0, f1, f2, f3, f4, f5, f6, f7, f8, f9, f10, f11, f12, f13, f14, f15, f16, f17, f18, f19, fun _ => rfl, f21, f22, f23, f24, f25, f26, f27, f28, f29, f30, f31, f32, f33, f34⟩
    · intro L s hL hp hI
      rw [hInv] at hI
      obtain ⟨k1, k2, kM, kO, f0, f1, f2, f3, f4, f5, f6, f7, f8, f9, f10, f11, f12, f13, f14, f15, f16, f17, f18, f19, f20, f21, f22, f23, f24, f25, f26, f27, f28, f29, f30, f31, f32, f33, f34⟩ := hI
      have p20 := f20 (hp 20 (by simp))
      simp -implicitDefEqProofs (maxSteps := 2000000) only [p20, wk, act, asV, ↓reduceIte, Nat.reduceEqDiff, reduceCtorEq, Nat.reduceAdd, Nat.reduceLeDiff, Nat.reduceSub, Nat.reduceMul, List.reduceReplicate, Int.reduceEq, Int.reduceLT, Int.reduceLE, Int.reduceAdd, Int.reduceSub, Int.reduceMul, Nat.reduceLT, Int.reduceToNat]
      rw [hInv]
      exact ⟨k1, k2, kM, kO, f0, f1, f2, f3, f4, f5, f6, f7, f8, f9, f10, f11, f12, f13, f14, f15, f16, f17, f18, f19, f20, fun _ => rfl, f22, f23, f24, f25, f26, f27, f28, f29, f30, f31, f32, f33, f34⟩
    · intro L s hL hp hI
      rw [hInv] at hI
      obtain ⟨k1, k2, kM, kO, f0, f1, f2, f3, f4, f5, f6, f7, f8, f9, f10, f11, f12, f13, f14, f15, f16, f17, f18, f19, f20, f21, f22, f23, f24, f25, f26, f27, f28, f29, f30, f31, f32, f33, f34⟩ := hI
      have p21 := f21 (hp 21 (by simp))
      simp -implicitDefEqProofs (maxSteps := 2000000) only [p21, k2, wk, act, asV, ↓reduceIte, Nat.reduceEqDiff, reduceCtorEq, Nat.reduceAdd, Nat.reduceLeDiff, Nat.reduceSub, Nat.reduceMul, List.reduceReplicate, Int.reduceEq, Int.reduceLT, Int.reduceLE, Int.reduceAdd, Int.reduceSub, Int.reduceMul, Nat.reduceLT, Int.reduceToNat]
      rw [hInv]
      exact ⟨k1, k2, kM, kO, f0, f1, f2, f3, f4, f5, f6, f7, f8, f9, f10, f11, f12, f13, f14, f15, f16, f17, f18, f19, f20, f21, fun _ => rfl, f23, f24, f25, f26, f27, f28, f29, f30, f31, f32, f33, f34⟩
    · intro L s hL hp hI
      rw [hInv] at hI
      obtain ⟨k1, k2, kM, kO, f0, f1, f2, f3, f4, f5, f6, f7, f8, f9, f10, f11, f12, f13, f14, f15, f16, f17, f18, f19, f20, f21, f22, f23, f24, f25, f26, f27, f28, f29, f30, f31, f32, f33, f34⟩ := hI
      have p21 := f21 (hp 21 (by simp))
      have p22 := f22 (hp 22 (by simp))
      simp -implicitDefEqProofs (maxSteps := 2000000) only [p21, p22, kM, wk, act, asV, ↓reduceIte, Nat.reduceEqDiff, reduceCtorEq, Nat.reduceAdd, Nat.reduceLeDiff, Nat.reduceSub, Nat.reduceMul, List.reduceReplicate, Int.reduceEq, Int.reduceLT, Int.reduceLE, Int.reduceAdd, Int.reduceSub, Int.reduceMul, Nat.reduceLT, Int.reduceToNat]
      rw [hInv]
      exact ⟨k1, k2, kM, kO, f0, f1, f2, f3, f4, f5, f6, f7, f8, f9, f10, f11, f12, f13, f14, f15, f16, f17, f18, f19, f20, f21, f22, fun _ => rfl, f24, f25, f26, f27, f28, f29, f30, f31, f32, f33, f34⟩
    · intro L s hL hp hI
      rw [hInv] at hI
      obtain ⟨k1, k2, kM, kO, f0, f1, f2, f3, f4, f5, f6, f7, f8, f9, f10, f11, f12, f13, f14, f15, f16, f17, f18, f19, f20, f21, f22, f23, f24, f25, f26, f27, f28, f29, f30, f31, f32, f33, f34⟩ := hI
      have p21 := f21 (hp 21 (by simp))
      have p23 := f23 (hp 23 (by simp))
      simp -implicitDefEqProofs (maxSteps := 2000000) only [p21, p23, kM, wk, act, asV, ↓reduceIte, Nat.reduceEqDiff, reduceCtorEq, Nat.reduceAdd, Nat.reduceLeDiff, Nat.reduceSub, Nat.reduceMul, List.reduceReplicate, Int.reduceEq, Int.reduceLT, Int.reduceLE, Int.reduceAdd, Int.reduceSub, Int.reduceMul, Nat.reduceLT, Int.reduceToNat]
      rw [hInv]
      exact ⟨k1, k2, kM, kO, f0, f1, f2, f3, f4, f5, f6, f7, f8, f9, f10, f11, f12, f13, f14, f15, f16, f17, f18, f19, f20, f21, f22, f23, fun _ => rfl, f25, f26, f27, f28, f29, f30, f31, f32, f33, f34⟩
    · intro L s hL hp hI
      rw [hInv] at hI
      obtain ⟨k1, k2, kM, kO, f0, f1, f2, f3, f4, f5, f6, f7, f8, f9, f10, f11, f12, f13, f14, f15, f16, f17, f18, f19, f20, f21, f22, f23, f24, f25, f26, f27, f28, f29, f30, f31, f32, f33, f34⟩ := hI
      have p21 := f21 (hp 21 (by simp))
      have p24 := f24 (hp 24 (by simp))
      simp -implicitDefEqProofs (maxSteps := 2000000) only [p21, p24, kM, lV, v3, wk, act, asV, ↓reduceIte, Nat.reduceEqDiff, reduceCtorEq, Nat.reduceAdd, Nat.reduceLeDiff, Nat.reduceSub, Nat.reduceMul, List.reduceReplicate, Int.reduceEq, Int.reduceLT, Int.reduceLE, Int.reduceAdd, Int.reduceSub, Int.reduceMul, Nat.reduceLT, Int.reduceToNat]
      rw [hInv]
      exact ⟨k1, k2, kM, kO, f0, f1, f2, f3, f4, f5, f6, f7, f8, f9, f10, f11, f12, f13, f14, f15, f16, f17, f18, f19, f20, f21, f22, f23, f24, fun _ => rfl, f26, f27, f28, f29, f30, f31, f32, f33, f34⟩
    · intro L s hL hp hI
      rw [hInv] at hI
      obtain ⟨k1, k2, kM, kO, f0, f1, f2, f3, f4, f5, f6, f7, f8, f9, f10, f11, f12, f13, f14, f15, f16, f17, f18, f19, f20, f21, f22, f23, f24, f25, f26, f27, f28, f29, f30, f31, f32, f33, f34⟩ := hI
      have p21 := f21 (hp 21 (by simp))
      simp -implicitDefEqProofs (maxSteps := 2000000) only [p21, k1, wk, act, asV, ↓reduceIte, Nat.reduceEqDiff, reduceCtorEq, Nat.reduceAdd, Nat.reduceLeDiff, Nat.reduceSub, Nat.reduceMul, List.reduceReplicate, Int.reduceEq, Int.reduceLT, Int.reduceLE, Int.reduceAdd, Int.reduceSub, Int.reduceMul, Nat.reduceLT, Int.reduceToNat]
      rw [hInv]
      exact ⟨k1, k2, kM, kO, f0, f1, f2, f3, f4, f5, f6, f7, f8, f9, f10, f11, f12, f13, f14, f15, f16, f17, f18, f19, f20, f21, f22, f23, f24, f25, fun _ => rfl, f27, f28, f29, f30, f31, f32, f33, f34⟩
    · intro L s hL hp hI
      rw [hInv] at hI
      obtain ⟨k1, k2, kM, kO, f0, f1, f2, f3, f4, f5, f6, f7, f8, f9, f10, f11, f12, f13, f14, f15, f16, f17, f18, f19, f20, f21, f22, f23, f24, f25, f26, f27, f28, f29, f30, f31, f32, f33, f34⟩ := hI
      have p21 := f21 (hp 21 (by simp))
      have p26 := f26 (hp 26 (by simp))
      simp -implicitDefEqProofs (maxSteps := 2000000) only [p21, p26, wk, act, asV, ↓reduceIte, Nat.reduceEqDiff, reduceCtorEq, Nat.reduceAdd, Nat.reduceLeDiff, Nat.reduceSub, Nat.reduceMul, List.reduceReplicate, Int.reduceEq, Int.reduceLT, Int.reduceLE, Int.reduceAdd, Int.reduceSub, Int.reduceMul, Nat.reduceLT, Int.reduceToNat]
      refine CallnL.of (by simp -implicitDefEqProofs (maxSteps := 2000000) only [p21, p26, wk, act, asV, ↓reduceIte, Nat.reduceEqDiff, reduceCtorEq, Nat.reduceAdd, Nat.reduceLeDiff, Nat.reduceSub, Nat.reduceMul, List.reduceReplicate, Int.reduceEq, Int.reduceLT, Int.reduceLE, Int.reduceAdd, Int.reduceSub, Int.reduceMul, Nat.reduceLT, Int.reduceToNat]; first | done | rfl) (last_ok (by decide) hxs (by decide) kO) ?_
      rintro _ h' ⟨rfl, hfr⟩
      simp -implicitDefEqProofs (maxSteps := 2000000) only [wk, act, asV, ↓reduceIte, Nat.reduceEqDiff, reduceCtorEq, Nat.reduceAdd, Nat.reduceLeDiff, Nat.reduceSub, Nat.reduceMul, List.reduceReplicate, Int.reduceEq, Int.reduceLT, Int.reduceLE, Int.reduceAdd, Int.reduceSub, Int.reduceMul, Nat.reduceLT, Int.reduceToNat]
      rw [hInv]
      exact ⟨k1, k2, (hfr 5009 (.inr (by decide))).trans kM, ObjE_fr kO (hfr 4 (.inl (by decide))) (hfr 1041 (.inl (by decide))), f0, f1, f2, f3, f4, f5, f6, f7, f8, f9, f10, f11, f12, f13, f14, f15, f16, f17, f18, f19, f20, f21, f22, f23, f24, f25, f26, fun _ => rfl, f28, f29, f30, f31, f32, f33, f34⟩
    · intro L s hL hp hI
      rw [hInv] at hI
      obtain ⟨k1, k2, kM, kO, f0, f1, f2, f3, f4, f5, f6, f7, f8, f9, f10, f11, f12, f13, f14, f15, f16, f17, f18, f19, f20, f21, f22, f23, f24, f25, f26, f27, f28, f29, f30, f31, f32, f33, f34⟩ := hI
      have p21 := f21 (hp 21 (by simp))
      have p25 := f25 (hp 25 (by simp))
      have p27 := f27 (hp 27 (by simp))
      simp -implicitDefEqProofs (maxSteps := 2000000) only [p21, p25, p27, q2, f2, wk, act, asV, ↓reduceIte, Nat.reduceEqDiff, reduceCtorEq, Nat.reduceAdd, Nat.reduceLeDiff, Nat.reduceSub, Nat.reduceMul, List.reduceReplicate, Int.reduceEq, Int.reduceLT, Int.reduceLE, Int.reduceAdd, Int.reduceSub, Int.reduceMul, Nat.reduceLT, Int.reduceToNat]
      rw [hInv]
      exact ⟨k1, k2, kM, kO, f0, f1, f2, f3, f4, f5, f6, f7, f8, f9, f10, f11, f12, f13, f14, f15, f16, f17, f18, f19, f20, f21, f22, f23, f24, f25, f26, f27, fun _ => rfl, f29, f30, f31, f32, f33, f34⟩
    · intro L s hL hp hI
      rw [hInv] at hI
      obtain ⟨k1, k2, kM, kO, f0, f1, f2, f3, f4, f5, f6, f7, f8, f9, f10, f11, f12, f13, f14, f15, f16, f17, f18, f19, f20, f21, f22, f23, f24, f25, f26, f27, f28, f29, f30, f31, f32, f33, f34⟩ := hI
      have p21 := f21 (hp 21 (by simp))
      have p28 := f28 (hp 28 (by simp))
      simp -implicitDefEqProofs (maxSteps := 2000000) only [p21, p28, wk, act, asV, ↓reduceIte, Nat.reduceEqDiff, reduceCtorEq, Nat.reduceAdd, Nat.reduceLeDiff, Nat.reduceSub, Nat.reduceMul, List.reduceReplicate, Int.reduceEq, Int.reduceLT, Int.reduceLE, Int.reduceAdd, Int.reduceSub, Int.reduceMul, Nat.reduceLT, Int.reduceToNat]
      rw [hInv]
      exact ⟨k1, k2, kM, kO, f0, f1, f2, f3, f4, f5, f6, f7, f8, f9, f10, f11, f12, f13, f14, f15, f16, f17, f18, f19, f20, f21, f22, f23, f24, f25, f26, f27, f28, fun _ => rfl, f30, f31, f32, f33, f34⟩
    · intro L s hL hp hI
      rw [hInv] at hI
      obtain ⟨k1, k2, kM, kO, f0, f1, f2, f3, f4, f5, f6, f7, f8, f9, f10, f11, f12, f13, f14, f15, f16, f17, f18, f19, f20, f21, f22, f23, f24, f25, f26, f27, f28, f29, f30, f31, f32, f33, f34⟩ := hI
      have p29 := f29 (hp 29 (by simp))
      simp -implicitDefEqProofs (maxSteps := 2000000) only [p29, wk, act, asV, ↓reduceIte, Nat.reduceEqDiff, reduceCtorEq, Nat.reduceAdd, Nat.reduceLeDiff, Nat.reduceSub, Nat.reduceMul, List.reduceReplicate, Int.reduceEq, Int.reduceLT, Int.reduceLE, Int.reduceAdd, Int.reduceSub, Int.reduceMul, Nat.reduceLT, Int.reduceToNat]
      rw [hInv]
      exact ⟨k1, k2, kM, kO, f0, f1, f2, f3, f4, f5, f6, f7, f8, f9, f10, f11, f12, f13, f14, f15, f16, f17, f18, f19, f20, f21, f22, f23, f24, f25, f26, f27, f28, f29, fun _ => rfl, f31, f32, f33, f34⟩
    · intro L s hL hp hI
      rw [hInv] at hI
      obtain ⟨k1, k2, kM, kO, f0, f1, f2, f3, f4, f5, f6, f7, f8, f9, f10, f11, f12, f13, f14, f15, f16, f17, f18, f19, f20, f21, f22, f23, f24, f25, f26, f27, f28, f29, f30, f31, f32, f33, f34⟩ := hI
      have p30 := f30 (hp 30 (by simp))
      simp -implicitDefEqProofs (maxSteps := 2000000) only [p30, k2, wk, act, asV, ↓reduceIte, Nat.reduceEqDiff, reduceCtorEq, Nat.reduceAdd, Nat.reduceLeDiff, Nat.reduceSub, Nat.reduceMul, List.reduceReplicate, Int.reduceEq, Int.reduceLT, Int.reduceLE, Int.reduceAdd, Int.reduceSub, Int.reduceMul, Nat.reduceLT, Int.reduceToNat]
      rw [hInv]
      exact ⟨k1, k2, kM, kO, f0, f1, f2, f3, f4, f5, f6, f7, f8, f9, f10, f11, f12, f13, f14, f15, f16, f17, f18, f19, f20, f21, f22, f23, f24, f25, f26, f27, f28, f29, f30, fun _ => rfl, f32, f33, f34⟩
    · intro L s hL hp hI
      rw [hInv] at hI
      obtain ⟨k1, k2, kM, kO, f0, f1, f2, f3, f4, f5, f6, f7, f8, f9, f10, f11, f12, f13, f14, f15, f16, f17, f18, f19, f20, f21, f22, f23, f24, f25, f26, f27, f28, f29, f30, f31, f32, f33, f34⟩ := hI
      have p30 := f30 (hp 30 (by simp))
      have p31 := f31 (hp 31 (by simp))
      repeat' (first | simp -implicitDefEqProofs (maxSteps := 2000000) only [p30, p31, kM, lV, tV, pV, wk, act, asV, ↓reduceIte, Nat.reduceEqDiff, reduceCtorEq, Nat.reduceAdd, Nat.reduceLeDiff, Nat.reduceSub, Nat.reduceMul, List.reduceReplicate, Int.reduceEq, Int.reduceLT, Int.reduceLE, Int.reduceAdd, Int.reduceSub, Int.reduceMul, Nat.reduceLT, Int.reduceToNat] | ((first | ((with_reducible refine CallL.gate ?_); apply CallL.of) | ((with_reducible refine CallpL.gate ?_); apply CallpL.of) | ((with_reducible refine CallP.gate ?_); apply CallP.of) | ((with_reducible refine CallpP.gate ?_); apply CallpP.of)); (case h1 => (simp -implicitDefEqProofs (maxSteps := 2000000) only [p30, p31, kM, lV, tV, pV, wk, act, asV, ↓reduceIte, Nat.reduceEqDiff, reduceCtorEq, Nat.reduceAdd, Nat.reduceLeDiff, Nat.reduceSub, Nat.reduceMul, List.reduceReplicate, Int.reduceEq, Int.reduceLT, Int.reduceLE, Int.reduceAdd, Int.reduceSub, Int.reduceMul, Nat.reduceLT, Int.reduceToNat]; first | done | (with_reducible rfl))); (case h2 => (first | exact c3)); (case h3 => simp -implicitDefEqProofs (maxSteps := 2000000) only [p30, p31, kM, lV, tV, pV, wk, act, asV, ↓reduceIte, Nat.reduceEqDiff, reduceCtorEq, Nat.reduceAdd, Nat.reduceLeDiff, Nat.reduceSub, Nat.reduceMul, List.reduceReplicate, Int.reduceEq, Int.reduceLT, Int.reduceLE, Int.reduceAdd, Int.reduceSub, Int.reduceMul, Nat.reduceLT, Int.reduceToNat])))
      rw [hInv]
      exact ⟨k1, k2, kM, kO, f0, f1, f2, f3, f4, f5, f6, f7, f8, f9, f10, f11, f12, f13, f14, f15, f16, f17, f18, f19, f20, f21, f22, f23, f24, f25, f26, f27, f28, f29, f30, f31, fun _ => rfl, f33, f34⟩
    · intro L s hL hp hI
      rw [hInv] at hI
      obtain ⟨k1, k2, kM, kO, f0, f1, f2, f3, f4, f5, f6, f7, f8, f9, f10, f11, f12, f13, f14, f15, f16, f17, f18, f19, f20, f21, f22, f23, f24, f25, f26, f27, f28, f29, f30, f31, f32, f33, f34⟩ := hI
      have p30 := f30 (hp 30 (by simp))
      have p32 := f32 (hp 32 (by simp))
      simp -implicitDefEqProofs (maxSteps := 2000000) only [p30, p32, wk, act, asV, ↓reduceIte, Nat.reduceEqDiff, reduceCtorEq, Nat.reduceAdd, Nat.reduceLeDiff, Nat.reduceSub, Nat.reduceMul, List.reduceReplicate, Int.reduceEq, Int.reduceLT, Int.reduceLE, Int.reduceAdd, Int.reduceSub, Int.reduceMul, Nat.reduceLT, Int.reduceToNat]
      rw [hInv]
      exact ⟨k1, k2, kM, kO, f0, f1, f2, f3, f4, f5, f6, f7, f8, f9, f10, f11, f12, f13, f14, f15, f16, f17, f18, f19, f20, f21, f22, f23, f24, f25, f26, f27, f28, f29, f30, f31, f32, fun _ => rfl, f34⟩
    · intro L s hL hp hI
      rw [hInv] at hI
      obtain ⟨k1, k2, kM, kO, f0, f1, f2, f3, f4, f5, f6, f7, f8, f9, f10, f11, f12, f13, f14, f15, f16, f17, f18, f19, f20, f21, f22, f23, f24, f25, f26, f27, f28, f29, f30, f31, f32, f33, f34⟩ := hI
      have p30 := f30 (hp 30 (by simp))
      have p33 := f33 (hp 33 (by simp))
      simp -implicitDefEqProofs (maxSteps := 2000000) only [p30, p33, wk, act, asV, ↓reduceIte, Nat.reduceEqDiff, reduceCtorEq, Nat.reduceAdd, Nat.reduceLeDiff, Nat.reduceSub, Nat.reduceMul, List.reduceReplicate, Int.reduceEq, Int.reduceLT, Int.reduceLE, Int.reduceAdd, Int.reduceSub, Int.reduceMul, Nat.reduceLT, Int.reduceToNat]
      rw [hInv]
      exact ⟨k1, k2, kM, kO, f0, f1, f2, f3, f4, f5, f6, f7, f8, f9, f10, f11, f12, f13, f14, f15, f16, f17, f18, f19, f20, f21, f22, f23, f24, f25, f26, f27, f28, f29, f30, f31, f32, f33, fun _ => rfl⟩
  · intro s hI
    rw [hInv] at hI
    obtain ⟨k1, k2, kM, kO, f0, f1, f2, f3, f4, f5, f6, f7, f8, f9, f10, f11, f12, f13, f14, f15, f16, f17, f18, f19, f20, f21, f22, f23, f24, f25, f26, f27, f28, f29, f30, f31, f32, f33, f34⟩ := hI
    have f34 := f34 (by decide)
    repeat' (first | simp -implicitDefEqProofs (maxSteps := 2000000) only [k1, k2, kM, f34, lV, sV, lV3, tV3, pV3, wk, act, asV, ↓reduceIte, Nat.reduceEqDiff, reduceCtorEq, Nat.reduceAdd, Nat.reduceLeDiff, Nat.reduceSub, Nat.reduceMul, List.reduceReplicate, Int.reduceEq, Int.reduceLT, Int.reduceLE, Int.reduceAdd, Int.reduceSub, Int.reduceMul, Nat.reduceLT, Int.reduceToNat] | ((first | ((with_reducible refine CallL.gate ?_); apply CallL.of) | ((with_reducible refine CallpL.gate ?_); apply CallpL.of) | ((with_reducible refine CallP.gate ?_); apply CallP.of) | ((with_reducible refine CallpP.gate ?_); apply CallpP.of)); (case h1 => (simp -implicitDefEqProofs (maxSteps := 2000000) only [k1, k2, kM, f34, lV, sV, lV3, tV3, pV3, wk, act, asV, ↓reduceIte, Nat.reduceEqDiff, reduceCtorEq, Nat.reduceAdd, Nat.reduceLeDiff, Nat.reduceSub, Nat.reduceMul, List.reduceReplicate, Int.reduceEq, Int.reduceLT, Int.reduceLE, Int.reduceAdd, Int.reduceSub, Int.reduceMul, Nat.reduceLT, Int.reduceToNat]; first | done | (with_reducible rfl))); (case h2 => (first | exact c4)); (case h3 => simp -implicitDefEqProofs (maxSteps := 2000000) only [k1, k2, kM, f34, lV, sV, lV3, tV3, pV3, wk, act, asV, ↓reduceIte, Nat.reduceEqDiff, reduceCtorEq, Nat.reduceAdd, Nat.reduceLeDiff, Nat.reduceSub, Nat.reduceMul, List.reduceReplicate, Int.reduceEq, Int.reduceLT, Int.reduceLE, Int.reduceAdd, Int.reduceSub, Int.reduceMul, Nat.reduceLT, Int.reduceToNat])))
end Go.Proofs.Ytkphojcmjffccaa
