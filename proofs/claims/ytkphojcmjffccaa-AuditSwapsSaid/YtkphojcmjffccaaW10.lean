/- The law AuditTurned. -/
import Derived.Test.YtkphojcmjffccaaW9
import Derived.Test.YtkphojcmjffccaaK6
import Derived.Test.YtkphojcmjffccaaE31
import Derived.Test.YtkphojcmjffccaaM16
set_option linter.unusedVariables false
set_option linter.unusedSimpArgs false
set_option linter.unusedSectionVars false
set_option maxRecDepth 100000
set_option maxHeartbeats 8000000
namespace Go.Proofs.Ytkphojcmjffccaa
open Go.RowKit

/-- a reply's numbers, brought into bounds -/
def tR (x : Sd) : Rp := ⟨(modN x.r.id 1000 : Nat), (modN x.r.e 256 : Nat), .plain, x.r.d⟩
theorem tR_good (x : Sd) : recE (tR x).id (tR x).e = 0 := by
  have h1 := modN_lt x.r.id (n := 1000) (by decide)
  have h2 := modN_lt x.r.e (n := 256) (by decide)
  exact recE_small (by simp only [tR]; omega)
def turns (xs : List Sd) : List En := xs.foldl (fun es x => es ++ [newE es x.asked (tR x)]) []
theorem turns_snoc (xs : List Sd) (x : Sd) : turns (xs ++ [x]) = turns xs ++ [newE (turns xs) x.asked (tR x)] := by simp [turns]
theorem turns_facts : ∀ (n : Nat) (xs : List Sd), xs.length = n → (turns xs).length = n ∧ (∀ e ∈ turns xs, e.Ok ∧ 0 ≤ e.id ∧ e.id < 1000 ∧ 0 ≤ e.e ∧ e.e < 256) ∧ verG y32 (turns xs) 0 = -1
  | 0, xs, h => by
    obtain rfl := List.eq_nil_of_length_eq_zero h
    exact ⟨rfl, by simp [turns], rfl⟩
  | n + 1, xs, h => by
    rcases List.eq_nil_or_concat xs with rfl | ⟨A, x, rfl⟩
    · simp at h
    rw [List.concat_eq_append] at h ⊢
    obtain ⟨h1, h2, h3⟩ := turns_facts n A (by simpa using h)
    rw [turns_snoc]
    refine ⟨by simp [h1], ?_, verG_add h3 _ _ (tR_good x)⟩
    intro e he
    rcases List.mem_append.1 he with he | he
    · exact h2 e he
    · obtain rfl := List.mem_singleton.1 he
      have k1 := modN_lt x.r.id (n := 1000) (by decide)
      have k2 := modN_lt x.r.e (n := 256) (by decide)
      exact ⟨newE_ok _ _ _, by simp only [newE, tR]; omega, by simp only [newE, tR]; omega, by simp only [newE, tR]; omega, by simp only [newE, tR]; omega⟩
theorem fairS_of {xs : List Sd} (h : fairS xs = true) : xs.length ≤ 30 ∧ ∀ x ∈ xs, x.asked.length ≤ 300 ∧ x.r.d.length ≤ 600 := by
  unfold fairS at h
  rw [Bool.and_eq_true, List.all_eq_true] at h
  exact ⟨by simpa using h.2, fun x hx => by have := h.1 x hx; simpa using this⟩

theorem xor_i64 (e : Int) (h : 0 ≤ e ∧ e < 256) : ∃ z, bitsI .xor .i64 e 1 = some z ∧ 0 ≤ z ∧ z ≤ 255 := by
  have key : ∀ e : Fin 256, (bitsI .xor .i64 ((e : Nat) : Int) 1).any (fun z => decide (0 ≤ z ∧ z ≤ 255)) = true := by decide +kernel
  have := key ⟨e.toNat, by omega⟩
  rw [Option.any_eq_true] at this
  obtain ⟨z, h1, h2⟩ := this
  refine ⟨z, ?_, by simpa using h2⟩
  rw [← h1]
  congr 1
  show e = ((e.toNat : Nat) : Int)
  omega
theorem xor_u8 (b : UInt8) : bitsI .xor .u8 ((b.toNat : Nat) : Int) 1 = some (((b ^^^ 1).toNat : Nat) : Int) := by
  have key : ∀ e : Fin 256, bitsI .xor .u8 ((e : Nat) : Int) 1 = some (((UInt8.ofNat e ^^^ 1).toNat : Nat) : Int) := by decide +kernel
  have := key ⟨b.toNat, b.toNat_lt⟩
  rw [UInt8.ofNat_toNat] at this
  exact this
theorem xor_ne (b : UInt8) : ¬ b ^^^ 1 = b := by
  have key : ∀ e : Fin 256, ¬ UInt8.ofNat e ^^^ 1 = UInt8.ofNat e := by decide +kernel
  have := key ⟨b.toNat, b.toNat_lt⟩
  rw [UInt8.ofNat_toNat] at this
  exact this
theorem t5_end {s : St} {n k v10 ver : Nat} {A B : List En} {x : En} (hl : (A ++ x :: B).length = n) (hn : n ≤ 30) (hk : A.length = k) (hes : ∀ e ∈ A ++ x :: B, e.Ok) (hr : recE x.id x.e = 0) (hbad : ¬ okAt (lastE A) x → verG y32 (A ++ x :: B) 0 = (k : Int))
    (k8 : s.t 8 = .row 5009 0 n 66 ver) (kh8 : s.h 5009 = ⟨ver, true, true, true, enL A ++ enC x ++ enL B⟩) (k9 : s.t 9 = .int .i64 (k : Nat)) (k10 : s.t 10 = .ptr 10 0 v10) (kh10 : s.h 10 = ⟨v10, true, true, false, bl (lastE A)⟩) :
    Wp (RCs Try.prog) m5_35 (Post [.tmp 4] [.bool true]) s := by
  have hxi := hes x (by simp)
  have eV : enL A ++ enC x ++ enL B = enL (A ++ x :: B) := by rw [enL_append, List.append_assoc]; rfl
  have hA := fun e (h : e ∈ A) => hes e (by simp [h])
  have lA := enL_length hA
  rw [hk] at lA
  have hk' : (k : Int) < n := by rw [← hl, ← hk]; simp; omega
  have lE := enL_length hes
  have tE := enL_take _ hes
  have pE := enL_pur (A ++ x :: B)
  have c3 := verify_ok .plain (A ++ x :: B) hes (by omega)
  rw [hl] at lE tE c3
  have w8 : ∀ j, List.drop (k * 66 + j) (enL A ++ enC x ++ enL B) = List.drop j (enC x ++ enL B) := fun j => by
    rw [List.append_assoc, List.drop_append, List.drop_of_length_le (by omega), List.nil_append, lA]; congr 1; omega
  obtain ⟨p1, p2, p3, p4, _⟩ := en_takesA hxi (enL B)
  have p1' : List.take 32 (List.drop (k * 66) (enL A ++ enC x ++ enL B)) = bl x.asked := by have := w8 0; rw [Nat.add_zero] at this; rw [this]; exact p1
  have p2' : List.take 1 (List.drop (k * 66 + 32) (enL A ++ enC x ++ enL B)) = [.int .i64 x.id] := by rw [w8, p2]
  have p3' : List.take 1 (List.drop (k * 66 + 33) (enL A ++ enC x ++ enL B)) = [.int .i64 x.e] := by rw [w8, p3]
  have p4' : List.take 32 (List.drop (k * 66 + 34) (enL A ++ enC x ++ enL B)) = bl x.link := by rw [w8, p4]
  rw [eV] at p1' p2' p3' p4' kh8
  have hA32 := lastE_len hA
  obtain ⟨h, hh⟩ : ∃ h, h = lastE A := ⟨_, rfl⟩
  rw [← hh] at hA32 kh10 hbad
  have kb1 : k * 66 + 32 ≤ n * 66 := by omega
  have kb2 : k * 66 + 32 + 1 ≤ n * 66 := by omega
  have kb3 : k * 66 + 33 + 1 ≤ n * 66 := by omega
  have kb4 : k * 66 + 34 + 32 ≤ n * 66 := by omega
  have c1 := record_ok x.asked hxi.a (rpE x.id x.e) (fun h => by cases h)
  have rl := recR_le x.asked hxi.a x.id x.e
  have c2 := step_ok .full (by decide) h [(.plain, recR x.asked x.id x.e)] hA32 (by simp) (by rw [one_part]; omega)
  have ep : pl [(Fl.plain, recR x.asked x.id x.e)] = [.sl .plain (recR x.asked x.id x.e).length (bl (recR x.asked x.id x.e))] := rfl
  rw [one_part, ep, List.length_cons, List.length_nil] at c2
  have dl : (shaB (h ++ recR x.asked x.id x.e)).length = 32 := digest_length _
  have q1 := eqL_by (shaB (h ++ recR x.asked x.id x.e)) x.link (by rw [dl, hxi.l])
  have q2 := fitR_by dl
  have hlh : (bl h).length = 32 := by rw [bl_length, hA32]
  have th : List.take 32 (bl h) = bl h := List.take_of_length_le (by omega)
  have hbad' : ¬ (shaB (h ++ recR x.asked x.id x.e) = x.link) → verG y32 (A ++ x :: B) 0 = (k : Int) := fun hne => hbad (fun ho => hne ho.2)
  obtain ⟨G, hG⟩ : ∃ G, G = shaB (h ++ recR x.asked x.id x.e) := ⟨_, rfl⟩
  rw [← hG] at c2 dl q1 q2 hbad'
  have e0 : (rpE x.id x.e).id = x.id := rfl
  have e1 : (rpE x.id x.e).e = x.e := rfl
  rw [e0, e1, hr] at c1
  obtain ⟨R, hR⟩ : ∃ R, R = recR x.asked x.id x.e := ⟨_, rfl⟩
  rw [← hR] at c1 c2
  have tR := take_bl R
  have hlR : (bl R).length = R.length := bl_length R
  simp only [rc, rpE, List.length_nil, bl_nil] at c1
  obtain ⟨V, hV⟩ : ∃ V, V = enL (A ++ x :: B) := ⟨_, rfl⟩
  rw [← hV] at p1' p2' p3' p4' kh8 lE tE pE c3
  by_cases hq : G = x.link
  · rw [decide_eq_true hq] at q1
    repeat' (first | simp -implicitDefEqProofs (maxSteps := 2000000) only [m5_27, m5_28, m5_29, m5_30, m5_31, m5_32, m5_33, m5_34, m5_35, k8, k9, k10, kh8, kh10, hk', p1', p2', p3', p4', kb1, kb2, kb3, kb4, lE, tE, pE, q1, q2, hlh, th, tR, hlR, bl_scal, bl_pur, wk, act, asV, ↓reduceIte, Nat.reduceEqDiff, reduceCtorEq, Nat.reduceAdd, Nat.reduceLeDiff, Nat.reduceSub, Nat.reduceMul, List.reduceReplicate, Int.reduceEq, Int.reduceLT, Int.reduceLE, Int.reduceAdd, Int.reduceSub, Int.reduceMul, Nat.reduceLT, Int.reduceToNat] | ((first | ((with_reducible refine CallL.gate ?_); apply CallL.of) | ((with_reducible refine CallpL.gate ?_); apply CallpL.of) | ((with_reducible refine CallP.gate ?_); apply CallP.of) | ((with_reducible refine CallpP.gate ?_); apply CallpP.of)); (case h1 => (simp -implicitDefEqProofs (maxSteps := 2000000) only [m5_27, m5_28, m5_29, m5_30, m5_31, m5_32, m5_33, m5_34, m5_35, k8, k9, k10, kh8, kh10, hk', p1', p2', p3', p4', kb1, kb2, kb3, kb4, lE, tE, pE, q1, q2, hlh, th, tR, hlR, bl_scal, bl_pur, wk, act, asV, ↓reduceIte, Nat.reduceEqDiff, reduceCtorEq, Nat.reduceAdd, Nat.reduceLeDiff, Nat.reduceSub, Nat.reduceMul, List.reduceReplicate, Int.reduceEq, Int.reduceLT, Int.reduceLE, Int.reduceAdd, Int.reduceSub, Int.reduceMul, Nat.reduceLT, Int.reduceToNat]; first | done | (with_reducible rfl))); (case h2 => (first | exact c1 | exact c2 | exact wakesA_ok)); (case h3 => simp -implicitDefEqProofs (maxSteps := 2000000) only [m5_27, m5_28, m5_29, m5_30, m5_31, m5_32, m5_33, m5_34, m5_35, k8, k9, k10, kh8, kh10, hk', p1', p2', p3', p4', kb1, kb2, kb3, kb4, lE, tE, pE, q1, q2, hlh, th, tR, hlR, bl_scal, bl_pur, wk, act, asV, ↓reduceIte, Nat.reduceEqDiff, reduceCtorEq, Nat.reduceAdd, Nat.reduceLeDiff, Nat.reduceSub, Nat.reduceMul, List.reduceReplicate, Int.reduceEq, Int.reduceLT, Int.reduceLE, Int.reduceAdd, Int.reduceSub, Int.reduceMul, Nat.reduceLT, Int.reduceToNat])))
  · rw [decide_eq_false hq] at q1
    rw [hbad' hq] at c3
    repeat' (first | simp -implicitDefEqProofs (maxSteps := 2000000) only [m5_27, m5_28, m5_29, m5_30, m5_31, m5_32, m5_33, m5_34, m5_35, k8, k9, k10, kh8, kh10, hk', p1', p2', p3', p4', kb1, kb2, kb3, kb4, lE, tE, pE, q1, q2, hlh, th, tR, hlR, bl_scal, bl_pur, wk, act, asV, ↓reduceIte, Nat.reduceEqDiff, reduceCtorEq, Nat.reduceAdd, Nat.reduceLeDiff, Nat.reduceSub, Nat.reduceMul, List.reduceReplicate, Int.reduceEq, Int.reduceLT, Int.reduceLE, Int.reduceAdd, Int.reduceSub, Int.reduceMul, Nat.reduceLT, Int.reduceToNat] | ((first | ((with_reducible refine CallL.gate ?_); apply CallL.of) | ((with_reducible refine CallpL.gate ?_); apply CallpL.of) | ((with_reducible refine CallP.gate ?_); apply CallP.of) | ((with_reducible refine CallpP.gate ?_); apply CallpP.of)); (case h1 => (simp -implicitDefEqProofs (maxSteps := 2000000) only [m5_27, m5_28, m5_29, m5_30, m5_31, m5_32, m5_33, m5_34, m5_35, k8, k9, k10, kh8, kh10, hk', p1', p2', p3', p4', kb1, kb2, kb3, kb4, lE, tE, pE, q1, q2, hlh, th, tR, hlR, bl_scal, bl_pur, wk, act, asV, ↓reduceIte, Nat.reduceEqDiff, reduceCtorEq, Nat.reduceAdd, Nat.reduceLeDiff, Nat.reduceSub, Nat.reduceMul, List.reduceReplicate, Int.reduceEq, Int.reduceLT, Int.reduceLE, Int.reduceAdd, Int.reduceSub, Int.reduceMul, Nat.reduceLT, Int.reduceToNat]; first | done | (with_reducible rfl))); (case h2 => (first | exact c1 | exact c2 | exact c3 | exact wakesA_ok)); (case h3 => simp -implicitDefEqProofs (maxSteps := 2000000) only [m5_27, m5_28, m5_29, m5_30, m5_31, m5_32, m5_33, m5_34, m5_35, k8, k9, k10, kh8, kh10, hk', p1', p2', p3', p4', kb1, kb2, kb3, kb4, lE, tE, pE, q1, q2, hlh, th, tR, hlR, bl_scal, bl_pur, wk, act, asV, ↓reduceIte, Nat.reduceEqDiff, reduceCtorEq, Nat.reduceAdd, Nat.reduceLeDiff, Nat.reduceSub, Nat.reduceMul, List.reduceReplicate, Int.reduceEq, Int.reduceLT, Int.reduceLE, Int.reduceAdd, Int.reduceSub, Int.reduceMul, Nat.reduceLT, Int.reduceToNat])))

theorem t5_tail {s : St} {n k v3 v10 : Nat} {n0 n1 : UInt8} {ver : Nat} {es : List En} (hl : es.length = n) (hn : n ≤ 30) (hk : k < n) (hes : ∀ e ∈ es, e.Ok ∧ 0 ≤ e.id ∧ e.id < 1000 ∧ 0 ≤ e.e ∧ e.e < 256) (hv : verG y32 es 0 = -1)
    (k3 : s.t 3 = .ptr 3 0 v3) (kh3 : s.h 3 = ⟨v3, true, true, false, bl [n0, n1]⟩) (k8 : s.t 8 = .row 5009 0 n 66 ver) (kh8 : s.h 5009 = ⟨ver, true, true, true, enL es⟩) (k9 : s.t 9 = .int .i64 (k : Nat)) (k10 : s.t 10 = .ptr 10 0 v10) (kh10 : s.h 10 = ⟨v10, true, true, false, bl (lastE (es.take k))⟩) :
    Wp (RCs Try.prog) m5_36 (Post [.tmp 4] [.bool true]) s := by
  have hok := fun e h => (hes e h).1
  have hk1 : k < es.length := by omega
  have hk' : (k : Int) < n := by omega
  have u2 : bl [n0, n1] = [.int .u8 (n0.toNat : Nat), .int .u8 (n1.toNat : Nat)] := rfl
  have eS := enL_setAt hok hk1
  have lE := enL_length hok
  rw [hl] at lE
  have kt : (es.take k).length = k := by rw [List.length_take]; omega
  have lt : (enL (es.take k)).length = k * 66 := by rw [enL_length (fun e h => hok e (List.mem_of_mem_take h)), kt]
  have hbad : ∀ x : En, ¬ okAt (lastE (es.take k)) x → verG y32 (es.take k ++ x :: es.drop (k + 1)) 0 = (k : Int) := fun x hx => verG_at hv (by omega) x hx
  have hgood := okAt_of hv hk1
  obtain ⟨ek, i0, i1, e0, e1⟩ := hes _ (List.getElem_mem hk1)
  have hmem : ∀ y : En, y.Ok → ∀ e ∈ es.take k ++ y :: es.drop (k + 1), e.Ok := by
    intro y hy e he
    rcases List.mem_append.1 he with he | he
    · exact hok e (List.mem_of_mem_take he)
    · rcases List.mem_cons.1 he with rfl | he
      · exact hy
      · exact hok e (List.mem_of_mem_drop he)
  have hlen : ∀ y : En, (es.take k ++ y :: es.drop (k + 1)).length = n := fun y => by
    rw [List.length_append, kt, List.length_cons, List.length_drop]; omega
  obtain ⟨x, hx⟩ : ∃ x, x = es[k] := ⟨_, rfl⟩
  rw [← hx] at eS hgood ek i0 i1 e0 e1
  obtain ⟨A, hA⟩ : ∃ A, A = es.take k := ⟨_, rfl⟩
  obtain ⟨B, hB⟩ : ∃ B, B = es.drop (k + 1) := ⟨_, rfl⟩
  rw [← hA, ← hB] at eS hbad hmem hlen
  rw [← hA] at lt hgood kh10 kt
  obtain ⟨a1, a2⟩ := en_id (B := B) ek lt
  obtain ⟨b1, b2⟩ := en_e (B := B) ek lt
  have hAB := lE
  rw [eS] at kh8 hAB
  have kb2 : k * 66 + 32 + 1 ≤ n * 66 := by omega
  have kb3 : k * 66 + 33 + 1 ≤ n * 66 := by omega
  have m3 : n1.toNat % 3 = 0 ∨ n1.toNat % 3 = 1 ∨ n1.toNat % 3 = 2 := by omega
  have r3 : ((n1.toNat : Nat) : Int).tmod 3 = ((n1.toNat % 3 : Nat) : Int) := rfl
  obtain ⟨V, hV⟩ : ∃ V, V = enL A ++ enC x ++ enL B := ⟨_, rfl⟩
  rw [← hV] at kh8 hAB a1 a2 b1 b2
  rcases m3 with m3 | m3 | m3
  · rw [m3] at r3
    have wx : IntKind.i64.wrap (x.id + 1) = x.id + 1 := by rw [IntKind.wrap_i64]; omega
    have a3 := a2 (x.id + 1)
    simp -implicitDefEqProofs (maxSteps := 2000000) only [m5_15, m5_16, m5_17, m5_18, m5_19, m5_20, m5_21, m5_22, m5_23, m5_24, m5_25, m5_26, m5_36, k3, kh3, k8, kh8, k9, k10, u2, r3, hk', hAB, kb2, a1, wx, wk, act, asV, ↓reduceIte, Nat.reduceEqDiff, reduceCtorEq, Nat.reduceAdd, Nat.reduceLeDiff, Nat.reduceSub, Nat.reduceMul, List.reduceReplicate, Int.reduceEq, Int.reduceLT, Int.reduceLE, Int.reduceAdd, Int.reduceSub, Int.reduceMul, Nat.reduceLT, Int.reduceToNat]
    refine t5_end (ver := ver) (v10 := v10) (x := { x with id := x.id + 1 }) (hlen _) hn kt (hmem _ ⟨ek.a, ek.l⟩) (recE_small (by simp only []; omega)) (hbad _) (by simp -implicitDefEqProofs (maxSteps := 2000000) only [k8, wk, act, asV, ↓reduceIte, Nat.reduceEqDiff, reduceCtorEq, Nat.reduceAdd, Nat.reduceLeDiff, Nat.reduceSub, Nat.reduceMul, List.reduceReplicate, Int.reduceEq, Int.reduceLT, Int.reduceLE, Int.reduceAdd, Int.reduceSub, Int.reduceMul, Nat.reduceLT, Int.reduceToNat]) (by simp -implicitDefEqProofs (maxSteps := 2000000) only [a3, wk, act, asV, ↓reduceIte, Nat.reduceEqDiff, reduceCtorEq, Nat.reduceAdd, Nat.reduceLeDiff, Nat.reduceSub, Nat.reduceMul, List.reduceReplicate, Int.reduceEq, Int.reduceLT, Int.reduceLE, Int.reduceAdd, Int.reduceSub, Int.reduceMul, Nat.reduceLT, Int.reduceToNat]) (by simp -implicitDefEqProofs (maxSteps := 2000000) only [k9, wk, act, asV, ↓reduceIte, Nat.reduceEqDiff, reduceCtorEq, Nat.reduceAdd, Nat.reduceLeDiff, Nat.reduceSub, Nat.reduceMul, List.reduceReplicate, Int.reduceEq, Int.reduceLT, Int.reduceLE, Int.reduceAdd, Int.reduceSub, Int.reduceMul, Nat.reduceLT, Int.reduceToNat]) (by simp -implicitDefEqProofs (maxSteps := 2000000) only [k10, wk, act, asV, ↓reduceIte, Nat.reduceEqDiff, reduceCtorEq, Nat.reduceAdd, Nat.reduceLeDiff, Nat.reduceSub, Nat.reduceMul, List.reduceReplicate, Int.reduceEq, Int.reduceLT, Int.reduceLE, Int.reduceAdd, Int.reduceSub, Int.reduceMul, Nat.reduceLT, Int.reduceToNat]) (by simp -implicitDefEqProofs (maxSteps := 2000000) only [kh10, wk, act, asV, ↓reduceIte, Nat.reduceEqDiff, reduceCtorEq, Nat.reduceAdd, Nat.reduceLeDiff, Nat.reduceSub, Nat.reduceMul, List.reduceReplicate, Int.reduceEq, Int.reduceLT, Int.reduceLE, Int.reduceAdd, Int.reduceSub, Int.reduceMul, Nat.reduceLT, Int.reduceToNat])
  · rw [m3] at r3
    obtain ⟨z, z1, z2, z3⟩ := xor_i64 x.e ⟨e0, e1⟩
    have b3 := b2 z
    simp -implicitDefEqProofs (maxSteps := 2000000) only [m5_15, m5_16, m5_17, m5_18, m5_19, m5_20, m5_21, m5_22, m5_23, m5_24, m5_25, m5_26, m5_36, k3, kh3, k8, kh8, k9, k10, u2, r3, hk', hAB, kb3, b1, z1, wk, act, asV, ↓reduceIte, Nat.reduceEqDiff, reduceCtorEq, Nat.reduceAdd, Nat.reduceLeDiff, Nat.reduceSub, Nat.reduceMul, List.reduceReplicate, Int.reduceEq, Int.reduceLT, Int.reduceLE, Int.reduceAdd, Int.reduceSub, Int.reduceMul, Nat.reduceLT, Int.reduceToNat]
    refine t5_end (ver := ver) (v10 := v10) (x := { x with e := z }) (hlen _) hn kt (hmem _ ⟨ek.a, ek.l⟩) (recE_small (by simp only []; omega)) (hbad _) (by simp -implicitDefEqProofs (maxSteps := 2000000) only [k8, wk, act, asV, ↓reduceIte, Nat.reduceEqDiff, reduceCtorEq, Nat.reduceAdd, Nat.reduceLeDiff, Nat.reduceSub, Nat.reduceMul, List.reduceReplicate, Int.reduceEq, Int.reduceLT, Int.reduceLE, Int.reduceAdd, Int.reduceSub, Int.reduceMul, Nat.reduceLT, Int.reduceToNat]) (by simp -implicitDefEqProofs (maxSteps := 2000000) only [b3, wk, act, asV, ↓reduceIte, Nat.reduceEqDiff, reduceCtorEq, Nat.reduceAdd, Nat.reduceLeDiff, Nat.reduceSub, Nat.reduceMul, List.reduceReplicate, Int.reduceEq, Int.reduceLT, Int.reduceLE, Int.reduceAdd, Int.reduceSub, Int.reduceMul, Nat.reduceLT, Int.reduceToNat]) (by simp -implicitDefEqProofs (maxSteps := 2000000) only [k9, wk, act, asV, ↓reduceIte, Nat.reduceEqDiff, reduceCtorEq, Nat.reduceAdd, Nat.reduceLeDiff, Nat.reduceSub, Nat.reduceMul, List.reduceReplicate, Int.reduceEq, Int.reduceLT, Int.reduceLE, Int.reduceAdd, Int.reduceSub, Int.reduceMul, Nat.reduceLT, Int.reduceToNat]) (by simp -implicitDefEqProofs (maxSteps := 2000000) only [k10, wk, act, asV, ↓reduceIte, Nat.reduceEqDiff, reduceCtorEq, Nat.reduceAdd, Nat.reduceLeDiff, Nat.reduceSub, Nat.reduceMul, List.reduceReplicate, Int.reduceEq, Int.reduceLT, Int.reduceLE, Int.reduceAdd, Int.reduceSub, Int.reduceMul, Nat.reduceLT, Int.reduceToNat]) (by simp -implicitDefEqProofs (maxSteps := 2000000) only [kh10, wk, act, asV, ↓reduceIte, Nat.reduceEqDiff, reduceCtorEq, Nat.reduceAdd, Nat.reduceLeDiff, Nat.reduceSub, Nat.reduceMul, List.reduceReplicate, Int.reduceEq, Int.reduceLT, Int.reduceLE, Int.reduceAdd, Int.reduceSub, Int.reduceMul, Nat.reduceLT, Int.reduceToNat])
  · rw [m3] at r3
    have j32 : n1.toNat / 3 % 32 < 32 := Nat.mod_lt _ (by decide)
    have g1 : IntKind.i64.wrap ((n1.toNat : Nat) : Int) = (n1.toNat : Nat) := by rw [IntKind.wrap_i64]; have := n1.toNat_lt; omega
    have g2 : ((n1.toNat : Nat) : Int).tdiv 3 = ((n1.toNat / 3 : Nat) : Int) := rfl
    have g3 : IntKind.i64.wrap ((n1.toNat / 3 : Nat) : Int) = ((n1.toNat / 3 : Nat) : Int) := by rw [IntKind.wrap_i64]; have := n1.toNat_lt; omega
    have g4 : ((n1.toNat / 3 : Nat) : Int).tmod 32 = ((n1.toNat / 3 % 32 : Nat) : Int) := rfl
    obtain ⟨j, hj⟩ : ∃ j, j = n1.toNat / 3 % 32 := ⟨_, rfl⟩
    rw [← hj] at j32 g4
    have j32' : (j : Int) < 32 := by omega
    have kbj : k * 66 + 34 + j + 1 ≤ n * 66 := by omega
    obtain ⟨b, lb, d1, d2⟩ := en_link (B := B) ek lt j32
    rw [← hV] at d1 d2
    have d3 := d2 (b ^^^ 1)
    have xb := xor_u8 b
    have yok : ({ x with link := x.link.set j (b ^^^ 1) } : En).Ok := ⟨ek.a, by simp [ek.l]⟩
    have hver : verG y32 (A ++ { x with link := x.link.set j (b ^^^ 1) } :: B) 0 = (k : Int) := by
      refine hbad _ fun ho => ?_
      have h2 : shaB (lastE A ++ recR x.asked x.id x.e) = x.link.set j (b ^^^ 1) := ho.2
      rw [hgood.2] at h2
      have h3 : x.link[j]? = (x.link.set j (b ^^^ 1))[j]? := congrArg (fun l : List UInt8 => l[j]?) h2
      rw [lb, List.getElem?_set_self (by rw [ek.l]; exact j32)] at h3
      exact xor_ne b (Option.some.inj h3).symm
    have c3 := verify_ok .plain _ (hmem _ yok) (by rw [hlen]; omega)
    rw [hver, hlen] at c3
    have eV : enL (A ++ { x with link := x.link.set j (b ^^^ 1) } :: B) = enL A ++ enC { x with link := x.link.set j (b ^^^ 1) } ++ enL B := by rw [enL_append, List.append_assoc]; rfl
    have tE := enL_take _ (hmem _ yok)
    have lE' := enL_length (hmem _ yok)
    have pE := enL_pur (A ++ { x with link := x.link.set j (b ^^^ 1) } :: B)
    rw [hlen] at tE lE'
    rw [← eV] at d3
    obtain ⟨W, hW⟩ : ∃ W, W = enL (A ++ { x with link := x.link.set j (b ^^^ 1) } :: B) := ⟨_, rfl⟩
    rw [← hW] at d3 c3 tE pE lE'
    repeat' (first | simp -implicitDefEqProofs (maxSteps := 2000000) only [m5_15, m5_16, m5_17, m5_18, m5_19, m5_20, m5_21, m5_22, m5_23, m5_24, m5_25, m5_26, m5_36, k3, kh3, k8, kh8, k9, k10, u2, r3, hk', hAB, g1, g2, g3, g4, j32', kbj, d1, d3, xb, tE, pE, lE', wk, act, asV, ↓reduceIte, Nat.reduceEqDiff, reduceCtorEq, Nat.reduceAdd, Nat.reduceLeDiff, Nat.reduceSub, Nat.reduceMul, List.reduceReplicate, Int.reduceEq, Int.reduceLT, Int.reduceLE, Int.reduceAdd, Int.reduceSub, Int.reduceMul, Nat.reduceLT, Int.reduceToNat] | ((first | ((with_reducible refine CallL.gate ?_); apply CallL.of) | ((with_reducible refine CallpL.gate ?_); apply CallpL.of) | ((with_reducible refine CallP.gate ?_); apply CallP.of) | ((with_reducible refine CallpP.gate ?_); apply CallpP.of)); (case h1 => (simp -implicitDefEqProofs (maxSteps := 2000000) only [m5_15, m5_16, m5_17, m5_18, m5_19, m5_20, m5_21, m5_22, m5_23, m5_24, m5_25, m5_26, m5_36, k3, kh3, k8, kh8, k9, k10, u2, r3, hk', hAB, g1, g2, g3, g4, j32', kbj, d1, d3, xb, tE, pE, lE', wk, act, asV, ↓reduceIte, Nat.reduceEqDiff, reduceCtorEq, Nat.reduceAdd, Nat.reduceLeDiff, Nat.reduceSub, Nat.reduceMul, List.reduceReplicate, Int.reduceEq, Int.reduceLT, Int.reduceLE, Int.reduceAdd, Int.reduceSub, Int.reduceMul, Nat.reduceLT, Int.reduceToNat]; first | done | (with_reducible rfl))); (case h2 => (first | exact c3 | exact wakesA_ok)); (case h3 => simp -implicitDefEqProofs (maxSteps := 2000000) only [m5_15, m5_16, m5_17, m5_18, m5_19, m5_20, m5_21, m5_22, m5_23, m5_24, m5_25, m5_26, m5_36, k3, kh3, k8, kh8, k9, k10, u2, r3, hk', hAB, g1, g2, g3, g4, j32', kbj, d1, d3, xb, tE, pE, lE', wk, act, asV, ↓reduceIte, Nat.reduceEqDiff, reduceCtorEq, Nat.reduceAdd, Nat.reduceLeDiff, Nat.reduceSub, Nat.reduceMul, List.reduceReplicate, Int.reduceEq, Int.reduceLT, Int.reduceLE, Int.reduceAdd, Int.reduceSub, Int.reduceMul, Nat.reduceLT, Int.reduceToNat])))

theorem auditTurned (xs : List Sd) (hx : ∀ x ∈ xs, x.Ok) (hn : xs.length < 2 ^ 63) (n0 n1 : UInt8) : RC Try.prog 5 [.sl .plain xs.length (sdL xs), .agg (bl [n0, n1])] [.bool true] := by
  refine RC.of_wp c5 rfl ?_
  have c0 := fairS_ok .plain xs hn (fun x h => (hx x h).f)
  by_cases hf : fairS xs = false
  · rw [hf] at c0
    repeat' (first | simp -implicitDefEqProofs (maxSteps := 2000000) only [m5_1, m5_2, m5_3, m5_4, m5_5, m5_6, m5_7, m5_8, m5_9, m5_10, m5_11, m5_12, m5_13, m5_14, m5_15, m5_16, m5_17, m5_18, m5_19, m5_20, m5_21, m5_22, m5_23, m5_24, m5_25, m5_26, m5_27, m5_28, m5_29, m5_30, m5_31, m5_32, m5_33, m5_34, m5_35, m5_36, m5_37, m5_38, m5_39, m5_40, m5_41, m5_42, m5_43, m5_44, m5_45, m5_r, m5_b, m5, wk, act, asV, ↓reduceIte, Nat.reduceEqDiff, reduceCtorEq, Nat.reduceAdd, Nat.reduceLeDiff, Nat.reduceSub, Nat.reduceMul, List.reduceReplicate, Int.reduceEq, Int.reduceLT, Int.reduceLE, Int.reduceAdd, Int.reduceSub, Int.reduceMul, Nat.reduceLT, Int.reduceToNat] | ((first | ((with_reducible refine CallL.gate ?_); apply CallL.of) | ((with_reducible refine CallpL.gate ?_); apply CallpL.of) | ((with_reducible refine CallP.gate ?_); apply CallP.of) | ((with_reducible refine CallpP.gate ?_); apply CallpP.of)); (case h1 => (simp -implicitDefEqProofs (maxSteps := 2000000) only [m5_1, m5_2, m5_3, m5_4, m5_5, m5_6, m5_7, m5_8, m5_9, m5_10, m5_11, m5_12, m5_13, m5_14, m5_15, m5_16, m5_17, m5_18, m5_19, m5_20, m5_21, m5_22, m5_23, m5_24, m5_25, m5_26, m5_27, m5_28, m5_29, m5_30, m5_31, m5_32, m5_33, m5_34, m5_35, m5_36, m5_37, m5_38, m5_39, m5_40, m5_41, m5_42, m5_43, m5_44, m5_45, m5_r, m5_b, m5, wk, act, asV, ↓reduceIte, Nat.reduceEqDiff, reduceCtorEq, Nat.reduceAdd, Nat.reduceLeDiff, Nat.reduceSub, Nat.reduceMul, List.reduceReplicate, Int.reduceEq, Int.reduceLT, Int.reduceLE, Int.reduceAdd, Int.reduceSub, Int.reduceMul, Nat.reduceLT, Int.reduceToNat]; first | done | (with_reducible rfl))); (case h2 => (first | exact c0 | exact wakesA_ok)); (case h3 => simp -implicitDefEqProofs (maxSteps := 2000000) only [m5_1, m5_2, m5_3, m5_4, m5_5, m5_6, m5_7, m5_8, m5_9, m5_10, m5_11, m5_12, m5_13, m5_14, m5_15, m5_16, m5_17, m5_18, m5_19, m5_20, m5_21, m5_22, m5_23, m5_24, m5_25, m5_26, m5_27, m5_28, m5_29, m5_30, m5_31, m5_32, m5_33, m5_34, m5_35, m5_36, m5_37, m5_38, m5_39, m5_40, m5_41, m5_42, m5_43, m5_44, m5_45, m5_r, m5_b, m5, wk, act, asV, ↓reduceIte, Nat.reduceEqDiff, reduceCtorEq, Nat.reduceAdd, Nat.reduceLeDiff, Nat.reduceSub, Nat.reduceMul, List.reduceReplicate, Int.reduceEq, Int.reduceLT, Int.reduceLE, Int.reduceAdd, Int.reduceSub, Int.reduceMul, Nat.reduceLT, Int.reduceToNat])))
  have hf' : fairS xs = true := by simpa using hf
  obtain ⟨f30, fmem⟩ := fairS_of hf'
  rw [hf'] at c0
  by_cases h0 : ((xs.length : Nat) : Int) = 0
  · repeat' (first | simp -implicitDefEqProofs (maxSteps := 2000000) only [m5_1, m5_2, m5_3, m5_4, m5_5, m5_6, m5_7, m5_8, m5_9, m5_10, m5_11, m5_12, m5_13, m5_14, m5_15, m5_16, m5_17, m5_18, m5_19, m5_20, m5_21, m5_22, m5_23, m5_24, m5_25, m5_26, m5_27, m5_28, m5_29, m5_30, m5_31, m5_32, m5_33, m5_34, m5_35, m5_36, m5_37, m5_38, m5_39, m5_40, m5_41, m5_42, m5_43, m5_44, m5_45, m5_r, m5_b, m5, h0, wk, act, asV, ↓reduceIte, Nat.reduceEqDiff, reduceCtorEq, Nat.reduceAdd, Nat.reduceLeDiff, Nat.reduceSub, Nat.reduceMul, List.reduceReplicate, Int.reduceEq, Int.reduceLT, Int.reduceLE, Int.reduceAdd, Int.reduceSub, Int.reduceMul, Nat.reduceLT, Int.reduceToNat] | ((first | ((with_reducible refine CallL.gate ?_); apply CallL.of) | ((with_reducible refine CallpL.gate ?_); apply CallpL.of) | ((with_reducible refine CallP.gate ?_); apply CallP.of) | ((with_reducible refine CallpP.gate ?_); apply CallpP.of)); (case h1 => (simp -implicitDefEqProofs (maxSteps := 2000000) only [m5_1, m5_2, m5_3, m5_4, m5_5, m5_6, m5_7, m5_8, m5_9, m5_10, m5_11, m5_12, m5_13, m5_14, m5_15, m5_16, m5_17, m5_18, m5_19, m5_20, m5_21, m5_22, m5_23, m5_24, m5_25, m5_26, m5_27, m5_28, m5_29, m5_30, m5_31, m5_32, m5_33, m5_34, m5_35, m5_36, m5_37, m5_38, m5_39, m5_40, m5_41, m5_42, m5_43, m5_44, m5_45, m5_r, m5_b, m5, h0, wk, act, asV, ↓reduceIte, Nat.reduceEqDiff, reduceCtorEq, Nat.reduceAdd, Nat.reduceLeDiff, Nat.reduceSub, Nat.reduceMul, List.reduceReplicate, Int.reduceEq, Int.reduceLT, Int.reduceLE, Int.reduceAdd, Int.reduceSub, Int.reduceMul, Nat.reduceLT, Int.reduceToNat]; first | done | (with_reducible rfl))); (case h2 => (first | exact c0 | exact wakesA_ok)); (case h3 => simp -implicitDefEqProofs (maxSteps := 2000000) only [m5_1, m5_2, m5_3, m5_4, m5_5, m5_6, m5_7, m5_8, m5_9, m5_10, m5_11, m5_12, m5_13, m5_14, m5_15, m5_16, m5_17, m5_18, m5_19, m5_20, m5_21, m5_22, m5_23, m5_24, m5_25, m5_26, m5_27, m5_28, m5_29, m5_30, m5_31, m5_32, m5_33, m5_34, m5_35, m5_36, m5_37, m5_38, m5_39, m5_40, m5_41, m5_42, m5_43, m5_44, m5_45, m5_r, m5_b, m5, h0, wk, act, asV, ↓reduceIte, Nat.reduceEqDiff, reduceCtorEq, Nat.reduceAdd, Nat.reduceLeDiff, Nat.reduceSub, Nat.reduceMul, List.reduceReplicate, Int.reduceEq, Int.reduceLT, Int.reduceLE, Int.reduceAdd, Int.reduceSub, Int.reduceMul, Nat.reduceLT, Int.reduceToNat])))
  have y6 := y32_cells
  repeat' (first | simp -implicitDefEqProofs (maxSteps := 2000000) only [m5, m5_r, m5_b, m5_1, m5_2, m5_3, m5_4, m5_5, m5_6, m5_7, m5_8, m5_9, m5_10, m5_11, m5_12, m5_13, m5_14, m5_37, m5_38, m5_39, m5_40, m5_41, m5_42, m5_43, m5_44, m5_45, h0, y6, wk, act, asV, ↓reduceIte, Nat.reduceEqDiff, reduceCtorEq, Nat.reduceAdd, Nat.reduceLeDiff, Nat.reduceSub, Nat.reduceMul, List.reduceReplicate, Int.reduceEq, Int.reduceLT, Int.reduceLE, Int.reduceAdd, Int.reduceSub, Int.reduceMul, Nat.reduceLT, Int.reduceToNat] | ((first | ((with_reducible refine CallL.gate ?_); apply CallL.of) | ((with_reducible refine CallpL.gate ?_); apply CallpL.of) | ((with_reducible refine CallP.gate ?_); apply CallP.of) | ((with_reducible refine CallpP.gate ?_); apply CallpP.of)); (case h1 => (simp -implicitDefEqProofs (maxSteps := 2000000) only [m5, m5_r, m5_b, m5_1, m5_2, m5_3, m5_4, m5_5, m5_6, m5_7, m5_8, m5_9, m5_10, m5_11, m5_12, m5_13, m5_14, m5_37, m5_38, m5_39, m5_40, m5_41, m5_42, m5_43, m5_44, m5_45, h0, y6, wk, act, asV, ↓reduceIte, Nat.reduceEqDiff, reduceCtorEq, Nat.reduceAdd, Nat.reduceLeDiff, Nat.reduceSub, Nat.reduceMul, List.reduceReplicate, Int.reduceEq, Int.reduceLT, Int.reduceLE, Int.reduceAdd, Int.reduceSub, Int.reduceMul, Nat.reduceLT, Int.reduceToNat]; first | done | (with_reducible rfl))); (case h2 => (first | exact c0)); (case h3 => simp -implicitDefEqProofs (maxSteps := 2000000) only [m5, m5_r, m5_b, m5_1, m5_2, m5_3, m5_4, m5_5, m5_6, m5_7, m5_8, m5_9, m5_10, m5_11, m5_12, m5_13, m5_14, m5_37, m5_38, m5_39, m5_40, m5_41, m5_42, m5_43, m5_44, m5_45, h0, y6, wk, act, asV, ↓reduceIte, Nat.reduceEqDiff, reduceCtorEq, Nat.reduceAdd, Nat.reduceLeDiff, Nat.reduceSub, Nat.reduceMul, List.reduceReplicate, Int.reduceEq, Int.reduceLT, Int.reduceLE, Int.reduceAdd, Int.reduceSub, Int.reduceMul, Nat.reduceLT, Int.reduceToNat])))
  refine Wp_loop (fun m s => ∃ i, i ≤ xs.length ∧ m = xs.length - i ∧ s.t 0 = .sl .plain xs.length (sdL xs) ∧ s.t 6 = .int .i64 (i : Nat) ∧ (∃ v3, s.t 3 = .ptr 3 0 v3 ∧ s.h 3 = ⟨v3, true, true, false, bl [n0, n1]⟩) ∧ ∃ v5, s.t 5 = .ptr 23 0 v5 ∧ ObjE 23 v5 1041 s.h (turns (xs.take i))) xs.length ⟨0, by omega, rfl, rfl, rfl, ⟨_, rfl, rfl⟩, _, rfl, _, rfl, .inl ⟨rfl, rfl⟩⟩ ?_
  rintro m s ⟨i, hi, rfl, k0, k6, ⟨v3, k3, kh3⟩, v5, k5, ko⟩
  by_cases hil : i < xs.length
  · have hil' : (i : Int) < xs.length := by omega
    have eX := sdL_drop hil
    have lL := sdL_length xs
    have hxi := hx _ (List.getElem_mem hil)
    have hfi := fmem _ (List.getElem_mem hil)
    have et : turns (xs.take (i + 1)) = turns (xs.take i) ++ [newE (turns (xs.take i)) xs[i].asked (tR xs[i])] := by
      rw [List.take_succ_eq_append_getElem hil, turns_snoc]
    obtain ⟨x, hxx⟩ : ∃ x, x = xs[i] := ⟨_, rfl⟩
    rw [← hxx] at hxi hfi eX et
    obtain ⟨t1, t2, t3⟩ := turns_facts i (xs.take i) (by rw [List.length_take]; omega)
    obtain ⟨es, hes⟩ : ∃ es, es = turns (xs.take i) := ⟨_, rfl⟩
    rw [← hes] at t1 t2 t3 ko et
    have l4 : 4 ≤ (sdC x ++ List.drop ((i + 1) * 4) (sdL xs)).length := by simp [sdC, rc]
    have tk : List.take 4 (sdC x ++ List.drop ((i + 1) * 4) (sdL xs)) = [.sl .plain x.asked.length (bl x.asked), .int .i64 x.r.id, .int .i64 x.r.e, .sl .plain x.r.d.length (bl x.r.d)] := by
      obtain ⟨a, ⟨id, e, f, d⟩⟩ := x
      have : f = .plain := hxi.f
      subst this
      simp [sdC, rc]
    have wi : IntKind.i64.wrap (((i : Nat) : Int) + 1) = ((i + 1 : Nat) : Int) := by rw [IntKind.wrap_i64]; omega
    have c1 := mod_ok x.r.id (n := 1000) (by decide) (by decide)
    have c2 := mod_ok x.r.e (n := 256) (by decide) (by decide)
    repeat' (first | simp -implicitDefEqProofs (maxSteps := 2000000) only [k0, k3, k5, k6, hil', eX, lL, l4, tk, wk, act, asV, ↓reduceIte, Nat.reduceEqDiff, reduceCtorEq, Nat.reduceAdd, Nat.reduceLeDiff, Nat.reduceSub, Nat.reduceMul, List.reduceReplicate, Int.reduceEq, Int.reduceLT, Int.reduceLE, Int.reduceAdd, Int.reduceSub, Int.reduceMul, Nat.reduceLT, Int.reduceToNat] | ((first | ((with_reducible refine CallL.gate ?_); apply CallL.of) | ((with_reducible refine CallpL.gate ?_); apply CallpL.of) | ((with_reducible refine CallP.gate ?_); apply CallP.of) | ((with_reducible refine CallpP.gate ?_); apply CallpP.of)); (case h1 => (simp -implicitDefEqProofs (maxSteps := 2000000) only [k0, k3, k5, k6, hil', eX, lL, l4, tk, wk, act, asV, ↓reduceIte, Nat.reduceEqDiff, reduceCtorEq, Nat.reduceAdd, Nat.reduceLeDiff, Nat.reduceSub, Nat.reduceMul, List.reduceReplicate, Int.reduceEq, Int.reduceLT, Int.reduceLE, Int.reduceAdd, Int.reduceSub, Int.reduceMul, Nat.reduceLT, Int.reduceToNat]; first | done | (with_reducible rfl))); (case h2 => (first | exact c1 | exact c2)); (case h3 => simp -implicitDefEqProofs (maxSteps := 2000000) only [k0, k3, k5, k6, hil', eX, lL, l4, tk, wk, act, asV, ↓reduceIte, Nat.reduceEqDiff, reduceCtorEq, Nat.reduceAdd, Nat.reduceLeDiff, Nat.reduceSub, Nat.reduceMul, List.reduceReplicate, Int.reduceEq, Int.reduceLT, Int.reduceLE, Int.reduceAdd, Int.reduceSub, Int.reduceMul, Nat.reduceLT, Int.reduceToNat])))
    have ca := fun {H : Nat → Blk} {hv : Nat} (o : ObjE 23 hv 1041 H es) => add_ok (h := 23) (by decide) (fun e h => (t2 e h).1) (by omega) .plain x.asked (by omega) (tR x) (by simp [tR]) o
    rw [tR_good x] at ca
    refine CallnL.of (by simp -implicitDefEqProofs (maxSteps := 2000000) only [wk, act, asV, ↓reduceIte, Nat.reduceEqDiff, reduceCtorEq, Nat.reduceAdd, Nat.reduceLeDiff, Nat.reduceSub, Nat.reduceMul, List.reduceReplicate, Int.reduceEq, Int.reduceLT, Int.reduceLE, Int.reduceAdd, Int.reduceSub, Int.reduceMul, Nat.reduceLT, Int.reduceToNat]; first | done | rfl) (ca (ObjE_fr ko (by simp -implicitDefEqProofs (maxSteps := 2000000) only [wk, act, asV, ↓reduceIte, Nat.reduceEqDiff, reduceCtorEq, Nat.reduceAdd, Nat.reduceLeDiff, Nat.reduceSub, Nat.reduceMul, List.reduceReplicate, Int.reduceEq, Int.reduceLT, Int.reduceLE, Int.reduceAdd, Int.reduceSub, Int.reduceMul, Nat.reduceLT, Int.reduceToNat]; first | done | rfl) (by simp -implicitDefEqProofs (maxSteps := 2000000) only [wk, act, asV, ↓reduceIte, Nat.reduceEqDiff, reduceCtorEq, Nat.reduceAdd, Nat.reduceLeDiff, Nat.reduceSub, Nat.reduceMul, List.reduceReplicate, Int.reduceEq, Int.reduceLT, Int.reduceLE, Int.reduceAdd, Int.reduceSub, Int.reduceMul, Nat.reduceLT, Int.reduceToNat]; first | done | rfl))) ?_
    rintro _ h1 ⟨rfl, o1, fr1⟩
    rw [addE, if_pos (tR_good x), ← et] at o1
    have g3 : h1 3 = ⟨v3, true, true, false, bl [n0, n1]⟩ := by rw [fr1 3 (by decide) (.inl (by decide))]; simp -implicitDefEqProofs (maxSteps := 2000000) only [kh3, wk, act, asV, ↓reduceIte, Nat.reduceEqDiff, reduceCtorEq, Nat.reduceAdd, Nat.reduceLeDiff, Nat.reduceSub, Nat.reduceMul, List.reduceReplicate, Int.reduceEq, Int.reduceLT, Int.reduceLE, Int.reduceAdd, Int.reduceSub, Int.reduceMul, Nat.reduceLT, Int.reduceToNat]
    simp -implicitDefEqProofs (maxSteps := 2000000) only [k0, k3, k5, k6, wi, wk, act, asV, ↓reduceIte, Nat.reduceEqDiff, reduceCtorEq, Nat.reduceAdd, Nat.reduceLeDiff, Nat.reduceSub, Nat.reduceMul, List.reduceReplicate, Int.reduceEq, Int.reduceLT, Int.reduceLE, Int.reduceAdd, Int.reduceSub, Int.reduceMul, Nat.reduceLT, Int.reduceToNat]
    refine ⟨xs.length - (i + 1), by omega, i + 1, by omega, rfl, rfl, ⟨v3, rfl, g3⟩, v5, rfl, o1⟩
  · obtain rfl : i = xs.length := by omega
    have hil' : ¬ ((xs.length : Nat) : Int) < xs.length := by omega
    rw [List.take_length] at ko
    obtain ⟨t1, t2, t3⟩ := turns_facts xs.length xs rfl
    have hes := fun e h => (t2 e h).1
    obtain ⟨es, hee⟩ : ∃ es, es = turns xs := ⟨_, rfl⟩
    rw [← hee] at t1 t2 t3 hes ko
    simp -implicitDefEqProofs (maxSteps := 2000000) only [k0, k3, k5, k6, hil', wk, act, asV, ↓reduceIte, Nat.reduceEqDiff, reduceCtorEq, Nat.reduceAdd, Nat.reduceLeDiff, Nat.reduceSub, Nat.reduceMul, List.reduceReplicate, Int.reduceEq, Int.reduceLT, Int.reduceLE, Int.reduceAdd, Int.reduceSub, Int.reduceMul, Nat.reduceLT, Int.reduceToNat]
    refine CallnL.of (by simp -implicitDefEqProofs (maxSteps := 2000000) only [wk, act, asV, ↓reduceIte, Nat.reduceEqDiff, reduceCtorEq, Nat.reduceAdd, Nat.reduceLeDiff, Nat.reduceSub, Nat.reduceMul, List.reduceReplicate, Int.reduceEq, Int.reduceLT, Int.reduceLE, Int.reduceAdd, Int.reduceSub, Int.reduceMul, Nat.reduceLT, Int.reduceToNat]; first | done | rfl) (entries_ok (h := 23) (by decide) hes (by omega) (ObjE_fr ko (by simp -implicitDefEqProofs (maxSteps := 2000000) only [wk, act, asV, ↓reduceIte, Nat.reduceEqDiff, reduceCtorEq, Nat.reduceAdd, Nat.reduceLeDiff, Nat.reduceSub, Nat.reduceMul, List.reduceReplicate, Int.reduceEq, Int.reduceLT, Int.reduceLE, Int.reduceAdd, Int.reduceSub, Int.reduceMul, Nat.reduceLT, Int.reduceToNat]; first | done | rfl) (by simp -implicitDefEqProofs (maxSteps := 2000000) only [wk, act, asV, ↓reduceIte, Nat.reduceEqDiff, reduceCtorEq, Nat.reduceAdd, Nat.reduceLeDiff, Nat.reduceSub, Nat.reduceMul, List.reduceReplicate, Int.reduceEq, Int.reduceLT, Int.reduceLE, Int.reduceAdd, Int.reduceSub, Int.reduceMul, Nat.reduceLT, Int.reduceToNat]; first | done | rfl))) ?_
    rintro _ h4 ⟨ver, rfl, hM, fr4⟩
    have lE := enL_length hes
    have tE := enL_take _ hes
    have g3 : h4 3 = ⟨v3, true, true, false, bl [n0, n1]⟩ := by rw [fr4 3 (.inl (by decide))]; simp -implicitDefEqProofs (maxSteps := 2000000) only [kh3, wk, act, asV, ↓reduceIte, Nat.reduceEqDiff, reduceCtorEq, Nat.reduceAdd, Nat.reduceLeDiff, Nat.reduceSub, Nat.reduceMul, List.reduceReplicate, Int.reduceEq, Int.reduceLT, Int.reduceLE, Int.reduceAdd, Int.reduceSub, Int.reduceMul, Nat.reduceLT, Int.reduceToNat]
    have c1 := verify_ok .plain es hes (by omega)
    rw [t3] at c1
    rw [t1] at c1 tE lE
    have u0 : ((n0.toNat : Nat) : Int).tmod (xs.length : Nat) = ((n0.toNat % xs.length : Nat) : Int) := rfl
    have u2 : bl [n0, n1] = [.int .u8 (n0.toNat : Nat), .int .u8 (n1.toNat : Nat)] := rfl
    have hk : n0.toNat % xs.length < xs.length := Nat.mod_lt _ (by omega)
    obtain ⟨k, hkk⟩ : ∃ k, k = n0.toNat % xs.length := ⟨_, rfl⟩
    rw [← hkk] at u0 hk
    have hk' : (k : Int) ≤ xs.length := by omega
    have hk'' : (k : Int) < xs.length := by omega
    have kt : (es.take k).length = k := by rw [List.length_take]; omega
    have hest : ∀ e ∈ es.take k, e.Ok := fun e h => hes e (List.mem_of_mem_take h)
    have c2 := verify_ok .plain (es.take k) hest (by omega)
    rw [verG_take t3, kt] at c2
    have et : List.take (k * 66) (enL es) = enL (es.take k) := by
      rw [enL_setAt hes (by omega : k < es.length), List.append_assoc, List.take_append_of_le_length (by rw [enL_length hest, kt]; omega), List.take_of_length_le (by rw [enL_length hest, kt]; omega)]
    have h0' : ¬ ((xs.length : Nat) : Int) = 0 := h0
    have w0 : IntKind.i64.wrap ((n0.toNat : Nat) : Int) = (n0.toNat : Nat) := by rw [IntKind.wrap_i64]; have := n0.toNat_lt; omega
    have kx : k ≤ xs.length := by omega
    repeat' (first | simp -implicitDefEqProofs (maxSteps := 2000000) only [k0, k3, k5, k6, t1, hM, lE, tE, g3, w0, u0, u2, hk', hk'', et, h0', kx, wk, act, asV, ↓reduceIte, Nat.reduceEqDiff, reduceCtorEq, Nat.reduceAdd, Nat.reduceLeDiff, Nat.reduceSub, Nat.reduceMul, List.reduceReplicate, Int.reduceEq, Int.reduceLT, Int.reduceLE, Int.reduceAdd, Int.reduceSub, Int.reduceMul, Nat.reduceLT, Int.reduceToNat] | ((first | ((with_reducible refine CallL.gate ?_); apply CallL.of) | ((with_reducible refine CallpL.gate ?_); apply CallpL.of) | ((with_reducible refine CallP.gate ?_); apply CallP.of) | ((with_reducible refine CallpP.gate ?_); apply CallpP.of)); (case h1 => (simp -implicitDefEqProofs (maxSteps := 2000000) only [k0, k3, k5, k6, t1, hM, lE, tE, g3, w0, u0, u2, hk', hk'', et, h0', kx, wk, act, asV, ↓reduceIte, Nat.reduceEqDiff, reduceCtorEq, Nat.reduceAdd, Nat.reduceLeDiff, Nat.reduceSub, Nat.reduceMul, List.reduceReplicate, Int.reduceEq, Int.reduceLT, Int.reduceLE, Int.reduceAdd, Int.reduceSub, Int.reduceMul, Nat.reduceLT, Int.reduceToNat]; first | done | (with_reducible rfl))); (case h2 => (first | exact c1 | exact c2 | exact c0)); (case h3 => simp -implicitDefEqProofs (maxSteps := 2000000) only [k0, k3, k5, k6, t1, hM, lE, tE, g3, w0, u0, u2, hk', hk'', et, h0', kx, wk, act, asV, ↓reduceIte, Nat.reduceEqDiff, reduceCtorEq, Nat.reduceAdd, Nat.reduceLeDiff, Nat.reduceSub, Nat.reduceMul, List.reduceReplicate, Int.reduceEq, Int.reduceLT, Int.reduceLE, Int.reduceAdd, Int.reduceSub, Int.reduceMul, Nat.reduceLT, Int.reduceToNat])))
    rcases Nat.eq_zero_or_pos k with hk0 | hk0
    · subst hk0
      simp -implicitDefEqProofs (maxSteps := 2000000) only [wk, act, asV, ↓reduceIte, Nat.reduceEqDiff, reduceCtorEq, Nat.reduceAdd, Nat.reduceLeDiff, Nat.reduceSub, Nat.reduceMul, List.reduceReplicate, Int.reduceEq, Int.reduceLT, Int.reduceLE, Int.reduceAdd, Int.reduceSub, Int.reduceMul, Nat.reduceLT, Int.reduceToNat]
      exact t5_tail (k := 0) (v3 := v3) (n0 := n0) (n1 := n1) (ver := ver) (v10 := (h4 10).ver + 1) t1 (by omega) (by omega) t2 t3 (by simp -implicitDefEqProofs (maxSteps := 2000000) only [k3, wk, act, asV, ↓reduceIte, Nat.reduceEqDiff, reduceCtorEq, Nat.reduceAdd, Nat.reduceLeDiff, Nat.reduceSub, Nat.reduceMul, List.reduceReplicate, Int.reduceEq, Int.reduceLT, Int.reduceLE, Int.reduceAdd, Int.reduceSub, Int.reduceMul, Nat.reduceLT, Int.reduceToNat]) (by simp -implicitDefEqProofs (maxSteps := 2000000) only [g3, wk, act, asV, ↓reduceIte, Nat.reduceEqDiff, reduceCtorEq, Nat.reduceAdd, Nat.reduceLeDiff, Nat.reduceSub, Nat.reduceMul, List.reduceReplicate, Int.reduceEq, Int.reduceLT, Int.reduceLE, Int.reduceAdd, Int.reduceSub, Int.reduceMul, Nat.reduceLT, Int.reduceToNat]) (by simp -implicitDefEqProofs (maxSteps := 2000000) only [wk, act, asV, ↓reduceIte, Nat.reduceEqDiff, reduceCtorEq, Nat.reduceAdd, Nat.reduceLeDiff, Nat.reduceSub, Nat.reduceMul, List.reduceReplicate, Int.reduceEq, Int.reduceLT, Int.reduceLE, Int.reduceAdd, Int.reduceSub, Int.reduceMul, Nat.reduceLT, Int.reduceToNat]) (by simp -implicitDefEqProofs (maxSteps := 2000000) only [hM, wk, act, asV, ↓reduceIte, Nat.reduceEqDiff, reduceCtorEq, Nat.reduceAdd, Nat.reduceLeDiff, Nat.reduceSub, Nat.reduceMul, List.reduceReplicate, Int.reduceEq, Int.reduceLT, Int.reduceLE, Int.reduceAdd, Int.reduceSub, Int.reduceMul, Nat.reduceLT, Int.reduceToNat]) (by simp -implicitDefEqProofs (maxSteps := 2000000) only [wk, act, asV, ↓reduceIte, Nat.reduceEqDiff, reduceCtorEq, Nat.reduceAdd, Nat.reduceLeDiff, Nat.reduceSub, Nat.reduceMul, List.reduceReplicate, Int.reduceEq, Int.reduceLT, Int.reduceLE, Int.reduceAdd, Int.reduceSub, Int.reduceMul, Nat.reduceLT, Int.reduceToNat]) (by simp -implicitDefEqProofs (maxSteps := 2000000) only [wk, act, asV, ↓reduceIte, Nat.reduceEqDiff, reduceCtorEq, Nat.reduceAdd, Nat.reduceLeDiff, Nat.reduceSub, Nat.reduceMul, List.reduceReplicate, Int.reduceEq, Int.reduceLT, Int.reduceLE, Int.reduceAdd, Int.reduceSub, Int.reduceMul, Nat.reduceLT, Int.reduceToNat]) (by simp -implicitDefEqProofs (maxSteps := 2000000) only [wk, act, asV, ↓reduceIte, Nat.reduceEqDiff, reduceCtorEq, Nat.reduceAdd, Nat.reduceLeDiff, Nat.reduceSub, Nat.reduceMul, List.reduceReplicate, Int.reduceEq, Int.reduceLT, Int.reduceLE, Int.reduceAdd, Int.reduceSub, Int.reduceMul, Nat.reduceLT, Int.reduceToNat]; rfl)
    · have p0 : (0 : Int) < k := by omega
      have w1 : IntKind.i64.wrap ((k : Nat) - 1 : Int) = ((k - 1 : Nat) : Int) := by rw [IntKind.wrap_i64]; omega
      have p1 : ((k - 1 : Nat) : Int) < xs.length := by omega
      have hk1 : k - 1 < es.length := by omega
      have eX := enL_drop hes hk1
      rw [show k - 1 + 1 = k by omega] at eX
      have ex := hes _ (List.getElem_mem hk1)
      obtain ⟨q1, q2, q3, q4, _⟩ := en_takesA ex (List.drop (k * 66) (enL es))
      have lk := lastE_take hk1
      rw [show k - 1 + 1 = k by omega] at lk
      have q5 : List.take 32 (List.drop ((k - 1) * 66 + 34) (enL es)) = bl (lastE (es.take k)) := by
        rw [← List.drop_drop, eX, q4, lk]
      have q6 : (k - 1) * 66 + 34 + 32 ≤ xs.length * 66 := by omega
      have ll : (bl (lastE (es.take k))).length = 32 := by rw [bl_length, lastE_len hest]
      have ly : (bl y32).length = 32 := rfl
      have dy : List.drop 32 (bl y32) = [] := rfl
      simp -implicitDefEqProofs (maxSteps := 2000000) only [p0, w1, p1, q5, q6, lE, hM, ll, ly, dy, wk, act, asV, ↓reduceIte, Nat.reduceEqDiff, reduceCtorEq, Nat.reduceAdd, Nat.reduceLeDiff, Nat.reduceSub, Nat.reduceMul, List.reduceReplicate, Int.reduceEq, Int.reduceLT, Int.reduceLE, Int.reduceAdd, Int.reduceSub, Int.reduceMul, Nat.reduceLT, Int.reduceToNat]
      exact t5_tail (k := k) (v3 := v3) (n0 := n0) (n1 := n1) (ver := ver) (v10 := (h4 10).ver + 1) t1 (by omega) (by omega) t2 t3 (by simp -implicitDefEqProofs (maxSteps := 2000000) only [k3, wk, act, asV, ↓reduceIte, Nat.reduceEqDiff, reduceCtorEq, Nat.reduceAdd, Nat.reduceLeDiff, Nat.reduceSub, Nat.reduceMul, List.reduceReplicate, Int.reduceEq, Int.reduceLT, Int.reduceLE, Int.reduceAdd, Int.reduceSub, Int.reduceMul, Nat.reduceLT, Int.reduceToNat]) (by simp -implicitDefEqProofs (maxSteps := 2000000) only [g3, wk, act, asV, ↓reduceIte, Nat.reduceEqDiff, reduceCtorEq, Nat.reduceAdd, Nat.reduceLeDiff, Nat.reduceSub, Nat.reduceMul, List.reduceReplicate, Int.reduceEq, Int.reduceLT, Int.reduceLE, Int.reduceAdd, Int.reduceSub, Int.reduceMul, Nat.reduceLT, Int.reduceToNat]) (by simp -implicitDefEqProofs (maxSteps := 2000000) only [wk, act, asV, ↓reduceIte, Nat.reduceEqDiff, reduceCtorEq, Nat.reduceAdd, Nat.reduceLeDiff, Nat.reduceSub, Nat.reduceMul, List.reduceReplicate, Int.reduceEq, Int.reduceLT, Int.reduceLE, Int.reduceAdd, Int.reduceSub, Int.reduceMul, Nat.reduceLT, Int.reduceToNat]) (by simp -implicitDefEqProofs (maxSteps := 2000000) only [hM, wk, act, asV, ↓reduceIte, Nat.reduceEqDiff, reduceCtorEq, Nat.reduceAdd, Nat.reduceLeDiff, Nat.reduceSub, Nat.reduceMul, List.reduceReplicate, Int.reduceEq, Int.reduceLT, Int.reduceLE, Int.reduceAdd, Int.reduceSub, Int.reduceMul, Nat.reduceLT, Int.reduceToNat]) (by simp -implicitDefEqProofs (maxSteps := 2000000) only [wk, act, asV, ↓reduceIte, Nat.reduceEqDiff, reduceCtorEq, Nat.reduceAdd, Nat.reduceLeDiff, Nat.reduceSub, Nat.reduceMul, List.reduceReplicate, Int.reduceEq, Int.reduceLT, Int.reduceLE, Int.reduceAdd, Int.reduceSub, Int.reduceMul, Nat.reduceLT, Int.reduceToNat]) (by simp -implicitDefEqProofs (maxSteps := 2000000) only [wk, act, asV, ↓reduceIte, Nat.reduceEqDiff, reduceCtorEq, Nat.reduceAdd, Nat.reduceLeDiff, Nat.reduceSub, Nat.reduceMul, List.reduceReplicate, Int.reduceEq, Int.reduceLT, Int.reduceLE, Int.reduceAdd, Int.reduceSub, Int.reduceMul, Nat.reduceLT, Int.reduceToNat]) (by simp -implicitDefEqProofs (maxSteps := 2000000) only [wk, act, asV, ↓reduceIte, Nat.reduceEqDiff, reduceCtorEq, Nat.reduceAdd, Nat.reduceLeDiff, Nat.reduceSub, Nat.reduceMul, List.reduceReplicate, Int.reduceEq, Int.reduceLT, Int.reduceLE, Int.reduceAdd, Int.reduceSub, Int.reduceMul, Nat.reduceLT, Int.reduceToNat]; try rfl)
end Go.Proofs.Ytkphojcmjffccaa
