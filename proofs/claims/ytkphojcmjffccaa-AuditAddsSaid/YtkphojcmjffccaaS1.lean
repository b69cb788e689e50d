/- Of the replies: what they are, and their bytes. -/
import Derived.Test.YtkphojcmjffccaaE31
import Derived.Test.YtkphojcmjffccaaM3
import Derived.Test.YtkphojcmjffccaaM7
import Derived.Test.YtkphojcmjffccaaK5
import Derived.RangeFuncNested
import Derived.RangeFuncBound
import Derived.RangeFuncCalls
import Derived.RangeFuncLeaves
import Derived.Shelf.Abstract
import Derived.Shelf.RegionOpen
import Derived.WalkKit
import Derived.OwnWalkIn
import Derived.TacticsInMore
import Derived.LoopNIn
import Derived.LoopIn
import Derived.Test.YtkphojcmjffccaaProg
import Derived.RangeFuncOwn
set_option linter.unusedSectionVars false
set_option linter.unusedVariables false
set_option linter.unusedSimpArgs false
set_option maxRecDepth 100000
set_option maxHeartbeats 4000000
namespace Go.Proofs.Ytkphojcmjffccaa
open Go.RowKit

structure Rp where
  id : Int
  e : Int
  f : Fl
  d : List UInt8
def rc (r : Rp) : List IV := [.int .i64 r.id, .int .i64 r.e, .sl r.f r.d.length (bl r.d)]
def rl (rs : List Rp) : List IV := rs.flatMap rc
def good (r : Rp) : Bool := decide (0 ≤ r.id) && decide (r.id ≤ 2147483647) && decide (0 ≤ r.e) && decide (r.e ≤ 255) && decide (r.d.length ≤ 255)
def rbody (id e : Nat) (d : List UInt8) : List UInt8 := [u8 id, u8 (id >>> 8), u8 (id >>> 16), u8 (id >>> 24), u8 e, u8 d.length] ++ d
def renc (r : Rp) : List UInt8 := sealed (rbody r.id.toNat r.e.toNat r.d)
def encB (r : Rp) : List UInt8 := if good r = true then renc r else []
def encE (r : Rp) : Int := if good r = true then 0 else 11
theorem rbody_length (id e : Nat) (d : List UInt8) : (rbody id e d).length = d.length + 6 := by simp [rbody]
theorem renc_length (r : Rp) : (renc r).length = r.d.length + 8 := by rw [renc, sealed_length, rbody_length]
theorem good_of {id e : Int} {f : Fl} {d : List UInt8} (h1 : ¬ id < 0) (h2 : ¬ (2147483647 : Int) < id) (h3 : ¬ e < 0) (h4 : ¬ (255 : Int) < e) (h5 : ¬ (255 : Int) < d.length) : good ⟨id, e, f, d⟩ = true := by
  simp only [good, Bool.and_eq_true, decide_eq_true_eq]
  omega
theorem bad_of {id e : Int} {f : Fl} {d : List UInt8} (h : id < 0 ∨ (2147483647 : Int) < id ∨ e < 0 ∨ (255 : Int) < e ∨ (255 : Int) < d.length) : ¬ good ⟨id, e, f, d⟩ = true := by
  intro hg
  simp only [good, Bool.and_eq_true, decide_eq_true_eq] at hg
  omega

theorem reply_ok (r : Rp) (hf : ¬ r.f = .lit) : RC Try.prog 28 [.agg (rc r)] [.own (encB r).length 1 (bl (encB r)), .int .i64 (encE r)] := by
  obtain ⟨id, e, f, d⟩ := r
  refine RC.of_wpW c28 rfl ?_
  have bad : ∀ s : St, id < 0 ∨ (2147483647 : Int) < id ∨ e < 0 ∨ (255 : Int) < e ∨ (255 : Int) < d.length → s.ress [MRes.tmp 2, MRes.tmp 3] = some [.sl .full 0 [], .int .i64 11] → PostW [MRes.tmp 2, MRes.tmp 3] [.own (encB ⟨id, e, f, d⟩).length 1 (bl (encB ⟨id, e, f, d⟩)), .int .i64 (encE ⟨id, e, f, d⟩)] .ret s := by
    intro s hb hs
    have hb' := bad_of (f := f) hb
    have e1 : encB ⟨id, e, f, d⟩ = [] := if_neg hb'
    have e2 : encE ⟨id, e, f, d⟩ = 11 := if_neg hb'
    rw [e1, e2]
    exact PostW.mk (r' := [.sl .full 0 [], .int .i64 11]) hs (.cons (.inr ⟨rfl, 1, rfl⟩) (.cons (.inl rfl) .nil)) (by decide) (by decide)
  by_cases h1 : id < 0
  · simp -implicitDefEqProofs (maxSteps := 2000000) only [m28_1, m28_2, m28_3, m28_4, m28_5, m28_6, m28_7, m28_r, m28_b, m28, rc, h1, wk, act, asV, ↓reduceIte, Nat.reduceEqDiff, reduceCtorEq, Nat.reduceAdd, Nat.reduceLeDiff, Nat.reduceSub, Nat.reduceMul, List.reduceReplicate, Int.reduceEq, Int.reduceLT, Int.reduceLE, Int.reduceAdd, Int.reduceSub, Int.reduceMul, Nat.reduceLT, Int.reduceToNat]
    exact bad _ (.inl h1) (by simp -implicitDefEqProofs (maxSteps := 2000000) only [wk, act, asV, ↓reduceIte, Nat.reduceEqDiff, reduceCtorEq, Nat.reduceAdd, Nat.reduceLeDiff, Nat.reduceSub, Nat.reduceMul, List.reduceReplicate, Int.reduceEq, Int.reduceLT, Int.reduceLE, Int.reduceAdd, Int.reduceSub, Int.reduceMul, Nat.reduceLT, Int.reduceToNat])
  by_cases h2 : (2147483647 : Int) < id
  · simp -implicitDefEqProofs (maxSteps := 2000000) only [m28_1, m28_2, m28_3, m28_4, m28_5, m28_6, m28_7, m28_r, m28_b, m28, rc, h1, h2, wk, act, asV, ↓reduceIte, Nat.reduceEqDiff, reduceCtorEq, Nat.reduceAdd, Nat.reduceLeDiff, Nat.reduceSub, Nat.reduceMul, List.reduceReplicate, Int.reduceEq, Int.reduceLT, Int.reduceLE, Int.reduceAdd, Int.reduceSub, Int.reduceMul, Nat.reduceLT, Int.reduceToNat]
    exact bad _ (.inr (.inl h2)) (by simp -implicitDefEqProofs (maxSteps := 2000000) only [wk, act, asV, ↓reduceIte, Nat.reduceEqDiff, reduceCtorEq, Nat.reduceAdd, Nat.reduceLeDiff, Nat.reduceSub, Nat.reduceMul, List.reduceReplicate, Int.reduceEq, Int.reduceLT, Int.reduceLE, Int.reduceAdd, Int.reduceSub, Int.reduceMul, Nat.reduceLT, Int.reduceToNat])
  by_cases h3 : e < 0
  · simp -implicitDefEqProofs (maxSteps := 2000000) only [m28_1, m28_2, m28_3, m28_4, m28_5, m28_6, m28_7, m28_r, m28_b, m28, rc, h1, h2, h3, wk, act, asV, ↓reduceIte, Nat.reduceEqDiff, reduceCtorEq, Nat.reduceAdd, Nat.reduceLeDiff, Nat.reduceSub, Nat.reduceMul, List.reduceReplicate, Int.reduceEq, Int.reduceLT, Int.reduceLE, Int.reduceAdd, Int.reduceSub, Int.reduceMul, Nat.reduceLT, Int.reduceToNat]
    exact bad _ (.inr (.inr (.inl h3))) (by simp -implicitDefEqProofs (maxSteps := 2000000) only [wk, act, asV, ↓reduceIte, Nat.reduceEqDiff, reduceCtorEq, Nat.reduceAdd, Nat.reduceLeDiff, Nat.reduceSub, Nat.reduceMul, List.reduceReplicate, Int.reduceEq, Int.reduceLT, Int.reduceLE, Int.reduceAdd, Int.reduceSub, Int.reduceMul, Nat.reduceLT, Int.reduceToNat])
  by_cases h4 : (255 : Int) < e
  · simp -implicitDefEqProofs (maxSteps := 2000000) only [m28_1, m28_2, m28_3, m28_4, m28_5, m28_6, m28_7, m28_r, m28_b, m28, rc, h1, h2, h3, h4, wk, act, asV, ↓reduceIte, Nat.reduceEqDiff, reduceCtorEq, Nat.reduceAdd, Nat.reduceLeDiff, Nat.reduceSub, Nat.reduceMul, List.reduceReplicate, Int.reduceEq, Int.reduceLT, Int.reduceLE, Int.reduceAdd, Int.reduceSub, Int.reduceMul, Nat.reduceLT, Int.reduceToNat]
    exact bad _ (.inr (.inr (.inr (.inl h4)))) (by simp -implicitDefEqProofs (maxSteps := 2000000) only [wk, act, asV, ↓reduceIte, Nat.reduceEqDiff, reduceCtorEq, Nat.reduceAdd, Nat.reduceLeDiff, Nat.reduceSub, Nat.reduceMul, List.reduceReplicate, Int.reduceEq, Int.reduceLT, Int.reduceLE, Int.reduceAdd, Int.reduceSub, Int.reduceMul, Nat.reduceLT, Int.reduceToNat])
  by_cases h5 : (255 : Int) < d.length
  · simp -implicitDefEqProofs (maxSteps := 2000000) only [m28_1, m28_2, m28_3, m28_4, m28_5, m28_6, m28_7, m28_r, m28_b, m28, rc, h1, h2, h3, h4, h5, wk, act, asV, ↓reduceIte, Nat.reduceEqDiff, reduceCtorEq, Nat.reduceAdd, Nat.reduceLeDiff, Nat.reduceSub, Nat.reduceMul, List.reduceReplicate, Int.reduceEq, Int.reduceLT, Int.reduceLE, Int.reduceAdd, Int.reduceSub, Int.reduceMul, Nat.reduceLT, Int.reduceToNat]
    exact bad _ (.inr (.inr (.inr (.inr h5)))) (by simp -implicitDefEqProofs (maxSteps := 2000000) only [wk, act, asV, ↓reduceIte, Nat.reduceEqDiff, reduceCtorEq, Nat.reduceAdd, Nat.reduceLeDiff, Nat.reduceSub, Nat.reduceMul, List.reduceReplicate, Int.reduceEq, Int.reduceLT, Int.reduceLE, Int.reduceAdd, Int.reduceSub, Int.reduceMul, Nat.reduceLT, Int.reduceToNat])
  have hg := good_of (f := f) h1 h2 h3 h4 h5
  have e1 : encB ⟨id, e, f, d⟩ = renc ⟨id, e, f, d⟩ := if_pos hg
  have e2 : encE ⟨id, e, f, d⟩ = 0 := if_pos hg
  rw [e1, e2]
  obtain ⟨n, rfl⟩ : ∃ n : Nat, id = n := ⟨id.toNat, by omega⟩
  obtain ⟨m, rfl⟩ : ∃ n : Nat, e = n := ⟨e.toNat, by omega⟩
  have hn : n < 2 ^ 31 := by omega
  obtain ⟨body, hbody⟩ : ∃ body, body = rbody n m d := ⟨_, rfl⟩
  have hre : renc ⟨n, m, f, d⟩ = sealed body := by rw [hbody]; rfl
  rw [hre, sealed_length, bl_sealed]
  have hbl : body.length ≤ 300 := by rw [hbody, rbody_length]; omega
  have w32 : IntKind.u32.wrap ((n : Nat) : Int) = n := wrapN .u32 (by simp [vbits, IntKind.signed, IntKind.bits]; omega)
  have s8 : shI .shr .u32 (n : Int) 8 = some (.int .u32 ((n >>> 8 : Nat) : Int)) := shI_shr .u32 (x := n) (y := 8) (by decide)
  have s16 : shI .shr .u32 (n : Int) 16 = some (.int .u32 ((n >>> 16 : Nat) : Int)) := shI_shr .u32 (x := n) (y := 16) (by decide)
  have s24 : shI .shr .u32 (n : Int) 24 = some (.int .u32 ((n >>> 24 : Nat) : Int)) := shI_shr .u32 (x := n) (y := 24) (by decide)
  have s2 : shI .shr .u16 ((crc body : Nat) : Int) 8 = some (.int .u16 ((crc body >>> 8 : Nat) : Int)) := shI_shr .u16 (x := crc body) (y := 8) (by decide)
  have hcc : RC Try.prog 33 [.sl .full 2 [.sl .plain 6 [.int .u8 ((u8 n).toNat : Int), .int .u8 ((u8 (n >>> 8)).toNat : Int), .int .u8 ((u8 (n >>> 16)).toNat : Int), .int .u8 ((u8 (n >>> 24)).toNat : Int), .int .u8 ((u8 m).toNat : Int), .int .u8 ((u8 d.length).toNat : Int)], .sl .plain d.length (bl d)]] [.own body.length 1 (bl body)] := by
    have := concat_ok .full [(.plain, [u8 n, u8 (n >>> 8), u8 (n >>> 16), u8 (n >>> 24), u8 m, u8 d.length]), (.plain, d)] (by simp [joined]; omega) (by simp)
    have ej : joined [(Fl.plain, [u8 n, u8 (n >>> 8), u8 (n >>> 16), u8 (n >>> 24), u8 m, u8 d.length]), (.plain, d)] = body := by rw [hbody]; simp [joined, rbody]
    rw [ej] at this
    exact this
  have hck := check_ok .full [(.plain, body)] (by intro p hp; simp only [List.mem_singleton] at hp; subst hp; exact ⟨by simp, by simp only; omega⟩) (by simp)
  have ej : joined [(Fl.plain, body)] = body := by simp [joined]
  rw [ej] at hck
  have r2 : roomy (body.length + 2) 1 = true := roomyB (by omega)
  cases f with
  | lit => exact absurd rfl hf
  | _ =>
    repeat' (first | simp -implicitDefEqProofs (maxSteps := 2000000) only [m28_1, m28_2, m28_3, m28_4, m28_5, m28_6, m28_7, m28_r, m28_b, m28, rc, h1, h2, h3, h4, h5, w32, wrap_u8, s8, s16, s24, s2, pl, take_bl, r2, bl_length, List.length_singleton, wk, act, asV, ↓reduceIte, Nat.reduceEqDiff, reduceCtorEq, Nat.reduceAdd, Nat.reduceLeDiff, Nat.reduceSub, Nat.reduceMul, List.reduceReplicate, Int.reduceEq, Int.reduceLT, Int.reduceLE, Int.reduceAdd, Int.reduceSub, Int.reduceMul, Nat.reduceLT, Int.reduceToNat] | ((first | ((with_reducible refine CallL.gate ?_); apply CallL.of) | ((with_reducible refine CallP.gate ?_); apply CallP.of)); (case h1 => (simp -implicitDefEqProofs (maxSteps := 2000000) only [m28_1, m28_2, m28_3, m28_4, m28_5, m28_6, m28_7, m28_r, m28_b, m28, rc, h1, h2, h3, h4, h5, w32, wrap_u8, s8, s16, s24, s2, pl, take_bl, r2, bl_length, List.length_singleton, wk, act, asV, ↓reduceIte, Nat.reduceEqDiff, reduceCtorEq, Nat.reduceAdd, Nat.reduceLeDiff, Nat.reduceSub, Nat.reduceMul, List.reduceReplicate, Int.reduceEq, Int.reduceLT, Int.reduceLE, Int.reduceAdd, Int.reduceSub, Int.reduceMul, Nat.reduceLT, Int.reduceToNat]; first | done | (with_reducible rfl))); (case h2 => (first | exact hcc | exact hck)); (case h3 => simp -implicitDefEqProofs (maxSteps := 2000000) only [m28_1, m28_2, m28_3, m28_4, m28_5, m28_6, m28_7, m28_r, m28_b, m28, rc, h1, h2, h3, h4, h5, w32, wrap_u8, s8, s16, s24, s2, pl, take_bl, r2, bl_length, List.length_singleton, wk, act, asV, ↓reduceIte, Nat.reduceEqDiff, reduceCtorEq, Nat.reduceAdd, Nat.reduceLeDiff, Nat.reduceSub, Nat.reduceMul, List.reduceReplicate, Int.reduceEq, Int.reduceLT, Int.reduceLE, Int.reduceAdd, Int.reduceSub, Int.reduceMul, Nat.reduceLT, Int.reduceToNat])))
    exact PostW.mk (r' := [.own (body.length + 2) 1 (bl body ++ [.int .u8 ((u8 (crc body)).toNat : Int), .int .u8 ((u8 (crc body >>> 8)).toNat : Int)]), .int .i64 0]) (by simp -implicitDefEqProofs (maxSteps := 2000000) only [take_sealed, wk, act, asV, ↓reduceIte, Nat.reduceEqDiff, reduceCtorEq, Nat.reduceAdd, Nat.reduceLeDiff, Nat.reduceSub, Nat.reduceMul, List.reduceReplicate, Int.reduceEq, Int.reduceLT, Int.reduceLE, Int.reduceAdd, Int.reduceSub, Int.reduceMul, Nat.reduceLT, Int.reduceToNat]) (.cons (.inl rfl) (.cons (.inl rfl) .nil)) (Nat.le_refl 1) (Nat.le_refl 1)

end Go.Proofs.Ytkphojcmjffccaa
/- Of the replies: the document's bytes; replies joined. -/
set_option linter.unusedSectionVars false
set_option linter.unusedVariables false
set_option linter.unusedSimpArgs false
set_option maxRecDepth 100000
set_option maxHeartbeats 4000000
namespace Go.Proofs.Ytkphojcmjffccaa
open Go.RowKit

theorem putle4 (n : Nat) : putle n 4 = [u8 n, u8 (n >>> 8), u8 (n >>> 16), u8 (n >>> 24)] := by
  simp [putle, List.range_succ]

theorem replyR_ok (r : Rp) (hf : ¬ r.f = .lit) : RC Try.prog 29 [.agg (rc r)] [.own (encB r).length 1 (bl (encB r)), .int .i64 (encE r)] := by
  obtain ⟨id, e, f, d⟩ := r
  refine RC.of_wpW c29 rfl ?_
  have bad : ∀ s : St, id < 0 ∨ (2147483647 : Int) < id ∨ e < 0 ∨ (255 : Int) < e ∨ (255 : Int) < d.length → s.ress [MRes.tmp 2, MRes.tmp 3] = some [.sl .full 0 [], .int .i64 11] → PostW [MRes.tmp 2, MRes.tmp 3] [.own (encB ⟨id, e, f, d⟩).length 1 (bl (encB ⟨id, e, f, d⟩)), .int .i64 (encE ⟨id, e, f, d⟩)] .ret s := by
    intro s hb hs
    have hb' := bad_of (f := f) hb
    have e1 : encB ⟨id, e, f, d⟩ = [] := if_neg hb'
    have e2 : encE ⟨id, e, f, d⟩ = 11 := if_neg hb'
    rw [e1, e2]
    exact PostW.mk (r' := [.sl .full 0 [], .int .i64 11]) hs (.cons (.inr ⟨rfl, 1, rfl⟩) (.cons (.inl rfl) .nil)) (by decide) (by decide)
  by_cases h1 : id < 0
  · simp -implicitDefEqProofs (maxSteps := 2000000) only [m29_1, m29_2, m29_3, m29_4, m29_5, m29_6, m29_r, m29_b, m29, rc, h1, wk, act, asV, ↓reduceIte, Nat.reduceEqDiff, reduceCtorEq, Nat.reduceAdd, Nat.reduceLeDiff, Nat.reduceSub, Nat.reduceMul, List.reduceReplicate, Int.reduceEq, Int.reduceLT, Int.reduceLE, Int.reduceAdd, Int.reduceSub, Int.reduceMul, Nat.reduceLT, Int.reduceToNat]
    exact bad _ (.inl h1) (by simp -implicitDefEqProofs (maxSteps := 2000000) only [wk, act, asV, ↓reduceIte, Nat.reduceEqDiff, reduceCtorEq, Nat.reduceAdd, Nat.reduceLeDiff, Nat.reduceSub, Nat.reduceMul, List.reduceReplicate, Int.reduceEq, Int.reduceLT, Int.reduceLE, Int.reduceAdd, Int.reduceSub, Int.reduceMul, Nat.reduceLT, Int.reduceToNat])
  by_cases h2 : (2147483647 : Int) < id
  · have h2' : (2147483648 : Int) ≤ id := by omega
    simp -implicitDefEqProofs (maxSteps := 2000000) only [m29_1, m29_2, m29_3, m29_4, m29_5, m29_6, m29_r, m29_b, m29, rc, h1, h2', wk, act, asV, ↓reduceIte, Nat.reduceEqDiff, reduceCtorEq, Nat.reduceAdd, Nat.reduceLeDiff, Nat.reduceSub, Nat.reduceMul, List.reduceReplicate, Int.reduceEq, Int.reduceLT, Int.reduceLE, Int.reduceAdd, Int.reduceSub, Int.reduceMul, Nat.reduceLT, Int.reduceToNat]
    exact bad _ (.inr (.inl h2)) (by simp -implicitDefEqProofs (maxSteps := 2000000) only [wk, act, asV, ↓reduceIte, Nat.reduceEqDiff, reduceCtorEq, Nat.reduceAdd, Nat.reduceLeDiff, Nat.reduceSub, Nat.reduceMul, List.reduceReplicate, Int.reduceEq, Int.reduceLT, Int.reduceLE, Int.reduceAdd, Int.reduceSub, Int.reduceMul, Nat.reduceLT, Int.reduceToNat])
  have h2' : ¬ (2147483648 : Int) ≤ id := by omega
  by_cases h3 : e < 0
  · simp -implicitDefEqProofs (maxSteps := 2000000) only [m29_1, m29_2, m29_3, m29_4, m29_5, m29_6, m29_r, m29_b, m29, rc, h1, h2', h3, wk, act, asV, ↓reduceIte, Nat.reduceEqDiff, reduceCtorEq, Nat.reduceAdd, Nat.reduceLeDiff, Nat.reduceSub, Nat.reduceMul, List.reduceReplicate, Int.reduceEq, Int.reduceLT, Int.reduceLE, Int.reduceAdd, Int.reduceSub, Int.reduceMul, Nat.reduceLT, Int.reduceToNat]
    exact bad _ (.inr (.inr (.inl h3))) (by simp -implicitDefEqProofs (maxSteps := 2000000) only [wk, act, asV, ↓reduceIte, Nat.reduceEqDiff, reduceCtorEq, Nat.reduceAdd, Nat.reduceLeDiff, Nat.reduceSub, Nat.reduceMul, List.reduceReplicate, Int.reduceEq, Int.reduceLT, Int.reduceLE, Int.reduceAdd, Int.reduceSub, Int.reduceMul, Nat.reduceLT, Int.reduceToNat])
  by_cases h4 : (255 : Int) < e
  · simp -implicitDefEqProofs (maxSteps := 2000000) only [m29_1, m29_2, m29_3, m29_4, m29_5, m29_6, m29_r, m29_b, m29, rc, h1, h2', h3, h4, wk, act, asV, ↓reduceIte, Nat.reduceEqDiff, reduceCtorEq, Nat.reduceAdd, Nat.reduceLeDiff, Nat.reduceSub, Nat.reduceMul, List.reduceReplicate, Int.reduceEq, Int.reduceLT, Int.reduceLE, Int.reduceAdd, Int.reduceSub, Int.reduceMul, Nat.reduceLT, Int.reduceToNat]
    exact bad _ (.inr (.inr (.inr (.inl h4)))) (by simp -implicitDefEqProofs (maxSteps := 2000000) only [wk, act, asV, ↓reduceIte, Nat.reduceEqDiff, reduceCtorEq, Nat.reduceAdd, Nat.reduceLeDiff, Nat.reduceSub, Nat.reduceMul, List.reduceReplicate, Int.reduceEq, Int.reduceLT, Int.reduceLE, Int.reduceAdd, Int.reduceSub, Int.reduceMul, Nat.reduceLT, Int.reduceToNat])
  by_cases h5 : (255 : Int) < d.length
  · simp -implicitDefEqProofs (maxSteps := 2000000) only [m29_1, m29_2, m29_3, m29_4, m29_5, m29_6, m29_r, m29_b, m29, rc, h1, h2', h3, h4, h5, wk, act, asV, ↓reduceIte, Nat.reduceEqDiff, reduceCtorEq, Nat.reduceAdd, Nat.reduceLeDiff, Nat.reduceSub, Nat.reduceMul, List.reduceReplicate, Int.reduceEq, Int.reduceLT, Int.reduceLE, Int.reduceAdd, Int.reduceSub, Int.reduceMul, Nat.reduceLT, Int.reduceToNat]
    exact bad _ (.inr (.inr (.inr (.inr h5)))) (by simp -implicitDefEqProofs (maxSteps := 2000000) only [wk, act, asV, ↓reduceIte, Nat.reduceEqDiff, reduceCtorEq, Nat.reduceAdd, Nat.reduceLeDiff, Nat.reduceSub, Nat.reduceMul, List.reduceReplicate, Int.reduceEq, Int.reduceLT, Int.reduceLE, Int.reduceAdd, Int.reduceSub, Int.reduceMul, Nat.reduceLT, Int.reduceToNat])
  have hg := good_of (f := f) h1 h2 h3 h4 h5
  have e1 : encB ⟨id, e, f, d⟩ = renc ⟨id, e, f, d⟩ := if_pos hg
  have e2 : encE ⟨id, e, f, d⟩ = 0 := if_pos hg
  rw [e1, e2]
  obtain ⟨n, rfl⟩ : ∃ n : Nat, id = n := ⟨id.toNat, by omega⟩
  obtain ⟨m, rfl⟩ : ∃ n : Nat, e = n := ⟨e.toNat, by omega⟩
  have hn : n < 2 ^ 31 := by omega
  obtain ⟨body, hbody⟩ : ∃ body, body = rbody n m d := ⟨_, rfl⟩
  have hre : renc ⟨n, m, f, d⟩ = sealed body := by rw [hbody]; rfl
  rw [hre, sealed_length]
  have hbl : body.length = 6 + d.length := by rw [hbody, rbody_length]; omega
  have hd : d.length ≤ 255 := by omega
  have w32 : IntKind.u32.wrap ((n : Nat) : Int) = n := wrapN .u32 (by simp [vbits, IntKind.signed, IntKind.bits]; omega)
  have hput := put_ok (n := n) (k := 4) (by omega) (by decide) (by decide)
  rw [putle4] at hput
  have hse := sealed_ok .plain (by decide) body (by omega)
  have hbb : bl body = bl [u8 n, u8 (n >>> 8), u8 (n >>> 16), u8 (n >>> 24)] ++ [.int .u8 ((u8 m).toNat : Int), .int .u8 ((u8 d.length).toNat : Int)] ++ bl d := by rw [hbody]; simp [rbody, bl]
  have r2 : roomy (6 + d.length) 1 = true := roomyB (by omega)
  have r1 : roomy 6 1 = true := by decide
  have htk : (bl body).take (6 + d.length) = bl body := by rw [← hbl]; exact take_bl body
  have hse' : RC Try.prog 43 [.sl .plain (6 + d.length) (bl body)] [.own (body.length + 2) 1 (bl (sealed body))] := by rw [← hbl]; exact hse
  have htk2 : (bl (sealed body)).take (6 + d.length + 2) = bl (sealed body) := by rw [← hbl, ← sealed_length]; exact take_bl _
  have hL : (bl [u8 n, u8 (n >>> 8), u8 (n >>> 16), u8 (n >>> 24)]).length = 4 := rfl
  cases f with
  | lit => exact absurd rfl hf
  | _ =>
    repeat' (first | simp -implicitDefEqProofs (maxSteps := 2000000) only [m29_1, m29_2, m29_3, m29_4, m29_5, m29_6, m29_r, m29_b, m29, rc, h1, h2', h3, h4, h5, w32, wrap_u8, r1, r2, hL, List.length_append, bl_length, ← hbb, htk, bl_scal, hbl, wk, act, asV, ↓reduceIte, Nat.reduceEqDiff, reduceCtorEq, Nat.reduceAdd, Nat.reduceLeDiff, Nat.reduceSub, Nat.reduceMul, List.reduceReplicate, Int.reduceEq, Int.reduceLT, Int.reduceLE, Int.reduceAdd, Int.reduceSub, Int.reduceMul, Nat.reduceLT, Int.reduceToNat] | ((first | ((with_reducible refine CallL.gate ?_); apply CallL.of) | ((with_reducible refine CallP.gate ?_); apply CallP.of)); (case h1 => (simp -implicitDefEqProofs (maxSteps := 2000000) only [m29_1, m29_2, m29_3, m29_4, m29_5, m29_6, m29_r, m29_b, m29, rc, h1, h2', h3, h4, h5, w32, wrap_u8, r1, r2, hL, List.length_append, bl_length, ← hbb, htk, bl_scal, hbl, wk, act, asV, ↓reduceIte, Nat.reduceEqDiff, reduceCtorEq, Nat.reduceAdd, Nat.reduceLeDiff, Nat.reduceSub, Nat.reduceMul, List.reduceReplicate, Int.reduceEq, Int.reduceLT, Int.reduceLE, Int.reduceAdd, Int.reduceSub, Int.reduceMul, Nat.reduceLT, Int.reduceToNat]; first | done | (with_reducible rfl))); (case h2 => (first | exact hput | exact hse')); (case h3 => simp -implicitDefEqProofs (maxSteps := 2000000) only [m29_1, m29_2, m29_3, m29_4, m29_5, m29_6, m29_r, m29_b, m29, rc, h1, h2', h3, h4, h5, w32, wrap_u8, r1, r2, hL, List.length_append, bl_length, ← hbb, htk, bl_scal, hbl, wk, act, asV, ↓reduceIte, Nat.reduceEqDiff, reduceCtorEq, Nat.reduceAdd, Nat.reduceLeDiff, Nat.reduceSub, Nat.reduceMul, List.reduceReplicate, Int.reduceEq, Int.reduceLT, Int.reduceLE, Int.reduceAdd, Int.reduceSub, Int.reduceMul, Nat.reduceLT, Int.reduceToNat])))
    exact PostW.mk (r' := [.own (6 + d.length + 2) 1 (bl (sealed body)), .int .i64 0]) (by simp -implicitDefEqProofs (maxSteps := 2000000) only [htk2, wk, act, asV, ↓reduceIte, Nat.reduceEqDiff, reduceCtorEq, Nat.reduceAdd, Nat.reduceLeDiff, Nat.reduceSub, Nat.reduceMul, List.reduceReplicate, Int.reduceEq, Int.reduceLT, Int.reduceLE, Int.reduceAdd, Int.reduceSub, Int.reduceMul, Nat.reduceLT, Int.reduceToNat]) (.cons (.inl rfl) (.cons (.inl rfl) .nil)) (Nat.le_refl 1) (Nat.le_refl 1)

end Go.Proofs.Ytkphojcmjffccaa
/- slices.Chunk's closure over bytes, 64 by 64. -/
set_option linter.unusedSimpArgs false
set_option linter.unusedSectionVars false
set_option linter.unusedVariables false
namespace Go.Proofs.Ytkphojcmjffccaa
open Go.RowKit Go.Shelf
attribute [local go_sem] Oper.semAt_some

def upN (N k : Nat) : List (Fin N) := (List.finRange N).take k
theorem upN_length {N k : Nat} (h : k ≤ N) : (upN N k).length = k := by simp [upN, h]
theorem upN_succ {N k : Nat} (h : k < N) : upN N (k + 1) = upN N k ++ [⟨k, h⟩] := by
  unfold upN
  rw [List.take_succ_eq_append_getElem (by simpa using h)]
  simp
theorem upN_all (N : Nat) : upN N N = List.finRange N := List.take_of_length_le (by simp)

set_option maxRecDepth 100000 in
set_option maxHeartbeats 4000000 in
theorem chunk1_in (n : Nat) (hn : 1 ≤ n) (l Bs os Bn on_ b off N cap : Nat) (hcap : 64 * N ≤ cap) (hreach : 64 * N ≤ 140737488351232) (Kp : World → World → Prop)
    (hKs : ∀ W W', Kp W W' → W'.cell? ⟨Bs, os, none⟩ = W.cell? ⟨Bs, os, none⟩) (hKn : ∀ W W', Kp W W' → W'.cell? ⟨Bn, on_, none⟩ = W.cell? ⟨Bn, on_, none⟩) (J Jx : List (Fin N) → World → Prop)
    (hY : ∀ pre (x : Fin N) W, J pre W → pre.length < N → YieldAt Fence.wide (n - 1) Try.prog l #[.slice (some ⟨b, off + 64 * x.1, none⟩) 64 64] W fun e W' =>
      (e = .returned (.bool true) ∧ J (pre ++ [x]) W' ∧ Kp W W') ∨ (e = .returned (.bool false) ∧ Jx (pre ++ [x]) W'))
    (W : World) (hJ : ∀ s A, J s A → J s A.drew) (hBs : W.cell? ⟨Bs, os, none⟩ = some (.slice (some ⟨b, off, none⟩) (64 * N) cap)) (hBn : W.cell? ⟨Bn, on_, none⟩ = some (.int .i64 64)) (h0 : J [] W) :
    CallsIn Fence.wide n Try.prog 47 #[.func (.yield l) #[] #[], .pointer (some ⟨Bs, os, none⟩), .pointer (some ⟨Bn, on_, none⟩)] W fun e W' => (∃ v, e = .returned v) ∧
      ((∃ ys, ys = List.finRange N ∧ J ys W') ∨ (∃ pre, Jx pre W')) := by
  refine callsIn_of_wp Try.func47 rfl trivial ?_ rfl
  simp only [Try.ntmps47, List.size_toArray, List.length_cons, List.length_nil, Nat.reduceAdd, Nat.reduceSub, Array.replicate_succ, Array.replicate_zero, List.push_toArray, List.append_toArray, List.nil_append, List.cons_append]
  have hmx : Try.prog.follows .mixedOrders = true := by kernel_rfl
  gi_wp2
  gi_loopw [4] (fun i wr => ∃ k : Nat, k ≤ N ∧ i = .int .i64 ((64 * k : Nat) : Int) ∧ J (upN N k) wr ∧ wr.cell? ⟨Bs, os, none⟩ = some (.slice (some ⟨b, off, none⟩) (64 * N) cap) ∧ wr.cell? ⟨Bn, on_, none⟩ = some (.int .i64 64))
    (fun i _ => 64 * N - (intOf i).toNat)
  case atStart => exact ⟨0, Nat.zero_le _, rfl, h0, hBs, hBn⟩
  case round =>
    obtain ⟨k, hk, rfl, hJs, hbs, hbn⟩ := hrel
    by_cases hlt : k < N
    · have hY' := hY _ ⟨k, hlt⟩ wr.drew (hJ _ _ hJs) (by rw [upN_length hk]; exact hlt)
      obtain ⟨fn, tmps, assign, body, hy, hR⟩ := hY'
      dsimp only at hy
      gi_wp2
      gi_region_with_o (fail)
      all_goals gi_wp2
      all_goals (try go_bits)
      all_goals refine hR.mono ?_
      all_goals rintro e W3 (⟨rfl, hJ3, hk3⟩ | ⟨rfl, hJx3⟩)
      all_goals try have hbs3 := (hKs _ _ hk3).trans ((show wr.drew.cell? ⟨Bs, os, none⟩ = _ from hbs))
      all_goals try have hbn3 := (hKn _ _ hk3).trans ((show wr.drew.cell? ⟨Bn, on_, none⟩ = _ from hbn))
      all_goals gi_wp2
      all_goals first
        | (refine bodyPost_ret (results_none rfl _ _ _) rfl ?_
           exact ⟨⟨_, rfl⟩, .inr ⟨_, hJx3⟩⟩)
        | exact ⟨⟨k + 1, by omega, by rw [show ((64 * (k + 1) : Nat) : Int) = 64 * (k : Int) + 64 by omega], by rw [upN_succ hlt]; exact hJ3, hbs3, hbn3⟩, by simp only [intOf]; omega⟩
    · have hkN : N = k := by omega
      subst hkN
      gi_wp2
      go_end0
      exact ⟨⟨_, rfl⟩, .inl ⟨_, rfl, by rw [← upN_all]; exact hJs⟩⟩
end Go.Proofs.Ytkphojcmjffccaa
/- slices.Chunk over bytes, 64 by 64: what it hands back. -/
set_option linter.unusedSimpArgs false
set_option linter.unusedSectionVars false
set_option linter.unusedVariables false
namespace Go.Proofs.Ytkphojcmjffccaa
open Go.RowKit Go.Shelf
attribute [local go_sem] Oper.semAt_some

set_option maxRecDepth 100000 in
set_option maxHeartbeats 1000000 in
theorem chunk_in (n : Nat) (a : Option Addr) (len cap : Nat) (w : World) : CallsIn Fence.wide n Try.prog 35 #[.slice a len cap, .int .i64 64] w fun e w' =>
    e = .returned (.func (.func 47) #[] #[.pointer (some ⟨w.heap.size, 0, none⟩), .pointer (some ⟨w.heap.size + 1, 0, none⟩)]) ∧ w' = (w.alloc (.cells #[.slice a len cap] 35)).alloc (.cells #[.int .i64 64] 3) := by
  refine callsIn_of_wp Try.func35 rfl trivial ?_ rfl
  simp only [Try.ntmps35, List.size_toArray, List.length_cons, List.length_nil, Nat.reduceAdd, Nat.reduceSub, Array.replicate_succ, Array.replicate_zero, List.push_toArray, List.append_toArray, List.nil_append, List.cons_append]
  gi_wp2
  go_ret
  exact ⟨rfl, rfl⟩

theorem chunk_ok (f : Fl) (n : Nat) (cs : List IV) : RC Try.prog 35 [.sl f n cs, .int .i64 64] [.clo 47 [.addr [.sl f n cs], .addr [.int .i64 64]]] := by
  refine ⟨by kernel_rfl, ?_⟩
  intro w A vals hA hnl hpu hv
  simp only [VRL] at hv
  obtain ⟨u, _, rfl, h1, u2, _, rfl, h2, rfl⟩ := hv
  have h1' := h1
  simp only [VR] at h1 h2
  obtain ⟨Aa, k, us, rfl, hk, hfk, hfb, hp, ho, hus, hat⟩ := h1
  subst h2
  have hfl : ¬ f = .lit := by rintro rfl; simp [IV.nlit] at hnl
  refine Calls.mono ((callsIn_wide (n := 3)).1 (chunk_in 3 Aa n k w)) ?_
  rintro e w' ⟨rfl, rfl⟩
  have hb : Below w.heap.size w ((w.alloc (.cells #[.slice Aa n k] 35)).alloc (.cells #[.int .i64 64] 3)) := ((Below.refl _ w).alloc (Nat.le_refl _) _).alloc (by simp) _
  have hone : (IV.sl f n cs).one = true := by cases f <;> first | rfl | exact absurd rfl hfl
  have hnl1 : (IV.sl f n cs).nlit = true := by cases f <;> first | rfl | exact absurd rfl hfl
  refine ⟨_, rfl, ⟨fun b => A b ∨ b = w.heap.size ∨ b = w.heap.size + 1, [_], rfl, ?_, ?_, by simp [isOwn]⟩, hb⟩
  · rintro b (h | rfl | rfl)
    · exact ⟨fun _ => h, by have := hA b h; simp; omega⟩
    · exact ⟨fun h => absurd h (Nat.lt_irrefl _), by simp; omega⟩
    · exact ⟨fun h => by omega, by simp⟩
  · refine .cons ⟨by simp [IV.pur, IV.purL, hp], rfl, ?_⟩ .nil
    have hev : EvoP (cArg A w) ⟨(w.alloc (.cells #[.slice Aa n k] 35)).alloc (.cells #[.int .i64 64] 3), fun b => A b ∨ b = w.heap.size ∨ b = w.heap.size + 1, deadH, fun _ => none, w.heap.size⟩ :=
      ⟨fun b h => .inl h, fun b h i => hb.cell (p := ⟨b, i, none⟩) (hA b h)⟩
    have hvv := h1'.evoP hev (by simp [IV.pur, hp]) hnl1
    simp only [VR, VRL]
    refine ⟨[_, _], rfl, rfl, _, _, rfl, ⟨_, [_], rfl, rfl, by simp [IV.purL, IV.pur, hp], by simp [hone], ⟨_, _, rfl, hvv, rfl⟩, ?_⟩, _, _, rfl, ⟨_, [_], rfl, rfl, by decide, by decide, ⟨_, _, rfl, rfl, rfl⟩, ?_⟩, rfl⟩
    · intro i hi
      obtain rfl : i = 0 := by simpa using hi
      refine ⟨_, rfl, rfl, .inr (.inl rfl), ?_⟩
      simp
    · intro i hi
      obtain rfl : i = 0 := by simpa using hi
      refine ⟨_, rfl, rfl, .inr (.inr rfl), ?_⟩
      simp
end Go.Proofs.Ytkphojcmjffccaa
/- A region's walk within a round of a range over a function. -/
set_option linter.unusedSimpArgs false
set_option linter.unusedSectionVars false
set_option linter.unusedVariables false
namespace Go.Proofs.Ytkphojcmjffccaa
open Go Go.RowKit

variable {P : Program} {ops : Array Oper} {Q : Exit → Act → World → Prop} {l n : Nat}

theorem rowsIn_round {row : String} {args : Array Value} {w : World} {R : Value → World → Prop} (h : Rows P row args w R) : RowsIn (Fence.wide.inRound l) n P row args w R := by
  intro c cs _
  obtain ⟨v, w', r, s⟩ := h c cs
  exact ⟨v, w', r, by rw [fenced_inRound]; exact stepsIn_wide.2 s⟩
theorem callsIn_round {f : FuncId} {args : Array Value} {w : World} {R : Ending → World → Prop} (h : Calls P f args w R) : CallsIn (Fence.wide.inRound l) n P f args w R :=
  CallsIn.inRound l (callsIn_wide.2 h)
theorem uponIn_round {o : Oper} {a : Act} {next next' : Act → World → Prop} (hn : ∀ a w, next a w → next' a w) {r : Result Next} (h : o.upon P a next Q r) : o.uponIn (Fence.wide.inRound l) n P a next' Q r := by
  cases r with
  | ok x w =>
    cases x with
    | value v => exact hn _ _ h
    | skip => exact hn _ _ h
    | defer d => exact hn _ _ h
    | enter f args =>
      refine ⟨fun hd => by simp [Fence.wide] at hd, callsIn_round (Calls.mono h fun e w' hr => ?_)⟩
      cases e with
      | returned v => exact hn _ _ hr
      | panicked chain => exact hr
      | outgrown => exact hr
    | row row args => exact ⟨fun hd => by simp [Fence.wide] at hd, rowsIn_round (Rows.mono h fun v w' hr => hn _ _ hr)⟩
    | _ => exact h.elim
  | halt x w =>
    cases x with
    | panic v => exact h
    | _ => exact h.elim
theorem opsIn_of_ops (hd : ∀ (i : Nat) (o : Oper), ops[i]? = some o → ∀ c, o.op ≠ .defer c) (hQ : ¬ LetsOut Q) : ∀ (is : List Nat) (a : Act) (w : World), wpOps P ops Q is a w → wpOpsIn (Fence.wide.inRound l) n P ops Q is a w
  | [], _, _, h => h
  | i :: is, a, w, h => by
    simp only [wpOps] at h
    simp only [wpOpsIn]
    cases ho : ops[i]? with
    | none => rw [ho] at h; exact opsIn_of_ops hd hQ is a w h
    | some o =>
      rw [ho] at h
      simp only at h ⊢
      split at h
      · rename_i hw
        rw [if_pos hw]
        refine ⟨fun _ _ => trivial, ?_⟩
        rw [Oper.semAt_eq _ _ _ (hd i o ho)]
        rcases h with h | h
        · exact uponIn_round (fun a w hx => opsIn_of_ops hd hQ is a w hx) h
        · exact absurd h.2 hQ
      · rename_i hw
        rw [if_neg hw]
        exact ⟨fun _ _ => trivial, opsIn_of_ops hd hQ is _ _ h⟩
end Go.Proofs.Ytkphojcmjffccaa
/- A region of open order in a round: the engine's part, then what stands behind it by hand. -/
set_option linter.unusedSectionVars false
set_option linter.unusedVariables false
set_option linter.unusedSimpArgs false
namespace Go.Proofs.Ytkphojcmjffccaa
open Go.RowKit

section
variable [Off] [Gh] [Old] {P : Program} {w0 : World} {N : Nat} {ops : Array Oper} {Q : Exit → Act → World → Prop}
end
theorem getD_put_ne {a : Act} {d : Option Nat} {z : Nat} (v : Value) (h : d ≠ some z) : (a.put d v).tmps.getD z undef = a.tmps.getD z undef := by
  cases d with
  | none => rfl
  | some d =>
    simp only [Act.put, Array.getD_eq_getD_getElem?, Array.getElem?_setIfInBounds]
    rw [if_neg (fun e => h (by rw [e]))]
theorem ops_frame {P : Program} {ops : Array Oper} {Q Q' : Exit → Act → World → Prop} {z : Nat} {v0 : Value} (hz : ∀ (i : Nat) (o : Oper), ops[i]? = some o → o.dst ≠ some z) (hQ : ¬ LetsOut Q)
    (hQQ : ∀ e a w, Q e a w → a.tmps.getD z undef = v0 → Q' e a w) : ∀ (is : List Nat) (a : Act) (w : World), a.tmps.getD z undef = v0 → wpOps P ops Q is a w → wpOps P ops Q' is a w
  | [], a, w, hv, h => hQQ _ _ _ h hv
  | i :: is, a, w, hv, h => by
    simp only [wpOps] at h ⊢
    cases ho : ops[i]? with
    | none => rw [ho] at h; exact ops_frame hz hQ hQQ is a w hv h
    | some o =>
      rw [ho] at h
      simp only at h ⊢
      have hne := hz i o ho
      split at h
      · rename_i hw
        rw [if_pos hw]
        rcases h with h | h
        · left
          unfold Oper.wp at h ⊢
          have go : ∀ v w', wpOps P ops Q is (a.put o.dst v) w' → wpOps P ops Q' is (a.put o.dst v) w' := fun v w' h' => ops_frame hz hQ hQQ is _ _ ((getD_put_ne v hne).trans hv) h'
          revert h
          generalize (execOp a.eval o).run P w = r
          intro h
          cases r with
          | ok x w' =>
            cases x with
            | value v => exact go _ _ h
            | skip => exact go _ _ h
            | defer d => exact ops_frame hz hQ hQQ is _ _ ((getD_put_ne (a := { a with defers := d :: a.defers }) undef hne).trans hv) h
            | enter f args =>
              refine Calls.mono h fun e w'' hr => ?_
              cases e with
              | returned v => exact go _ _ hr
              | panicked chain => exact hQQ _ _ _ hr hv
              | outgrown => exact absurd hr hQ
            | row row args => exact Rows.mono h fun v w'' hr => go _ _ hr
            | _ => exact h.elim
          | halt x w' =>
            cases x with
            | panic v => exact hQQ _ _ _ h hv
            | _ => exact h.elim
        · exact absurd h.2 hQ
      · rename_i hw
        rw [if_neg hw]
        exact ops_frame hz hQ hQQ is _ _ ((getD_put_ne undef hne).trans hv) h
theorem region_round {P : Program} {ops : Array Oper} {Q Q' : Exit → Act → World → Prop} {l n id z : Nat} {a : Act} {w : World} (hmix : P.follows .mixedOrders = true) (hd : ∀ (i : Nat) (o : Oper), ops[i]? = some o → ∀ c, o.op ≠ .defer c) (hQ : ¬ LetsOut Q) (hQ' : ¬ LetsOut Q') (hz : ∀ (i : Nat) (o : Oper), ops[i]? = some o → o.dst ≠ some z) (hQQ : ∀ e a' w', Q e a' w' → a'.tmps.getD z undef = a.tmps.getD z undef → Q' e a' w')
    (h : wpAny P .any ops Q ops.size (Array.replicate ops.size false) a { w with drawn := w.drawn + 1 }) : (Code.region id ops true).wpIn (Fence.wide.inRound l) n P Q' a w :=
  wpIn_region_draw fun t => by
    simp only [Region.schedule, hmix, Bool.true_or, if_true]
    exact opsIn_of_ops hd hQ' _ _ _ (ops_frame hz hQ hQQ _ _ _ rfl (wpAny_sound ops.size t _ a _ h))
end Go.Proofs.Ytkphojcmjffccaa
/- Words: turned, and put together. -/
set_option linter.unusedSectionVars false
set_option linter.unusedVariables false
set_option linter.unusedSimpArgs false
set_option maxRecDepth 100000
set_option maxHeartbeats 4000000
namespace Go.Proofs.Ytkphojcmjffccaa
open Go.RowKit

def wsh (x : UInt32) (k : Nat) : UInt32 := UInt32.ofNat (x.toNat >>> k)
def wsl (x : UInt32) (k : Nat) : UInt32 := UInt32.ofNat (x.toNat * 2 ^ k)
def rotr (x : UInt32) (k : Nat) : UInt32 := wsh x k ||| wsl x (32 - k)
theorem w_lt (x : UInt32) : x.toNat < 2 ^ vbits .u32 := by
  have := x.toNat_lt
  simpa [vbits, IntKind.signed, IntKind.bits] using this
theorem w_wrap (n : Nat) : IntKind.u32.wrap (n : Int) = ((UInt32.ofNat n).toNat : Int) := by
  simp only [IntKind.wrap, IntKind.signed, IntKind.bits]
  simp
theorem wsh_toNat (x : UInt32) (k : Nat) : (wsh x k).toNat = x.toNat >>> k := by
  have := x.toNat_lt
  have h : x.toNat >>> k ≤ x.toNat := by rw [Nat.shiftRight_eq_div_pow]; exact Nat.div_le_self _ _
  simp only [wsh, UInt32.toNat_ofNat']
  exact Nat.mod_eq_of_lt (Nat.lt_of_le_of_lt h this)
theorem w_shr (x : UInt32) {k : Nat} (h : k ≤ 32) : shI .shr .u32 (x.toNat : Int) (k : Int) = some (.int .u32 ((wsh x k).toNat : Int)) := by
  rw [wsh_toNat]
  exact shI_shr .u32 h
theorem w_shl (x : UInt32) {k : Nat} (h : k ≤ 32) : shI .shl .u32 (x.toNat : Int) (k : Int) = some (.int .u32 ((wsl x k).toNat : Int)) := by
  have e : (x.toNat : Int) * 2 ^ k = ((x.toNat * 2 ^ k : Nat) : Int) := by simp
  have hk : k ≤ IntKind.u32.bits := h
  simp only [shI, if_neg (show ¬ ((k : Int) < 0) by omega), Int.toNat_natCast, Nat.min_eq_left hk, e, w_wrap]
  rfl
theorem w_or (x y : UInt32) : bitsI .or .u32 (x.toNat : Int) (y.toNat : Int) = some (((x ||| y).toNat : Nat) : Int) := by
  rw [bitsI_or .u32 (w_lt x) (w_lt y), UInt32.toNat_or]
theorem w_and (x y : UInt32) : bitsI .and .u32 (x.toNat : Int) (y.toNat : Int) = some (((x &&& y).toNat : Nat) : Int) := by
  rw [bitsI_and .u32 (w_lt x) (w_lt y), UInt32.toNat_and]
theorem w_xor (x y : UInt32) : bitsI .xor .u32 (x.toNat : Int) (y.toNat : Int) = some (((x ^^^ y).toNat : Nat) : Int) := by
  rw [bitsI_xor .u32 (w_lt x) (w_lt y), UInt32.toNat_xor]
theorem w_add (x y : UInt32) : IntKind.u32.wrap ((x.toNat : Int) + (y.toNat : Int)) = (((x + y).toNat : Nat) : Int) := by
  rw [← Int.natCast_add, w_wrap, UInt32.toNat_add]
  simp

theorem right_ok (x : UInt32) {k : Nat} (h : k ≤ 32) : RC Try.prog 51 [.int .u32 (x.toNat : Int), .int .u64 (k : Int)] [.int .u32 ((rotr x k).toNat : Int)] := by
  refine RC.of_wp c51 rfl ?_
  have w : IntKind.u64.wrap (32 - (k : Int)) = ((32 - k : Nat) : Int) := by
    rw [show (32 : Int) - k = ((32 - k : Nat) : Int) by omega]
    exact wrapN .u64 (by simp [vbits, IntKind.signed, IntKind.bits]; omega)
  have s1 := w_shr x h
  have s2 := w_shl x (k := 32 - k) (by omega)
  have s3 := w_or (wsh x k) (wsl x (32 - k))
  simp -implicitDefEqProofs (maxSteps := 2000000) only [m51_1, m51_r, m51_b, m51, w, s1, s2, s3, rotr, wk, act, asV, ↓reduceIte, Nat.reduceEqDiff, reduceCtorEq, Nat.reduceAdd, Nat.reduceLeDiff, Nat.reduceSub, Nat.reduceMul, List.reduceReplicate, Int.reduceEq, Int.reduceLT, Int.reduceLE, Int.reduceAdd, Int.reduceSub, Int.reduceMul, Nat.reduceLT, Int.reduceToNat]

theorem rotl_ok (x : UInt32) {k : Nat} (h0 : 0 < k) (h : k < 32) : RC Try.prog 56 [.int .u32 (x.toNat : Int), .int .i64 (-(k : Int))] [.int .u32 ((rotr x k).toNat : Int)] := by
  refine RC.of_wp c56 rfl ?_
  have w0 : IntKind.u64.wrap (-(k : Int)) = ((2 ^ 64 - k : Nat) : Int) := by
    simp only [IntKind.wrap, IntKind.signed, IntKind.bits, Bool.false_and, Bool.false_eq_true, if_false]
    omega
  have a0 : bitsI .and .u64 ((2 ^ 64 - k : Nat) : Int) 31 = some ((32 - k : Nat) : Int) := by
    have := bitsI_and .u64 (x := 2 ^ 64 - k) (y := 31) (by simp [vbits, IntKind.signed, IntKind.bits]; omega) (by simp [vbits, IntKind.signed, IntKind.bits])
    rw [show (31 : Nat) = 2 ^ 5 - 1 from rfl, Nat.and_two_pow_sub_one_eq_mod] at this
    rw [show (2 ^ 64 - k) % 2 ^ 5 = 32 - k by omega] at this
    exact this
  have w : IntKind.u64.wrap (32 - ((32 - k : Nat) : Int)) = (k : Int) := by
    rw [show (32 : Int) - ((32 - k : Nat) : Int) = (k : Int) by omega]
    exact wrapN .u64 (by simp [vbits, IntKind.signed, IntKind.bits]; omega)
  have s1 := w_shr x (k := k) (by omega)
  have s2 := w_shl x (k := 32 - k) (by omega)
  have s3 := w_or (wsl x (32 - k)) (wsh x k)
  have e : wsl x (32 - k) ||| wsh x k = rotr x k := UInt32.or_comm _ _
  rw [e] at s3
  simp -implicitDefEqProofs (maxSteps := 2000000) only [m56_1, m56_2, m56_r, m56_b, m56, w0, a0, w, s1, s2, s3, wk, act, asV, ↓reduceIte, Nat.reduceEqDiff, reduceCtorEq, Nat.reduceAdd, Nat.reduceLeDiff, Nat.reduceSub, Nat.reduceMul, List.reduceReplicate, Int.reduceEq, Int.reduceLT, Int.reduceLE, Int.reduceAdd, Int.reduceSub, Int.reduceMul, Nat.reduceLT, Int.reduceToNat]

def turnedW (x : UInt32) (a b c : Nat) (sh : Bool) : UInt32 := rotr x a ^^^ rotr x b ^^^ (if sh = true then wsh x c else rotr x c)
theorem turned_ok (x : UInt32) {a b c : Nat} (sh : Bool) (ha0 : 0 < a) (ha : a < 32) (hb0 : 0 < b) (hb : b < 32) (hc0 : 0 < c) (hc : c < 32) :
    RC Try.prog 50 [.int .u32 (x.toNat : Int), .int .i64 (a : Int), .int .i64 (b : Int), .int .i64 (c : Int), .bool sh] [.int .u32 ((turnedW x a b c sh).toNat : Int)] := by
  refine RC.of_wp c50 rfl ?_
  have n : ∀ k : Nat, k < 32 → IntKind.i64.wrap (0 - (k : Int)) = -(k : Int) := by intro k h; rw [IntKind.wrap_i64]; omega
  have n1 := n a ha
  have n2 := n b hb
  have n3 := n c hc
  have c1 := rotl_ok x ha0 ha
  have c2 := rotl_ok x hb0 hb
  have c3 := rotl_ok x hc0 hc
  have s1 := w_shr x (k := c) (by omega)
  have x1 := w_xor (rotr x a) (rotr x b)
  cases sh with
  | true =>
    have x2 := w_xor (rotr x a ^^^ rotr x b) (wsh x c)
    have e : turnedW x a b c true = rotr x a ^^^ rotr x b ^^^ wsh x c := rfl
    rw [e]
    have hc0' : ¬ ((c : Int) < 0) := by omega
    repeat' (first | simp -implicitDefEqProofs (maxSteps := 2000000) only [m50_1, m50_2, m50_3, m50_4, m50_5, m50_6, m50_7, m50_r, m50_b, m50, n1, n2, n3, s1, x1, x2, hc0', wk, act, asV, ↓reduceIte, Nat.reduceEqDiff, reduceCtorEq, Nat.reduceAdd, Nat.reduceLeDiff, Nat.reduceSub, Nat.reduceMul, List.reduceReplicate, Int.reduceEq, Int.reduceLT, Int.reduceLE, Int.reduceAdd, Int.reduceSub, Int.reduceMul, Nat.reduceLT, Int.reduceToNat] | ((first | ((with_reducible refine CallL.gate ?_); apply CallL.of) | ((with_reducible refine CallP.gate ?_); apply CallP.of)); (case h1 => (simp -implicitDefEqProofs (maxSteps := 2000000) only [m50_1, m50_2, m50_3, m50_4, m50_5, m50_6, m50_7, m50_r, m50_b, m50, n1, n2, n3, s1, x1, x2, hc0', wk, act, asV, ↓reduceIte, Nat.reduceEqDiff, reduceCtorEq, Nat.reduceAdd, Nat.reduceLeDiff, Nat.reduceSub, Nat.reduceMul, List.reduceReplicate, Int.reduceEq, Int.reduceLT, Int.reduceLE, Int.reduceAdd, Int.reduceSub, Int.reduceMul, Nat.reduceLT, Int.reduceToNat]; first | done | (with_reducible rfl))); (case h2 => (first | exact c1 | exact c2 | exact c3)); (case h3 => simp -implicitDefEqProofs (maxSteps := 2000000) only [m50_1, m50_2, m50_3, m50_4, m50_5, m50_6, m50_7, m50_r, m50_b, m50, n1, n2, n3, s1, x1, x2, hc0', wk, act, asV, ↓reduceIte, Nat.reduceEqDiff, reduceCtorEq, Nat.reduceAdd, Nat.reduceLeDiff, Nat.reduceSub, Nat.reduceMul, List.reduceReplicate, Int.reduceEq, Int.reduceLT, Int.reduceLE, Int.reduceAdd, Int.reduceSub, Int.reduceMul, Nat.reduceLT, Int.reduceToNat])))
  | false =>
    have x2 := w_xor (rotr x a ^^^ rotr x b) (rotr x c)
    have e : turnedW x a b c false = rotr x a ^^^ rotr x b ^^^ rotr x c := rfl
    rw [e]
    repeat' (first | simp -implicitDefEqProofs (maxSteps := 2000000) only [m50_1, m50_2, m50_3, m50_4, m50_5, m50_6, m50_7, m50_r, m50_b, m50, n1, n2, n3, x1, x2, wk, act, asV, ↓reduceIte, Nat.reduceEqDiff, reduceCtorEq, Nat.reduceAdd, Nat.reduceLeDiff, Nat.reduceSub, Nat.reduceMul, List.reduceReplicate, Int.reduceEq, Int.reduceLT, Int.reduceLE, Int.reduceAdd, Int.reduceSub, Int.reduceMul, Nat.reduceLT, Int.reduceToNat] | ((first | ((with_reducible refine CallL.gate ?_); apply CallL.of) | ((with_reducible refine CallP.gate ?_); apply CallP.of)); (case h1 => (simp -implicitDefEqProofs (maxSteps := 2000000) only [m50_1, m50_2, m50_3, m50_4, m50_5, m50_6, m50_7, m50_r, m50_b, m50, n1, n2, n3, x1, x2, wk, act, asV, ↓reduceIte, Nat.reduceEqDiff, reduceCtorEq, Nat.reduceAdd, Nat.reduceLeDiff, Nat.reduceSub, Nat.reduceMul, List.reduceReplicate, Int.reduceEq, Int.reduceLT, Int.reduceLE, Int.reduceAdd, Int.reduceSub, Int.reduceMul, Nat.reduceLT, Int.reduceToNat]; first | done | (with_reducible rfl))); (case h2 => (first | exact c1 | exact c2 | exact c3)); (case h3 => simp -implicitDefEqProofs (maxSteps := 2000000) only [m50_1, m50_2, m50_3, m50_4, m50_5, m50_6, m50_7, m50_r, m50_b, m50, n1, n2, n3, x1, x2, wk, act, asV, ↓reduceIte, Nat.reduceEqDiff, reduceCtorEq, Nat.reduceAdd, Nat.reduceLeDiff, Nat.reduceSub, Nat.reduceMul, List.reduceReplicate, Int.reduceEq, Int.reduceLT, Int.reduceLE, Int.reduceAdd, Int.reduceSub, Int.reduceMul, Nat.reduceLT, Int.reduceToNat])))
end Go.Proofs.Ytkphojcmjffccaa
