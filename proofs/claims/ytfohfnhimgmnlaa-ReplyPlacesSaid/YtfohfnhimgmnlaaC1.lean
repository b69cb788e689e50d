/- Of the replies: what they are, and their bytes. -/
import Derived.Test.YtfohfnhimgmnlaaK1
import Derived.Test.YtfohfnhimgmnlaaK3
import Derived.Test.YtfohfnhimgmnlaaK5
set_option linter.unusedVariables false
set_option linter.unusedSimpArgs false
set_option maxRecDepth 100000
set_option maxHeartbeats 4000000
namespace Go.Proofs.Ytfohfnhimgmnlaa
open Go.RowKit

structure Rp where
  id : Int
  e : Int
  f : Fl
  d : List UInt8
def rc (r : Rp) : List IV := [.int .i64 r.id, .int .i64 r.e, .sl r.f r.d.length (bl r.d)]
def rl (rs : List Rp) : List IV := rs.flatMap rc
def good (r : Rp) : Bool := decide (0 ≤ r.id) && decide (r.id ≤ 2147483647) && decide (0 ≤ r.e) && decide (r.e ≤ 255) && decide (r.d.length ≤ 255)
def rbody (id e : Nat) (d : List UInt8) : List UInt8 := [u8 id, u8 (id >>> 8), u8 (id >>> 16), u8 (id >>> 24), u8 e, u8 d.length] ++ d
def renc (r : Rp) : List UInt8 := sealed (rbody r.id.toNat r.e.toNat r.d)
def encB (r : Rp) : List UInt8 := if good r = true then renc r else []
def encE (r : Rp) : Int := if good r = true then 0 else 11
theorem rbody_length (id e : Nat) (d : List UInt8) : (rbody id e d).length = d.length + 6 := by simp [rbody]
theorem renc_length (r : Rp) : (renc r).length = r.d.length + 8 := by rw [renc, sealed_length, rbody_length]
theorem good_of {id e : Int} {f : Fl} {d : List UInt8} (h1 : ¬ id < 0) (h2 : ¬ (2147483647 : Int) < id) (h3 : ¬ e < 0) (h4 : ¬ (255 : Int) < e) (h5 : ¬ (255 : Int) < d.length) : good ⟨id, e, f, d⟩ = true := by
  simp only [good, Bool.and_eq_true, decide_eq_true_eq]
  omega
theorem bad_of {id e : Int} {f : Fl} {d : List UInt8} (h : id < 0 ∨ (2147483647 : Int) < id ∨ e < 0 ∨ (255 : Int) < e ∨ (255 : Int) < d.length) : ¬ good ⟨id, e, f, d⟩ = true := by
  intro hg
  simp only [good, Bool.and_eq_true, decide_eq_true_eq] at hg
  omega

theorem enc38 (r : Rp) (hf : ¬ r.f = .lit) : RC Try.prog 38 [.agg (rc r)] [.own (encB r).length 1 (bl (encB r)), .int .i64 (encE r)] := by
  obtain ⟨id, e, f, d⟩ := r
  refine RC.of_wpW c38 rfl ?_
  have bad : ∀ s : St, id < 0 ∨ (2147483647 : Int) < id ∨ e < 0 ∨ (255 : Int) < e ∨ (255 : Int) < d.length → s.ress [MRes.tmp 2, MRes.tmp 3] = some [.sl .full 0 [], .int .i64 11] → PostW [MRes.tmp 2, MRes.tmp 3] [.own (encB ⟨id, e, f, d⟩).length 1 (bl (encB ⟨id, e, f, d⟩)), .int .i64 (encE ⟨id, e, f, d⟩)] .ret s := by
    intro s hb hs
    have hb' := bad_of (f := f) hb
    have e1 : encB ⟨id, e, f, d⟩ = [] := if_neg hb'
    have e2 : encE ⟨id, e, f, d⟩ = 11 := if_neg hb'
    rw [e1, e2]
    exact PostW.mk (r' := [.sl .full 0 [], .int .i64 11]) hs (.cons (.inr ⟨rfl, 1, rfl⟩) (.cons (.inl rfl) .nil)) (by decide) (by decide)
  by_cases h1 : id < 0
  · simp -implicitDefEqProofs (maxSteps := 2000000) only [m38_1, m38_2, m38_3, m38_4, m38_5, m38_6, m38_7, m38_r, m38_b, m38, rc, h1, wk, act, ↓reduceIte, Nat.reduceEqDiff, reduceCtorEq, Nat.reduceAdd, Nat.reduceLeDiff, Nat.reduceSub, Nat.reduceMul, List.reduceReplicate, Int.reduceEq, Int.reduceLT, Int.reduceLE, Int.reduceAdd, Int.reduceSub, Int.reduceMul, Nat.reduceLT, Int.reduceToNat]
    exact bad _ (.inl h1) (by simp -implicitDefEqProofs (maxSteps := 2000000) only [wk, act, ↓reduceIte, Nat.reduceEqDiff, reduceCtorEq, Nat.reduceAdd, Nat.reduceLeDiff, Nat.reduceSub, Nat.reduceMul, List.reduceReplicate, Int.reduceEq, Int.reduceLT, Int.reduceLE, Int.reduceAdd, Int.reduceSub, Int.reduceMul, Nat.reduceLT, Int.reduceToNat])
  by_cases h2 : (2147483647 : Int) < id
  · simp -implicitDefEqProofs (maxSteps := 2000000) only [m38_1, m38_2, m38_3, m38_4, m38_5, m38_6, m38_7, m38_r, m38_b, m38, rc, h1, h2, wk, act, ↓reduceIte, Nat.reduceEqDiff, reduceCtorEq, Nat.reduceAdd, Nat.reduceLeDiff, Nat.reduceSub, Nat.reduceMul, List.reduceReplicate, Int.reduceEq, Int.reduceLT, Int.reduceLE, Int.reduceAdd, Int.reduceSub, Int.reduceMul, Nat.reduceLT, Int.reduceToNat]
    exact bad _ (.inr (.inl h2)) (by simp -implicitDefEqProofs (maxSteps := 2000000) only [wk, act, ↓reduceIte, Nat.reduceEqDiff, reduceCtorEq, Nat.reduceAdd, Nat.reduceLeDiff, Nat.reduceSub, Nat.reduceMul, List.reduceReplicate, Int.reduceEq, Int.reduceLT, Int.reduceLE, Int.reduceAdd, Int.reduceSub, Int.reduceMul, Nat.reduceLT, Int.reduceToNat])
  by_cases h3 : e < 0
  · simp -implicitDefEqProofs (maxSteps := 2000000) only [m38_1, m38_2, m38_3, m38_4, m38_5, m38_6, m38_7, m38_r, m38_b, m38, rc, h1, h2, h3, wk, act, ↓reduceIte, Nat.reduceEqDiff, reduceCtorEq, Nat.reduceAdd, Nat.reduceLeDiff, Nat.reduceSub, Nat.reduceMul, List.reduceReplicate, Int.reduceEq, Int.reduceLT, Int.reduceLE, Int.reduceAdd, Int.reduceSub, Int.reduceMul, Nat.reduceLT, Int.reduceToNat]
    exact bad _ (.inr (.inr (.inl h3))) (by simp -implicitDefEqProofs (maxSteps := 2000000) only [wk, act, ↓reduceIte, Nat.reduceEqDiff, reduceCtorEq, Nat.reduceAdd, Nat.reduceLeDiff, Nat.reduceSub, Nat.reduceMul, List.reduceReplicate, Int.reduceEq, Int.reduceLT, Int.reduceLE, Int.reduceAdd, Int.reduceSub, Int.reduceMul, Nat.reduceLT, Int.reduceToNat])
  by_cases h4 : (255 : Int) < e
  · simp -implicitDefEqProofs (maxSteps := 2000000) only [m38_1, m38_2, m38_3, m38_4, m38_5, m38_6, m38_7, m38_r, m38_b, m38, rc, h1, h2, h3, h4, wk, act, ↓reduceIte, Nat.reduceEqDiff, reduceCtorEq, Nat.reduceAdd, Nat.reduceLeDiff, Nat.reduceSub, Nat.reduceMul, List.reduceReplicate, Int.reduceEq, Int.reduceLT, Int.reduceLE, Int.reduceAdd, Int.reduceSub, Int.reduceMul, Nat.reduceLT, Int.reduceToNat]
    exact bad _ (.inr (.inr (.inr (.inl h4)))) (by simp -implicitDefEqProofs (maxSteps := 2000000) only [wk, act, ↓reduceIte, Nat.reduceEqDiff, reduceCtorEq, Nat.reduceAdd, Nat.reduceLeDiff, Nat.reduceSub, Nat.reduceMul, List.reduceReplicate, Int.reduceEq, Int.reduceLT, Int.reduceLE, Int.reduceAdd, Int.reduceSub, Int.reduceMul, Nat.reduceLT, Int.reduceToNat])
  by_cases h5 : (255 : Int) < d.length
  · simp -implicitDefEqProofs (maxSteps := 2000000) only [m38_1, m38_2, m38_3, m38_4, m38_5, m38_6, m38_7, m38_r, m38_b, m38, rc, h1, h2, h3, h4, h5, wk, act, ↓reduceIte, Nat.reduceEqDiff, reduceCtorEq, Nat.reduceAdd, Nat.reduceLeDiff, Nat.reduceSub, Nat.reduceMul, List.reduceReplicate, Int.reduceEq, Int.reduceLT, Int.reduceLE, Int.reduceAdd, Int.reduceSub, Int.reduceMul, Nat.reduceLT, Int.reduceToNat]
    exact bad _ (.inr (.inr (.inr (.inr h5)))) (by simp -implicitDefEqProofs (maxSteps := 2000000) only [wk, act, ↓reduceIte, Nat.reduceEqDiff, reduceCtorEq, Nat.reduceAdd, Nat.reduceLeDiff, Nat.reduceSub, Nat.reduceMul, List.reduceReplicate, Int.reduceEq, Int.reduceLT, Int.reduceLE, Int.reduceAdd, Int.reduceSub, Int.reduceMul, Nat.reduceLT, Int.reduceToNat])
  have hg := good_of (f := f) h1 h2 h3 h4 h5
  have e1 : encB ⟨id, e, f, d⟩ = renc ⟨id, e, f, d⟩ := if_pos hg
  have e2 : encE ⟨id, e, f, d⟩ = 0 := if_pos hg
  rw [e1, e2]
  obtain ⟨n, rfl⟩ : ∃ n : Nat, id = n := ⟨id.toNat, by omega⟩
  obtain ⟨m, rfl⟩ : ∃ n : Nat, e = n := ⟨e.toNat, by omega⟩
  have hn : n < 2 ^ 31 := by omega
  obtain ⟨body, hbody⟩ : ∃ body, body = rbody n m d := ⟨_, rfl⟩
  have hre : renc ⟨n, m, f, d⟩ = sealed body := by rw [hbody]; rfl
  rw [hre, sealed_length, bl_sealed]
  have hbl : body.length ≤ 300 := by rw [hbody, rbody_length]; omega
  have w32 : IntKind.u32.wrap ((n : Nat) : Int) = n := wrapN .u32 (by simp [vbits, IntKind.signed, IntKind.bits]; omega)
  have s8 : shI .shr .u32 (n : Int) 8 = some (.int .u32 ((n >>> 8 : Nat) : Int)) := shI_shr .u32 (x := n) (y := 8) (by decide)
  have s16 : shI .shr .u32 (n : Int) 16 = some (.int .u32 ((n >>> 16 : Nat) : Int)) := shI_shr .u32 (x := n) (y := 16) (by decide)
  have s24 : shI .shr .u32 (n : Int) 24 = some (.int .u32 ((n >>> 24 : Nat) : Int)) := shI_shr .u32 (x := n) (y := 24) (by decide)
  have s2 : shI .shr .u16 ((crc body : Nat) : Int) 8 = some (.int .u16 ((crc body >>> 8 : Nat) : Int)) := shI_shr .u16 (x := crc body) (y := 8) (by decide)
  have hcc : RC Try.prog 53 [.sl .full 2 [.sl .plain 6 [.int .u8 ((u8 n).toNat : Int), .int .u8 ((u8 (n >>> 8)).toNat : Int), .int .u8 ((u8 (n >>> 16)).toNat : Int), .int .u8 ((u8 (n >>> 24)).toNat : Int), .int .u8 ((u8 m).toNat : Int), .int .u8 ((u8 d.length).toNat : Int)], .sl .plain d.length (bl d)]] [.own body.length 1 (bl body)] := by
    have := concat_ok .full [(.plain, [u8 n, u8 (n >>> 8), u8 (n >>> 16), u8 (n >>> 24), u8 m, u8 d.length]), (.plain, d)] (by simp [joined]; omega) (by simp)
    have ej : joined [(Fl.plain, [u8 n, u8 (n >>> 8), u8 (n >>> 16), u8 (n >>> 24), u8 m, u8 d.length]), (.plain, d)] = body := by rw [hbody]; simp [joined, rbody]
    rw [ej] at this
    exact this
  have hck := check_ok .full [(.plain, body)] (by intro p hp; simp only [List.mem_singleton] at hp; subst hp; exact ⟨by simp, by simp only; omega⟩) (by simp)
  have ej : joined [(Fl.plain, body)] = body := by simp [joined]
  rw [ej] at hck
  have r2 : roomy (body.length + 2) 1 = true := roomyB (by omega)
  cases f with
  | lit => exact absurd rfl hf
  | _ =>
    repeat' (first | simp -implicitDefEqProofs (maxSteps := 2000000) only [m38_1, m38_2, m38_3, m38_4, m38_5, m38_6, m38_7, m38_r, m38_b, m38, rc, h1, h2, h3, h4, h5, w32, wrap_u8, s8, s16, s24, s2, pl, take_bl, r2, bl_length, List.length_singleton, wk, act, ↓reduceIte, Nat.reduceEqDiff, reduceCtorEq, Nat.reduceAdd, Nat.reduceLeDiff, Nat.reduceSub, Nat.reduceMul, List.reduceReplicate, Int.reduceEq, Int.reduceLT, Int.reduceLE, Int.reduceAdd, Int.reduceSub, Int.reduceMul, Nat.reduceLT, Int.reduceToNat] | ((with_reducible refine CallL.gate ?_); refine CallL.of (by simp -implicitDefEqProofs (maxSteps := 2000000) only [m38_1, m38_2, m38_3, m38_4, m38_5, m38_6, m38_7, m38_r, m38_b, m38, rc, h1, h2, h3, h4, h5, w32, wrap_u8, s8, s16, s24, s2, pl, take_bl, r2, bl_length, List.length_singleton, wk, act, ↓reduceIte, Nat.reduceEqDiff, reduceCtorEq, Nat.reduceAdd, Nat.reduceLeDiff, Nat.reduceSub, Nat.reduceMul, List.reduceReplicate, Int.reduceEq, Int.reduceLT, Int.reduceLE, Int.reduceAdd, Int.reduceSub, Int.reduceMul, Nat.reduceLT, Int.reduceToNat]; first | done | (with_reducible rfl)) (by first | exact hcc | exact hck) (by simp -implicitDefEqProofs (maxSteps := 2000000) only [m38_1, m38_2, m38_3, m38_4, m38_5, m38_6, m38_7, m38_r, m38_b, m38, rc, h1, h2, h3, h4, h5, w32, wrap_u8, s8, s16, s24, s2, pl, take_bl, r2, bl_length, List.length_singleton, wk, act, ↓reduceIte, Nat.reduceEqDiff, reduceCtorEq, Nat.reduceAdd, Nat.reduceLeDiff, Nat.reduceSub, Nat.reduceMul, List.reduceReplicate, Int.reduceEq, Int.reduceLT, Int.reduceLE, Int.reduceAdd, Int.reduceSub, Int.reduceMul, Nat.reduceLT, Int.reduceToNat]) ?_) | ((with_reducible refine CallpL.gate ?_); refine CallpL.of (by simp -implicitDefEqProofs (maxSteps := 2000000) only [m38_1, m38_2, m38_3, m38_4, m38_5, m38_6, m38_7, m38_r, m38_b, m38, rc, h1, h2, h3, h4, h5, w32, wrap_u8, s8, s16, s24, s2, pl, take_bl, r2, bl_length, List.length_singleton, wk, act, ↓reduceIte, Nat.reduceEqDiff, reduceCtorEq, Nat.reduceAdd, Nat.reduceLeDiff, Nat.reduceSub, Nat.reduceMul, List.reduceReplicate, Int.reduceEq, Int.reduceLT, Int.reduceLE, Int.reduceAdd, Int.reduceSub, Int.reduceMul, Nat.reduceLT, Int.reduceToNat]; first | done | (with_reducible rfl)) (by first | exact hcc | exact hck) (by simp -implicitDefEqProofs (maxSteps := 2000000) only [m38_1, m38_2, m38_3, m38_4, m38_5, m38_6, m38_7, m38_r, m38_b, m38, rc, h1, h2, h3, h4, h5, w32, wrap_u8, s8, s16, s24, s2, pl, take_bl, r2, bl_length, List.length_singleton, wk, act, ↓reduceIte, Nat.reduceEqDiff, reduceCtorEq, Nat.reduceAdd, Nat.reduceLeDiff, Nat.reduceSub, Nat.reduceMul, List.reduceReplicate, Int.reduceEq, Int.reduceLT, Int.reduceLE, Int.reduceAdd, Int.reduceSub, Int.reduceMul, Nat.reduceLT, Int.reduceToNat]) ?_) | ((with_reducible refine CallP.gate ?_); refine CallP.of (by simp -implicitDefEqProofs (maxSteps := 2000000) only [m38_1, m38_2, m38_3, m38_4, m38_5, m38_6, m38_7, m38_r, m38_b, m38, rc, h1, h2, h3, h4, h5, w32, wrap_u8, s8, s16, s24, s2, pl, take_bl, r2, bl_length, List.length_singleton, wk, act, ↓reduceIte, Nat.reduceEqDiff, reduceCtorEq, Nat.reduceAdd, Nat.reduceLeDiff, Nat.reduceSub, Nat.reduceMul, List.reduceReplicate, Int.reduceEq, Int.reduceLT, Int.reduceLE, Int.reduceAdd, Int.reduceSub, Int.reduceMul, Nat.reduceLT, Int.reduceToNat]; first | done | (with_reducible rfl)) (by first | exact hcc | exact hck) (by simp -implicitDefEqProofs (maxSteps := 2000000) only [m38_1, m38_2, m38_3, m38_4, m38_5, m38_6, m38_7, m38_r, m38_b, m38, rc, h1, h2, h3, h4, h5, w32, wrap_u8, s8, s16, s24, s2, pl, take_bl, r2, bl_length, List.length_singleton, wk, act, ↓reduceIte, Nat.reduceEqDiff, reduceCtorEq, Nat.reduceAdd, Nat.reduceLeDiff, Nat.reduceSub, Nat.reduceMul, List.reduceReplicate, Int.reduceEq, Int.reduceLT, Int.reduceLE, Int.reduceAdd, Int.reduceSub, Int.reduceMul, Nat.reduceLT, Int.reduceToNat]) ?_) | ((with_reducible refine CallpP.gate ?_); refine CallpP.of (by simp -implicitDefEqProofs (maxSteps := 2000000) only [m38_1, m38_2, m38_3, m38_4, m38_5, m38_6, m38_7, m38_r, m38_b, m38, rc, h1, h2, h3, h4, h5, w32, wrap_u8, s8, s16, s24, s2, pl, take_bl, r2, bl_length, List.length_singleton, wk, act, ↓reduceIte, Nat.reduceEqDiff, reduceCtorEq, Nat.reduceAdd, Nat.reduceLeDiff, Nat.reduceSub, Nat.reduceMul, List.reduceReplicate, Int.reduceEq, Int.reduceLT, Int.reduceLE, Int.reduceAdd, Int.reduceSub, Int.reduceMul, Nat.reduceLT, Int.reduceToNat]; first | done | (with_reducible rfl)) (by first | exact hcc | exact hck) (by simp -implicitDefEqProofs (maxSteps := 2000000) only [m38_1, m38_2, m38_3, m38_4, m38_5, m38_6, m38_7, m38_r, m38_b, m38, rc, h1, h2, h3, h4, h5, w32, wrap_u8, s8, s16, s24, s2, pl, take_bl, r2, bl_length, List.length_singleton, wk, act, ↓reduceIte, Nat.reduceEqDiff, reduceCtorEq, Nat.reduceAdd, Nat.reduceLeDiff, Nat.reduceSub, Nat.reduceMul, List.reduceReplicate, Int.reduceEq, Int.reduceLT, Int.reduceLE, Int.reduceAdd, Int.reduceSub, Int.reduceMul, Nat.reduceLT, Int.reduceToNat]) ?_))
    exact PostW.mk (r' := [.own (body.length + 2) 1 (bl body ++ [.int .u8 ((u8 (crc body)).toNat : Int), .int .u8 ((u8 (crc body >>> 8)).toNat : Int)]), .int .i64 0]) (by simp -implicitDefEqProofs (maxSteps := 2000000) only [take_sealed, wk, act, ↓reduceIte, Nat.reduceEqDiff, reduceCtorEq, Nat.reduceAdd, Nat.reduceLeDiff, Nat.reduceSub, Nat.reduceMul, List.reduceReplicate, Int.reduceEq, Int.reduceLT, Int.reduceLE, Int.reduceAdd, Int.reduceSub, Int.reduceMul, Nat.reduceLT, Int.reduceToNat]) (.cons (.inl rfl) (.cons (.inl rfl) .nil)) (Nat.le_refl 1) (Nat.le_refl 1)

end Go.Proofs.Ytfohfnhimgmnlaa
