/- slices.Chunk over bytes, 64 by 64: what it hands back. -/
import Derived.Test.YtlbilkldjhhopaaZ1
import Derived.Test.YtlbilkldjhhopaaE31
set_option linter.unusedSimpArgs false
set_option linter.unusedSectionVars false
set_option linter.unusedVariables false
namespace Go.Proofs.Ytlbilkldjhhopaa
open Go.RowKit Go.Shelf
attribute [local go_sem] Oper.semAt_some

set_option maxRecDepth 100000 in
set_option maxHeartbeats 1000000 in
theorem chunk_in (n : Nat) (a : Option Addr) (len cap : Nat) (w : World) : CallsIn Fence.wide n Try.prog 39 #[.slice a len cap, .int .i64 64] w fun e w' =>
    e = .returned (.func (.func 49) #[] #[.pointer (some ⟨w.heap.size, 0, none⟩), .pointer (some ⟨w.heap.size + 1, 0, none⟩)]) ∧ w' = (w.alloc (.cells #[.slice a len cap] 30)).alloc (.cells #[.int .i64 64] 3) := by
  refine callsIn_of_wp Try.func39 rfl trivial ?_ rfl
  simp only [Try.ntmps39, List.size_toArray, List.length_cons, List.length_nil, Nat.reduceAdd, Nat.reduceSub, Array.replicate_succ, Array.replicate_zero, List.push_toArray, List.append_toArray, List.nil_append, List.cons_append]
  gi_wp2
  go_ret
  exact ⟨rfl, rfl⟩

theorem chunk_ok (f : Fl) (n : Nat) (cs : List IV) : RC Try.prog 39 [.sl f n cs, .int .i64 64] [.clo 49 [.addr [.sl f n cs], .addr [.int .i64 64]]] := by
  refine ⟨by kernel_rfl, ?_⟩
  intro w A vals hA hnl hpu hv
  simp only [VRL] at hv
  obtain ⟨u, _, rfl, h1, u2, _, rfl, h2, rfl⟩ := hv
  have h1' := h1
  simp only [VR] at h1 h2
  obtain ⟨Aa, k, us, rfl, hk, hfk, hfb, hp, ho, hus, hat⟩ := h1
  subst h2
  have hfl : ¬ f = .lit := by rintro rfl; simp [IV.nlit] at hnl
  refine Calls.mono ((callsIn_wide (n := 3)).1 (chunk_in 3 Aa n k w)) ?_
  rintro e w' ⟨rfl, rfl⟩
  have hb : Below w.heap.size w ((w.alloc (.cells #[.slice Aa n k] 30)).alloc (.cells #[.int .i64 64] 3)) := ((Below.refl _ w).alloc (Nat.le_refl _) _).alloc (by simp) _
  have hone : (IV.sl f n cs).one = true := by cases f <;> first | rfl | exact absurd rfl hfl
  have hnl1 : (IV.sl f n cs).nlit = true := by cases f <;> first | rfl | exact absurd rfl hfl
  refine ⟨_, rfl, ⟨fun b => A b ∨ b = w.heap.size ∨ b = w.heap.size + 1, [_], rfl, ?_, ?_, by simp [isOwn]⟩, hb⟩
  · rintro b (h | rfl | rfl)
    · exact ⟨fun _ => h, by have := hA b h; simp; omega⟩
    · exact ⟨fun h => absurd h (Nat.lt_irrefl _), by simp; omega⟩
    · exact ⟨fun h => by omega, by simp⟩
  · refine .cons ⟨by simp [IV.pur, IV.purL, hp], rfl, ?_⟩ .nil
    have hev : EvoP (cArg A w) ⟨(w.alloc (.cells #[.slice Aa n k] 30)).alloc (.cells #[.int .i64 64] 3), fun b => A b ∨ b = w.heap.size ∨ b = w.heap.size + 1, deadH, fun _ => none, w.heap.size⟩ :=
      ⟨fun b h => .inl h, fun b h i => hb.cell (p := ⟨b, i, none⟩) (hA b h)⟩
    have hvv := h1'.evoP hev (by simp [IV.pur, hp]) hnl1
    simp only [VR, VRL]
    refine ⟨[_, _], rfl, rfl, _, _, rfl, ⟨_, [_], rfl, rfl, by simp [IV.purL, IV.pur, hp], by simp [hone], ⟨_, _, rfl, hvv, rfl⟩, ?_⟩, _, _, rfl, ⟨_, [_], rfl, rfl, by decide, by decide, ⟨_, _, rfl, rfl, rfl⟩, ?_⟩, rfl⟩
    · intro i hi
      obtain rfl : i = 0 := by simpa using hi
      refine ⟨_, rfl, rfl, .inr (.inl rfl), ?_⟩
      simp
    · intro i hi
      obtain rfl : i = 0 := by simpa using hi
      refine ⟨_, rfl, rfl, .inr (.inr rfl), ?_⟩
      simp
end Go.Proofs.Ytlbilkldjhhopaa
