/- slices.Delete of one volume: what it does, in the model's own words. -/
import Derived.Test.YtilbipknodpmmaaDoorE31
import Derived.Test.YtilbipknodpmmaaDoorB1
import Derived.Shelf.RegionOpenPlain
import Derived.WalkKit
import Derived.Deep.RegionLaw
import Derived.Lib.Walk
import Derived.Lib.SliceRun
import Derived.Lib.JoinLaws
import Derived.Lib.ReflectliteSwap
set_option linter.unusedVariables false
set_option linter.unusedSimpArgs false
set_option linter.unusedSectionVars false
namespace Go.Proofs.YtilbipknodpmmaaDoor
open Go.RowKit Go.Shelf Go.Lib

theorem run_clear_two {P : Program} (w : World) (t e ty : TypeId) (z c1 c2 : Value) (ht : P.underlying t = some (.slice e)) (hv : ∀ w, (zeroValue e).run P w = .ok z w) (hz : z.cells = #[c1, c2]) (h1 : c1.oneCell' = true) (h2 : c2.oneCell' = true) (b o c : Nat)
    (hc : ∀ j, j < 2 → (w.cell? ⟨b, o + j, none⟩).isSome = true) (hf : ∀ j, j < 2 → w.frozen? ⟨b, o + j, none⟩ = false) :
    (Builtin.clear_ #[t] ty #[.slice (some ⟨b, o, none⟩) 1 c]).run P w = .ok (.tuple #[]) (w.setCells b o [c1, c2]) := by
  have hzc : (Builtin.zeroCells z.cells 1).toList = [c1, c2] := by
    rw [hz]
    simp [Builtin.zeroCells]
    apply List.ext_getElem
    · simp
    · intro i h1 h2
      simp at h1
      rcases (show i = 0 ∨ i = 1 by omega) with rfl | rfl <;> simp
  have hst := run_storeCells_cells (P := P) b o [c1, c2] 0 w (by simpa using hc) (by simpa using hf) (by simp [h1, h2])
  simp only [Nat.add_zero] at hst
  simp [Builtin.clear_, run_underlying ht, hv, hzc, hst]

set_option maxHeartbeats 4000000 in
set_option maxRecDepth 1000000 in
theorem del_calls (b off n k i : Nat) (cs : List Value) (w : World) (hin : i < n) (hnk : n ≤ k) (hm : n < 2 ^ 36)
    (hlen : cs.length = n * 2) (hcs : ∀ j v, cs[j]? = some v → w.cell? ⟨b, off + j, none⟩ = some v) (hfz : ∀ j, w.frozen? ⟨b, j, none⟩ = false) (h1c : ∀ v ∈ cs, v.oneCell' = true) :
    Calls Tryd.prog 53 #[.slice (some ⟨b, off, none⟩) n k, .int .i64 i, .int .i64 ((i : Int) + 1)] w fun e w' =>
      e = .returned (.slice (some ⟨b, off, none⟩) (n - 1) k) ∧ w' = (w.drew.setCells b (off + i * 2) (cs.drop ((i + 1) * 2))).setCells b (off + (n - 1) * 2) [.string ⟨#[]⟩, .slice none 0 0] := by
  have mixed : Tryd.prog.follows .mixedOrders = true := by kernel_rfl
  have hsz : (Tryd.prog.info? 56).map (·.size) = some 2 := by kernel_rfl
  obtain ⟨i0, hi0⟩ : ∃ i0, Tryd.prog.info? 56 = some i0 := by
    cases h : Tryd.prog.info? 56 with
    | none => rw [h] at hsz; cases hsz
    | some i0 => exact ⟨i0, rfl⟩
  have hz2 : i0.size = 2 := by rw [hi0] at hsz; simpa using hsz
  obtain ⟨j, hj⟩ : ∃ j, j = i + 1 := ⟨_, rfl⟩
  have hji : ((i : Nat) : Int) + 1 = ((j : Nat) : Int) := by omega
  rw [hji, ← hj]
  have hjn : j ≤ n := by omega
  have hne : ¬ ((i : Nat) : Int) = ((j : Nat) : Int) := by omega
  -- the cells that are moved to the left
  obtain ⟨news, hnews⟩ : ∃ news, news = cs.drop (j * 2) := ⟨_, rfl⟩
  have hnl : news.length = (n - j) * 2 := by rw [hnews, List.length_drop, hlen]; omega
  obtain ⟨A, hA, hsrc⟩ : ∃ A : Addr, (if k = j then some (⟨b, off, none⟩ : Addr) else some ⟨b, off + j * 2, none⟩) = some A ∧ Hid (∀ t u, news[t]? = some u → w.drew.cell? (A.add t) = some u) := by
    by_cases h : k = j
    · refine ⟨⟨b, off, none⟩, by simp [h], fun t u hu => ?_⟩
      have h0 : news.length = 0 := by rw [hnl]; omega
      rw [List.length_eq_zero_iff.1 h0] at hu
      simp at hu
    · refine ⟨⟨b, off + j * 2, none⟩, by simp [h], fun t u hu => ?_⟩
      rw [hnews, List.getElem?_drop] at hu
      rw [Addr.add_lit, Nat.add_assoc]
      exact hcs _ _ hu
  have hcell : ∀ t, t < n * 2 → (w.cell? ⟨b, off + t, none⟩).isSome = true := fun t ht => by
    rw [hcs t (cs[t]'(by omega)) (List.getElem?_eq_getElem _)]; rfl
  have s1 : Hid (news.length = (n - j) * 2) := hnl
  have s2 : Hid (∀ u ∈ news, u.oneCell' = true) := by
    intro u hu
    rw [hnews] at hu
    exact h1c u (List.mem_of_mem_drop hu)
  have s3 : Hid (∀ t, t < news.length → (w.drew.cell? ⟨b, off + i * 2 + t, none⟩).isSome = true ∧ w.drew.frozen? ⟨b, off + i * 2 + t, none⟩ = false) := by
    intro t ht
    rw [hnl] at ht
    rw [Nat.add_assoc]
    exact ⟨hcell _ (by omega), hfz _⟩
  obtain ⟨W1, hW1⟩ : ∃ W1, W1 = w.drew.setCells b (off + i * 2) news := ⟨_, rfl⟩
  have hc1 : ∀ t, t < n * 2 → (W1.cell? ⟨b, off + t, none⟩).isSome = true := fun t ht => by
    rw [hW1]
    exact isSome_setCells b _ _ _ _ (hcell t ht)
  have hf1 : ∀ t, W1.frozen? ⟨b, t, none⟩ = false := fun t => by rw [hW1, World.frozen?_setCells]; exact hfz t
  have hm1 : i + (n - j) = n - 1 := by omega
  have hcl : ∀ ty c, (Builtin.clear_ #[33] ty #[.slice (some ⟨b, off + (n - 1) * 2, none⟩) (n - (n - 1)) c]).run Tryd.prog W1 = .ok (.tuple #[]) (W1.setCells b (off + (n - 1) * 2) [.string ⟨#[]⟩, .slice none 0 0]) := fun ty c => by
    rw [show n - (n - 1) = 1 by omega]
    exact run_clear_two (P := Tryd.prog) W1 33 56 ty _ _ _ Tryd.underlying33 Tryd.zeroValue56 rfl rfl rfl b (off + (n - 1) * 2) c (fun t ht => by rw [Nat.add_assoc]; exact hc1 _ (by omega)) (fun t ht => hf1 _)
  have hW : Hid (W1 = w.drew.setCells b (off + i * 2) news) := hW1
  have hik : i ≤ k := by omega
  have hjk : j ≤ k := by omega
  have hij : i ≤ j := by omega
  have hb1 : (0 : Int) ≤ (i : Int) + 1 := by omega
  have hb2 : (i : Int) + 1 ≤ (n : Int) := by omega
  have hb3 : (i : Int) ≤ (n : Int) := by omega
  have hb4 : ¬ (i : Int) = (i : Int) + 1 := by omega
  have hb5 : (i : Int) ≤ (i : Int) + 1 := by omega
  have hb6 : (i : Int) + 1 ≤ (k : Int) := by omega
  clear hc1 hf1 hcell hnl hlen hcs hfz h1c
  clear hji hne
  subst hj
  have hcast : ((i + 1 : Nat) : Int) = (i : Int) + 1 := by omega
  rw [show cs.drop ((i + 1) * 2) = news from hnews.symm, ← hW1, hcast]
  clear hW1 hnews hcast
  go_enter Tryd.func53, Tryd.ntmps53
  go_wp2_with fail
  go_region_law_o (refine step_append_room rfl (.tmp 22) (.tmp 25) 33 rfl 56 i0 2 Tryd.underlying33 hi0 hz2 b off i k (by simp [Act.eval, Act.put]) A (n - (i + 1)) (k - (i + 1)) news (by simp [Act.eval, Act.put, hA]) s1.out hsrc.out s2.out (by omega) s3.out ?_; rw [← hW.out])
  go_wp2
  go_ret
  exact ⟨rfl, rfl⟩
end Go.Proofs.YtilbipknodpmmaaDoor
