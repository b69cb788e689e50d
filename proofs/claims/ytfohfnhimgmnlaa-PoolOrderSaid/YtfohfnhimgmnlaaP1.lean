/- Plain laws of the pool: which blocks are free behind one more volume, and in another order. -/
import Derived.Test.YtfohfnhimgmnlaaA6
set_option linter.unusedVariables false
set_option linter.unusedSimpArgs false
namespace Go.Proofs.Ytfohfnhimgmnlaa
open Go.RowKit

theorem free_bit (u k : Nat) : ((u >>> k) &&& 1 == 0) = !u.testBit k := by
  unfold Nat.testBit
  rw [Nat.and_comm]
  cases h : (1 &&& u >>> k) == 0 <;> simp_all [bne]
theorem freesTo_eq (u n : Nat) : freesTo u n = ((List.range n).filter fun k => !u.testBit k).map fun k : Nat => (k : Int) := by
  unfold freesTo
  congr 1
  apply List.filter_congr
  intro k _
  exact free_bit u k
theorem frees_or (u b : Nat) : frees (u ||| 2 ^ b) = (frees u).filter fun x => decide (x ≠ (b : Int)) := by
  unfold frees
  rw [freesTo_eq, freesTo_eq, List.filter_map, List.filter_filter]
  congr 1
  apply List.filter_congr
  intro k _
  simp only [Nat.testBit_or, Nat.testBit_two_pow, Function.comp]
  cases h : u.testBit k <;> simp [eq_comm, Int.natCast_inj]
theorem ustep_in {u : Nat} {b : Int} (h0 : 0 ≤ b) (h1 : b < 12) : frees (ustep u b) = (frees u).filter fun x => decide (x ≠ b) := by
  unfold ustep
  rw [if_pos ⟨h0, h1⟩, frees_or, Int.toNat_of_nonneg h0]
theorem ufold_frees : ∀ (L : List Int) (u : Nat), (∀ b ∈ L, 0 ≤ b ∧ b < 12) → frees (L.foldl ustep u) = (frees u).filter fun x => decide (x ∉ L)
  | [], u, _ => (List.filter_eq_self.2 (by simp)).symm
  | b :: L, u, h => by
    have hb := h b (by simp)
    rw [List.foldl_cons, ufold_frees L _ fun x hx => h x (by simp [hx]), ustep_in hb.1 hb.2, List.filter_filter]
    apply List.filter_congr
    intro x _
    by_cases h1 : x = b <;> simp [h1]
theorem frees_mem {u : Nat} {b : Int} (h : b ∈ frees u) : 0 ≤ b ∧ b < 12 := by
  unfold frees at h
  rw [freesTo_eq] at h
  simp only [List.mem_map, List.mem_filter, List.mem_range] at h
  obtain ⟨k, ⟨hk, _⟩, rfl⟩ := h
  omega
theorem frees_nodup (u : Nat) : (frees u).Nodup := by
  unfold frees
  rw [freesTo_eq]
  unfold List.Nodup
  rw [List.pairwise_map]
  refine List.Pairwise.imp ?_ (List.Pairwise.filter _ List.nodup_range)
  intro a b h he
  exact h (by omega)
theorem filter_take {l : List Int} (h : l.Nodup) (k : Nat) : (l.filter fun x => decide (x ∉ l.take k)) = l.drop k := by
  have hs : l = l.take k ++ l.drop k := (List.take_append_drop k l).symm
  have hd : ∀ x ∈ l.drop k, x ∉ l.take k := by
    intro x hx hx'
    rw [hs, List.nodup_append] at h
    exact h.2.2 x hx' x hx rfl
  have e1 : ((l.take k).filter fun x => decide (x ∉ l.take k)) = [] := by
    rw [List.filter_eq_nil_iff]
    intro x hx
    simp [hx]
  have e2 : ((l.drop k).filter fun x => decide (x ∉ l.take k)) = l.drop k := by
    rw [List.filter_eq_self]
    intro x hx
    simpa using hd x hx
  calc (l.filter fun x => decide (x ∉ l.take k)) = ((l.take k ++ l.drop k).filter fun x => decide (x ∉ l.take k)) := by rw [← hs]
    _ = l.drop k := by rw [List.filter_append, e1, e2, List.nil_append]
theorem take_more (u k : Nat) : frees (((frees u).take k).foldl ustep u) = (frees u).drop k := by
  rw [ufold_frees _ _ fun b hb => frees_mem (List.mem_of_mem_take hb), filter_take (frees_nodup u)]
theorem ustep_or (u : Nat) (b : Int) : ustep u b = u ||| ustep 0 b := by
  unfold ustep; split <;> simp
theorem ufold_or : ∀ (L : List Int) (u : Nat), L.foldl ustep u = u ||| L.foldl ustep 0
  | [], u => by simp
  | b :: L, u => by
    rw [List.foldl_cons, List.foldl_cons, ufold_or L (ustep u b), ufold_or L (ustep 0 b), ustep_or u b, Nat.or_assoc]
theorem vfold_or : ∀ (vs : List Vol) (u : Nat), vs.foldl uvol u = u ||| vs.foldl uvol 0
  | [], u => by simp
  | v :: vs, u => by
    have e : ∀ u, uvol u v = u ||| uvol 0 v := fun u => ufold_or v.blocks u
    rw [List.foldl_cons, List.foldl_cons, vfold_or vs (uvol u v), vfold_or vs (uvol 0 v), e u, Nat.or_assoc]
theorem or_and_self (u x : Nat) : (u ||| x) &&& u = u := by
  apply Nat.eq_of_testBit_eq
  intro i
  simp only [Nat.testBit_and, Nat.testBit_or]
  cases u.testBit i <;> simp
theorem used_append (l m : List Vol) : used (l ++ m) = used l ||| used m := by
  unfold used
  rw [List.foldl_append, vfold_or m (l.foldl uvol 1), vfold_or m 1, vfold_or l 1]
  apply Nat.eq_of_testBit_eq
  intro i
  simp only [Nat.testBit_or]
  cases (1 : Nat).testBit i <;> simp
theorem used_snoc (vs : List Vol) (v : Vol) : used (vs ++ [v]) = v.blocks.foldl ustep (used vs) := by
  unfold used
  rw [List.foldl_append]; rfl
end Go.Proofs.Ytfohfnhimgmnlaa
