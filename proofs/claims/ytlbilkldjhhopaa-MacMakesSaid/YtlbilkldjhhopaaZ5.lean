/- sha.Sum's loop: what stays between its rounds. -/
import Derived.Test.YtlbilkldjhhopaaZ4
import Derived.Test.YtlbilkldjhhopaaS10
import Derived.RangeFuncFrom
set_option linter.unusedSimpArgs false
set_option linter.unusedSectionVars false
set_option linter.unusedVariables false
namespace Go.Proofs.Ytlbilkldjhhopaa
open Go.RowKit Go.Shelf

local instance ghZ5 : Gh := ⟨fun _ _ => False, [], []⟩
local instance oldZ5 : Old := ⟨fun _ => False⟩
/-- between two rounds: H stands in its cells; all else of the loop's beginning is as it was -/
structure Inv (w0 w3 : World) (b4 o4 : Nat) (T : TypeId) (L : List UInt32) (W : World) : Prop where
  size : w3.heap.size ≤ W.heap.size
  keep : ∀ k, k < w3.heap.size → k ≠ b4 → W.heap[k]? = w3.heap[k]?
  below : Below w0.heap.size w0 W
  at_ : ∃ cs, W.heap[b4]? = some (.cells cs T (0, 0)) ∧ bsize W b4 = bsize w3 b4 ∧ o4 + 8 ≤ cs.size ∧ ∀ i (h : i < (w32v L).length), cs[o4 + i]? = some (w32v L)[i]

theorem Inv.grown {w0 w3 : World} {b4 o4 : Nat} {T : TypeId} {L : List UInt32} {W W' : World} {row : Option Nat} (h : Inv w0 w3 b4 o4 T L W) (hb4 : b4 < w3.heap.size) (h0 : w0.heap.size ≤ w3.heap.size) (hg : W.grownBy W' row) (hr : ∀ r, row = some r → w3.heap.size ≤ r) : Inv w0 w3 b4 o4 T L W' := by
  have hk : ∀ k, k < w3.heap.size → W'.heap[k]? = W.heap[k]? := fun k hk => hg.block k (Nat.lt_of_lt_of_le hk h.size) (fun e => by have := hr k e.symm; omega)
  obtain ⟨cs, h1, h2, h3, h4⟩ := h.at_
  refine ⟨Nat.le_trans h.size hg.size, fun k hkl hne => (hk k hkl).trans (h.keep k hkl hne), ?_, cs, (hk b4 hb4).trans h1, ?_, h3, h4⟩
  · exact h.below.grown hg (by have := h.size; omega) (fun k e => Nat.le_trans h0 (hr k e))
  · rw [← h2]; simp only [bsize, hk b4 hb4]

theorem cell_of {W : World} {b : Nat} {cs : Array Value} {T : TypeId} {fr : Nat × Nat} (h : W.heap[b]? = some (.cells cs T fr)) (i : Nat) : W.cell? ⟨b, i, none⟩ = cs[i]? := by
  simp [World.cell?, h]

theorem Inv.load {w0 w3 : World} {b4 o4 : Nat} {T : TypeId} {L : List UInt32} {W : World} (h : Inv w0 w3 b4 o4 T L W) (hL : L.length = 8) : ∀ W', W'.heap = W.heap → (Instr.loadAt 33 (.pointer (some ⟨b4, o4, none⟩))).run Try.prog W' = .ok (.agg (w32v L).toArray) W' := by
  intro W' hW'
  obtain ⟨cs, h1, h2, h3, h4⟩ := h.at_
  have h1' : W'.heap[b4]? = some (.cells cs T (0, 0)) := by rw [hW']; exact h1
  have hr : W'.rangeAt b4 o4 (w32v L) := by
    intro j v hj
    obtain ⟨hlt, rfl⟩ := List.getElem?_eq_some_iff.1 hj
    rw [cell_of h1']; exact h4 j hlt
  obtain ⟨i, hi⟩ : ∃ i, Try.prog.info? 33 = some i := Option.isSome_iff_exists.1 (by kernel_rfl)
  have hag : aggT Try.prog 33 = true := by kernel_rfl
  have hce : Try.prog.cellsOf 33 = 8 := by kernel_rfl
  obtain ⟨rv, g1, g2, _⟩ := run_load_at hr Try.underlying33 hi (by rw [if_pos hag, hce]; simp [w32v, hL])
  rw [g1, g2 hag]

theorem w32v_one (L : List UInt32) : ∀ v ∈ w32v L, v.oneCell' = true := by
  intro v hv
  simp only [w32v, List.mem_map] at hv
  obtain ⟨x, _, rfl⟩ := hv
  rfl
theorem Inv.store {w0 w3 : World} {b4 o4 : Nat} {T : TypeId} {L L' : List UInt32} {W : World} (h : Inv w0 w3 b4 o4 T L W) (hb4 : b4 < w3.heap.size) (h0 : w0.heap.size ≤ b4) (hL : L'.length = 8) :
    ∀ W', Below W.heap.size W W' → ∃ W2, (Instr.storeAt 33 (.pointer (some ⟨b4, o4, none⟩)) (.agg (w32v L').toArray)).run Try.prog W' = .ok () W2 ∧ (KeepsOthers W W2 ∧ (∀ k, k < w3.heap.size → k ≠ b4 → W2.heap[k]? = W.heap[k]?) ∧ Inv w0 w3 b4 o4 T L' W2) := by
  intro W' hB
  obtain ⟨cs, h1, h2, h3, h4⟩ := h.at_
  have hlt : b4 < W.heap.size := Nat.lt_of_lt_of_le hb4 h.size
  have h1' : W'.heap[b4]? = some (.cells cs T (0, 0)) := by rw [hB.block b4 hlt]; exact h1
  have hlen : (w32v L').length = 8 := by simp [w32v, hL]
  have hrun := run_storeCells_at Try.prog b4 o4 T (w32v L') 0 cs W' h1' (by rw [hlen]; omega) (w32v_one L')
  simp only [Nat.add_zero] at hrun
  obtain ⟨W2, hW2⟩ : ∃ W2, W2 = W'.setRow b4 (cs.toList.take o4 ++ w32v L' ++ cs.toList.drop (o4 + (w32v L').length)).toArray := ⟨_, rfl⟩
  rw [← hW2] at hrun
  have hw : Wrote W' W2 b4 o4 (w32v L') := ⟨cs, T, h1', by rw [hlen]; omega, hW2⟩
  obtain ⟨i, hi⟩ : ∃ i, Try.prog.info? 33 = some i := Option.isSome_iff_exists.1 (by kernel_rfl)
  have hce : Try.prog.cellsOf 33 = 8 := by kernel_rfl
  have hsz : (Value.agg (w32v L').toArray).cells.size = Try.prog.cellsOf 33 := by rw [hce]; simp [Value.cells, hlen]
  have hold : ∀ k, k < W.heap.size → k ≠ b4 → W2.heap[k]? = W.heap[k]? := fun k hk hne => (hw.old hne).trans (hB.block k hk)
  refine ⟨W2, ?_, ⟨by rw [hw.size]; exact hB.size, fun k o hk ho => ?_⟩, fun k hk hne => hold k (Nat.lt_of_lt_of_le hk h.size) hne, ?_⟩
  · simp only [Instr.storeAt, Instr.sureAddr, storeVar, Sem.run_bind, Sem.run_pure, Result.andThen_ok, run_sizeOf W' hi, hsz, ne_eq, not_true_eq_false, if_false]
    have : (Value.agg (w32v L').toArray).cells.toList = w32v L' := by simp [Value.cells]
    rw [this, hrun]
  · have hkl := (Array.getElem?_eq_some_iff.1 hk).1
    have hne : k ≠ b4 := by rintro rfl; rw [h1] at hk; cases hk; cases ho
    rw [hold k hkl hne]; exact hk
  · obtain ⟨cs0, cs', T', e1, e2, e3, e4, e5, e6⟩ := hw.get
    rw [h1'] at e1
    cases e1
    refine ⟨by rw [hw.size]; exact Nat.le_trans h.size hB.size, fun k hk hne => (hold k (Nat.lt_of_lt_of_le hk h.size) hne).trans (h.keep k hk hne), hw.below (h.below.trans (hB.mono h.below.size)) h0, cs', e2, ?_, by omega, fun j hj => e5 j hj⟩
    rw [← h2, hw.bsize]
    simp only [bsize, h1', h1]
end Go.Proofs.Ytlbilkldjhhopaa
