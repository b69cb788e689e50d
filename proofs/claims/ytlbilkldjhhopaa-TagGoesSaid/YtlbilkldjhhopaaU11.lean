/- Links of chains. -/
import Derived.Test.YtlbilkldjhhopaaU7
import Derived.Test.YtlbilkldjhhopaaE31

set_option linter.unusedVariables false
set_option linter.unusedSimpArgs false
set_option linter.unusedSectionVars false
set_option maxRecDepth 100000
set_option maxHeartbeats 8000000
namespace Go.Proofs.Ytlbilkldjhhopaa
open Go.RowKit

theorem chainF_pre (h : List UInt8) (ps : List (Fl × List UInt8)) : ∀ {m i : Nat}, i ≤ m → ∃ rest, chainF h ps m = chainF h ps i ++ rest
  | 0, i, hi => by
    have : i = 0 := by omega
    subst this
    exact ⟨[], by simp⟩
  | m + 1, i, hi => by
    by_cases hm : i = m + 1
    · subst hm; exact ⟨[], by simp⟩
    · obtain ⟨r, hr⟩ := chainF_pre h ps (m := m) (i := i) (by omega)
      exact ⟨r ++ linkB h ps (m + 1), by rw [chainF, hr, List.append_assoc]⟩
theorem chainF_at {h : List UInt8} (hh : h.length = 32) (ps : List (Fl × List UInt8)) {m i : Nat} (hi : i < m) : ((chainF h ps m).drop (i * 32)).take 32 = linkB h ps (i + 1) := by
  obtain ⟨r, hr⟩ := chainF_pre h ps (m := m) (i := i + 1) (by omega)
  have h1 := chainF_length hh ps i
  have h2 := linkB_length hh ps (i + 1)
  rw [hr, chainF, List.append_assoc, List.drop_append, List.drop_of_length_le (by omega), h1, Nat.sub_self, List.drop_zero, List.nil_append, List.take_append, List.take_of_length_le (by omega)]
  simp [h2]
theorem linkB_take (h : List UInt8) (ps : List (Fl × List UInt8)) (k : Nat) : ∀ {i : Nat}, i ≤ k → linkB h (ps.take k) i = linkB h ps i
  | 0, _ => rfl
  | i + 1, hi => by
    rw [linkB, linkB, linkB_take h ps k (i := i) (by omega)]
    congr 3
    rw [List.getD_eq_getElem?_getD, List.getD_eq_getElem?_getD, List.getElem?_take, if_pos (by omega)]
theorem linkB_drop (h : List UInt8) (ps : List (Fl × List UInt8)) (k : Nat) : ∀ (i : Nat), linkB (linkB h ps k) (ps.drop k) i = linkB h ps (k + i)
  | 0 => rfl
  | i + 1 => by
    rw [linkB, linkB_drop h ps k i, show k + (i + 1) = (k + i) + 1 from rfl, linkB]
    congr 3
    rw [List.getD_eq_getElem?_getD, List.getD_eq_getElem?_getD, List.getElem?_drop]
theorem pl_takeN (ps : List (Fl × List UInt8)) (k : Nat) : pl (ps.take k) = List.take k (pl ps) := by simp [pl, List.map_take]
theorem pl_dropN (ps : List (Fl × List UInt8)) (k : Nat) : pl (ps.drop k) = List.drop k (pl ps) := by simp [pl, List.map_drop]
theorem ownC_plain (n : Nat) {c : List UInt8} (h : c.length = n * 32) : ∃ f, ¬ f = Fl.lit ∧ plainL [ownC n c] = [.sl f n (bl c)] ∧ (ownC n c).scalR = true := by
  by_cases h0 : n = 0
  · subst h0
    obtain rfl : c = [] := List.eq_nil_of_length_eq_zero (by omega)
    exact ⟨.full, by decide, rfl, rfl⟩
  · refine ⟨.plain, by decide, ?_, ?_⟩
    · unfold ownC; rw [if_neg h0]; rfl
    · unfold ownC; rw [if_neg h0]; exact bl_scal c
theorem joined_drop_le (ps : List (Fl × List UInt8)) (k : Nat) : (joined (ps.drop k)).length ≤ (joined ps).length := by
  have e : joined ps = joined (ps.take k) ++ joined (ps.drop k) := by
    unfold joined; rw [← List.flatten_append, ← List.map_append, List.take_append_drop]
  rw [e, List.length_append]; omega
theorem chainF_take (h : List UInt8) (ps : List (Fl × List UInt8)) (k : Nat) : ∀ {i : Nat}, i ≤ k → chainF h (ps.take k) i = chainF h ps i
  | 0, _ => rfl
  | i + 1, hi => by rw [chainF, chainF, chainF_take h ps k (i := i) (by omega), linkB_take h ps k hi]
end Go.Proofs.Ytlbilkldjhhopaa
