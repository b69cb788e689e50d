/- Names: plain laws; plain. -/
import Derived.Test.YtfllhbjblkfdfaaDoorN3
set_option linter.unusedVariables false
set_option linter.unusedSimpArgs false
set_option maxRecDepth 100000
set_option maxHeartbeats 4000000
namespace Go.Proofs.YtfllhbjblkfdfaaDoor
open Go.RowKit

theorem pad4_trim {b : List UInt8} (hb : b.length = 4) : pad4 (trimR isZ b) = b := by
  match b, hb with
  | [b0, b1, b2, b3], _ =>
    by_cases h3 : b3 = 0
    · by_cases h2 : b2 = 0
      · by_cases h1 : b1 = 0
        · by_cases h0 : b0 = 0
          · simp [trimR, isZ, pad4, h0, h1, h2, h3]
          · simp [trimR, isZ, pad4, h0, h1, h2, h3]
        · simp [trimR, isZ, pad4, h1, h2, h3]
      · simp [trimR, isZ, pad4, h2, h3]
    · simp [trimR, isZ, pad4, h3]
theorem cutN_some {b s : List UInt8} (hb : b.length = 4) (h : cutN b = some s) : pad4 s = b ∧ (s = [] ∨ goodN s = true) ∧ s.length ≤ 4 := by
  unfold cutN at h
  split at h
  · rename_i hc
    injection h with h
    subst h
    exact ⟨pad4_trim hb, hc, by have := trimR_le isZ b; omega⟩
  · cases h
theorem trim_pad {s : List UInt8} (h : goodN s = true) : trimR isZ (pad4 s) = s := by
  simp only [goodN, Bool.and_eq_true, decide_eq_true_eq] at h
  obtain ⟨⟨h1, h2⟩, h3⟩ := h
  have hz : ∀ x ∈ s, x ≠ 0 := fun x hx => low_ne (List.all_eq_true.1 h3 x hx)
  match s with
  | [] => simp at h1
  | [a] => have := hz a (by simp); simp [trimR, isZ, pad4, this]
  | [a, b] => have := hz b (by simp); simp [trimR, isZ, pad4, this]
  | [a, b, c] => have := hz c (by simp); simp [trimR, isZ, pad4, this]
  | [a, b, c, d] => have := hz d (by simp); simp [trimR, isZ, pad4, this]
  | a :: b :: c :: d :: e :: s => simp at h2
theorem cutN_pad {s : List UInt8} (h : goodN s = true) : cutN (pad4 s) = some s := by
  unfold cutN
  rw [trim_pad h, if_pos (.inr h)]
theorem cutS_le {b : List UInt8} (hb : b.length = 4) : (cutS b).length ≤ 4 := by
  unfold cutS
  cases h : cutN b with
  | none => simp
  | some s => exact (cutN_some hb h).2.2
end Go.Proofs.YtfllhbjblkfdfaaDoor
