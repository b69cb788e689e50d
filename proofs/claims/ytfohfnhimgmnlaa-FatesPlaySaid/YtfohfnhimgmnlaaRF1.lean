/- The steps of FatesPlay as an argument. -/
import Derived.Test.YtfohfnhimgmnlaaRF0
import Derived.Test.YtfohfnhimgmnlaaF8
set_option maxRecDepth 100000
namespace Go.Proofs.Ytfohfnhimgmnlaa
open Go.RowKit
theorem flat47 : flat Try.prog 10 47 = some [.sl [.bool, .sl [.int .i64]]] := by kernel_rfl
theorem steps_of : ∀ (gs : List (List IV)), (∀ g ∈ gs, okL [.bool, .sl [.int .i64]] g) → ∃ vs : List FStep, vs.length = gs.length ∧ gs.flatten = fsl vs ∧ ∀ v ∈ vs, v.l.length < 2 ^ 63
  | [], _ => ⟨[], rfl, rfl, by simp⟩
  | g :: gs, h => by
    obtain ⟨vs, h1, h2, h3⟩ := steps_of gs fun x hx => h x (by simp [hx])
    have hg := h g (by simp)
    simp only [okL, okT] at hg
    obtain ⟨_, _, rfl, ⟨b, rfl⟩, _, _, rfl, ⟨ns, rfl, hn, hns⟩, rfl⟩ := hg
    obtain ⟨xs, k1, k2⟩ := ints_of ns hns
    refine ⟨⟨b, xs⟩ :: vs, by simp [h1], by simp [h2, fsl, k1, k2], ?_⟩
    intro v hv
    rcases List.mem_cons.1 hv with rfl | hv
    · simp only [k1]; exact hn
    · exact h3 v hv
end Go.Proofs.Ytfohfnhimgmnlaa
