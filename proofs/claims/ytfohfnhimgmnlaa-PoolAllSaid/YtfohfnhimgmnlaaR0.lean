/- What the pool's statements share where their rows are closed: the arguments by their types. -/
import Derived.Test.YtfohfnhimgmnlaaA5
import Derived.Test.YtfohfnhimgmnlaaRows
set_option linter.unusedVariables false
set_option linter.unusedSimpArgs false
set_option maxRecDepth 100000
namespace Go.Proofs.Ytfohfnhimgmnlaa
open Go.RowKit Go.ChangeShapes Go.WideShapes

theorem own_knob : ownKnob Try.prog.godebug = none := by kernel_rfl
theorem laid_out : laidOutB Try.prog = true := by kernel_rfl

theorem vols_of : ∀ (gs : List (List IV)), (∀ g ∈ gs, okL [.str, .sl [.int .i64]] g) → ∃ vs : List Vol, vs.length = gs.length ∧ gs.flatten = vl vs ∧ ∀ v ∈ vs, v.blocks.length < 2 ^ 63
  | [], _ => ⟨[], rfl, rfl, by simp⟩
  | g :: gs, h => by
    obtain ⟨vs, h1, h2, h3⟩ := vols_of gs fun x hx => h x (by simp [hx])
    have hg := h g (by simp)
    simp only [okL, okT] at hg
    obtain ⟨_, _, rfl, ⟨l, rfl, _⟩, _, _, rfl, ⟨ns, rfl, hn, hns⟩, rfl⟩ := hg
    obtain ⟨xs, k1, k2⟩ := ints_of ns hns
    refine ⟨⟨l, xs⟩ :: vs, by simp [h1], by simp [h2, vl, k1, k2], ?_⟩
    intro v hv
    rcases List.mem_cons.1 hv with rfl | hv
    · simp only [k1]; exact hn
    · exact h3 v hv

theorem flat22 : flat Try.prog 10 22 = some [.sl [.str, .sl [.int .i64]]] := by kernel_rfl
theorem flat3 : flat Try.prog 10 3 = some [.int .i64] := by kernel_rfl
theorem flat5 : flat Try.prog 10 5 = some [.int .u8] := by kernel_rfl
theorem arg22 {v : IV} (h : okArg Try.prog 22 v) : ∃ vs : List Vol, v = .sl .plain vs.length (vl vs) ∧ vs.length < 2 ^ 63 ∧ ∀ v ∈ vs, v.blocks.length < 2 ^ 63 := by
  obtain ⟨gs, rfl, hl, hg⟩ := arg_sl flat22 (by kernel_rfl) h
  obtain ⟨vs, k1, k2, k3⟩ := vols_of gs hg
  exact ⟨vs, by rw [k1, k2], by omega, k3⟩

theorem flat44 : flat Try.prog 10 44 = some [.sl [.int .u8]] := by kernel_rfl
end Go.Proofs.Ytfohfnhimgmnlaa
