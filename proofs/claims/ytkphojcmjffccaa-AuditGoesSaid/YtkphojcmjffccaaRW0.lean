/- What the rows of the audit share: the arguments by their types. -/
import Derived.Test.YtkphojcmjffccaaW7
import Derived.Test.YtkphojcmjffccaaRows
set_option linter.unusedVariables false
set_option linter.unusedSimpArgs false
set_option linter.unusedSectionVars false
set_option maxRecDepth 100000
namespace Go.Proofs.Ytkphojcmjffccaa
open Go.RowKit
theorem own_knob : ownKnob Try.prog.godebug = none := by kernel_rfl
theorem laid_out : laidOutB Try.prog = true := by kernel_rfl
def sdT : List Ty := [.sl [.int .u8], .int .i64, .int .i64, .sl [.int .u8]]
theorem sd_of {vs : List IV} (h : okL sdT vs) : ∃ x : Sd, vs = sdC x ∧ x.Ok := by
  simp only [sdT, okL, okT] at h
  obtain ⟨_, _, rfl, ⟨gs, rfl, hl, hg⟩, _, _, rfl, ⟨i, rfl, _⟩, _, _, rfl, ⟨e, rfl, _⟩, _, _, rfl, ⟨ds, rfl, hdl, hd⟩, rfl⟩ := h
  obtain ⟨a, k1, k2⟩ := bytes_of gs hg
  obtain ⟨d, m1, m2⟩ := bytes_of ds hd
  exact ⟨⟨a, ⟨i, e, .plain, d⟩⟩, by unfold sdC rc; rw [k1, k2, m1, m2], ⟨by rw [k1]; exact hl, by rw [m1]; exact hdl, rfl⟩⟩
theorem sds_of : ∀ (gs : List (List IV)), (∀ g ∈ gs, okL sdT g) → ∃ xs : List Sd, xs.length = gs.length ∧ gs.flatten = sdL xs ∧ ∀ x ∈ xs, x.Ok
  | [], _ => ⟨[], rfl, rfl, by simp⟩
  | g :: gs, h => by
    obtain ⟨xs, h1, h2, h3⟩ := sds_of gs fun x hx => h x (by simp [hx])
    obtain ⟨x, rfl, hx⟩ := sd_of (h g (by simp))
    refine ⟨x :: xs, by simp [h1], by simp [h2, sdL], ?_⟩
    intro v hv
    rcases List.mem_cons.1 hv with rfl | hv
    · exact hx
    · exact h3 v hv
theorem flatSds : flat Try.prog 10 22 = some [.sl sdT] := by kernel_rfl
theorem argSds {v : IV} (h : okArg Try.prog 22 v) : ∃ xs : List Sd, v = .sl .plain xs.length (sdL xs) ∧ xs.length < 2 ^ 63 ∧ ∀ x ∈ xs, x.Ok := by
  obtain ⟨gs, rfl, hl, hg⟩ := arg_sl flatSds (by kernel_rfl) h
  obtain ⟨xs, k1, k2, k3⟩ := sds_of gs hg
  exact ⟨xs, by rw [k1, k2], by omega, k3⟩
end Go.Proofs.Ytkphojcmjffccaa
