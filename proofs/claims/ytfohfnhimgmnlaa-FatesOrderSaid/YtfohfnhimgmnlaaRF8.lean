/- Proved: the law FatesOrder returns true at every input, and its arguments read behind the call as before it. No condition. -/
import Derived.Test.YtfohfnhimgmnlaaRF0
import Derived.Test.YtfohfnhimgmnlaaF5
set_option linter.unusedVariables false
set_option linter.unusedSimpArgs false
set_option maxRecDepth 100000
namespace Go.Proofs.Ytfohfnhimgmnlaa
open Go.RowKit Go.ChangeShapes Go.WideShapes

theorem law8 (ivs : List IV) (h : okArgs Try.prog Try.f8.params.toList ivs) : RC Try.prog 8 ivs [.bool true] := by
  rw [Try.params8] at h
  simp only [okArgs] at h
  obtain ⟨_, _, rfl, h1, rfl⟩ := h
  obtain ⟨l, rfl, hl⟩ := arg_bytes flat44 (by kernel_rfl) h1
  exact order8 l hl

theorem lifted8 (os : Os) (started : os.Started) (H : Type) (enc : TypeId × Value → H) :
    ReturnsInHanded {} Try.checked os 8 .any (Rows.fatesOrderSpec.pre6 enc Try.prog Try.f8 Rows.fatesOrderRow.domain false) (Rows.fatesOrderSpec.post enc Try.prog Try.f8 false true false false) :=
  law_lifted (C := Try.checked) (fn := Try.f8) (tb := 4) own_knob started (by kernel_rfl) Try.func8
    (ChangeSpec.witness6 (enc := enc) (C := Try.checked) false ⟨#[], #[.slice none 0 0], []⟩ 8 (by kernel_rfl) (by kernel_rfl) (by kernel_rfl) (by kernel_rfl))
    laid_out rfl (by kernel_rfl) Try.underlying4 (by rw [Try.params8]; decide +kernel)
    (by rintro (_ | ⟨a, _ | _⟩) h <;> first | exact ⟨rfl, rfl, rfl⟩ | (rw [Try.params8] at h; simp at h))
    law8

/-- THE STATEMENT -/
theorem fatesOrder_holds : Rows.FatesOrderSaid :=
  OpenClaim.holds_of_wide 8 Try.f8 rfl rfl rfl rfl rfl rfl rfl ⟨rfl, rfl, rfl, rfl, rfl⟩ rfl rfl rfl rfl rfl (by kernel_rfl) Try.func8 (by kernel_rfl)
    (of_decide_eq_true (by kernel_rfl)) (by unfold Func.isWrapper; first | (rw [if_pos (by decide +kernel)]; kernel_rfl) | (rw [if_neg (by decide +kernel)]; exact ⟨rfl, rfl⟩))
    (fun os started H enc _ => lifted8 os started H enc)
#print axioms fatesOrder_holds
end Go.Proofs.Ytfohfnhimgmnlaa
