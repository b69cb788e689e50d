/- Proved: the law MacMakes returns true at every input, and its arguments read behind the call as before it. No condition. -/
import Derived.Test.YtlbilkldjhhopaaRB0
import Derived.Test.YtlbilkldjhhopaaH6
set_option linter.unusedSectionVars false
set_option linter.unusedVariables false
set_option linter.unusedSimpArgs false
set_option maxRecDepth 100000
namespace Go.Proofs.Ytlbilkldjhhopaa
open Go.RowKit Go.ChangeShapes Go.WideShapes

theorem law9 (ivs : List IV) (h : okArgs Try.prog Try.f9.params.toList ivs) : RC Try.prog 9 ivs [.bool true] := by
  rw [Try.params9] at h
  simp only [okArgs] at h
  obtain ⟨_, _, rfl, h1, _, _, rfl, h2, rfl⟩ := h
  obtain ⟨a, rfl, ha⟩ := arg_bytes flatBytes (by kernel_rfl) h1
  obtain ⟨b, rfl, hb⟩ := arg_bytes flatBytes (by kernel_rfl) h2
  exact macMakes a b ha hb


theorem lifted9 (os : Os) (started : os.Started) (H : Type) (enc : TypeId × Value → H) :
    ReturnsInHanded {} Try.checked os 9 .any (Rows.macMakesSpec.pre6 enc Try.prog Try.f9 Rows.macMakesRow.domain false) (Rows.macMakesSpec.post enc Try.prog Try.f9 false true false false) :=
  law_lifted (C := Try.checked) (fn := Try.f9) (tb := 4) own_knob started (by kernel_rfl) Try.func9
    (ChangeSpec.witness6 (enc := enc) (C := Try.checked) false ⟨#[], #[.slice none 0 0, .slice none 0 0], []⟩ 8 (by kernel_rfl) (by kernel_rfl) (by kernel_rfl) (by kernel_rfl))
    laid_out rfl (by kernel_rfl) Try.underlying4 (by rw [Try.params9]; decide +kernel)
    (by rintro (_ | ⟨a, _ | ⟨b, _ | _⟩⟩) h <;> first | exact ⟨rfl, rfl, rfl⟩ | (rw [Try.params9] at h; simp at h))
    law9

/-- THE STATEMENT -/
theorem macMakes_holds : Rows.MacMakesSaid :=
  OpenClaim.holds_of_wide 9 Try.f9 rfl rfl rfl rfl rfl rfl rfl ⟨rfl, rfl, rfl, rfl, rfl⟩ rfl rfl rfl rfl rfl (by kernel_rfl) Try.func9 (by kernel_rfl)
    (of_decide_eq_true (by kernel_rfl)) (by unfold Func.isWrapper; first | (rw [if_pos (by decide +kernel)]; kernel_rfl) | (rw [if_neg (by decide +kernel)]; exact ⟨rfl, rfl⟩))
    (fun os started H enc _ => lifted9 os started H enc)
#print axioms macMakes_holds
end Go.Proofs.Ytlbilkldjhhopaa
