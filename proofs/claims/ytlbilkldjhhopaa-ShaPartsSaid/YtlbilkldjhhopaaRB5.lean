/- Proved: the law ShaParts returns true at every input, and its arguments read behind the call as before it. No condition. -/
import Derived.Test.YtlbilkldjhhopaaRB0
import Derived.Test.YtlbilkldjhhopaaS20
set_option linter.unusedSectionVars false
set_option linter.unusedVariables false
set_option linter.unusedSimpArgs false
set_option maxRecDepth 100000
namespace Go.Proofs.Ytlbilkldjhhopaa
open Go.RowKit Go.ChangeShapes Go.WideShapes

theorem law5 (ivs : List IV) (h : okArgs Try.prog Try.f5.params.toList ivs) : RC Try.prog 5 ivs [.bool true] := by
  rw [Try.params5] at h
  simp only [okArgs] at h
  obtain ⟨_, _, rfl, h1, _, _, rfl, h2, rfl⟩ := h
  obtain ⟨b, rfl, hb⟩ := arg_bytes flatBytes (by kernel_rfl) h1
  obtain ⟨n, rfl, _⟩ := arg_int flatInt (by kernel_rfl) h2
  exact shaParts b n hb

theorem lifted5 (os : Os) (started : os.Started) (H : Type) (enc : TypeId × Value → H) :
    ReturnsInHanded {} Try.checked os 5 .any (Rows.shaPartsSpec.pre6 enc Try.prog Try.f5 Rows.shaPartsRow.domain false) (Rows.shaPartsSpec.post enc Try.prog Try.f5 false true false false) :=
  law_lifted (C := Try.checked) (fn := Try.f5) (tb := 4) own_knob started (by kernel_rfl) Try.func5
    (ChangeSpec.witness6 (enc := enc) (C := Try.checked) false ⟨#[], #[.slice none 0 0, .int .i64 0], []⟩ 8 (by kernel_rfl) (by kernel_rfl) (by kernel_rfl) (by kernel_rfl))
    laid_out rfl (by kernel_rfl) Try.underlying4 (by rw [Try.params5]; decide +kernel)
    (by rintro (_ | ⟨a, _ | ⟨b, _ | _⟩⟩) h <;> first | exact ⟨rfl, rfl, rfl⟩ | (rw [Try.params5] at h; simp at h))
    law5

/-- THE STATEMENT -/
theorem shaParts_holds : Rows.ShaPartsSaid :=
  OpenClaim.holds_of_wide 5 Try.f5 rfl rfl rfl rfl rfl rfl rfl ⟨rfl, rfl, rfl, rfl, rfl⟩ rfl rfl rfl rfl rfl (by kernel_rfl) Try.func5 (by kernel_rfl)
    (of_decide_eq_true (by kernel_rfl)) (by unfold Func.isWrapper; first | (rw [if_pos (by decide +kernel)]; kernel_rfl) | (rw [if_neg (by decide +kernel)]; exact ⟨rfl, rfl⟩))
    (fun os started H enc _ => lifted5 os started H enc)
#print axioms shaParts_holds
end Go.Proofs.Ytlbilkldjhhopaa
