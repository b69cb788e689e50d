/- Proved: the law TagGoes returns true at every input, and its arguments read behind the call as before it. No condition. -/
import Derived.Test.YtlbilkldjhhopaaRB0
import Derived.Test.YtlbilkldjhhopaaU12
set_option linter.unusedSectionVars false
set_option linter.unusedVariables false
set_option linter.unusedSimpArgs false
set_option maxRecDepth 100000
namespace Go.Proofs.Ytlbilkldjhhopaa
open Go.RowKit Go.ChangeShapes Go.WideShapes

theorem law11 (ivs : List IV) (h : okArgs Try.prog Try.f11.params.toList ivs) : RC Try.prog 11 ivs [.bool true] := by
  rw [Try.params11] at h
  simp only [okArgs] at h
  obtain ⟨_, _, rfl, h1, _, _, rfl, h2, rfl⟩ := h
  obtain ⟨d, ps, rfl, hd, hn, hp⟩ := argChained h1
  obtain ⟨c, rfl⟩ := arg_u8 flatByte (by kernel_rfl) h2
  exact tagGoes d ps c hd hn fun p h => (hp p h).1


theorem lifted11 (os : Os) (started : os.Started) (H : Type) (enc : TypeId × Value → H) :
    ReturnsInHanded {} Try.checked os 11 .any (Rows.tagGoesSpec.pre6 enc Try.prog Try.f11 Rows.tagGoesRow.domain false) (Rows.tagGoesSpec.post enc Try.prog Try.f11 false true false false) :=
  law_lifted (C := Try.checked) (fn := Try.f11) (tb := 4) own_knob started (by kernel_rfl) Try.func11
    (ChangeSpec.witness6 (enc := enc) (C := Try.checked) false ⟨#[], #[.agg #[.int .u8 0, .int .u8 0, .int .u8 0, .int .u8 0, .int .u8 0, .int .u8 0, .int .u8 0, .int .u8 0, .int .u8 0, .int .u8 0, .int .u8 0, .int .u8 0, .int .u8 0, .int .u8 0, .int .u8 0, .int .u8 0, .int .u8 0, .int .u8 0, .int .u8 0, .int .u8 0, .int .u8 0, .int .u8 0, .int .u8 0, .int .u8 0, .int .u8 0, .int .u8 0, .int .u8 0, .int .u8 0, .int .u8 0, .int .u8 0, .int .u8 0, .int .u8 0, .slice none 0 0], .int .u8 0], []⟩ 8 (by kernel_rfl) (by kernel_rfl) (by kernel_rfl) (by kernel_rfl))
    laid_out rfl (by kernel_rfl) Try.underlying4 (by rw [Try.params11]; decide +kernel)
    (by rintro (_ | ⟨a, _ | ⟨b, _ | _⟩⟩) h <;> first | exact ⟨rfl, rfl, rfl⟩ | (rw [Try.params11] at h; simp at h))
    law11

/-- THE STATEMENT -/
theorem tagGoes_holds : Rows.TagGoesSaid :=
  OpenClaim.holds_of_wide 11 Try.f11 rfl rfl rfl rfl rfl rfl rfl ⟨rfl, rfl, rfl, rfl, rfl⟩ rfl rfl rfl rfl rfl (by kernel_rfl) Try.func11 (by kernel_rfl)
    (of_decide_eq_true (by kernel_rfl)) (by unfold Func.isWrapper; first | (rw [if_pos (by decide +kernel)]; kernel_rfl) | (rw [if_neg (by decide +kernel)]; exact ⟨rfl, rfl⟩))
    (fun os started H enc _ => lifted11 os started H enc)
#print axioms tagGoes_holds
end Go.Proofs.Ytlbilkldjhhopaa
