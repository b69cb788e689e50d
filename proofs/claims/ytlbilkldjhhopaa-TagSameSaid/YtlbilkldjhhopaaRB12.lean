/- Proved: the law TagSame returns true at every input, and its arguments read behind the call as before it. No condition. -/
import Derived.Test.YtlbilkldjhhopaaRB0
import Derived.Test.YtlbilkldjhhopaaU8
set_option linter.unusedSectionVars false
set_option linter.unusedVariables false
set_option linter.unusedSimpArgs false
set_option maxRecDepth 100000
namespace Go.Proofs.Ytlbilkldjhhopaa
open Go.RowKit Go.ChangeShapes Go.WideShapes

theorem law12 (ivs : List IV) (h : okArgs Try.prog Try.f12.params.toList ivs) : RC Try.prog 12 ivs [.bool true] := by
  rw [Try.params12] at h
  simp only [okArgs] at h
  obtain ⟨_, _, rfl, h1, _, _, rfl, h2, _, _, rfl, h3, rfl⟩ := h
  obtain ⟨a, rfl, ha⟩ := arg_bytes flatBytes (by kernel_rfl) h1
  obtain ⟨k, rfl, _⟩ := arg_int flatInt (by kernel_rfl) h2
  obtain ⟨y, rfl⟩ := arg_u8 flatByte (by kernel_rfl) h3
  exact tagSame a k y ha

theorem lifted12 (os : Os) (started : os.Started) (H : Type) (enc : TypeId × Value → H) :
    ReturnsInHanded {} Try.checked os 12 .any (Rows.tagSameSpec.pre6 enc Try.prog Try.f12 Rows.tagSameRow.domain false) (Rows.tagSameSpec.post enc Try.prog Try.f12 false true false false) :=
  law_lifted (C := Try.checked) (fn := Try.f12) (tb := 4) own_knob started (by kernel_rfl) Try.func12
    (ChangeSpec.witness6 (enc := enc) (C := Try.checked) false ⟨#[], #[.slice none 0 0, .int .i64 0, .int .u8 0], []⟩ 8 (by kernel_rfl) (by kernel_rfl) (by kernel_rfl) (by kernel_rfl))
    laid_out rfl (by kernel_rfl) Try.underlying4 (by rw [Try.params12]; decide +kernel)
    (by rintro (_ | ⟨a, _ | ⟨b, _ | ⟨c, _ | _⟩⟩⟩) h <;> first | exact ⟨rfl, rfl, rfl⟩ | (rw [Try.params12] at h; simp at h))
    law12

/-- THE STATEMENT -/
theorem tagSame_holds : Rows.TagSameSaid :=
  OpenClaim.holds_of_wide 12 Try.f12 rfl rfl rfl rfl rfl rfl rfl ⟨rfl, rfl, rfl, rfl, rfl⟩ rfl rfl rfl rfl rfl (by kernel_rfl) Try.func12 (by kernel_rfl)
    (of_decide_eq_true (by kernel_rfl)) (by unfold Func.isWrapper; first | (rw [if_pos (by decide +kernel)]; kernel_rfl) | (rw [if_neg (by decide +kernel)]; exact ⟨rfl, rfl⟩))
    (fun os started H enc _ => lifted12 os started H enc)
#print axioms tagSame_holds
end Go.Proofs.Ytlbilkldjhhopaa
