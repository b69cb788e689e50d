/- Proved: the law TagTells returns true at every input, and its arguments read behind the call as before it. No condition. -/
import Derived.Test.YtlbilkldjhhopaaRB0
import Derived.Test.YtlbilkldjhhopaaU10
set_option linter.unusedSectionVars false
set_option linter.unusedVariables false
set_option linter.unusedSimpArgs false
set_option maxRecDepth 100000
namespace Go.Proofs.Ytlbilkldjhhopaa
open Go.RowKit Go.ChangeShapes Go.WideShapes

theorem law10 (ivs : List IV) (h : okArgs Try.prog Try.f10.params.toList ivs) : RC Try.prog 10 ivs [.bool true] := by
  rw [Try.params10] at h
  simp only [okArgs] at h
  obtain ⟨_, _, rfl, h1, _, _, rfl, h2, _, _, rfl, h3, rfl⟩ := h
  obtain ⟨a, rfl, ha⟩ := arg_bytes flatBytes (by kernel_rfl) h1
  obtain ⟨b, rfl, hb⟩ := arg_bytes flatBytes (by kernel_rfl) h2
  obtain ⟨d, ps, rfl, hd, hn, hp⟩ := argChained h3
  exact tagTells a b d ps ha hb hd hn fun p h => (hp p h).1

theorem lifted10 (os : Os) (started : os.Started) (H : Type) (enc : TypeId × Value → H) :
    ReturnsInHanded {} Try.checked os 10 .any (Rows.tagTellsSpec.pre6 enc Try.prog Try.f10 Rows.tagTellsRow.domain false) (Rows.tagTellsSpec.post enc Try.prog Try.f10 false true false false) :=
  law_lifted (C := Try.checked) (fn := Try.f10) (tb := 4) own_knob started (by kernel_rfl) Try.func10
    (ChangeSpec.witness6 (enc := enc) (C := Try.checked) false ⟨#[], #[.slice none 0 0, .slice none 0 0, .agg #[.int .u8 0, .int .u8 0, .int .u8 0, .int .u8 0, .int .u8 0, .int .u8 0, .int .u8 0, .int .u8 0, .int .u8 0, .int .u8 0, .int .u8 0, .int .u8 0, .int .u8 0, .int .u8 0, .int .u8 0, .int .u8 0, .int .u8 0, .int .u8 0, .int .u8 0, .int .u8 0, .int .u8 0, .int .u8 0, .int .u8 0, .int .u8 0, .int .u8 0, .int .u8 0, .int .u8 0, .int .u8 0, .int .u8 0, .int .u8 0, .int .u8 0, .int .u8 0, .slice none 0 0]], []⟩ 8 (by kernel_rfl) (by kernel_rfl) (by kernel_rfl) (by kernel_rfl))
    laid_out rfl (by kernel_rfl) Try.underlying4 (by rw [Try.params10]; decide +kernel)
    (by rintro (_ | ⟨a, _ | ⟨b, _ | ⟨c, _ | _⟩⟩⟩) h <;> first | exact ⟨rfl, rfl, rfl⟩ | (rw [Try.params10] at h; simp at h))
    law10

/-- THE STATEMENT -/
theorem tagTells_holds : Rows.TagTellsSaid :=
  OpenClaim.holds_of_wide 10 Try.f10 rfl rfl rfl rfl rfl rfl rfl ⟨rfl, rfl, rfl, rfl, rfl⟩ rfl rfl rfl rfl rfl (by kernel_rfl) Try.func10 (by kernel_rfl)
    (of_decide_eq_true (by kernel_rfl)) (by unfold Func.isWrapper; first | (rw [if_pos (by decide +kernel)]; kernel_rfl) | (rw [if_neg (by decide +kernel)]; exact ⟨rfl, rfl⟩))
    (fun os started H enc _ => lifted10 os started H enc)
#print axioms tagTells_holds
end Go.Proofs.Ytlbilkldjhhopaa
