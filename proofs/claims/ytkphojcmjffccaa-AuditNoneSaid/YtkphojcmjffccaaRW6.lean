/- Proved: the law AuditNone returns true at every input, and its arguments read behind the call as before it. No condition. -/
import Derived.Test.YtkphojcmjffccaaRW0
import Derived.Test.YtkphojcmjffccaaW8
set_option linter.unusedSectionVars false
set_option linter.unusedVariables false
set_option linter.unusedSimpArgs false
set_option maxRecDepth 100000
namespace Go.Proofs.Ytkphojcmjffccaa
open Go.RowKit Go.ChangeShapes Go.WideShapes

theorem law6 (ivs : List IV) (h : okArgs Try.prog Try.f6.params.toList ivs) : RC Try.prog 6 ivs [.bool true] := by
  rw [Try.params6] at h
  simp only [okArgs] at h
  obtain ⟨_, _, rfl, h1, rfl⟩ := h
  obtain ⟨x, rfl, hx⟩ := argSd h1
  exact auditNone x hx


theorem lifted6 (os : Os) (started : os.Started) (H : Type) (enc : TypeId × Value → H) :
    ReturnsInHanded {} Try.checked os 6 .any (Rows.auditNoneSpec.pre6 enc Try.prog Try.f6 Rows.auditNoneRow.domain false) (Rows.auditNoneSpec.post enc Try.prog Try.f6 false true false false) :=
  law_lifted (C := Try.checked) (fn := Try.f6) (tb := 4) own_knob started (by kernel_rfl) Try.func6
    (ChangeSpec.witness6 (enc := enc) (C := Try.checked) false ⟨#[], #[.agg #[.slice none 0 0, .int .i64 0, .int .i64 0, .slice none 0 0]], []⟩ 8 (by kernel_rfl) (by kernel_rfl) (by kernel_rfl) (by kernel_rfl))
    laid_out rfl (by kernel_rfl) Try.underlying4 (by rw [Try.params6]; decide +kernel)
    (by rintro (_ | ⟨a, _ | _⟩) h <;> first | exact ⟨rfl, rfl, rfl⟩ | (rw [Try.params6] at h; simp at h))
    law6

/-- THE STATEMENT -/
theorem auditNone_holds : Rows.AuditNoneSaid :=
  OpenClaim.holds_of_wide 6 Try.f6 rfl rfl rfl rfl rfl rfl rfl ⟨rfl, rfl, rfl, rfl, rfl⟩ rfl rfl rfl rfl rfl (by kernel_rfl) Try.func6 (by kernel_rfl)
    (of_decide_eq_true (by kernel_rfl)) (by unfold Func.isWrapper; first | (rw [if_pos (by decide +kernel)]; kernel_rfl) | (rw [if_neg (by decide +kernel)]; exact ⟨rfl, rfl⟩))
    (fun os started H enc _ => lifted6 os started H enc)
#print axioms auditNone_holds
end Go.Proofs.Ytkphojcmjffccaa
