/- Proved: the law AuditVerifies returns true at every input, and its arguments read behind the call as before it. No condition. -/
import Derived.Test.YtkphojcmjffccaaRW0
import Derived.Test.YtkphojcmjffccaaW7
set_option linter.unusedSectionVars false
set_option linter.unusedVariables false
set_option linter.unusedSimpArgs false
set_option maxRecDepth 100000
namespace Go.Proofs.Ytkphojcmjffccaa
open Go.RowKit Go.ChangeShapes Go.WideShapes

theorem law4 (ivs : List IV) (h : okArgs Try.prog Try.f4.params.toList ivs) : RC Try.prog 4 ivs [.bool true] := by
  rw [Try.params4] at h
  simp only [okArgs] at h
  obtain ⟨_, _, rfl, h1, rfl⟩ := h
  obtain ⟨xs, rfl, hn, hx⟩ := argEns h1
  exact auditVerifies xs hx hn


theorem lifted4 (os : Os) (started : os.Started) (H : Type) (enc : TypeId × Value → H) :
    ReturnsInHanded {} Try.checked os 4 .any (Rows.auditVerifiesSpec.pre6 enc Try.prog Try.f4 Rows.auditVerifiesRow.domain false) (Rows.auditVerifiesSpec.post enc Try.prog Try.f4 false true false false) :=
  law_lifted (C := Try.checked) (fn := Try.f4) (tb := 4) own_knob started (by kernel_rfl) Try.func4
    (ChangeSpec.witness6 (enc := enc) (C := Try.checked) false ⟨#[], #[.slice none 0 0], []⟩ 8 (by kernel_rfl) (by kernel_rfl) (by kernel_rfl) (by kernel_rfl))
    laid_out rfl (by kernel_rfl) Try.underlying4 (by rw [Try.params4]; decide +kernel)
    (by rintro (_ | ⟨a, _ | _⟩) h <;> first | exact ⟨rfl, rfl, rfl⟩ | (rw [Try.params4] at h; simp at h))
    law4

/-- THE STATEMENT -/
theorem auditVerifies_holds : Rows.AuditVerifiesSaid :=
  OpenClaim.holds_of_wide 4 Try.f4 rfl rfl rfl rfl rfl rfl rfl ⟨rfl, rfl, rfl, rfl, rfl⟩ rfl rfl rfl rfl rfl (by kernel_rfl) Try.func4 (by kernel_rfl)
    (of_decide_eq_true (by kernel_rfl)) (by unfold Func.isWrapper; first | (rw [if_pos (by decide +kernel)]; kernel_rfl) | (rw [if_neg (by decide +kernel)]; exact ⟨rfl, rfl⟩))
    (fun os started H enc _ => lifted4 os started H enc)
#print axioms auditVerifies_holds
end Go.Proofs.Ytkphojcmjffccaa
