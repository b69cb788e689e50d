/- Proved: the law AuditTurned returns true at every input, and its arguments read behind the call as before it. No condition. -/
import Derived.Test.YtkphojcmjffccaaRW0
import Derived.Test.YtkphojcmjffccaaW10
set_option linter.unusedSectionVars false
set_option linter.unusedVariables false
set_option linter.unusedSimpArgs false
set_option maxRecDepth 100000
namespace Go.Proofs.Ytkphojcmjffccaa
open Go.RowKit Go.ChangeShapes Go.WideShapes

theorem law5 (ivs : List IV) (h : okArgs Try.prog Try.f5.params.toList ivs) : RC Try.prog 5 ivs [.bool true] := by
  rw [Try.params5] at h
  simp only [okArgs] at h
  obtain ⟨_, _, rfl, h1, _, _, rfl, h2, rfl⟩ := h
  obtain ⟨xs, rfl, hn, hx⟩ := argSds h1
  obtain ⟨n0, n1, rfl⟩ := argPair h2
  exact auditTurned xs hx hn n0 n1


theorem lifted5 (os : Os) (started : os.Started) (H : Type) (enc : TypeId × Value → H) :
    ReturnsInHanded {} Try.checked os 5 .any (Rows.auditTurnedSpec.pre6 enc Try.prog Try.f5 Rows.auditTurnedRow.domain false) (Rows.auditTurnedSpec.post enc Try.prog Try.f5 false true false false) :=
  law_lifted (C := Try.checked) (fn := Try.f5) (tb := 4) own_knob started (by kernel_rfl) Try.func5
    (ChangeSpec.witness6 (enc := enc) (C := Try.checked) false ⟨#[], #[.slice none 0 0, .agg #[.int .u8 0, .int .u8 0]], []⟩ 8 (by kernel_rfl) (by kernel_rfl) (by kernel_rfl) (by kernel_rfl))
    laid_out rfl (by kernel_rfl) Try.underlying4 (by rw [Try.params5]; decide +kernel)
    (by rintro (_ | ⟨a, _ | ⟨b, _ | _⟩⟩) h <;> first | exact ⟨rfl, rfl, rfl⟩ | (rw [Try.params5] at h; simp at h))
    law5

/-- THE STATEMENT -/
theorem auditTurned_holds : Rows.AuditTurnedSaid :=
  OpenClaim.holds_of_wide 5 Try.f5 rfl rfl rfl rfl rfl rfl rfl ⟨rfl, rfl, rfl, rfl, rfl⟩ rfl rfl rfl rfl rfl (by kernel_rfl) Try.func5 (by kernel_rfl)
    (of_decide_eq_true (by kernel_rfl)) (by unfold Func.isWrapper; first | (rw [if_pos (by decide +kernel)]; kernel_rfl) | (rw [if_neg (by decide +kernel)]; exact ⟨rfl, rfl⟩))
    (fun os started H enc _ => lifted5 os started H enc)
#print axioms auditTurned_holds
end Go.Proofs.Ytkphojcmjffccaa
