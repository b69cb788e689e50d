/- Proved: the law AuditGoes returns true at every input, and its arguments read behind the call as before it. No condition. -/
import Derived.Test.YtkphojcmjffccaaRW0
import Derived.Test.YtkphojcmjffccaaW15
set_option linter.unusedVariables false
set_option linter.unusedSimpArgs false
set_option maxRecDepth 100000
namespace Go.Proofs.Ytkphojcmjffccaa
open Go.RowKit Go.ChangeShapes Go.WideShapes

theorem law7 (ivs : List IV) (h : okArgs Try.prog Try.f7.params.toList ivs) : RC Try.prog 7 ivs [.bool true] := by
  rw [Try.params7] at h
  simp only [okArgs] at h
  obtain ⟨_, _, rfl, h1, _, _, rfl, h2, rfl⟩ := h
  obtain ⟨xs, rfl, hn, hx⟩ := argSds h1
  obtain ⟨n0, rfl⟩ := arg_u8 (by kernel_rfl) (by kernel_rfl) h2
  exact auditGoes xs hx hn n0

theorem lifted7 (os : Os) (started : os.Started) (H : Type) (enc : TypeId × Value → H) :
    ReturnsInHanded {} Try.checked os 7 .any (Rows.auditGoesSpec.pre6 enc Try.prog Try.f7 Rows.auditGoesRow.domain false) (Rows.auditGoesSpec.post enc Try.prog Try.f7 false true false false) :=
  law_lifted (C := Try.checked) (fn := Try.f7) (tb := 4) own_knob started (by kernel_rfl) Try.func7
    (ChangeSpec.witness6 (enc := enc) (C := Try.checked) false ⟨#[], #[.slice none 0 0, .int .u8 0], []⟩ 8 (by kernel_rfl) (by kernel_rfl) (by kernel_rfl) (by kernel_rfl))
    laid_out rfl (by kernel_rfl) Try.underlying4 (by rw [Try.params7]; decide +kernel)
    (by rintro (_ | ⟨a, _ | ⟨b, _ | _⟩⟩) h <;> first | exact ⟨rfl, rfl, rfl⟩ | (rw [Try.params7] at h; simp at h))
    law7

theorem auditGoes_holds : Rows.AuditGoesSaid :=
  OpenClaim.holds_of_wide 7 Try.f7 rfl rfl rfl rfl rfl rfl rfl ⟨rfl, rfl, rfl, rfl, rfl⟩ rfl rfl rfl rfl rfl (by kernel_rfl) Try.func7 (by kernel_rfl)
    (of_decide_eq_true (by kernel_rfl)) (by unfold Func.isWrapper; first | (rw [if_pos (by decide +kernel)]; kernel_rfl) | (rw [if_neg (by decide +kernel)]; exact ⟨rfl, rfl⟩))
    (fun os started H enc _ => lifted7 os started H enc)
#print axioms auditGoes_holds
end Go.Proofs.Ytkphojcmjffccaa
