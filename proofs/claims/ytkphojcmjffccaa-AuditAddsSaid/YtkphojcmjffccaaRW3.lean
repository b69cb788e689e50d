/- Proved: the law AuditAdds returns true at every input, and its arguments read behind the call as before it. No condition. -/
import Derived.Test.YtkphojcmjffccaaRW0
import Derived.Test.YtkphojcmjffccaaW13
set_option linter.unusedVariables false
set_option linter.unusedSimpArgs false
set_option maxRecDepth 100000
namespace Go.Proofs.Ytkphojcmjffccaa
open Go.RowKit Go.ChangeShapes Go.WideShapes

theorem flatDigest : flat Try.prog 10 24 = some (List.replicate 32 (.int .u8) ++ []) := by kernel_rfl
theorem argDigest {v : IV} (h : okArg Try.prog 24 v) : ∃ D : List UInt8, v = .agg (bl D) ∧ D.length = 32 := by
  obtain ⟨vs, k, rfl⟩ := arg_of flatDigest h
  obtain ⟨xs, ws, h1, rfl, k2⟩ := octets_app 32 _ _ k
  simp only [okL] at k2
  subst k2
  exact ⟨xs, by rw [List.append_nil]; exact mk_agg (by kernel_rfl), h1⟩
theorem law3 (ivs : List IV) (h : okArgs Try.prog Try.f3.params.toList ivs) : RC Try.prog 3 ivs [.bool true] := by
  rw [Try.params3] at h
  simp only [okArgs] at h
  obtain ⟨_, _, rfl, h1, _, _, rfl, h2, rfl⟩ := h
  obtain ⟨xs, rfl, hn, hx⟩ := argSds h1
  obtain ⟨D, rfl, hD⟩ := argDigest h2
  exact auditAdds xs hx hn D hD

theorem lifted3 (os : Os) (started : os.Started) (H : Type) (enc : TypeId × Value → H) :
    ReturnsInHanded {} Try.checked os 3 .any (Rows.auditAddsSpec.pre6 enc Try.prog Try.f3 Rows.auditAddsRow.domain false) (Rows.auditAddsSpec.post enc Try.prog Try.f3 false true false false) :=
  law_lifted (C := Try.checked) (fn := Try.f3) (tb := 4) own_knob started (by kernel_rfl) Try.func3
    (ChangeSpec.witness6 (enc := enc) (C := Try.checked) false ⟨#[], #[.slice none 0 0, .agg #[.int .u8 0, .int .u8 0, .int .u8 0, .int .u8 0, .int .u8 0, .int .u8 0, .int .u8 0, .int .u8 0, .int .u8 0, .int .u8 0, .int .u8 0, .int .u8 0, .int .u8 0, .int .u8 0, .int .u8 0, .int .u8 0, .int .u8 0, .int .u8 0, .int .u8 0, .int .u8 0, .int .u8 0, .int .u8 0, .int .u8 0, .int .u8 0, .int .u8 0, .int .u8 0, .int .u8 0, .int .u8 0, .int .u8 0, .int .u8 0, .int .u8 0, .int .u8 0]], []⟩ 8 (by kernel_rfl) (by kernel_rfl) (by kernel_rfl) (by kernel_rfl))
    laid_out rfl (by kernel_rfl) Try.underlying4 (by rw [Try.params3]; decide +kernel)
    (by rintro (_ | ⟨a, _ | ⟨b, _ | _⟩⟩) h <;> first | exact ⟨rfl, rfl, rfl⟩ | (rw [Try.params3] at h; simp at h))
    law3

theorem auditAdds_holds : Rows.AuditAddsSaid :=
  OpenClaim.holds_of_wide 3 Try.f3 rfl rfl rfl rfl rfl rfl rfl ⟨rfl, rfl, rfl, rfl, rfl⟩ rfl rfl rfl rfl rfl (by kernel_rfl) Try.func3 (by kernel_rfl)
    (of_decide_eq_true (by kernel_rfl)) (by unfold Func.isWrapper; first | (rw [if_pos (by decide +kernel)]; kernel_rfl) | (rw [if_neg (by decide +kernel)]; exact ⟨rfl, rfl⟩))
    (fun os started H enc _ => lifted3 os started H enc)
#print axioms auditAdds_holds
end Go.Proofs.Ytkphojcmjffccaa
