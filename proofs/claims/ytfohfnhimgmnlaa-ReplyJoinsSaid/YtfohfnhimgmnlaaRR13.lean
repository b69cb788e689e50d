/- Proved: the law ReplyJoins returns true at every input, and its arguments read behind the call as before it. No condition. -/
import Derived.Test.YtfohfnhimgmnlaaRR0
import Derived.Test.YtfohfnhimgmnlaaC10
set_option linter.unusedVariables false
set_option linter.unusedSimpArgs false
set_option maxRecDepth 100000
namespace Go.Proofs.Ytfohfnhimgmnlaa
open Go.RowKit Go.ChangeShapes Go.WideShapes

theorem law13 (ivs : List IV) (h : okArgs Try.prog Try.f13.params.toList ivs) : RC Try.prog 13 ivs [.bool true] := by
  rw [Try.params13] at h
  simp only [okArgs] at h
  obtain ⟨_, _, rfl, h1, _, _, rfl, h2, rfl⟩ := h
  obtain ⟨rs, rfl, hl, hp⟩ := argReplies h1
  obtain ⟨b, rfl⟩ := arg_u8 flatByte (by kernel_rfl) h2
  exact joins13 rs b hp hl

theorem lifted13 (os : Os) (started : os.Started) (H : Type) (enc : TypeId × Value → H) :
    ReturnsInHanded {} Try.checked os 13 .any (Rows.replyJoinsSpec.pre6 enc Try.prog Try.f13 Rows.replyJoinsRow.domain false) (Rows.replyJoinsSpec.post enc Try.prog Try.f13 false true false false) :=
  law_lifted (C := Try.checked) (fn := Try.f13) (tb := 4) own_knob started (by kernel_rfl) Try.func13
    (ChangeSpec.witness6 (enc := enc) (C := Try.checked) false ⟨#[], #[.slice none 0 0, .int .u8 0], []⟩ 8 (by kernel_rfl) (by kernel_rfl) (by kernel_rfl) (by kernel_rfl))
    laid_out rfl (by kernel_rfl) Try.underlying4 (by rw [Try.params13]; decide +kernel)
    (by rintro (_ | ⟨a, _ | ⟨b, _ | _⟩⟩) h <;> first | exact ⟨rfl, rfl, rfl⟩ | (rw [Try.params13] at h; simp at h))
    law13

/-- THE STATEMENT -/
theorem replyJoins_holds : Rows.ReplyJoinsSaid :=
  OpenClaim.holds_of_wide 13 Try.f13 rfl rfl rfl rfl rfl rfl rfl ⟨rfl, rfl, rfl, rfl, rfl⟩ rfl rfl rfl rfl rfl (by kernel_rfl) Try.func13 (by kernel_rfl)
    (of_decide_eq_true (by kernel_rfl)) (by unfold Func.isWrapper; first | (rw [if_pos (by decide +kernel)]; kernel_rfl) | (rw [if_neg (by decide +kernel)]; exact ⟨rfl, rfl⟩))
    (fun os started H enc _ => lifted13 os started H enc)
#print axioms replyJoins_holds
end Go.Proofs.Ytfohfnhimgmnlaa
