/- Proved: the law ReplyPlaces returns true at every input, and its arguments read behind the call as before it. No condition. -/
import Derived.Test.YtfohfnhimgmnlaaRR0
import Derived.Test.YtfohfnhimgmnlaaC11
set_option linter.unusedVariables false
set_option linter.unusedSimpArgs false
set_option maxRecDepth 100000
namespace Go.Proofs.Ytfohfnhimgmnlaa
open Go.RowKit Go.ChangeShapes Go.WideShapes

theorem law14 (ivs : List IV) (h : okArgs Try.prog Try.f14.params.toList ivs) : RC Try.prog 14 ivs [.bool true] := by
  rw [Try.params14] at h
  simp only [okArgs] at h
  obtain ⟨_, _, rfl, h1, rfl⟩ := h
  obtain ⟨r, rfl, hp, hl⟩ := argReply h1
  exact places14 r hp hl

theorem lifted14 (os : Os) (started : os.Started) (H : Type) (enc : TypeId × Value → H) :
    ReturnsInHanded {} Try.checked os 14 .any (Rows.replyPlacesSpec.pre6 enc Try.prog Try.f14 Rows.replyPlacesRow.domain false) (Rows.replyPlacesSpec.post enc Try.prog Try.f14 false true false false) :=
  law_lifted (C := Try.checked) (fn := Try.f14) (tb := 4) own_knob started (by kernel_rfl) Try.func14
    (ChangeSpec.witness6 (enc := enc) (C := Try.checked) false ⟨#[], #[.agg #[.int .i64 0, .int .i64 0, .slice none 0 0]], []⟩ 8 (by kernel_rfl) (by kernel_rfl) (by kernel_rfl) (by kernel_rfl))
    laid_out rfl (by kernel_rfl) Try.underlying4 (by rw [Try.params14]; decide +kernel)
    (by rintro (_ | ⟨a, _ | _⟩) h <;> first | exact ⟨rfl, rfl, rfl⟩ | (rw [Try.params14] at h; simp at h))
    law14

/-- THE STATEMENT -/
theorem replyPlaces_holds : Rows.ReplyPlacesSaid :=
  OpenClaim.holds_of_wide 14 Try.f14 rfl rfl rfl rfl rfl rfl rfl ⟨rfl, rfl, rfl, rfl, rfl⟩ rfl rfl rfl rfl rfl (by kernel_rfl) Try.func14 (by kernel_rfl)
    (of_decide_eq_true (by kernel_rfl)) (by unfold Func.isWrapper; first | (rw [if_pos (by decide +kernel)]; kernel_rfl) | (rw [if_neg (by decide +kernel)]; exact ⟨rfl, rfl⟩))
    (fun os started H enc _ => lifted14 os started H enc)
#print axioms replyPlaces_holds
end Go.Proofs.Ytfohfnhimgmnlaa
