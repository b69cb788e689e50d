/- Proved: the law QueueNone returns true at every input, and its arguments read behind the call as before it, where the variables that its row lists read as the program's text lays them; and its tied card. No condition beyond. -/
import Derived.Test.YtilbipknodpmmaaDoorRQ0
import Derived.Test.YtilbipknodpmmaaDoorW4
set_option linter.unusedVariables false
set_option linter.unusedSimpArgs false
set_option maxRecDepth 100000
namespace Go.Proofs.YtilbipknodpmmaaDoor
open Go.RowKit Go.ChangeShapes Go.WideShapes

theorem law10 (ivs : List IV) (h : okArgs Tryd.prog Tryd.f10.params.toList ivs) : RC Tryd.prog 10 ivs [.bool true] := by
  rw [Tryd.params10] at h
  simp only [okArgs] at h
  obtain ⟨_, _, rfl, h1, rfl⟩ := h
  obtain ⟨x, rfl, hx⟩ := argItem h1
  exact queueNone x hx

theorem lifted10 (os : Os) (started : os.Started) (H : Type) (enc : TypeId × Value → H) :
    ReturnsInHanded {} Tryd.checked os 10 .any (fun w args => (Rows.queueNoneSpec.pre enc Tryd.prog Tryd.f10 [] false w args ∧ laidMetH Tryd.prog laidL w) ∧ sizedMet enc Tryd.prog Tryd.f10 (OpenSpec.ofChange Rows.queueNoneSpec) false w args) (Rows.queueNoneSpec.post enc Tryd.prog Tryd.f10 false true false false) :=
  law_liftedL (C := Tryd.checked) (fn := Tryd.f10) (tb := 4) own_knob started (by kernel_rfl) Tryd.func10
    (ChangeSpec.witness_shaped (enc := enc) (C := Tryd.checked) (os := os) (X := fun w _ => laidMetH Tryd.prog laidL w) false (World.laidAll Tryd.prog os laidL) #[.agg #[.int .i64 0, .int .i64 0, .string ⟨#[]⟩, .int .i64 0, .int .u8 0, .int .u8 0, .int .u8 0, .int .u8 0, .int .u8 0, .int .u8 0, .int .u8 0, .int .u8 0, .int .u8 0, .int .u8 0, .int .u8 0, .int .u8 0, .int .u8 0, .int .u8 0, .int .u8 0, .int .u8 0, .int .u8 0, .int .u8 0, .int .u8 0, .int .u8 0, .int .u8 0, .int .u8 0, .int .u8 0, .int .u8 0, .int .u8 0, .int .u8 0, .int .u8 0, .int .u8 0, .int .u8 0, .int .u8 0, .int .u8 0, .int .u8 0]] 8 (World.laidAll_os _ _ _) (World.shaped_of_ZipB (by kernel_rfl) (by kernel_rfl)) (by kernel_rfl) (by kernel_rfl) (by kernel_rfl) (laid_met os _))
    laid_out rfl (by kernel_rfl) Tryd.underlying4 (by rw [Tryd.params10]; decide +kernel)
    (by rintro (_ | ⟨a, _ | _⟩) h <;> first | exact ⟨rfl, rfl, rfl⟩ | (rw [Tryd.params10] at h; simp at h))
    law10

theorem queueNone_row : Rows.QueueNoneSaid :=
  OpenClaim.holds_of_wide 10 Tryd.f10 rfl rfl rfl rfl rfl rfl rfl ⟨rfl, rfl, rfl, rfl, rfl⟩ rfl rfl rfl rfl rfl (by kernel_rfl) Tryd.func10 (by kernel_rfl)
    (of_decide_eq_true (by kernel_rfl)) (by unfold Func.isWrapper; first | (rw [if_pos (by decide +kernel)]; kernel_rfl) | (rw [if_neg (by decide +kernel)]; exact ⟨rfl, rfl⟩))
    (fun os started H enc _ => lifted10 os started H enc)

theorem queueNone_holds : Rows.QueueNoneCardSaid :=
  Claim7.holds_tied_plain_at .later [] cardKinds true cardHarness false
    queueNone_row (fun _ h => by cases h) (by kernel_rfl) (fun _ h => by cases h) queueNone_row_tie rfl ⟨rfl, rfl⟩ (by kernel_rfl) rfl
    (fun f fn hf hfn => by
      obtain rfl : f = 10 := Option.some.inj ((show Tryd.prog.funcNamed "tollhouse/tollhouselaw21.QueueNone" = some 10 by kernel_rfl).symm.trans hf) |>.symm
      obtain rfl : fn = Tryd.f10 := (Option.some.inj (Tryd.func10.symm.trans hfn)).symm
      exact ⟨by kernel_rfl, fun j t ht => by
        rw [Tryd.params10] at ht
        have hm : t ∈ [77] := by simpa using Array.mem_of_getElem? ht
        have hall : ([77].all fun u => !Tryd.prog.wantsStandIn u) = true := by kernel_rfl
        exact (show Tryd.prog.wantsStandIn t = false by simpa using List.all_eq_true.1 hall t hm)⟩)
    (by kernel_rfl)
#print axioms queueNone_holds
end Go.Proofs.YtilbipknodpmmaaDoor
