/- Proved: the law QueueFull returns true at every input, and its arguments read behind the call as before it, where the variables that its row lists read as the program's text lays them; and its tied card. No condition beyond. -/
import Derived.Test.YtilbipknodpmmaaDoorRQ0
import Derived.Test.YtilbipknodpmmaaDoorW5
set_option linter.unusedVariables false
set_option linter.unusedSimpArgs false
set_option maxRecDepth 100000
namespace Go.Proofs.YtilbipknodpmmaaDoor
open Go.RowKit Go.ChangeShapes Go.WideShapes

theorem law11 (ivs : List IV) (h : okArgs Tryd.prog Tryd.f11.params.toList ivs) : RC Tryd.prog 11 ivs [.bool true] := by
  rw [Tryd.params11] at h
  simp only [okArgs] at h
  obtain ⟨_, _, rfl, h1, _, _, rfl, h2, _, _, rfl, h3, rfl⟩ := h
  obtain ⟨a, rfl⟩ := arg_u8 (by kernel_rfl) (by kernel_rfl) h1
  obtain ⟨b, rfl⟩ := arg_u8 (by kernel_rfl) (by kernel_rfl) h2
  obtain ⟨x, rfl, hx⟩ := argItem h3
  exact queueFull a b x hx

theorem lifted11 (os : Os) (started : os.Started) (H : Type) (enc : TypeId × Value → H) :
    ReturnsInHanded {} Tryd.checked os 11 .any (fun w args => (Rows.queueFullSpec.pre enc Tryd.prog Tryd.f11 [] false w args ∧ laidMetH Tryd.prog laidL w) ∧ sizedMet enc Tryd.prog Tryd.f11 (OpenSpec.ofChange Rows.queueFullSpec) false w args) (Rows.queueFullSpec.post enc Tryd.prog Tryd.f11 false true false false) :=
  law_liftedL (C := Tryd.checked) (fn := Tryd.f11) (tb := 4) own_knob started (by kernel_rfl) Tryd.func11
    (ChangeSpec.witness_shaped (enc := enc) (C := Tryd.checked) (os := os) (X := fun w _ => laidMetH Tryd.prog laidL w) false (World.laidAll Tryd.prog os laidL) #[.int .u8 0, .int .u8 0, .agg #[.int .i64 0, .int .i64 0, .string ⟨#[]⟩, .int .i64 0, .int .u8 0, .int .u8 0, .int .u8 0, .int .u8 0, .int .u8 0, .int .u8 0, .int .u8 0, .int .u8 0, .int .u8 0, .int .u8 0, .int .u8 0, .int .u8 0, .int .u8 0, .int .u8 0, .int .u8 0, .int .u8 0, .int .u8 0, .int .u8 0, .int .u8 0, .int .u8 0, .int .u8 0, .int .u8 0, .int .u8 0, .int .u8 0, .int .u8 0, .int .u8 0, .int .u8 0, .int .u8 0, .int .u8 0, .int .u8 0, .int .u8 0, .int .u8 0]] 8 (World.laidAll_os _ _ _) (World.shaped_of_ZipB (by kernel_rfl) (by kernel_rfl)) (by kernel_rfl) (by kernel_rfl) (by kernel_rfl) (laid_met os _))
    laid_out rfl (by kernel_rfl) Tryd.underlying4 (by rw [Tryd.params11]; decide +kernel)
    (by rintro (_ | ⟨a, _ | ⟨b, _ | ⟨c, _ | _⟩⟩⟩) h <;> first | exact ⟨rfl, rfl, rfl⟩ | (rw [Tryd.params11] at h; simp at h))
    law11

theorem queueFull_row : Rows.QueueFullSaid :=
  OpenClaim.holds_of_wide 11 Tryd.f11 rfl rfl rfl rfl rfl rfl rfl ⟨rfl, rfl, rfl, rfl, rfl⟩ rfl rfl rfl rfl rfl (by kernel_rfl) Tryd.func11 (by kernel_rfl)
    (of_decide_eq_true (by kernel_rfl)) (by unfold Func.isWrapper; first | (rw [if_pos (by decide +kernel)]; kernel_rfl) | (rw [if_neg (by decide +kernel)]; exact ⟨rfl, rfl⟩))
    (fun os started H enc _ => lifted11 os started H enc)

theorem queueFull_holds : Rows.QueueFullCardSaid :=
  Claim7.holds_tied_plain_at .later [] cardKinds true cardHarness false
    queueFull_row (fun _ h => by cases h) (by kernel_rfl) (fun _ h => by cases h) queueFull_row_tie rfl ⟨rfl, rfl⟩ (by kernel_rfl) rfl
    (fun f fn hf hfn => by
      obtain rfl : f = 11 := Option.some.inj ((show Tryd.prog.funcNamed "tollhouse/tollhouselaw21.QueueFull" = some 11 by kernel_rfl).symm.trans hf) |>.symm
      obtain rfl : fn = Tryd.f11 := (Option.some.inj (Tryd.func11.symm.trans hfn)).symm
      exact ⟨by kernel_rfl, fun j t ht => by
        rw [Tryd.params11] at ht
        have hm : t ∈ [5, 5, 77] := by simpa using Array.mem_of_getElem? ht
        have hall : ([5, 5, 77].all fun u => !Tryd.prog.wantsStandIn u) = true := by kernel_rfl
        exact (show Tryd.prog.wantsStandIn t = false by simpa using List.all_eq_true.1 hall t hm)⟩)
    (by kernel_rfl)
#print axioms queueFull_holds
end Go.Proofs.YtilbipknodpmmaaDoor
