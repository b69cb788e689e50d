/- Proved: the law CapsScope returns true at every input, and its arguments read behind the call as before it, where the variables that its row lists read as the program's text lays them; and its tied card. No condition beyond. -/
import Derived.Test.YtkphojcmjffccaaDoorRY0
import Derived.Test.YtkphojcmjffccaaDoorY6
set_option linter.unusedSectionVars false
set_option linter.unusedVariables false
set_option linter.unusedSimpArgs false
set_option maxRecDepth 100000
namespace Go.Proofs.YtkphojcmjffccaaDoor
open Go.RowKit Go.ChangeShapes Go.WideShapes

theorem law4 (ivs : List IV) (h : okArgs Tryd.prog Tryd.f4.params.toList ivs) : RC Tryd.prog 4 ivs [.bool true] := by
  rw [Tryd.params4] at h
  simp only [okArgs] at h
  obtain ⟨_, _, rfl, h1, _, _, rfl, h2, _, _, rfl, h3, rfl⟩ := h
  obtain ⟨k, p, g, n, rfl, hk, hg, hn⟩ := argWard h1
  obtain ⟨a, rfl, ha⟩ := arg_str flatStr (by kernel_rfl) h2
  obtain ⟨b, rfl, hb⟩ := arg_str flatStr (by kernel_rfl) h3
  exact capsScope k p g n hg hn a b hk ha hb


theorem lifted4 (os : Os) (started : os.Started) (H : Type) (enc : TypeId × Value → H) :
    ReturnsInHanded {} Tryd.checked os 4 .any (fun w args => (Rows.capsScopeSpec.pre enc Tryd.prog Tryd.f4 [] false w args ∧ laidMetH Tryd.prog laidL w) ∧ sizedMet enc Tryd.prog Tryd.f4 (OpenSpec.ofChange Rows.capsScopeSpec) false w args) (Rows.capsScopeSpec.post enc Tryd.prog Tryd.f4 false true false false) :=
  law_liftedL (C := Tryd.checked) (fn := Tryd.f4) (tb := 4) own_knob started (by kernel_rfl) Tryd.func4
    (ChangeSpec.witness_shaped (enc := enc) (C := Tryd.checked) (os := os) (X := fun w _ => laidMetH Tryd.prog laidL w) false (World.laidAll Tryd.prog os laidL) #[.agg #[.slice none 0 0, .int .i64 0, .int .u32 0, .int .u32 0], .string ⟨#[]⟩, .string ⟨#[]⟩] 8 (World.laidAll_os _ _ _) (World.shaped_of_ZipB (by kernel_rfl) (by kernel_rfl)) (by kernel_rfl) (by kernel_rfl) (by kernel_rfl) (laid_met os _))
    laid_out rfl (by kernel_rfl) Tryd.underlying4 (by rw [Tryd.params4]; decide +kernel)
    (by rintro (_ | ⟨a, _ | ⟨b, _ | ⟨c, _ | _⟩⟩⟩) h <;> first | exact ⟨rfl, rfl, rfl⟩ | (rw [Tryd.params4] at h; simp at h))
    law4

theorem capsScope_row : Rows.CapsScopeSaid :=
  OpenClaim.holds_of_wide 4 Tryd.f4 rfl rfl rfl rfl rfl rfl rfl ⟨rfl, rfl, rfl, rfl, rfl⟩ rfl rfl rfl rfl rfl (by kernel_rfl) Tryd.func4 (by kernel_rfl)
    (of_decide_eq_true (by kernel_rfl)) (by unfold Func.isWrapper; first | (rw [if_pos (by decide +kernel)]; kernel_rfl) | (rw [if_neg (by decide +kernel)]; exact ⟨rfl, rfl⟩))
    (fun os started H enc _ => lifted4 os started H enc)

/-- THE STATEMENT -/
theorem capsScope_holds : Rows.CapsScopeCardSaid :=
  Claim7.holds_tied_plain_at .later [] cardKinds true cardHarness false
    capsScope_row (fun _ h => by cases h) (by kernel_rfl) (fun _ h => by cases h) capsScope_row_tie rfl ⟨rfl, rfl⟩ (by kernel_rfl) rfl
    (fun f fn hf hfn => by
      obtain rfl : f = 4 := Option.some.inj ((show Tryd.prog.funcNamed "tollhouse/tollhouselaw15.CapsScope" = some 4 by kernel_rfl).symm.trans hf) |>.symm
      obtain rfl : fn = Tryd.f4 := (Option.some.inj (Tryd.func4.symm.trans hfn)).symm
      exact ⟨by kernel_rfl, fun j t ht => by
        rw [Tryd.params4] at ht
        have hm : t ∈ [25, 9, 9] := by simpa using Array.mem_of_getElem? ht
        have hall : ([25, 9, 9].all fun u => !Tryd.prog.wantsStandIn u) = true := by kernel_rfl
        exact (show Tryd.prog.wantsStandIn t = false by simpa using List.all_eq_true.1 hall t hm)⟩)
    (by kernel_rfl)
#print axioms capsScope_holds
end Go.Proofs.YtkphojcmjffccaaDoor
