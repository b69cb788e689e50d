/- Proved: the law TableBack returns true at every input, and its arguments read behind the call as before it, where the variables that its row lists read as the program's text lays them; and its tied card. No condition beyond. -/
import Derived.Test.YtmblapgoimegkaaDoorRC2
import Derived.Test.YtmblapgoimegkaaDoorL2
set_option linter.unusedVariables false
set_option linter.unusedSimpArgs false
set_option maxRecDepth 100000
namespace Go.Proofs.YtmblapgoimegkaaDoor
open Go.RowKit Go.ChangeShapes Go.WideShapes

theorem law12 (ivs : List IV) (h : okArgs Tryd.prog Tryd.f12.params.toList ivs) : RC Tryd.prog 12 ivs [.bool true] := by
  rw [Tryd.params12] at h
  simp only [okArgs] at h
  obtain ⟨_, _, rfl, h1, _, _, rfl, h2, _, _, rfl, h3, rfl⟩ := h
  obtain ⟨vs, rfl, hv⟩ := argVols h1
  obtain ⟨ws, rfl, hw⟩ := argVols h2
  obtain ⟨b, rfl, hb⟩ := argBlock h3
  exact tableBack vs ws b hv hw hb

theorem lifted12 (os : Os) (started : os.Started) (H : Type) (enc : TypeId × Value → H) :
    ReturnsInHanded {} Tryd.checked os 12 .any (fun w args => (Rows.tableBackSpec.pre enc Tryd.prog Tryd.f12 [] false w args ∧ laidMetH Tryd.prog laidL w) ∧ sizedMet enc Tryd.prog Tryd.f12 (OpenSpec.ofChange Rows.tableBackSpec) false w args) (Rows.tableBackSpec.post enc Tryd.prog Tryd.f12 false true false false) :=
  law_liftedL (C := Tryd.checked) (fn := Tryd.f12) (tb := 4) own_knob started (by kernel_rfl) Tryd.func12
    (ChangeSpec.witness_shaped (enc := enc) (C := Tryd.checked) (os := os) (X := fun w _ => laidMetH Tryd.prog laidL w) false (World.laidAll Tryd.prog os laidL) #[.slice none 0 0, .slice none 0 0, .agg #[.int .u8 0, .int .u8 0, .int .u8 0, .int .u8 0, .int .u8 0, .int .u8 0, .int .u8 0, .int .u8 0, .int .u8 0, .int .u8 0, .int .u8 0, .int .u8 0, .int .u8 0, .int .u8 0, .int .u8 0, .int .u8 0, .int .u8 0, .int .u8 0, .int .u8 0, .int .u8 0, .int .u8 0, .int .u8 0, .int .u8 0, .int .u8 0, .int .u8 0, .int .u8 0, .int .u8 0, .int .u8 0, .int .u8 0, .int .u8 0, .int .u8 0, .int .u8 0]] 8 (World.laidAll_os _ _ _) (World.shaped_of_ZipB (by kernel_rfl) (by kernel_rfl)) (by kernel_rfl) (by kernel_rfl) (by kernel_rfl) (laid_met os _))
    laid_out rfl (by kernel_rfl) Tryd.underlying4 (by rw [Tryd.params12]; decide +kernel)
    (by rintro (_ | ⟨a, _ | ⟨b, _ | ⟨c, _ | _⟩⟩⟩) h <;> first | exact ⟨rfl, rfl, rfl⟩ | (rw [Tryd.params12] at h; simp at h))
    law12

theorem tableBack_row : Rows.TableBackSaid :=
  OpenClaim.holds_of_wide 12 Tryd.f12 rfl rfl rfl rfl rfl rfl rfl ⟨rfl, rfl, rfl, rfl, rfl⟩ rfl rfl rfl rfl rfl (by kernel_rfl) Tryd.func12 (by kernel_rfl)
    (of_decide_eq_true (by kernel_rfl)) (by unfold Func.isWrapper; first | (rw [if_pos (by decide +kernel)]; kernel_rfl) | (rw [if_neg (by decide +kernel)]; exact ⟨rfl, rfl⟩))
    (fun os started H enc _ => lifted12 os started H enc)

/-- THE STATEMENT -/
theorem tableBack_holds : Rows.TableBackCardSaid :=
  Claim7.holds_tied_plain_at .later [] cardKinds true cardHarness false
    tableBack_row (fun _ h => by cases h) (by kernel_rfl) (fun _ h => by cases h) tableBack_row_tie rfl ⟨rfl, rfl⟩ (by kernel_rfl) rfl
    (fun f fn hf hfn => by
      obtain rfl : f = 12 := Option.some.inj ((show Tryd.prog.funcNamed "tollhouse/tollhouselaw12.TableBack" = some 12 by kernel_rfl).symm.trans hf) |>.symm
      obtain rfl : fn = Tryd.f12 := (Option.some.inj (Tryd.func12.symm.trans hfn)).symm
      exact ⟨by kernel_rfl, fun j t ht => by
        rw [Tryd.params12] at ht
        have hm : t ∈ [63, 63, 64] := by simpa using Array.mem_of_getElem? ht
        have hall : ([63, 63, 64].all fun u => !Tryd.prog.wantsStandIn u) = true := by kernel_rfl
        exact (show Tryd.prog.wantsStandIn t = false by simpa using List.all_eq_true.1 hall t hm)⟩)
    (by kernel_rfl)
#print axioms tableBack_holds
end Go.Proofs.YtmblapgoimegkaaDoor
