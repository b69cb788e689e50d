/- Proved: the law QueueOrder returns true at every input, and its arguments read behind the call as before it, where the variables that its row lists read as the program's text lays them; and its tied card. No condition beyond. -/
import Derived.Test.YtilbipknodpmmaaDoorRQ0
import Derived.Test.YtilbipknodpmmaaDoorW6
set_option linter.unusedVariables false
set_option linter.unusedSimpArgs false
set_option maxRecDepth 100000
namespace Go.Proofs.YtilbipknodpmmaaDoor
open Go.RowKit Go.ChangeShapes Go.WideShapes

theorem bools_of : ∀ (gs : List (List IV)), (∀ g ∈ gs, okL [.bool] g) → ∃ xs : List Bool, xs.length = gs.length ∧ gs.flatten = bo xs
  | [], _ => ⟨[], rfl, rfl⟩
  | g :: gs, h => by
    obtain ⟨xs, h1, h2⟩ := bools_of gs fun x hx => h x (by simp [hx])
    have hg := h g (by simp)
    simp only [okL, okT] at hg
    obtain ⟨_, _, rfl, ⟨b, rfl⟩, rfl⟩ := hg
    exact ⟨b :: xs, by simp [h1], by simp [h2, bo]⟩
theorem flatBools : flat Tryd.prog 10 89 = some [.sl [.bool]] := by kernel_rfl
theorem argBools {v : IV} (h : okArg Tryd.prog 89 v) : ∃ xs : List Bool, v = .sl .plain xs.length (bo xs) ∧ xs.length < 2 ^ 63 := by
  obtain ⟨gs, rfl, hl, hg⟩ := arg_sl flatBools (by kernel_rfl) h
  obtain ⟨xs, k1, k2⟩ := bools_of gs hg
  exact ⟨xs, by rw [k1, k2], by omega⟩
theorem law9 (ivs : List IV) (h : okArgs Tryd.prog Tryd.f9.params.toList ivs) : RC Tryd.prog 9 ivs [.bool true] := by
  rw [Tryd.params9] at h
  simp only [okArgs] at h
  obtain ⟨_, _, rfl, h1, _, _, rfl, h2, rfl⟩ := h
  obtain ⟨a, rfl, ha⟩ := argInts h1
  obtain ⟨b, rfl, hb⟩ := argBools h2
  exact queueOrder a b ha hb

theorem lifted9 (os : Os) (started : os.Started) (H : Type) (enc : TypeId × Value → H) :
    ReturnsInHanded {} Tryd.checked os 9 .any (fun w args => (Rows.queueOrderSpec.pre enc Tryd.prog Tryd.f9 [] false w args ∧ laidMetH Tryd.prog laidL w) ∧ sizedMet enc Tryd.prog Tryd.f9 (OpenSpec.ofChange Rows.queueOrderSpec) false w args) (Rows.queueOrderSpec.post enc Tryd.prog Tryd.f9 false true false false) :=
  law_liftedL (C := Tryd.checked) (fn := Tryd.f9) (tb := 4) own_knob started (by kernel_rfl) Tryd.func9
    (ChangeSpec.witness_shaped (enc := enc) (C := Tryd.checked) (os := os) (X := fun w _ => laidMetH Tryd.prog laidL w) false (World.laidAll Tryd.prog os laidL) #[.slice none 0 0, .slice none 0 0] 8 (World.laidAll_os _ _ _) (World.shaped_of_ZipB (by kernel_rfl) (by kernel_rfl)) (by kernel_rfl) (by kernel_rfl) (by kernel_rfl) (laid_met os _))
    laid_out rfl (by kernel_rfl) Tryd.underlying4 (by rw [Tryd.params9]; decide +kernel)
    (by rintro (_ | ⟨a, _ | ⟨b, _ | _⟩⟩) h <;> first | exact ⟨rfl, rfl, rfl⟩ | (rw [Tryd.params9] at h; simp at h))
    law9

theorem queueOrder_row : Rows.QueueOrderSaid :=
  OpenClaim.holds_of_wide 9 Tryd.f9 rfl rfl rfl rfl rfl rfl rfl ⟨rfl, rfl, rfl, rfl, rfl⟩ rfl rfl rfl rfl rfl (by kernel_rfl) Tryd.func9 (by kernel_rfl)
    (of_decide_eq_true (by kernel_rfl)) (by unfold Func.isWrapper; first | (rw [if_pos (by decide +kernel)]; kernel_rfl) | (rw [if_neg (by decide +kernel)]; exact ⟨rfl, rfl⟩))
    (fun os started H enc _ => lifted9 os started H enc)

theorem queueOrder_holds : Rows.QueueOrderCardSaid :=
  Claim7.holds_tied_plain_at .later [] cardKinds true cardHarness false
    queueOrder_row (fun _ h => by cases h) (by kernel_rfl) (fun _ h => by cases h) queueOrder_row_tie rfl ⟨rfl, rfl⟩ (by kernel_rfl) rfl
    (fun f fn hf hfn => by
      obtain rfl : f = 9 := Option.some.inj ((show Tryd.prog.funcNamed "tollhouse/tollhouselaw21.QueueOrder" = some 9 by kernel_rfl).symm.trans hf) |>.symm
      obtain rfl : fn = Tryd.f9 := (Option.some.inj (Tryd.func9.symm.trans hfn)).symm
      exact ⟨by kernel_rfl, fun j t ht => by
        rw [Tryd.params9] at ht
        have hm : t ∈ [54, 89] := by simpa using Array.mem_of_getElem? ht
        have hall : ([54, 89].all fun u => !Tryd.prog.wantsStandIn u) = true := by kernel_rfl
        exact (show Tryd.prog.wantsStandIn t = false by simpa using List.all_eq_true.1 hall t hm)⟩)
    (by kernel_rfl)
#print axioms queueOrder_holds
end Go.Proofs.YtilbipknodpmmaaDoor
