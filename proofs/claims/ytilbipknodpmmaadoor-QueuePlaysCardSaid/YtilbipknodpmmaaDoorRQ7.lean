/- Proved: the law QueuePlays returns true at every input, and its arguments read behind the call as before it, where the variables that its row lists read as the program's text lays them; and its tied card. No condition beyond. -/
import Derived.Test.YtilbipknodpmmaaDoorRQ0
import Derived.Test.YtilbipknodpmmaaDoorW10
set_option linter.unusedVariables false
set_option linter.unusedSimpArgs false
set_option maxRecDepth 100000
namespace Go.Proofs.YtilbipknodpmmaaDoor
open Go.RowKit Go.ChangeShapes Go.WideShapes

def stT : List Ty := [.int .i64, .sl itT]
theorem sts_of : ∀ (gs : List (List IV)), (∀ g ∈ gs, okL stT g) → ∃ xs : List Stp, xs.length = gs.length ∧ gs.flatten = stL xs ∧ ∀ x ∈ xs, x.Ok
  | [], _ => ⟨[], rfl, rfl, by simp⟩
  | g :: gs, h => by
    obtain ⟨xs, h1, h2, h3⟩ := sts_of gs fun x hx => h x (by simp [hx])
    have hg := h g (by simp)
    simp only [stT, okL, okT] at hg
    obtain ⟨_, _, rfl, ⟨a, rfl, _⟩, _, _, rfl, ⟨is, rfl, hl, hi⟩, rfl⟩ := hg
    obtain ⟨ys, k1, k2, k3⟩ := its_of is hi
    refine ⟨⟨a, ys⟩ :: xs, by simp [h1], by simp [h2, stL, stC, k1, k2], ?_⟩
    intro v hv
    rcases List.mem_cons.1 hv with rfl | hv
    · exact ⟨k3, by simp only [k1]; exact hl⟩
    · exact h3 v hv
theorem flatSteps : flat Tryd.prog 10 62 = some [.sl stT] := by kernel_rfl
theorem argSteps {v : IV} (h : okArg Tryd.prog 62 v) : ∃ xs : List Stp, v = .sl .plain xs.length (stL xs) ∧ xs.length < 2 ^ 63 ∧ ∀ x ∈ xs, x.Ok := by
  obtain ⟨gs, rfl, hl, hg⟩ := arg_sl flatSteps (by kernel_rfl) h
  obtain ⟨xs, k1, k2, k3⟩ := sts_of gs hg
  exact ⟨xs, by rw [k1, k2], by omega, k3⟩
theorem law7 (ivs : List IV) (h : okArgs Tryd.prog Tryd.f7.params.toList ivs) : RC Tryd.prog 7 ivs [.bool true] := by
  rw [Tryd.params7] at h
  simp only [okArgs] at h
  obtain ⟨_, _, rfl, h1, rfl⟩ := h
  obtain ⟨xs, rfl, hn, hx⟩ := argSteps h1
  exact queuePlays xs hx hn

theorem lifted7 (os : Os) (started : os.Started) (H : Type) (enc : TypeId × Value → H) :
    ReturnsInHanded {} Tryd.checked os 7 .any (fun w args => (Rows.queuePlaysSpec.pre enc Tryd.prog Tryd.f7 [] false w args ∧ laidMetH Tryd.prog laidL w) ∧ sizedMet enc Tryd.prog Tryd.f7 (OpenSpec.ofChange Rows.queuePlaysSpec) false w args) (Rows.queuePlaysSpec.post enc Tryd.prog Tryd.f7 false true false false) :=
  law_liftedL (C := Tryd.checked) (fn := Tryd.f7) (tb := 4) own_knob started (by kernel_rfl) Tryd.func7
    (ChangeSpec.witness_shaped (enc := enc) (C := Tryd.checked) (os := os) (X := fun w _ => laidMetH Tryd.prog laidL w) false (World.laidAll Tryd.prog os laidL) #[.slice none 0 0] 8 (World.laidAll_os _ _ _) (World.shaped_of_ZipB (by kernel_rfl) (by kernel_rfl)) (by kernel_rfl) (by kernel_rfl) (by kernel_rfl) (laid_met os _))
    laid_out rfl (by kernel_rfl) Tryd.underlying4 (by rw [Tryd.params7]; decide +kernel)
    (by rintro (_ | ⟨a, _ | _⟩) h <;> first | exact ⟨rfl, rfl, rfl⟩ | (rw [Tryd.params7] at h; simp at h))
    law7

theorem queuePlays_row : Rows.QueuePlaysSaid :=
  OpenClaim.holds_of_wide 7 Tryd.f7 rfl rfl rfl rfl rfl rfl rfl ⟨rfl, rfl, rfl, rfl, rfl⟩ rfl rfl rfl rfl rfl (by kernel_rfl) Tryd.func7 (by kernel_rfl)
    (of_decide_eq_true (by kernel_rfl)) (by unfold Func.isWrapper; first | (rw [if_pos (by decide +kernel)]; kernel_rfl) | (rw [if_neg (by decide +kernel)]; exact ⟨rfl, rfl⟩))
    (fun os started H enc _ => lifted7 os started H enc)

theorem queuePlays_holds : Rows.QueuePlaysCardSaid :=
  Claim7.holds_tied_plain_at .later [] cardKinds true cardHarness false
    queuePlays_row (fun _ h => by cases h) (by kernel_rfl) (fun _ h => by cases h) queuePlays_row_tie rfl ⟨rfl, rfl⟩ (by kernel_rfl) rfl
    (fun f fn hf hfn => by
      obtain rfl : f = 7 := Option.some.inj ((show Tryd.prog.funcNamed "tollhouse/tollhouselaw21.QueuePlays" = some 7 by kernel_rfl).symm.trans hf) |>.symm
      obtain rfl : fn = Tryd.f7 := (Option.some.inj (Tryd.func7.symm.trans hfn)).symm
      exact ⟨by kernel_rfl, fun j t ht => by
        rw [Tryd.params7] at ht
        have hm : t ∈ [62] := by simpa using Array.mem_of_getElem? ht
        have hall : ([62].all fun u => !Tryd.prog.wantsStandIn u) = true := by kernel_rfl
        exact (show Tryd.prog.wantsStandIn t = false by simpa using List.all_eq_true.1 hall t hm)⟩)
    (by kernel_rfl)
#print axioms queuePlays_holds
end Go.Proofs.YtilbipknodpmmaaDoor
