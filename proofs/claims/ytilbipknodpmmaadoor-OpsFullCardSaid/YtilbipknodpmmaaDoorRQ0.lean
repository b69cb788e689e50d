/- What the cards of this seat share. -/
import Derived.Test.YtilbipknodpmmaaDoorE31
import Derived.Test.YtilbipknodpmmaaDoorW4
import Derived.Test.YtilbipknodpmmaaDoorCards
import Derived.Test.YtilbipknodpmmaaDoorTie
import Derived.SevenTiedAt
set_option linter.unusedVariables false
set_option linter.unusedSimpArgs false
set_option linter.unusedSectionVars false
set_option maxRecDepth 100000
namespace Go.Proofs.YtilbipknodpmmaaDoor
open Go Go.RowKit
theorem own_knob : ownKnob Tryd.prog.godebug = none := by kernel_rfl
theorem laid_out : laidOutB Tryd.prog = true := by kernel_rfl
def laidL : List (String × DataW Unit) := [("unicode/utf8.acceptRanges", Rows.laid_unicode_utf8_acceptRanges), ("unicode/utf8.first", Rows.laid_unicode_utf8_first)]
def cardKinds : List LaidKind := [.data, .pinned]
def cardHarness : Bool × String := (true, "836ed8cea14bab6bd01b376d8d959207367bc43de92601a3842d2f923ca9a709")
theorem laid_met (os : Os) (args : Array Value) : laidMetH Tryd.prog laidL ((World.laidAll Tryd.prog os laidL).forCall (fun _ _ => 0) ⟨#[], args, []⟩).memory :=
  laidMetH_of_parts3 (fuel := 8) (laidMet_laidAll args (by kernel_rfl) (by kernel_rfl)) (by kernel_rfl) (by kernel_rfl)
theorem vols_of : ∀ (gs : List (List IV)), (∀ g ∈ gs, okL [.str, .sl [.int .i64]] g) → ∃ vs : List Vol, vs.length = gs.length ∧ gs.flatten = vl vs ∧ ∀ v ∈ vs, v.name.length < 2 ^ 63 ∧ v.blocks.length < 2 ^ 63
  | [], _ => ⟨[], rfl, rfl, by simp⟩
  | g :: gs, h => by
    obtain ⟨vs, h1, h2, h3⟩ := vols_of gs fun x hx => h x (by simp [hx])
    have hg := h g (by simp)
    simp only [okL, okT] at hg
    obtain ⟨_, _, rfl, ⟨l, rfl, hl⟩, _, _, rfl, ⟨ns, rfl, hn, hns⟩, rfl⟩ := hg
    obtain ⟨xs, k1, k2⟩ := ints_of ns hns
    refine ⟨⟨l, xs⟩ :: vs, by simp [h1], by simp [h2, vl, k1, k2], ?_⟩
    intro v hv
    rcases List.mem_cons.1 hv with rfl | hv
    · exact ⟨hl, by simp only [k1]; exact hn⟩
    · exact h3 v hv
theorem flatVols : flat Tryd.prog 10 33 = some [.sl [.str, .sl [.int .i64]]] := by kernel_rfl
theorem argVols {v : IV} (h : okArg Tryd.prog 33 v) : ∃ vs : List Vol, v = .sl .plain vs.length (vl vs) ∧ VsOk vs := by
  obtain ⟨gs, rfl, hl, hg⟩ := arg_sl flatVols (by kernel_rfl) h
  obtain ⟨vs, k1, k2, k3⟩ := vols_of gs hg
  exact ⟨vs, by rw [k1, k2], ⟨by omega, fun v hv => (k3 v hv).1, fun v hv => (k3 v hv).2⟩⟩
end Go.Proofs.YtilbipknodpmmaaDoor
