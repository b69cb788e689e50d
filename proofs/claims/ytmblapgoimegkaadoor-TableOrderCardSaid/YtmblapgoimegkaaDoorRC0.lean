/- What the cards of this seat share. -/
import Derived.Test.YtmblapgoimegkaaDoorE31
import Derived.Test.YtmblapgoimegkaaDoorCards
import Derived.Test.YtmblapgoimegkaaDoorTie
import Derived.SevenTiedAt
set_option maxRecDepth 100000
namespace Go.Proofs.YtmblapgoimegkaaDoor
open Go Go.RowKit
theorem own_knob : ownKnob Tryd.prog.godebug = none := by kernel_rfl
theorem laid_out : laidOutB Tryd.prog = true := by kernel_rfl
def laidL : List (String × DataW Unit) := [("unicode/utf8.acceptRanges", Rows.laid_unicode_utf8_acceptRanges), ("unicode/utf8.first", Rows.laid_unicode_utf8_first)]
def cardKinds : List LaidKind := [.data, .pinned]
def cardHarness : Bool × String := (true, "fc0d53e4362b60a45468f85e45eddc2d8c4d829177ae9c7f0ad8fed5ff448710")
theorem laid_met (os : Os) (args : Array Value) : laidMetH Tryd.prog laidL ((World.laidAll Tryd.prog os laidL).forCall (fun _ _ => 0) ⟨#[], args, []⟩).memory :=
  laidMetH_of_parts3 (fuel := 8) (laidMet_laidAll args (by kernel_rfl) (by kernel_rfl)) (by kernel_rfl) (by kernel_rfl)
/-- a type whose value is its cells together -/
def aggCell (P : Program) (t : TypeId) : Bool := match P.underlying t with
  | some (.struct _) | some (.array _ _) => true
  | _ => false
theorem mk_agg {P : Program} {t : TypeId} {vs : List IV} (h : aggCell P t = true) : mkArg P t vs = .agg vs := by
  unfold aggCell at h
  unfold mkArg
  split at h
  · rename_i fs hu; rw [hu]
  · rename_i n e hu; rw [hu]
  · exact absurd h (by simp)
end Go.Proofs.YtmblapgoimegkaaDoor
