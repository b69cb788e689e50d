/- What the cards of this seat share. -/
import Derived.Test.YtfllhbjblkfdfaaDoorE31
import Derived.Test.YtfllhbjblkfdfaaDoorCards
import Derived.Test.YtfllhbjblkfdfaaDoorTie
import Derived.SevenTiedAt
set_option maxRecDepth 100000
namespace Go.Proofs.YtfllhbjblkfdfaaDoor
open Go Go.RowKit
theorem own_knob : ownKnob Tryd.prog.godebug = none := by kernel_rfl
theorem laid_out : laidOutB Tryd.prog = true := by kernel_rfl
def laidL : List (String × DataW Unit) := [("unicode/utf8.acceptRanges", Rows.laid_unicode_utf8_acceptRanges), ("unicode/utf8.first", Rows.laid_unicode_utf8_first)]
def cardKinds : List LaidKind := [.data, .pinned]
def cardHarness : Bool × String := (true, "c4901991481105bf7b9e0af38290fea74e907dcf805563d57068e6c953ca61fc")
theorem laid_met (os : Os) (args : Array Value) : laidMetH Tryd.prog laidL ((World.laidAll Tryd.prog os laidL).forCall (fun _ _ => 0) ⟨#[], args, []⟩).memory :=
  laidMetH_of_parts3 (fuel := 8) (laidMet_laidAll args (by kernel_rfl) (by kernel_rfl)) (by kernel_rfl) (by kernel_rfl)
/-- a type whose value is its cells together -/
def aggCell (P : Program) (t : TypeId) : Bool := match P.underlying t with
  | some (.struct _) | some (.array _ _) => true
  | _ => false
theorem mk_agg {P : Program} {t : TypeId} {vs : List IV} (h : aggCell P t = true) : mkArg P t vs = .agg vs := by
  unfold aggCell at h
  unfold mkArg
  split at h
  · rename_i fs hu; rw [hu]
  · rename_i n e hu; rw [hu]
  · exact absurd h (by simp)
end Go.Proofs.YtfllhbjblkfdfaaDoor
