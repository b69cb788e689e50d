/- What the cards of this seat share. -/
import Derived.Test.YtilbipknodpmmaaDoorE31
import Derived.Test.YtilbipknodpmmaaDoorW4
import Derived.Test.YtilbipknodpmmaaDoorCards
import Derived.Test.YtilbipknodpmmaaDoorTie
import Derived.SevenTiedAt
set_option linter.unusedVariables false
set_option linter.unusedSimpArgs false
set_option linter.unusedSectionVars false
set_option maxRecDepth 100000
namespace Go.Proofs.YtilbipknodpmmaaDoor
open Go Go.RowKit
theorem own_knob : ownKnob Tryd.prog.godebug = none:=by kernel_rfl
theorem laid_out : laidOutB Tryd.prog = true:=by kernel_rfl
def laidL : List (String × DataW Unit) := [("unicode/utf8.acceptRanges", Rows.laid_unicode_utf8_acceptRanges), ("unicode/utf8.first", Rows.laid_unicode_utf8_first)]
def cardKinds : List LaidKind:=[.data,.pinned]
def cardHarness : Bool × String := (true, "836ed8cea14bab6bd01b376d8d959207367bc43de92601a3842d2f923ca9a709")
theorem laid_met (os : Os) (args : Array Value) : laidMetH Tryd.prog laidL ((World.laidAll Tryd.prog os laidL).forCall (fun _ _ => 0) ⟨#[],args,[]⟩).memory :=
  laidMetH_of_parts3 (fuel:=8) (laidMet_laidAll args (by kernel_rfl) (by kernel_rfl)) (by kernel_rfl) (by kernel_rfl)
def aggCell (P : Program) (t : TypeId) : Bool:=match P.underlying t with
  | some (.struct _) | some (.array _ _) => true
  | _ => false
theorem mk_agg {P : Program} {t : TypeId} {vs : List IV} (h : aggCell P t = true) : mkArg P t vs = .agg vs:=by
  unfold aggCell at h
  unfold mkArg
  split at h
  · rename_i fs hu; rw [hu]
  · rename_i n e hu; rw [hu]
  · exact absurd h (by simp)
theorem bytes_okL : ∀ {n : Nat} {vs : List IV},okL (List.replicate n (.int .u8)) vs → ∃ b : List UInt8,b.length = n ∧ vs = bl b
  | 0,vs,h => by simp only [List.replicate,okL] at h; exact ⟨[],rfl,h⟩
  | n + 1,vs,h => by
    simp only [List.replicate,okL,okT] at h
    obtain ⟨_,vs',rfl,⟨x,rfl,hx⟩,h⟩:=h
    obtain ⟨b,hb,rfl⟩:=bytes_okL h
    obtain ⟨y,rfl⟩:=u8_of hx
    exact ⟨y :: b,by simp [hb],rfl⟩
theorem flatBlock : flat Tryd.prog 10 23 = some (List.replicate 32 (.int .u8)):=by kernel_rfl
theorem argBlock {v : IV} (h : okArg Tryd.prog 23 v) : ∃ b : List UInt8,v = .agg (bl b) ∧ b.length = 32:=by
  obtain ⟨vs,k,rfl⟩:=arg_of flatBlock h
  obtain ⟨b,hb,rfl⟩:=bytes_okL k
  exact ⟨b,mk_agg (by kernel_rfl),hb⟩
def itT : List Ty:=.int .i64 :: .int .i64 :: .str :: .int .i64 :: List.replicate 32 (.int .u8)
theorem it_of {vs : List IV} (h : okL itT vs) : ∃ x : It,vs = itC x ∧ x.Ok:=by
  unfold itT at h
  unfold okL okT at h
  obtain ⟨_,_,rfl,⟨a,rfl,_⟩,k⟩:=h
  unfold okL okT at k
  obtain ⟨_,_,rfl,⟨b,rfl,_⟩,k⟩:=k
  unfold okL okT at k
  obtain ⟨_,_,rfl,⟨c,rfl,hc⟩,k⟩:=k
  unfold okL okT at k
  obtain ⟨_,_,rfl,⟨d,rfl,_⟩,k⟩:=k
  obtain ⟨e,he,rfl⟩:=bytes_okL k
  exact ⟨⟨a,b,c,d,e⟩,rfl,⟨he,hc⟩⟩
theorem flatItem : flat Tryd.prog 10 77 = some itT:=by kernel_rfl
theorem argItem {v : IV} (h : okArg Tryd.prog 77 v) : ∃ x : It,v = .agg (itC x) ∧ x.Ok:=by
  obtain ⟨vs,k,rfl⟩:=arg_of flatItem h
  obtain ⟨x,rfl,hx⟩:=it_of k
  exact ⟨x,mk_agg (by kernel_rfl),hx⟩
end Go.Proofs.YtilbipknodpmmaaDoor
