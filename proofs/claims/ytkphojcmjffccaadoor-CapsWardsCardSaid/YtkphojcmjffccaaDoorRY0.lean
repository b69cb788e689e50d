/- What the cards of this seat share. -/
import Derived.Test.YtkphojcmjffccaaDoorE31
import Derived.Test.YtkphojcmjffccaaDoorY2
import Derived.Test.YtkphojcmjffccaaDoorCards
import Derived.Test.YtkphojcmjffccaaDoorTie
import Derived.SevenTiedAt
set_option linter.unusedVariables false
set_option linter.unusedSimpArgs false
set_option linter.unusedSectionVars false
set_option maxRecDepth 100000
namespace Go.Proofs.YtkphojcmjffccaaDoor
open Go Go.RowKit
theorem own_knob : ownKnob Tryd.prog.godebug = none := by kernel_rfl
theorem laid_out : laidOutB Tryd.prog = true := by kernel_rfl
def laidL : List (String × DataW Unit) := [("unicode/utf8.acceptRanges", Rows.laid_unicode_utf8_acceptRanges), ("unicode/utf8.first", Rows.laid_unicode_utf8_first)]
def cardKinds : List LaidKind := [.data, .pinned]
def cardHarness : Bool × String := (true, "5e2d36e67eb715e0f25ff39a4fb33deb9d0375ccfec9676fca9dc5b5f69428e4")
theorem laid_met (os : Os) (args : Array Value) : laidMetH Tryd.prog laidL ((World.laidAll Tryd.prog os laidL).forCall (fun _ _ => 0) ⟨#[], args, []⟩).memory :=
  laidMetH_of_parts3 (fuel := 8) (laidMet_laidAll args (by kernel_rfl) (by kernel_rfl)) (by kernel_rfl) (by kernel_rfl)
/-- a type whose value is its cells together -/
def aggCell (P : Program) (t : TypeId) : Bool := match P.underlying t with
  | some (.struct _) | some (.array _ _) => true
  | _ => false
theorem mk_agg {P : Program} {t : TypeId} {vs : List IV} (h : aggCell P t = true) : mkArg P t vs = .agg vs := by
  unfold aggCell at h
  unfold mkArg
  split at h
  · rename_i fs hu; rw [hu]
  · rename_i n e hu; rw [hu]
  · exact absurd h (by simp)
theorem bytes_okL : ∀ {n : Nat} {vs : List IV}, okL (List.replicate n (.int .u8)) vs → ∃ b : List UInt8, b.length = n ∧ vs = bl b
  | 0, vs, h => by simp only [List.replicate, okL] at h; exact ⟨[], rfl, h⟩
  | n + 1, vs, h => by
    simp only [List.replicate, okL, okT] at h
    obtain ⟨_, vs', rfl, ⟨x, rfl, hx⟩, h⟩ := h
    obtain ⟨b, hb, rfl⟩ := bytes_okL h
    obtain ⟨y, rfl⟩ := u8_of hx
    exact ⟨y :: b, by simp [hb], rfl⟩
theorem u32_of {n : Int} (h : (Lit.int .u32 n).wf = true) : ∃ m : Nat, n = (m : Int) ∧ m < 2 ^ 32 := by
  have hb := bounds_u32 h
  exact ⟨n.toNat, by omega, by omega⟩
theorem flatTok : flat Tryd.prog 10 31 = some ([.int .i64, .str, .int .i64, .int .u32, .int .u32] ++ List.replicate 32 (.int .u8)) := by kernel_rfl
theorem flatClaim : flat Tryd.prog 10 27 = some [.int .i64, .str, .int .i64, .int .u32, .int .u32] := by kernel_rfl
theorem flatWard : flat Tryd.prog 10 25 = some [.sl [.int .u8], .int .i64, .int .u32, .int .u32] := by kernel_rfl
theorem flatAsked : flat Tryd.prog 10 33 = some [.str, .int .i64] := by kernel_rfl
theorem flatPair : flat Tryd.prog 10 47 = some (List.replicate 2 (.int .u8)) := by kernel_rfl
theorem flatStr : flat Tryd.prog 10 9 = some [.str] := by kernel_rfl
theorem argTok {v : IV} (h : okArg Tryd.prog 31 v) : ∃ t : Tok, v = .agg (tkC t) ∧ t.Ok := by
  obtain ⟨vs, k, rfl⟩ := arg_of flatTok h
  rw [mk_agg (by kernel_rfl)]
  simp only [List.cons_append, List.nil_append] at k
  unfold okL okT at k
  obtain ⟨_, _, rfl, ⟨a, rfl, _⟩, k⟩ := k
  unfold okL okT at k
  obtain ⟨_, _, rfl, ⟨b, rfl, hb⟩, k⟩ := k
  unfold okL okT at k
  obtain ⟨_, _, rfl, ⟨c, rfl, _⟩, k⟩ := k
  unfold okL okT at k
  obtain ⟨_, _, rfl, ⟨d, rfl, hd⟩, k⟩ := k
  unfold okL okT at k
  obtain ⟨_, vs, rfl, ⟨e, rfl, he⟩, k⟩ := k
  obtain ⟨tag, ht, rfl⟩ := bytes_okL k
  obtain ⟨d', rfl, hd'⟩ := u32_of hd
  obtain ⟨e', rfl, he'⟩ := u32_of he
  exact ⟨⟨a, b, c, d', e', tag⟩, rfl, ⟨hb, hd', he', ht⟩⟩
theorem argClaim {v : IV} (h : okArg Tryd.prog 27 v) : ∃ t : Tok, v = .agg (clC t) ∧ t.Ok := by
  obtain ⟨vs, k, rfl⟩ := arg_of flatClaim h
  rw [mk_agg (by kernel_rfl)]
  simp only [okL, okT] at k
  obtain ⟨_, _, rfl, ⟨a, rfl, _⟩, _, _, rfl, ⟨b, rfl, hb⟩, _, _, rfl, ⟨c, rfl, _⟩, _, _, rfl, ⟨d, rfl, hd⟩, _, _, rfl, ⟨e, rfl, he⟩, rfl⟩ := k
  obtain ⟨d', rfl, hd'⟩ := u32_of hd
  obtain ⟨e', rfl, he'⟩ := u32_of he
  exact ⟨⟨a, b, c, d', e', List.replicate 32 0⟩, rfl, ⟨hb, hd', he', List.length_replicate⟩⟩
theorem argWard {v : IV} (h : okArg Tryd.prog 25 v) : ∃ (k : List UInt8) (place : Int) (gen tick : Nat), v = .agg (wardC .plain k place gen tick) ∧ k.length < 2 ^ 63 ∧ gen < 2 ^ 32 ∧ tick < 2 ^ 32 := by
  obtain ⟨vs, k, rfl⟩ := arg_of flatWard h
  rw [mk_agg (by kernel_rfl)]
  simp only [okL, okT] at k
  obtain ⟨_, _, rfl, ⟨gs, rfl, hl, hg⟩, _, _, rfl, ⟨b, rfl, hb⟩, _, _, rfl, ⟨c, rfl, hc⟩, _, _, rfl, ⟨d, rfl, hd⟩, rfl⟩ := k
  obtain ⟨xs, k1, k2⟩ := bytes_of gs hg
  obtain ⟨c', rfl, hc'⟩ := u32_of hc
  obtain ⟨d', rfl, hd'⟩ := u32_of hd
  exact ⟨xs, b, c', d', by unfold wardC; rw [k1, k2], by rw [k1]; exact hl, hc', hd'⟩
theorem argAsked {v : IV} (h : okArg Tryd.prog 33 v) : ∃ (n : List UInt8) (r : Int), v = .agg [.str n, .int .i64 r] ∧ n.length < 2 ^ 63 := by
  obtain ⟨vs, k, rfl⟩ := arg_of flatAsked h
  rw [mk_agg (by kernel_rfl)]
  simp only [okL, okT] at k
  obtain ⟨_, _, rfl, ⟨a, rfl, ha⟩, _, _, rfl, ⟨b, rfl, _⟩, rfl⟩ := k
  exact ⟨a, b, rfl, ha⟩
theorem argPair {v : IV} (h : okArg Tryd.prog 47 v) : ∃ x y : UInt8, v = .agg [.int .u8 (x.toNat : Int), .int .u8 (y.toNat : Int)] := by
  obtain ⟨vs, k, rfl⟩ := arg_of flatPair h
  obtain ⟨xs, h1, rfl⟩ := bytes_okL k
  match xs, h1 with
  | [a, b], _ => exact ⟨a, b, mk_agg (by kernel_rfl)⟩
end Go.Proofs.YtkphojcmjffccaaDoor
