/- What the cards of the names share: the arguments by their types. -/
import Derived.Test.YtmblapgoimegkaaDoorRC0
import Derived.Test.YtmblapgoimegkaaDoorN2
set_option maxRecDepth 100000
namespace Go.Proofs.YtmblapgoimegkaaDoor
open Go Go.RowKit
theorem strs_of : ∀ (gs : List (List IV)), (∀ g ∈ gs, okL [.str] g) → ∃ vs : List (List UInt8), vs.length = gs.length ∧ gs.flatten = sl vs ∧ ∀ v ∈ vs, v.length < 2 ^ 63
  | [], _ => ⟨[], rfl, rfl, by simp⟩
  | g :: gs, h => by
    obtain ⟨vs, h1, h2, h3⟩ := strs_of gs fun x hx => h x (by simp [hx])
    have hg := h g (by simp)
    simp only [okL, okT] at hg
    obtain ⟨_, _, rfl, ⟨l, rfl, hl⟩, rfl⟩ := hg
    refine ⟨l :: vs, by simp [h1], by simp [h2, sl], ?_⟩
    intro v hv
    rcases List.mem_cons.1 hv with rfl | hv
    · exact hl
    · exact h3 v hv
theorem bytes_okL : ∀ {n : Nat} {vs : List IV}, okL (List.replicate n (.int .u8)) vs → ∃ b : List UInt8, b.length = n ∧ vs = bl b
  | 0, vs, h => by simp only [List.replicate, okL] at h; exact ⟨[], rfl, h⟩
  | n + 1, vs, h => by
    simp only [List.replicate, okL, okT] at h
    obtain ⟨_, vs', rfl, ⟨x, rfl, hx⟩, h⟩ := h
    obtain ⟨b, hb, rfl⟩ := bytes_okL h
    obtain ⟨y, rfl⟩ := u8_of hx
    exact ⟨y :: b, by simp [hb], rfl⟩
theorem flatStrs : flat Tryd.prog 10 22 = some [.sl [.str]] := by kernel_rfl
theorem flatFour : flat Tryd.prog 10 23 = some (List.replicate 4 (.int .u8)) := by kernel_rfl
theorem flatStr : flat Tryd.prog 10 9 = some [.str] := by kernel_rfl
theorem flatByte : flat Tryd.prog 10 5 = some [.int .u8] := by kernel_rfl
theorem argStrs {v : IV} (h : okArg Tryd.prog 22 v) : ∃ vs : List (List UInt8), v = .sl .plain vs.length (sl vs) ∧ vs.length < 2 ^ 63 ∧ ∀ v ∈ vs, v.length < 2 ^ 63 := by
  obtain ⟨gs, rfl, hl, hg⟩ := arg_sl flatStrs (by kernel_rfl) h
  obtain ⟨vs, k1, k2, k3⟩ := strs_of gs hg
  exact ⟨vs, by rw [k1, k2], by omega, k3⟩
theorem argFour {v : IV} (h : okArg Tryd.prog 23 v) : ∃ b : List UInt8, v = .agg (bl b) ∧ b.length = 4 := by
  obtain ⟨vs, k, rfl⟩ := arg_of flatFour h
  obtain ⟨b, hb, rfl⟩ := bytes_okL k
  exact ⟨b, mk_agg (by kernel_rfl), hb⟩
end Go.Proofs.YtmblapgoimegkaaDoor
