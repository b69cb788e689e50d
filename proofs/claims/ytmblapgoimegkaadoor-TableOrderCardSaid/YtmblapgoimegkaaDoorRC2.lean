/- What the cards of the tables share: the arguments by their types. -/
import Derived.Test.YtmblapgoimegkaaDoorRC1
import Derived.Test.YtmblapgoimegkaaDoorB3
set_option maxRecDepth 100000
namespace Go.Proofs.YtmblapgoimegkaaDoor
open Go Go.RowKit
theorem vols_of : ∀ (gs : List (List IV)), (∀ g ∈ gs, okL [.str, .sl [.int .i64]] g) → ∃ vs : List Vol, vs.length = gs.length ∧ gs.flatten = vl vs ∧ ∀ v ∈ vs, v.name.length < 2 ^ 63 ∧ v.blocks.length < 2 ^ 63
  | [], _ => ⟨[], rfl, rfl, by simp⟩
  | g :: gs, h => by
    obtain ⟨vs, h1, h2, h3⟩ := vols_of gs fun x hx => h x (by simp [hx])
    have hg := h g (by simp)
    simp only [okL, okT] at hg
    obtain ⟨_, _, rfl, ⟨l, rfl, hl⟩, _, _, rfl, ⟨ns, rfl, hn, hns⟩, rfl⟩ := hg
    obtain ⟨xs, k1, k2⟩ := ints_of ns hns
    refine ⟨⟨l, xs⟩ :: vs, by simp [h1], by simp [h2, vl, k1, k2], ?_⟩
    intro v hv
    rcases List.mem_cons.1 hv with rfl | hv
    · exact ⟨hl, by simp only [k1]; exact hn⟩
    · exact h3 v hv
theorem flatVols : flat Tryd.prog 10 63 = some [.sl [.str, .sl [.int .i64]]] := by kernel_rfl
theorem flatBlock : flat Tryd.prog 10 64 = some (List.replicate 32 (.int .u8)) := by kernel_rfl
theorem argVols {v : IV} (h : okArg Tryd.prog 63 v) : ∃ vs : List Vol, v = .sl .plain vs.length (vl vs) ∧ VsOk vs := by
  obtain ⟨gs, rfl, hl, hg⟩ := arg_sl flatVols (by kernel_rfl) h
  obtain ⟨vs, k1, k2, k3⟩ := vols_of gs hg
  exact ⟨vs, by rw [k1, k2], ⟨by omega, fun v hv => (k3 v hv).1, fun v hv => (k3 v hv).2⟩⟩
theorem argBlock {v : IV} (h : okArg Tryd.prog 64 v) : ∃ b : List UInt8, v = .agg (bl b) ∧ b.length = 32 := by
  obtain ⟨vs, k, rfl⟩ := arg_of flatBlock h
  obtain ⟨b, hb, rfl⟩ := bytes_okL k
  exact ⟨b, mk_agg (by kernel_rfl), hb⟩
end Go.Proofs.YtmblapgoimegkaaDoor
