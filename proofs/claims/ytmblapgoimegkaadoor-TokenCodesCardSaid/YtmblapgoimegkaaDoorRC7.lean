/- What the cards of the tokens share: the arguments by their types. -/
import Derived.Test.YtmblapgoimegkaaDoorRC1
import Derived.Test.YtmblapgoimegkaaDoorT1
set_option maxRecDepth 100000
namespace Go.Proofs.YtmblapgoimegkaaDoor
open Go Go.RowKit
theorem u32_of {n : Int} (h : (Lit.int .u32 n).wf = true) : ∃ m : Nat, n = (m : Int) ∧ m < 2 ^ 32 := by
  have hb := bounds_u32 h
  exact ⟨n.toNat, by omega, by omega⟩
theorem flatTok : flat Tryd.prog 10 45 = some ([.int .i64, .str, .int .i64, .int .u32, .int .u32] ++ List.replicate 32 (.int .u8)) := by kernel_rfl
theorem flatBytes : flat Tryd.prog 10 36 = some [.sl [.int .u8]] := by kernel_rfl
theorem argTok {v : IV} (h : okArg Tryd.prog 45 v) : ∃ t : Tok, v = .agg (tkC t) ∧ t.Ok := by
  obtain ⟨vs, k, rfl⟩ := arg_of flatTok h
  rw [mk_agg (by kernel_rfl)]
  simp only [List.cons_append, List.nil_append] at k
  unfold okL okT at k
  obtain ⟨_, _, rfl, ⟨a, rfl, _⟩, k⟩ := k
  unfold okL okT at k
  obtain ⟨_, _, rfl, ⟨b, rfl, hb⟩, k⟩ := k
  unfold okL okT at k
  obtain ⟨_, _, rfl, ⟨c, rfl, _⟩, k⟩ := k
  unfold okL okT at k
  obtain ⟨_, _, rfl, ⟨d, rfl, hd⟩, k⟩ := k
  unfold okL okT at k
  obtain ⟨_, vs, rfl, ⟨e, rfl, he⟩, k⟩ := k
  obtain ⟨tag, ht, rfl⟩ := bytes_okL k
  obtain ⟨d', rfl, hd'⟩ := u32_of hd
  obtain ⟨e', rfl, he'⟩ := u32_of he
  exact ⟨⟨a, b, c, d', e', tag⟩, rfl, ⟨hb, hd', he', ht⟩⟩
end Go.Proofs.YtmblapgoimegkaaDoor
