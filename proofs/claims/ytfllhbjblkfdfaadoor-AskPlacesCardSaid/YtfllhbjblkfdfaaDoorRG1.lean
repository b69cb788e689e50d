/- What the cards of the requests share: the arguments by their types. -/
import Derived.Test.YtfllhbjblkfdfaaDoorRG0
import Derived.Test.YtfllhbjblkfdfaaDoorQ5
set_option maxRecDepth 100000
namespace Go.Proofs.YtfllhbjblkfdfaaDoor
open Go Go.RowKit
theorem u32_of {n : Int} (h : (Lit.int .u32 n).wf = true) : ∃ m : Nat, n = (m : Int) ∧ m < 2 ^ 32 := by
  have hb := bounds_u32 h
  exact ⟨n.toNat, by omega, by omega⟩
theorem bytes_okL2 : ∀ {n : Nat} {ts : List Ty} {vs : List IV}, okL (List.replicate n (.int .u8) ++ ts) vs → ∃ (xs : List UInt8) (ws : List IV), xs.length = n ∧ vs = bl xs ++ ws ∧ okL ts ws
  | 0, ts, vs, h => ⟨[], vs, rfl, rfl, h⟩
  | n + 1, ts, vs, h => by
    rw [List.replicate_succ, List.cons_append] at h
    unfold okL okT at h
    obtain ⟨_, vs', rfl, ⟨a, rfl, ha⟩, h⟩ := h
    obtain ⟨b, rfl⟩ := u8_of ha
    obtain ⟨xs, ws, h1, rfl, h2⟩ := bytes_okL2 h
    exact ⟨b :: xs, ws, by simp [h1], rfl, h2⟩
theorem flatAsk : flat Tryd.prog 10 31 = some ([.int .i64, .int .i64, .str, .int .i64, .int .u32, .int .u32] ++ (List.replicate 32 (.int .u8) ++ ([.str, .int .i64] ++ (List.replicate 32 (.int .u8) ++ [])))) := by kernel_rfl
theorem flatBytes : flat Tryd.prog 10 32 = some [.sl [.int .u8]] := by kernel_rfl
theorem flatTwo : flat Tryd.prog 10 46 = some [.int .u8, .int .u8] := by kernel_rfl
theorem argAsk {v : IV} (h : okArg Tryd.prog 31 v) : ∃ a : Ask, v = .agg (askC a) ∧ a.Ok := by
  obtain ⟨vs, k, rfl⟩ := arg_of flatAsk h
  rw [mk_agg (by kernel_rfl)]
  simp only [List.cons_append, List.nil_append] at k
  unfold okL okT at k
  obtain ⟨_, _, rfl, ⟨kd, rfl, _⟩, k⟩ := k
  unfold okL okT at k
  obtain ⟨_, _, rfl, ⟨a, rfl, _⟩, k⟩ := k
  unfold okL okT at k
  obtain ⟨_, _, rfl, ⟨b, rfl, hb⟩, k⟩ := k
  unfold okL okT at k
  obtain ⟨_, _, rfl, ⟨c, rfl, _⟩, k⟩ := k
  unfold okL okT at k
  obtain ⟨_, _, rfl, ⟨d, rfl, hd⟩, k⟩ := k
  unfold okL okT at k
  obtain ⟨_, vs, rfl, ⟨e, rfl, he⟩, k⟩ := k
  obtain ⟨tag, ws, ht, rfl, k2⟩ := bytes_okL2 (n := 32) k
  clear k
  rename okL _ ws => k
  unfold okL okT at k
  obtain ⟨_, _, rfl, ⟨vol, rfl, hv⟩, k⟩ := k
  unfold okL okT at k
  obtain ⟨_, _, rfl, ⟨pos, rfl, _⟩, k⟩ := k
  obtain ⟨dt, ws, hdt, rfl, k2⟩ := bytes_okL2 (n := 32) k
  clear k
  rename okL _ ws => k
  unfold okL at k
  subst k
  obtain ⟨d', rfl, hd'⟩ := u32_of hd
  obtain ⟨e', rfl, he'⟩ := u32_of he
  exact ⟨⟨kd, ⟨a, b, c, d', e', tag⟩, vol, pos, dt⟩, by simp [askC, tkC, clC], ⟨⟨hb, hd', he', ht⟩, hv, hdt⟩⟩
theorem argTwo {v : IV} (h : okArg Tryd.prog 46 v) : ∃ x y : UInt8, v = .agg [.int .u8 (x.toNat : Int), .int .u8 (y.toNat : Int)] := by
  obtain ⟨vs, k, rfl⟩ := arg_of flatTwo h
  rw [mk_agg (by kernel_rfl)]
  unfold okL okT at k
  obtain ⟨_, _, rfl, ⟨a, rfl, ha⟩, k⟩ := k
  unfold okL okT at k
  obtain ⟨_, _, rfl, ⟨b, rfl, hb⟩, k⟩ := k
  unfold okL at k
  subst k
  obtain ⟨x, rfl⟩ := u8_of ha
  obtain ⟨y, rfl⟩ := u8_of hb
  exact ⟨x, y, rfl⟩
end Go.Proofs.YtfllhbjblkfdfaaDoor
