/- What the rows of the replies share: the arguments by their types. -/
import Derived.Test.YtfohfnhimgmnlaaC2
import Derived.Test.YtfohfnhimgmnlaaRows
set_option maxRecDepth 100000
namespace Go.Proofs.Ytfohfnhimgmnlaa
open Go.RowKit
theorem own_knob : ownKnob Try.prog.godebug = none := by kernel_rfl
theorem laid_out : laidOutB Try.prog = true := by kernel_rfl
/-- a type whose value is its cells together -/
def aggCell (P : Program) (t : TypeId) : Bool := match P.underlying t with
  | some (.struct _) | some (.array _ _) => true
  | _ => false
theorem mk_agg {P : Program} {t : TypeId} {vs : List IV} (h : aggCell P t = true) : mkArg P t vs = .agg vs := by
  unfold aggCell at h
  unfold mkArg
  split at h
  · rename_i fs hu; rw [hu]
  · rename_i n e hu; rw [hu]
  · exact absurd h (by simp)
theorem reply_of {g : List IV} (h : okL [.int .i64, .int .i64, .sl [.int .u8]] g) : ∃ r : Rp, g = rc r ∧ r.f = .plain ∧ r.d.length < 2 ^ 63 := by
  simp only [okL, okT] at h
  obtain ⟨_, _, rfl, ⟨a, rfl, _⟩, _, _, rfl, ⟨b, rfl, _⟩, _, _, rfl, ⟨gs, rfl, hn, hg⟩, rfl⟩ := h
  obtain ⟨xs, k1, k2⟩ := bytes_of gs hg
  exact ⟨⟨a, b, .plain, xs⟩, by simp [rc, k1, k2], rfl, by simp only [k1]; exact hn⟩
theorem replies_of : ∀ (gs : List (List IV)), (∀ g ∈ gs, okL [.int .i64, .int .i64, .sl [.int .u8]] g) → ∃ vs : List Rp, vs.length = gs.length ∧ gs.flatten = rl vs ∧ ∀ v ∈ vs, v.f = .plain
  | [], _ => ⟨[], rfl, rfl, by simp⟩
  | g :: gs, h => by
    obtain ⟨vs, h1, h2, h3⟩ := replies_of gs fun x hx => h x (by simp [hx])
    obtain ⟨r, rfl, hr, _⟩ := reply_of (h g (by simp))
    refine ⟨r :: vs, by simp [h1], by simp [h2, rl], ?_⟩
    intro v hv
    rcases List.mem_cons.1 hv with rfl | hv
    · exact hr
    · exact h3 v hv
theorem flatReply : flat Try.prog 10 77 = some [.int .i64, .int .i64, .sl [.int .u8]] := by kernel_rfl
theorem flatReplies : flat Try.prog 10 71 = some [.sl [.int .i64, .int .i64, .sl [.int .u8]]] := by kernel_rfl
theorem flatBytes : flat Try.prog 10 44 = some [.sl [.int .u8]] := by kernel_rfl
theorem flatInt : flat Try.prog 10 3 = some [.int .i64] := by kernel_rfl
theorem flatByte : flat Try.prog 10 5 = some [.int .u8] := by kernel_rfl
theorem argReply {v : IV} (h : okArg Try.prog 77 v) : ∃ r : Rp, v = .agg (rc r) ∧ r.f = .plain ∧ r.d.length < 2 ^ 63 := by
  obtain ⟨vs, k, rfl⟩ := arg_of flatReply h
  obtain ⟨r, rfl, h1, h2⟩ := reply_of k
  exact ⟨r, mk_agg (by kernel_rfl), h1, h2⟩
theorem argReplies {v : IV} (h : okArg Try.prog 71 v) : ∃ vs : List Rp, v = .sl .plain vs.length (rl vs) ∧ vs.length < 2 ^ 63 ∧ ∀ v ∈ vs, v.f = .plain := by
  obtain ⟨gs, rfl, hl, hg⟩ := arg_sl flatReplies (by kernel_rfl) h
  obtain ⟨vs, k1, k2, k3⟩ := replies_of gs hg
  exact ⟨vs, by rw [k1, k2], by omega, k3⟩
end Go.Proofs.Ytfohfnhimgmnlaa
