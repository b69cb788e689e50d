/- What the rows of the hash share: the arguments by their types. -/
import Derived.Test.YtlbilkldjhhopaaS3
import Derived.Test.YtlbilkldjhhopaaK0
import Derived.Test.YtlbilkldjhhopaaRows
set_option linter.unusedVariables false
set_option linter.unusedSimpArgs false
set_option linter.unusedSectionVars false
set_option maxRecDepth 100000
namespace Go.Proofs.Ytlbilkldjhhopaa
open Go.RowKit
theorem own_knob : ownKnob Try.prog.godebug = none := by kernel_rfl
theorem laid_out : laidOutB Try.prog = true := by kernel_rfl
/-- a type whose value is its cells together -/
def aggCell (P : Program) (t : TypeId) : Bool := match P.underlying t with
  | some (.struct _) | some (.array _ _) => true
  | _ => false
theorem mk_agg {P : Program} {t : TypeId} {vs : List IV} (h : aggCell P t = true) : mkArg P t vs = .agg vs := by
  unfold aggCell at h
  unfold mkArg
  split at h
  · rename_i fs hu; rw [hu]
  · rename_i n e hu; rw [hu]
  · exact absurd h (by simp)
theorem parts_of : ∀ (gs : List (List IV)), (∀ g ∈ gs, okL [.sl [.int .u8]] g) → ∃ ps : List (Fl × List UInt8), ps.length = gs.length ∧ gs.flatten = pl ps ∧ ∀ p ∈ ps, p.1 = .plain ∧ p.2.length < 2 ^ 63
  | [], _ => ⟨[], rfl, rfl, by simp⟩
  | g :: gs, h => by
    obtain ⟨vs, h1, h2, h3⟩ := parts_of gs fun x hx => h x (by simp [hx])
    have hg := h g (by simp)
    simp only [okL, okT] at hg
    obtain ⟨_, _, rfl, ⟨ns, rfl, hn, hns⟩, rfl⟩ := hg
    obtain ⟨xs, k1, k2⟩ := bytes_of ns hns
    refine ⟨⟨.plain, xs⟩ :: vs, by simp [h1], by simp [h2, pl, k1, k2], ?_⟩
    intro v hv
    rcases List.mem_cons.1 hv with rfl | hv
    · exact ⟨rfl, by simp only [k1]; exact hn⟩
    · exact h3 v hv
theorem words_of : ∀ (n : Nat) (vs : List IV), okL (List.replicate n (.int .u32)) vs → ∃ xs : List UInt32, xs.length = n ∧ vs = wl xs
  | 0, vs, h => ⟨[], rfl, by simp only [List.replicate, okL] at h; rw [h]; rfl⟩
  | n + 1, vs, h => by
    rw [List.replicate_succ] at h
    simp only [okL, okT] at h
    obtain ⟨_, _, rfl, ⟨k, rfl, hk⟩, h⟩ := h
    obtain ⟨xs, h1, rfl⟩ := words_of n _ h
    obtain ⟨b, rfl⟩ : ∃ b : UInt32, k = (b.toNat : Int) := by
      have : 0 ≤ k ∧ k ≤ 4294967295 := by simpa [Lit.wf, IntKind.min, IntKind.max, IntKind.signed, IntKind.bits] using hk
      refine ⟨UInt32.ofNat k.toNat, ?_⟩
      rw [UInt32.toNat_ofNat_of_lt' (by show k.toNat < 2 ^ 32; omega)]; omega
    exact ⟨b :: xs, by simp [h1], by simp [wl]⟩
theorem octets_of : ∀ (n : Nat) (vs : List IV), okL (List.replicate n (.int .u8)) vs → ∃ xs : List UInt8, xs.length = n ∧ vs = bl xs
  | 0, vs, h => ⟨[], rfl, by simp only [List.replicate, okL] at h; rw [h]; rfl⟩
  | n + 1, vs, h => by
    rw [List.replicate_succ] at h
    simp only [okL, okT] at h
    obtain ⟨_, _, rfl, ⟨k, rfl, hk⟩, h⟩ := h
    obtain ⟨xs, h1, rfl⟩ := octets_of n _ h
    obtain ⟨b, rfl⟩ := u8_of hk
    exact ⟨b :: xs, by simp [h1], by simp [bl]⟩
theorem flatParts : flat Try.prog 10 22 = some [.sl [.sl [.int .u8]]] := by kernel_rfl
theorem flatWords : flat Try.prog 10 33 = some (List.replicate 8 (.int .u32)) := by kernel_rfl
theorem flatBlock : flat Try.prog 10 34 = some (List.replicate 64 (.int .u8)) := by kernel_rfl
theorem flatDigest : flat Try.prog 10 27 = some (List.replicate 32 (.int .u8)) := by kernel_rfl
theorem flatBytes : flat Try.prog 10 30 = some [.sl [.int .u8]] := by kernel_rfl
theorem flatInt : flat Try.prog 10 3 = some [.int .i64] := by kernel_rfl
theorem flatLong : flat Try.prog 10 35 = some [.int .u64] := by kernel_rfl
theorem flatByte : flat Try.prog 10 5 = some [.int .u8] := by kernel_rfl
theorem argParts {v : IV} (h : okArg Try.prog 22 v) : ∃ ps : List (Fl × List UInt8), v = .sl .plain ps.length (pl ps) ∧ ps.length < 2 ^ 63 ∧ ∀ p ∈ ps, p.1 = .plain ∧ p.2.length < 2 ^ 63 := by
  obtain ⟨gs, rfl, hl, hg⟩ := arg_sl flatParts (by kernel_rfl) h
  obtain ⟨vs, k1, k2, k3⟩ := parts_of gs hg
  exact ⟨vs, by rw [k1, k2], by omega, k3⟩
theorem argWords {v : IV} (h : okArg Try.prog 33 v) : ∃ x : H8, v = .agg (wl x.l) := by
  obtain ⟨vs, k, rfl⟩ := arg_of flatWords h
  obtain ⟨xs, h1, rfl⟩ := words_of 8 _ k
  match xs, h1 with
  | [a, b, c, d, e, f, g, h], _ => exact ⟨⟨a, b, c, d, e, f, g, h⟩, mk_agg (by kernel_rfl)⟩
theorem argBlock {v : IV} (h : okArg Try.prog 34 v) : ∃ x : List UInt8, v = .agg (bl x) ∧ x.length = 64 := by
  obtain ⟨vs, k, rfl⟩ := arg_of flatBlock h
  obtain ⟨xs, h1, rfl⟩ := octets_of 64 _ k
  exact ⟨xs, mk_agg (by kernel_rfl), h1⟩
theorem argLong {v : IV} (h : okArg Try.prog 35 v) : ∃ n : Nat, v = .int .u64 (n : Int) ∧ n < 2 ^ 64 := by
  obtain ⟨n, rfl, hn⟩ := arg_int flatLong (by kernel_rfl) h
  have : 0 ≤ n ∧ n ≤ 18446744073709551615 := by simpa [Lit.wf, IntKind.min, IntKind.max, IntKind.signed, IntKind.bits] using hn
  exact ⟨n.toNat, by rw [Int.toNat_of_nonneg (by omega)], by omega⟩
theorem octets_then : ∀ (n : Nat) (t : Ty) (vs : List IV), okL (List.replicate n (.int .u8) ++ [t]) vs → ∃ (xs : List UInt8) (v : IV), xs.length = n ∧ vs = bl xs ++ [v] ∧ okT t v
  | 0, t, vs, h => by
    simp only [List.replicate, List.nil_append, okL] at h
    obtain ⟨v, _, rfl, h, rfl⟩ := h
    exact ⟨[], v, rfl, rfl, h⟩
  | n + 1, t, vs, h => by
    rw [List.replicate_succ, List.cons_append] at h
    simp only [okL, okT] at h
    obtain ⟨_, _, rfl, ⟨k, rfl, hk⟩, h⟩ := h
    obtain ⟨xs, v, h1, rfl, h2⟩ := octets_then n t _ h
    obtain ⟨b, rfl⟩ := u8_of hk
    exact ⟨b :: xs, v, by simp [h1], by simp [bl], h2⟩
theorem flatChained : flat Try.prog 10 51 = some (List.replicate 32 (.int .u8) ++ [.sl [.sl [.int .u8]]]) := by kernel_rfl
theorem argChained {v : IV} (h : okArg Try.prog 51 v) : ∃ (d : List UInt8) (ps : List (Fl × List UInt8)), v = .agg (bl d ++ [.sl .plain ps.length (pl ps)]) ∧ d.length = 32 ∧ ps.length < 2 ^ 63 ∧ ∀ p ∈ ps, p.1 = .plain ∧ p.2.length < 2 ^ 63 := by
  obtain ⟨vs, k, rfl⟩ := arg_of flatChained h
  obtain ⟨d, v, h1, rfl, h2⟩ := octets_then 32 _ _ k
  simp only [okT] at h2
  obtain ⟨gs, rfl, hl, hg⟩ := h2
  obtain ⟨ps, k1, k2, k3⟩ := parts_of gs hg
  exact ⟨d, ps, by rw [k1, k2]; exact mk_agg (by kernel_rfl), h1, by omega, k3⟩
theorem flatPair : flat Try.prog 10 48 = some (List.replicate 2 (.int .u8)) := by kernel_rfl
theorem argPair {v : IV} (h : okArg Try.prog 48 v) : ∃ x y : UInt8, v = .agg [.int .u8 (x.toNat : Int), .int .u8 (y.toNat : Int)] := by
  obtain ⟨vs, k, rfl⟩ := arg_of flatPair h
  obtain ⟨xs, h1, rfl⟩ := octets_of 2 _ k
  match xs, h1 with
  | [a, b], _ => exact ⟨a, b, mk_agg (by kernel_rfl)⟩
end Go.Proofs.Ytlbilkldjhhopaa
