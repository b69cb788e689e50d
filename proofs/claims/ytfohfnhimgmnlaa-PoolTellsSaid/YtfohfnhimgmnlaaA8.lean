/- Proved: the law PoolTells returns true at every input, and its arguments read behind the call as before it. No condition. -/
import Derived.Test.YtfohfnhimgmnlaaE27
import Derived.Test.YtfohfnhimgmnlaaA7
import Derived.Test.YtfohfnhimgmnlaaRows
set_option linter.unusedVariables false
set_option linter.unusedSimpArgs false
set_option maxRecDepth 100000
namespace Go.Proofs.Ytfohfnhimgmnlaa
open Go.RowKit Go.ChangeShapes Go.WideShapes

theorem own_knob : ownKnob Try.prog.godebug = none := by kernel_rfl
theorem laid_out : laidOutB Try.prog = true := by kernel_rfl

theorem ints_of : ∀ (gs : List (List IV)), (∀ g ∈ gs, okL [.int .i64] g) → ∃ xs : List Int, xs.length = gs.length ∧ gs.flatten = il xs
  | [], _ => ⟨[], rfl, rfl⟩
  | g :: gs, h => by
    obtain ⟨xs, h1, h2⟩ := ints_of gs fun x hx => h x (by simp [hx])
    have hg := h g (by simp)
    simp only [okL, okT] at hg
    obtain ⟨_, _, rfl, ⟨n, rfl, _⟩, rfl⟩ := hg
    exact ⟨n :: xs, by simp [h1], by simp [h2, il]⟩
theorem vols_of : ∀ (gs : List (List IV)), (∀ g ∈ gs, okL [.str, .sl [.int .i64]] g) → ∃ vs : List Vol, vs.length = gs.length ∧ gs.flatten = vl vs ∧ ∀ v ∈ vs, v.blocks.length < 2 ^ 63
  | [], _ => ⟨[], rfl, rfl, by simp⟩
  | g :: gs, h => by
    obtain ⟨vs, h1, h2, h3⟩ := vols_of gs fun x hx => h x (by simp [hx])
    have hg := h g (by simp)
    simp only [okL, okT] at hg
    obtain ⟨_, _, rfl, ⟨l, rfl, _⟩, _, _, rfl, ⟨ns, rfl, hn, hns⟩, rfl⟩ := hg
    obtain ⟨xs, k1, k2⟩ := ints_of ns hns
    refine ⟨⟨l, xs⟩ :: vs, by simp [h1], by simp [h2, vl, k1, k2], ?_⟩
    intro v hv
    rcases List.mem_cons.1 hv with rfl | hv
    · simp only [k1]; exact hn
    · exact h3 v hv

theorem flat22 : flat Try.prog 10 22 = some [.sl [.str, .sl [.int .i64]]] := by kernel_rfl
theorem flat3 : flat Try.prog 10 3 = some [.int .i64] := by kernel_rfl
theorem flat5 : flat Try.prog 10 5 = some [.int .u8] := by kernel_rfl
theorem arg22 {v : IV} (h : okArg Try.prog 22 v) : ∃ vs : List Vol, v = .sl .plain vs.length (vl vs) ∧ vs.length < 2 ^ 63 ∧ ∀ v ∈ vs, v.blocks.length < 2 ^ 63 := by
  obtain ⟨ts, vs, hf, h, rfl⟩ := h
  rw [flat22] at hf
  simp only [Option.some.injEq] at hf
  subst hf
  simp only [okL, okT] at h
  obtain ⟨_, _, rfl, ⟨gs, rfl, hl, hg⟩, rfl⟩ := h
  obtain ⟨vs, k1, k2, k3⟩ := vols_of gs hg
  refine ⟨vs, ?_, by omega, k3⟩
  have hu : mkArg Try.prog 22 [IV.sl .plain gs.length gs.flatten] = IV.sl .plain gs.length gs.flatten := by rfl
  rw [hu, k1, k2]
theorem arg3 {v : IV} (h : okArg Try.prog 3 v) : ∃ n, v = .int .i64 n ∧ (Lit.int .i64 n).wf = true := by
  obtain ⟨ts, vs, hf, h, rfl⟩ := h
  rw [flat3] at hf
  simp only [Option.some.injEq] at hf
  subst hf
  simp only [okL, okT] at h
  obtain ⟨_, _, rfl, ⟨n, rfl, hn⟩, rfl⟩ := h
  exact ⟨n, by rfl, hn⟩
theorem arg5 {v : IV} (h : okArg Try.prog 5 v) : ∃ n : Nat, v = .int .u8 n ∧ n < 256 := by
  obtain ⟨ts, vs, hf, h, rfl⟩ := h
  rw [flat5] at hf
  simp only [Option.some.injEq] at hf
  subst hf
  simp only [okL, okT] at h
  obtain ⟨_, _, rfl, ⟨n, rfl, hn⟩, rfl⟩ := h
  have hb := bounds_u8 hn
  obtain ⟨k, rfl⟩ : ∃ k : Nat, n = k := ⟨n.toNat, by omega⟩
  exact ⟨k, by rfl, by omega⟩

theorem law3 (ivs : List IV) (h : okArgs Try.prog Try.f3.params.toList ivs) : RC Try.prog 3 ivs [.bool true] := by
  rw [Try.params3] at h
  simp only [okArgs] at h
  obtain ⟨_, _, rfl, h1, _, _, rfl, h2, rfl⟩ := h
  obtain ⟨vs, rfl, hl, hb⟩ := arg22 h1
  obtain ⟨n, rfl, _⟩ := arg3 h2
  exact tells3 vs n hl hb

theorem lifted3 (os : Os) (started : os.Started) (H : Type) (enc : TypeId × Value → H) :
    ReturnsInHanded {} Try.checked os 3 .any (Rows.poolTellsSpec.pre6 enc Try.prog Try.f3 Rows.poolTellsRow.domain false) (Rows.poolTellsSpec.post enc Try.prog Try.f3 false true false false) :=
  law_lifted (C := Try.checked) (fn := Try.f3) (tb := 4) own_knob started (by kernel_rfl) Try.func3
    (ChangeSpec.witness6 (enc := enc) (C := Try.checked) false ⟨#[], #[.slice none 0 0, .int .i64 0], []⟩ 8 (by kernel_rfl) (by kernel_rfl) (by kernel_rfl) (by kernel_rfl))
    laid_out rfl (by kernel_rfl) Try.underlying4 (by rw [Try.params3]; decide +kernel)
    (by rintro (_ | ⟨a, _ | ⟨b, _ | _⟩⟩) h <;> first | exact ⟨rfl, rfl, rfl⟩ | (rw [Try.params3] at h; simp at h))
    law3

/-- THE STATEMENT -/
theorem poolTells_holds : Rows.PoolTellsSaid :=
  OpenClaim.holds_of_wide 3 Try.f3 rfl rfl rfl rfl rfl rfl rfl ⟨rfl, rfl, rfl, rfl, rfl⟩ rfl rfl rfl rfl rfl (by kernel_rfl) Try.func3 (by kernel_rfl)
    (of_decide_eq_true (by kernel_rfl)) (by unfold Func.isWrapper; first | (rw [if_pos (by decide +kernel)]; kernel_rfl) | (rw [if_neg (by decide +kernel)]; exact ⟨rfl, rfl⟩))
    (fun os started H enc _ => lifted3 os started H enc)
#print axioms poolTells_holds
end Go.Proofs.Ytfohfnhimgmnlaa
