/- Arguments by their kinds: rows of bytes and of numbers. -/
import Derived.Test.YtilbipknodpmmaaDoorE27
set_option linter.unusedSectionVars false
set_option linter.unusedVariables false
set_option linter.unusedSimpArgs false
namespace Go.Proofs.YtilbipknodpmmaaDoor
open Go.RowKit

def bl (xs : List UInt8) : List IV := xs.map fun b => .int .u8 (b.toNat : Int)
theorem bl_length (xs : List UInt8) : (bl xs).length = xs.length := by simp [bl]
theorem bl_append (xs ys : List UInt8) : bl (xs ++ ys) = bl xs ++ bl ys := by simp [bl]
theorem drop_bl {xs : List UInt8} {i : Nat} (h : i < xs.length) : (bl xs).drop i = .int .u8 (xs[i].toNat : Int) :: (bl xs).drop (i + 1) := by
  rw [List.drop_eq_getElem_cons (by simpa [bl] using h)]; simp [bl]
theorem bl_take (xs : List UInt8) (n : Nat) : (bl xs).take n = bl (xs.take n) := by simp [bl]
theorem bl_drop (xs : List UInt8) (n : Nat) : (bl xs).drop n = bl (xs.drop n) := by simp [bl]
theorem bl_scal (xs : List UInt8) : (bl xs).all IV.scal = true := by simp [bl, IV.scal]
theorem bl_pur (xs : List UInt8) : IV.purL (bl xs) = true := by induction xs <;> simp_all [bl, IV.purL, IV.pur]
theorem il_nil : il [] = [] := rfl

theorem ints_of : ∀ (gs : List (List IV)), (∀ g ∈ gs, okL [.int .i64] g) → ∃ xs : List Int, xs.length = gs.length ∧ gs.flatten = il xs
  | [], _ => ⟨[], rfl, rfl⟩
  | g :: gs, h => by
    obtain ⟨xs, h1, h2⟩ := ints_of gs fun x hx => h x (by simp [hx])
    have hg := h g (by simp)
    simp only [okL, okT] at hg
    obtain ⟨_, _, rfl, ⟨n, rfl, _⟩, rfl⟩ := hg
    exact ⟨n :: xs, by simp [h1], by simp [h2, il]⟩
theorem u8_of {n : Int} (h : (Lit.int .u8 n).wf = true) : ∃ b : UInt8, n = (b.toNat : Int) := by
  have hb := bounds_u8 h
  refine ⟨UInt8.ofNat n.toNat, ?_⟩
  rw [UInt8.toNat_ofNat']
  omega
theorem bytes_of : ∀ (gs : List (List IV)), (∀ g ∈ gs, okL [.int .u8] g) → ∃ xs : List UInt8, xs.length = gs.length ∧ gs.flatten = bl xs
  | [], _ => ⟨[], rfl, rfl⟩
  | g :: gs, h => by
    obtain ⟨xs, h1, h2⟩ := bytes_of gs fun x hx => h x (by simp [hx])
    have hg := h g (by simp)
    simp only [okL, okT] at hg
    obtain ⟨_, _, rfl, ⟨n, rfl, hn⟩, rfl⟩ := hg
    obtain ⟨b, rfl⟩ := u8_of hn
    exact ⟨b :: xs, by simp [h1], by simp [h2, bl]⟩

section
variable {P : Program}
theorem arg_of {t : TypeId} {ts : List Ty} {v : IV} (hf : flat P 10 t = some ts) (h : okArg P t v) : ∃ vs, okL ts vs ∧ v = mkArg P t vs := by
  obtain ⟨ts', vs, hf', h, rfl⟩ := h
  rw [hf] at hf'
  simp only [Option.some.injEq] at hf'
  subst hf'
  exact ⟨vs, h, rfl⟩
def oneCell (P : Program) (t : TypeId) : Bool := match P.underlying t with
  | some (.struct _) | some (.array _ _) => false
  | _ => true
theorem mk_one {t : TypeId} {x : IV} (h : oneCell P t = true) : mkArg P t [x] = x := by
  unfold oneCell at h
  unfold mkArg
  split at h
  · exact absurd h (by simp)
  · exact absurd h (by simp)
  · rename_i h1 h2
    split
    · rename_i fs hu; exact absurd hu (h1 fs)
    · rename_i n e hu; exact absurd hu (h2 n e)
    · rfl
theorem arg_int {t : TypeId} {k : IntKind} {v : IV} (hf : flat P 10 t = some [.int k]) (h1 : oneCell P t = true) (h : okArg P t v) : ∃ n, v = .int k n ∧ (Lit.int k n).wf = true := by
  obtain ⟨vs, k, rfl⟩ := arg_of hf h
  simp only [okL, okT] at k
  obtain ⟨_, _, rfl, ⟨n, rfl, hn⟩, rfl⟩ := k
  exact ⟨n, mk_one h1, hn⟩
theorem arg_u8 {t : TypeId} {v : IV} (hf : flat P 10 t = some [.int .u8]) (h1 : oneCell P t = true) (h : okArg P t v) : ∃ b : UInt8, v = .int .u8 (b.toNat : Int) := by
  obtain ⟨n, rfl, hn⟩ := arg_int hf h1 h
  obtain ⟨b, rfl⟩ := u8_of hn
  exact ⟨b, rfl⟩
theorem arg_str {t : TypeId} {v : IV} (hf : flat P 10 t = some [.str]) (h1 : oneCell P t = true) (h : okArg P t v) : ∃ l, v = .str l ∧ l.length < 2 ^ 63 := by
  obtain ⟨vs, k, rfl⟩ := arg_of hf h
  simp only [okL, okT] at k
  obtain ⟨_, _, rfl, ⟨n, rfl, hn⟩, rfl⟩ := k
  exact ⟨n, mk_one h1, hn⟩
theorem arg_sl {t : TypeId} {ts : List Ty} {v : IV} (hf : flat P 10 t = some [.sl ts]) (h1 : oneCell P t = true) (h : okArg P t v) : ∃ gs : List (List IV), v = .sl .plain gs.length gs.flatten ∧ gs.length < 2 ^ 63 ∧ ∀ g ∈ gs, okL ts g := by
  obtain ⟨vs, k, rfl⟩ := arg_of hf h
  simp only [okL, okT] at k
  obtain ⟨_, _, rfl, ⟨gs, rfl, hn, hg⟩, rfl⟩ := k
  exact ⟨gs, mk_one h1, hn, hg⟩
theorem arg_bytes {t : TypeId} {v : IV} (hf : flat P 10 t = some [.sl [.int .u8]]) (h1 : oneCell P t = true) (h : okArg P t v) : ∃ xs : List UInt8, v = .sl .plain xs.length (bl xs) ∧ xs.length < 2 ^ 63 := by
  obtain ⟨gs, rfl, hl, hg⟩ := arg_sl hf h1 h
  obtain ⟨xs, k1, k2⟩ := bytes_of gs hg
  exact ⟨xs, by rw [k1, k2], by omega⟩
end
end Go.Proofs.YtilbipknodpmmaaDoor

/-! Bytes out of numbers; checks of bytes. -/
set_option linter.unusedSectionVars false
set_option linter.unusedVariables false
set_option linter.unusedSimpArgs false
namespace Go.Proofs.YtilbipknodpmmaaDoor
open Go.RowKit

def u8 (n : Nat) : UInt8 := UInt8.ofNat n
theorem u8_toNat (n : Nat) : (u8 n).toNat = n % 256 := by unfold u8; rw [UInt8.toNat_ofNat']
theorem wrap_u8 (n : Nat) : IntKind.u8.wrap (n : Int) = ((u8 n).toNat : Int) := by
  rw [u8_toNat]
  simp only [IntKind.wrap, IntKind.signed, IntKind.bits]
  simp
/-! ### the check of bytes, bit by bit -/
end Go.Proofs.YtilbipknodpmmaaDoor
