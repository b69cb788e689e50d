/- Arguments by their kinds: rows of bytes and of numbers. -/
import Derived.Test.YtkphojcmjffccaaE27
set_option linter.unusedSectionVars false
set_option linter.unusedVariables false
set_option linter.unusedSimpArgs false
namespace Go.Proofs.Ytkphojcmjffccaa
open Go.RowKit

def bl (xs : List UInt8) : List IV := xs.map fun b => .int .u8 (b.toNat : Int)
theorem bl_length (xs : List UInt8) : (bl xs).length = xs.length := by simp [bl]
theorem bl_append (xs ys : List UInt8) : bl (xs ++ ys) = bl xs ++ bl ys := by simp [bl]
theorem drop_bl {xs : List UInt8} {i : Nat} (h : i < xs.length) : (bl xs).drop i = .int .u8 (xs[i].toNat : Int) :: (bl xs).drop (i + 1) := by
  rw [List.drop_eq_getElem_cons (by simpa [bl] using h)]; simp [bl]
theorem take_bl (xs : List UInt8) : (bl xs).take xs.length = bl xs := List.take_of_length_le (by simp [bl])
theorem bl_snoc (xs : List UInt8) (x : UInt8) : bl xs ++ [.int .u8 (x.toNat : Int)] = bl (xs ++ [x]) := by simp [bl]
theorem bl_scal (xs : List UInt8) : (bl xs).all IV.scal = true := by simp [bl, IV.scal]
theorem bl_pur (xs : List UInt8) : IV.purL (bl xs) = true := by induction xs <;> simp_all [bl, IV.purL, IV.pur]
theorem bl_nil : bl [] = [] := rfl
theorem u8_of {n : Int} (h : (Lit.int .u8 n).wf = true) : ∃ b : UInt8, n = (b.toNat : Int) := by
  have hb := bounds_u8 h
  refine ⟨UInt8.ofNat n.toNat, ?_⟩
  rw [UInt8.toNat_ofNat']
  omega
theorem bytes_of : ∀ (gs : List (List IV)), (∀ g ∈ gs, okL [.int .u8] g) → ∃ xs : List UInt8, xs.length = gs.length ∧ gs.flatten = bl xs
  | [], _ => ⟨[], rfl, rfl⟩
  | g :: gs, h => by
    obtain ⟨xs, h1, h2⟩ := bytes_of gs fun x hx => h x (by simp [hx])
    have hg := h g (by simp)
    simp only [okL, okT] at hg
    obtain ⟨_, _, rfl, ⟨n, rfl, hn⟩, rfl⟩ := hg
    obtain ⟨b, rfl⟩ := u8_of hn
    exact ⟨b :: xs, by simp [h1], by simp [h2, bl]⟩

section
variable {P : Program}
theorem arg_of {t : TypeId} {ts : List Ty} {v : IV} (hf : flat P 10 t = some ts) (h : okArg P t v) : ∃ vs, okL ts vs ∧ v = mkArg P t vs := by
  obtain ⟨ts', vs, hf', h, rfl⟩ := h
  rw [hf] at hf'
  simp only [Option.some.injEq] at hf'
  subst hf'
  exact ⟨vs, h, rfl⟩
def oneCell (P : Program) (t : TypeId) : Bool := match P.underlying t with
  | some (.struct _) | some (.array _ _) => false
  | _ => true
theorem mk_one {t : TypeId} {x : IV} (h : oneCell P t = true) : mkArg P t [x] = x := by
  unfold oneCell at h
  unfold mkArg
  split at h
  · exact absurd h (by simp)
  · exact absurd h (by simp)
  · rename_i h1 h2
    split
    · rename_i fs hu; exact absurd hu (h1 fs)
    · rename_i n e hu; exact absurd hu (h2 n e)
    · rfl
theorem arg_int {t : TypeId} {k : IntKind} {v : IV} (hf : flat P 10 t = some [.int k]) (h1 : oneCell P t = true) (h : okArg P t v) : ∃ n, v = .int k n ∧ (Lit.int k n).wf = true := by
  obtain ⟨vs, k, rfl⟩ := arg_of hf h
  simp only [okL, okT] at k
  obtain ⟨_, _, rfl, ⟨n, rfl, hn⟩, rfl⟩ := k
  exact ⟨n, mk_one h1, hn⟩
theorem arg_u8 {t : TypeId} {v : IV} (hf : flat P 10 t = some [.int .u8]) (h1 : oneCell P t = true) (h : okArg P t v) : ∃ b : UInt8, v = .int .u8 (b.toNat : Int) := by
  obtain ⟨n, rfl, hn⟩ := arg_int hf h1 h
  obtain ⟨b, rfl⟩ := u8_of hn
  exact ⟨b, rfl⟩
theorem arg_sl {t : TypeId} {ts : List Ty} {v : IV} (hf : flat P 10 t = some [.sl ts]) (h1 : oneCell P t = true) (h : okArg P t v) : ∃ gs : List (List IV), v = .sl .plain gs.length gs.flatten ∧ gs.length < 2 ^ 63 ∧ ∀ g ∈ gs, okL ts g := by
  obtain ⟨vs, k, rfl⟩ := arg_of hf h
  simp only [okL, okT] at k
  obtain ⟨_, _, rfl, ⟨gs, rfl, hn, hg⟩, rfl⟩ := k
  exact ⟨gs, mk_one h1, hn, hg⟩
end
end Go.Proofs.Ytkphojcmjffccaa

/-! Bytes out of numbers; checks of bytes. -/
set_option linter.unusedSectionVars false
set_option linter.unusedVariables false
set_option linter.unusedSimpArgs false
namespace Go.Proofs.Ytkphojcmjffccaa
open Go.RowKit

def u8 (n : Nat) : UInt8 := UInt8.ofNat n
theorem u8_toNat (n : Nat) : (u8 n).toNat = n % 256 := by unfold u8; rw [UInt8.toNat_ofNat']
theorem wrap_u8 (n : Nat) : IntKind.u8.wrap (n : Int) = ((u8 n).toNat : Int) := by
  rw [u8_toNat]
  simp only [IntKind.wrap, IntKind.signed, IntKind.bits]
  simp
/-! ### the check of bytes, bit by bit -/
def cbit (c : Nat) : Nat := (c >>> 1) ^^^ (33800 * (c &&& 1))
def cbits : Nat → Nat → Nat
  | 0, c => c
  | n + 1, c => cbit (cbits n c)
def cbyte (c : Nat) (b : UInt8) : Nat := cbits 8 (c ^^^ b.toNat)
def cmore (c : Nat) (l : List UInt8) : Nat := l.foldl cbyte c
def crc (l : List UInt8) : Nat := 65535 - cmore 65535 l

theorem low_cases (c : Nat) : c &&& 1 = 0 ∨ c &&& 1 = 1 := by
  have h : c &&& 1 = c % 2 := Nat.and_one_is_mod c
  omega
theorem cbit_lt {c : Nat} (h : c < 65536) : cbit c < 65536 := by
  unfold cbit
  have h1 : c >>> 1 < 2 ^ 16 := by rw [Nat.shiftRight_eq_div_pow]; omega
  have h2 : 33800 * (c &&& 1) < 2 ^ 16 := by rcases low_cases c with e | e <;> rw [e] <;> decide
  exact Nat.xor_lt_two_pow h1 h2
theorem cbits_lt {c : Nat} (h : c < 65536) : ∀ n, cbits n c < 65536
  | 0 => h
  | n + 1 => cbit_lt (cbits_lt h n)
theorem byte_xor_lt {c : Nat} (h : c < 65536) (b : UInt8) : c ^^^ b.toNat < 65536 := by
  have := b.toNat_lt
  exact Nat.xor_lt_two_pow (n := 16) h (by omega)
theorem cbyte_lt {c : Nat} (h : c < 65536) (b : UInt8) : cbyte c b < 65536 := cbits_lt (byte_xor_lt h b) 8
theorem cmore_lt : ∀ (l : List UInt8) {c : Nat}, c < 65536 → cmore c l < 65536
  | [], c, h => h
  | b :: l, c, h => cmore_lt l (cbyte_lt h b)
theorem cmore_append (c : Nat) (l m : List UInt8) : cmore c (l ++ m) = cmore (cmore c l) m := by unfold cmore; rw [List.foldl_append]
theorem cmore_snoc (c : Nat) (l : List UInt8) (b : UInt8) : cmore c (l ++ [b]) = cbyte (cmore c l) b := by rw [cmore_append]; rfl
end Go.Proofs.Ytkphojcmjffccaa
