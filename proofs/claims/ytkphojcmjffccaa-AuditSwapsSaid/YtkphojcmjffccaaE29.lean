/- Arguments by their kinds: rows of bytes and of numbers. -/
import Derived.Test.YtkphojcmjffccaaE27
set_option linter.unusedSectionVars false
set_option linter.unusedVariables false
set_option linter.unusedSimpArgs false
namespace Go.Proofs.Ytkphojcmjffccaa
open Go.RowKit

/-- a row of bytes -/
def bl (xs : List UInt8) : List IV := xs.map fun b => .int .u8 (b.toNat : Int)
theorem bl_length (xs : List UInt8) : (bl xs).length = xs.length := by simp [bl]
theorem bl_append (xs ys : List UInt8) : bl (xs ++ ys) = bl xs ++ bl ys := by simp [bl]
theorem drop_bl {xs : List UInt8} {i : Nat} (h : i < xs.length) : (bl xs).drop i = .int .u8 (xs[i].toNat : Int) :: (bl xs).drop (i + 1) := by
  rw [List.drop_eq_getElem_cons (by simpa [bl] using h)]; simp [bl]
theorem take_bl (xs : List UInt8) : (bl xs).take xs.length = bl xs := List.take_of_length_le (by simp [bl])
theorem bl_take (xs : List UInt8) (n : Nat) : (bl xs).take n = bl (xs.take n) := by simp [bl]
theorem bl_drop (xs : List UInt8) (n : Nat) : (bl xs).drop n = bl (xs.drop n) := by simp [bl]
theorem bl_snoc (xs : List UInt8) (x : UInt8) : bl xs ++ [.int .u8 (x.toNat : Int)] = bl (xs ++ [x]) := by simp [bl]
theorem bl_scal (xs : List UInt8) : (bl xs).all IV.scal = true := by simp [bl, IV.scal]
theorem bl_pur (xs : List UInt8) : IV.purL (bl xs) = true := by induction xs <;> simp_all [bl, IV.purL, IV.pur]
theorem bl_nil : bl [] = [] := rfl
theorem il_nil : il [] = [] := rfl

theorem ints_of : ∀ (gs : List (List IV)), (∀ g ∈ gs, okL [.int .i64] g) → ∃ xs : List Int, xs.length = gs.length ∧ gs.flatten = il xs
  | [], _ => ⟨[], rfl, rfl⟩
  | g :: gs, h => by
    obtain ⟨xs, h1, h2⟩ := ints_of gs fun x hx => h x (by simp [hx])
    have hg := h g (by simp)
    simp only [okL, okT] at hg
    obtain ⟨_, _, rfl, ⟨n, rfl, _⟩, rfl⟩ := hg
    exact ⟨n :: xs, by simp [h1], by simp [h2, il]⟩
theorem u8_of {n : Int} (h : (Lit.int .u8 n).wf = true) : ∃ b : UInt8, n = (b.toNat : Int) := by
  have hb := bounds_u8 h
  refine ⟨UInt8.ofNat n.toNat, ?_⟩
  rw [UInt8.toNat_ofNat']
  omega
theorem bytes_of : ∀ (gs : List (List IV)), (∀ g ∈ gs, okL [.int .u8] g) → ∃ xs : List UInt8, xs.length = gs.length ∧ gs.flatten = bl xs
  | [], _ => ⟨[], rfl, rfl⟩
  | g :: gs, h => by
    obtain ⟨xs, h1, h2⟩ := bytes_of gs fun x hx => h x (by simp [hx])
    have hg := h g (by simp)
    simp only [okL, okT] at hg
    obtain ⟨_, _, rfl, ⟨n, rfl, hn⟩, rfl⟩ := hg
    obtain ⟨b, rfl⟩ := u8_of hn
    exact ⟨b :: xs, by simp [h1], by simp [h2, bl]⟩

section
variable {P : Program}
/-- an argument, by what its type's cells are -/
theorem arg_of {t : TypeId} {ts : List Ty} {v : IV} (hf : flat P 10 t = some ts) (h : okArg P t v) : ∃ vs, okL ts vs ∧ v = mkArg P t vs := by
  obtain ⟨ts', vs, hf', h, rfl⟩ := h
  rw [hf] at hf'
  simp only [Option.some.injEq] at hf'
  subst hf'
  exact ⟨vs, h, rfl⟩
/-- a type whose value is its one cell -/
def oneCell (P : Program) (t : TypeId) : Bool := match P.underlying t with
  | some (.struct _) | some (.array _ _) => false
  | _ => true
theorem mk_one {t : TypeId} {x : IV} (h : oneCell P t = true) : mkArg P t [x] = x := by
  unfold oneCell at h
  unfold mkArg
  split at h
  · exact absurd h (by simp)
  · exact absurd h (by simp)
  · rename_i h1 h2
    split
    · rename_i fs hu; exact absurd hu (h1 fs)
    · rename_i n e hu; exact absurd hu (h2 n e)
    · rfl
theorem arg_int {t : TypeId} {k : IntKind} {v : IV} (hf : flat P 10 t = some [.int k]) (h1 : oneCell P t = true) (h : okArg P t v) : ∃ n, v = .int k n ∧ (Lit.int k n).wf = true := by
  obtain ⟨vs, k, rfl⟩ := arg_of hf h
  simp only [okL, okT] at k
  obtain ⟨_, _, rfl, ⟨n, rfl, hn⟩, rfl⟩ := k
  exact ⟨n, mk_one h1, hn⟩
theorem arg_u8 {t : TypeId} {v : IV} (hf : flat P 10 t = some [.int .u8]) (h1 : oneCell P t = true) (h : okArg P t v) : ∃ b : UInt8, v = .int .u8 (b.toNat : Int) := by
  obtain ⟨n, rfl, hn⟩ := arg_int hf h1 h
  obtain ⟨b, rfl⟩ := u8_of hn
  exact ⟨b, rfl⟩
theorem arg_bool {t : TypeId} {v : IV} (hf : flat P 10 t = some [.bool]) (h1 : oneCell P t = true) (h : okArg P t v) : ∃ b, v = .bool b := by
  obtain ⟨vs, k, rfl⟩ := arg_of hf h
  simp only [okL, okT] at k
  obtain ⟨_, _, rfl, ⟨n, rfl⟩, rfl⟩ := k
  exact ⟨n, mk_one h1⟩
theorem arg_str {t : TypeId} {v : IV} (hf : flat P 10 t = some [.str]) (h1 : oneCell P t = true) (h : okArg P t v) : ∃ l, v = .str l ∧ l.length < 2 ^ 63 := by
  obtain ⟨vs, k, rfl⟩ := arg_of hf h
  simp only [okL, okT] at k
  obtain ⟨_, _, rfl, ⟨n, rfl, hn⟩, rfl⟩ := k
  exact ⟨n, mk_one h1, hn⟩
theorem arg_sl {t : TypeId} {ts : List Ty} {v : IV} (hf : flat P 10 t = some [.sl ts]) (h1 : oneCell P t = true) (h : okArg P t v) : ∃ gs : List (List IV), v = .sl .plain gs.length gs.flatten ∧ gs.length < 2 ^ 63 ∧ ∀ g ∈ gs, okL ts g := by
  obtain ⟨vs, k, rfl⟩ := arg_of hf h
  simp only [okL, okT] at k
  obtain ⟨_, _, rfl, ⟨gs, rfl, hn, hg⟩, rfl⟩ := k
  exact ⟨gs, mk_one h1, hn, hg⟩
theorem arg_bytes {t : TypeId} {v : IV} (hf : flat P 10 t = some [.sl [.int .u8]]) (h1 : oneCell P t = true) (h : okArg P t v) : ∃ xs : List UInt8, v = .sl .plain xs.length (bl xs) ∧ xs.length < 2 ^ 63 := by
  obtain ⟨gs, rfl, hl, hg⟩ := arg_sl hf h1 h
  obtain ⟨xs, k1, k2⟩ := bytes_of gs hg
  exact ⟨xs, by rw [k1, k2], by omega⟩
end
end Go.Proofs.Ytkphojcmjffccaa

/-! Bytes out of numbers; checks of bytes. -/
set_option linter.unusedSectionVars false
set_option linter.unusedVariables false
set_option linter.unusedSimpArgs false
namespace Go.Proofs.Ytkphojcmjffccaa
open Go.RowKit

/-- the byte of a number -/
def u8 (n : Nat) : UInt8 := UInt8.ofNat n
theorem u8_toNat (n : Nat) : (u8 n).toNat = n % 256 := by unfold u8; rw [UInt8.toNat_ofNat']
theorem wrap_u8 (n : Nat) : IntKind.u8.wrap (n : Int) = ((u8 n).toNat : Int) := by
  rw [u8_toNat]
  simp only [IntKind.wrap, IntKind.signed, IntKind.bits]
  simp
theorem u8_of_toNat (b : UInt8) : u8 b.toNat = b := by unfold u8; simp
theorem u8_inj {m n : Nat} (hm : m < 256) (hn : n < 256) (h : u8 m = u8 n) : m = n := by
  have := congrArg UInt8.toNat h
  rw [u8_toNat, u8_toNat, Nat.mod_eq_of_lt hm, Nat.mod_eq_of_lt hn] at this
  exact this

/-! ### the check of bytes, bit by bit -/
def cbit (c : Nat) : Nat := (c >>> 1) ^^^ (33800 * (c &&& 1))
def cbits : Nat → Nat → Nat
  | 0, c => c
  | n + 1, c => cbit (cbits n c)
def cbyte (c : Nat) (b : UInt8) : Nat := cbits 8 (c ^^^ b.toNat)
def cmore (c : Nat) (l : List UInt8) : Nat := l.foldl cbyte c
def crc (l : List UInt8) : Nat := 65535 - cmore 65535 l

theorem low_cases (c : Nat) : c &&& 1 = 0 ∨ c &&& 1 = 1 := by
  have h : c &&& 1 = c % 2 := Nat.and_one_is_mod c
  omega
theorem cbit_lt {c : Nat} (h : c < 65536) : cbit c < 65536 := by
  unfold cbit
  have h1 : c >>> 1 < 2 ^ 16 := by rw [Nat.shiftRight_eq_div_pow]; omega
  have h2 : 33800 * (c &&& 1) < 2 ^ 16 := by rcases low_cases c with e | e <;> rw [e] <;> decide
  exact Nat.xor_lt_two_pow h1 h2
theorem cbits_lt {c : Nat} (h : c < 65536) : ∀ n, cbits n c < 65536
  | 0 => h
  | n + 1 => cbit_lt (cbits_lt h n)
theorem byte_xor_lt {c : Nat} (h : c < 65536) (b : UInt8) : c ^^^ b.toNat < 65536 := by
  have := b.toNat_lt
  exact Nat.xor_lt_two_pow (n := 16) h (by omega)
theorem cbyte_lt {c : Nat} (h : c < 65536) (b : UInt8) : cbyte c b < 65536 := cbits_lt (byte_xor_lt h b) 8
theorem cmore_lt : ∀ (l : List UInt8) {c : Nat}, c < 65536 → cmore c l < 65536
  | [], c, h => h
  | b :: l, c, h => cmore_lt l (cbyte_lt h b)
theorem crc_lt (l : List UInt8) : crc l < 65536 := by unfold crc; omega
theorem cmore_append (c : Nat) (l m : List UInt8) : cmore c (l ++ m) = cmore (cmore c l) m := by unfold cmore; rw [List.foldl_append]
theorem cmore_snoc (c : Nat) (l : List UInt8) (b : UInt8) : cmore c (l ++ [b]) = cbyte (cmore c l) b := by rw [cmore_append]; rfl
theorem xor_cancel {a b c : Nat} (h : a ^^^ c = b ^^^ c) : a = b := by
  have := congrArg (· ^^^ c) h
  simpa [Nat.xor_assoc] using this
theorem cbit_inj {c d : Nat} (hc : c < 65536) (hd : d < 65536) (h : cbit c = cbit d) : c = d := by
  unfold cbit at h
  have c1 : c >>> 1 = c / 2 := by rw [Nat.shiftRight_eq_div_pow]
  have d1 : d >>> 1 = d / 2 := by rw [Nat.shiftRight_eq_div_pow]
  have c2 : c &&& 1 = c % 2 := Nat.and_one_is_mod c
  have d2 : d &&& 1 = d % 2 := Nat.and_one_is_mod d
  rw [c1, d1, c2, d2] at h
  have hx : c / 2 ^^^ d / 2 < 2 ^ 15 := Nat.xor_lt_two_pow (by omega) (by omega)
  rcases Nat.mod_two_eq_zero_or_one c with ec | ec <;> rcases Nat.mod_two_eq_zero_or_one d with ed | ed
  · rw [ec, ed] at h; have := xor_cancel h; omega
  · rw [ec, ed] at h
    have : c / 2 ^^^ d / 2 = 33800 := by
      have h' : c / 2 = d / 2 ^^^ 33800 := by simpa using h
      rw [h', Nat.xor_comm (d / 2), Nat.xor_assoc, Nat.xor_self, Nat.xor_zero]
    omega
  · rw [ec, ed] at h
    have : c / 2 ^^^ d / 2 = 33800 := by
      have h' : d / 2 = c / 2 ^^^ 33800 := by simpa using h.symm
      rw [h', ← Nat.xor_assoc, Nat.xor_self, Nat.zero_xor]
    omega
  · rw [ec, ed] at h; have := xor_cancel h; omega
theorem cbits_inj {c d : Nat} (hc : c < 65536) (hd : d < 65536) : ∀ n, cbits n c = cbits n d → c = d
  | 0, h => h
  | n + 1, h => cbits_inj hc hd n (cbit_inj (cbits_lt hc n) (cbits_lt hd n) h)
theorem cbyte_inj {c d : Nat} (hc : c < 65536) (hd : d < 65536) {b : UInt8} (h : cbyte c b = cbyte d b) : c = d :=
  xor_cancel (cbits_inj (byte_xor_lt hc b) (byte_xor_lt hd b) 8 h)
theorem cbyte_byte {c : Nat} (hc : c < 65536) {a b : UInt8} (h : cbyte c a = cbyte c b) : a = b := by
  have := cbits_inj (byte_xor_lt hc a) (byte_xor_lt hc b) 8 h
  rw [Nat.xor_comm c, Nat.xor_comm c] at this
  exact UInt8.toNat_inj.1 (xor_cancel this)
theorem cmore_inj : ∀ (l : List UInt8) {c d : Nat}, c < 65536 → d < 65536 → cmore c l = cmore d l → c = d
  | [], c, d, _, _, h => h
  | b :: l, c, d, hc, hd, h => cbyte_inj hc hd (cmore_inj l (cbyte_lt hc b) (cbyte_lt hd b) h)
/-- one byte turned turns the check -/
theorem cmore_set : ∀ (l : List UInt8) {c : Nat} {i : Nat} {x : UInt8} (h : i < l.length), c < 65536 → cmore c (l.set i x) = cmore c l → x = l[i]
  | b :: l, c, 0, x, _, hc, h => cbyte_byte hc (cmore_inj l (cbyte_lt hc x) (cbyte_lt hc b) h)
  | b :: l, c, i + 1, x, hi, hc, h => cmore_set l (by simpa using hi) (cbyte_lt hc b) h
theorem crc_set {l : List UInt8} {i : Nat} {x : UInt8} (h : i < l.length) (he : crc (l.set i x) = crc l) : x = l[i] := by
  have h1 := cmore_lt l (c := 65535) (by omega)
  have h2 := cmore_lt (l.set i x) (c := 65535) (by omega)
  unfold crc at he
  exact cmore_set l h (c := 65535) (by omega) (by omega)
end Go.Proofs.Ytkphojcmjffccaa
