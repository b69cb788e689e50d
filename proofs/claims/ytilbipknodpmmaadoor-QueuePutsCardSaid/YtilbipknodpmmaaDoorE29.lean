/- Arguments by their kinds: rows of bytes and of numbers. -/
import Derived.Test.YtilbipknodpmmaaDoorE27
set_option linter.unusedSectionVars false
set_option linter.unusedVariables false
set_option linter.unusedSimpArgs false
namespace Go.Proofs.YtilbipknodpmmaaDoor
open Go.RowKit

def bl (xs : List UInt8) : List IV:=xs.map fun b => .int .u8 (b.toNat : Int)
theorem bl_length (xs : List UInt8) : (bl xs).length = xs.length:=by simp [bl]
theorem bl_append (xs ys : List UInt8) : bl (xs ++ ys) = bl xs ++ bl ys:=by simp [bl]
theorem drop_bl {xs : List UInt8} {i : Nat} (h : i < xs.length) : (bl xs).drop i = .int .u8 (xs[i].toNat : Int) :: (bl xs).drop (i + 1):=by
  rw [List.drop_eq_getElem_cons (by simpa [bl] using h)]; simp [bl]
theorem take_bl (xs : List UInt8) : (bl xs).take xs.length = bl xs:=List.take_of_length_le (by simp [bl])
theorem bl_take (xs : List UInt8) (n : Nat) : (bl xs).take n = bl (xs.take n):=by simp [bl]
theorem bl_drop (xs : List UInt8) (n : Nat) : (bl xs).drop n = bl (xs.drop n):=by simp [bl]
theorem bl_snoc (xs : List UInt8) (x : UInt8) : bl xs ++ [.int .u8 (x.toNat : Int)] = bl (xs ++ [x]):=by simp [bl]
theorem bl_scal (xs : List UInt8) : (bl xs).all IV.scal = true:=by simp [bl,IV.scal]
theorem bl_pur (xs : List UInt8) : IV.purL (bl xs) = true:=by induction xs <;> simp_all [bl,IV.purL,IV.pur]
theorem il_nil : il [] = []:=rfl

theorem u8_of {n : Int} (h : (Lit.int .u8 n).wf = true) : ∃ b : UInt8,n = (b.toNat : Int):=by
  have hb:=bounds_u8 h
  refine ⟨UInt8.ofNat n.toNat,?_⟩
  rw [UInt8.toNat_ofNat']
  omega
section
variable {P : Program}
theorem arg_of {t : TypeId} {ts : List Ty} {v : IV} (hf : flat P 10 t = some ts) (h : okArg P t v) : ∃ vs,okL ts vs ∧ v = mkArg P t vs:=by
  obtain ⟨ts',vs,hf',h,rfl⟩:=h
  rw [hf] at hf'
  simp only [Option.some.injEq] at hf'
  subst hf'
  exact ⟨vs,h,rfl⟩
end
end Go.Proofs.YtilbipknodpmmaaDoor

/-! Bytes out of numbers; checks of bytes. -/
set_option linter.unusedSectionVars false
set_option linter.unusedVariables false
set_option linter.unusedSimpArgs false
namespace Go.Proofs.YtilbipknodpmmaaDoor
open Go.RowKit

def u8 (n : Nat) : UInt8:=UInt8.ofNat n
theorem u8_toNat (n : Nat) : (u8 n).toNat = n % 256:=by unfold u8; rw [UInt8.toNat_ofNat']
theorem wrap_u8 (n : Nat) : IntKind.u8.wrap (n : Int) = ((u8 n).toNat : Int):=by
  rw [u8_toNat]
  simp only [IntKind.wrap,IntKind.signed,IntKind.bits]
  simp
/-! ### the check of bytes, bit by bit -/
end Go.Proofs.YtilbipknodpmmaaDoor
