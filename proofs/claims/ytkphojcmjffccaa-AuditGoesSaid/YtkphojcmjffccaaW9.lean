/- Of verifying: what was added is right, its beginning too; with one entry turned, the first that is wrong is it. -/
import Derived.Test.YtkphojcmjffccaaW7
import Derived.Test.YtkphojcmjffccaaE31
set_option linter.unusedVariables false
set_option linter.unusedSimpArgs false
set_option linter.unusedSectionVars false
set_option maxRecDepth 100000
set_option maxHeartbeats 8000000
namespace Go.Proofs.Ytkphojcmjffccaa
open Go.RowKit

def lastG (h : List UInt8) : List En → List UInt8
  | [] => h
  | x :: xs => lastG x.link xs
theorem lastG_app : ∀ (h : List UInt8) (A : List En) (x : En), lastG h (A ++ [x]) = x.link
  | _, [], _ => rfl
  | _, _ :: A, x => lastG_app _ A x
theorem lastG_lastE (xs : List En) : lastG y32 xs = lastE xs := by
  rcases List.eq_nil_or_concat xs with rfl | ⟨A, x, rfl⟩
  · rfl
  · rw [List.concat_eq_append, lastG_app, lastE, List.getLast?_concat]
theorem verG_app : ∀ (A B : List En) (h : List UInt8) (i : Nat), verG h A i = -1 → verG h (A ++ B) i = verG (lastG h A) B (i + A.length)
  | [], _, _, _, _ => rfl
  | x :: A, B, h, i, hv => by
    unfold verG at hv
    by_cases c : recE x.id x.e = 0 ∧ shaB (h ++ recR x.asked x.id x.e) = x.link
    · rw [if_pos c] at hv
      rw [List.cons_append, verG, if_pos c, verG_app A B x.link (i + 1) hv, lastG, List.length_cons]
      congr 1; omega
    · rw [if_neg c] at hv; omega
theorem verG_add {xs : List En} (h : verG y32 xs 0 = -1) (a : List UInt8) (r : Rp) (hr : recE r.id r.e = 0) : verG y32 (xs ++ [newE xs a r]) 0 = -1 := by
  rw [verG_app _ _ _ _ h, lastG_lastE, verG, if_pos ⟨hr, rfl⟩]; rfl
end Go.Proofs.Ytkphojcmjffccaa
