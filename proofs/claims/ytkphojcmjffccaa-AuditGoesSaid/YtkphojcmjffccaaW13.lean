/- The law AuditAdds. -/
import Derived.Test.YtkphojcmjffccaaW12
import Derived.Test.YtkphojcmjffccaaW10
import Derived.Test.YtkphojcmjffccaaK0
import Derived.Test.YtkphojcmjffccaaE31
import Derived.Test.YtkphojcmjffccaaM16
set_option linter.unusedVariables false
set_option linter.unusedSimpArgs false
set_option linter.unusedSectionVars false
set_option maxRecDepth 100000
set_option maxHeartbeats 8000000
namespace Go.Proofs.Ytkphojcmjffccaa
open Go.RowKit

def adds (xs : List Sd) : List En := xs.foldl (fun es x => addE es x.asked x.r) []
theorem adds_snoc (xs : List Sd) (x : Sd) : adds (xs ++ [x]) = addE (adds xs) x.asked x.r := by simp [adds]
theorem addE_ok {es : List En} (h : ∀ e ∈ es, e.Ok) (a : List UInt8) (r : Rp) : ∀ e ∈ addE es a r, e.Ok := by
  intro e he
  unfold addE at he
  split at he
  · rcases List.mem_append.1 he with he | he
    · exact h e he
    · obtain rfl := List.mem_singleton.1 he
      exact newE_ok _ _ _
  · exact h e he
theorem addE_len (es : List En) (a : List UInt8) (r : Rp) : (addE es a r).length ≤ es.length + 1 := by
  unfold addE
  split <;> simp
theorem adds_facts : ∀ (n : Nat) (xs : List Sd), xs.length = n → (adds xs).length ≤ n ∧ ∀ e ∈ adds xs, e.Ok
  | 0, xs, h => by
    obtain rfl := List.eq_nil_of_length_eq_zero h
    exact ⟨by simp [adds], by simp [adds]⟩
  | n + 1, xs, h => by
    rcases List.eq_nil_or_concat xs with rfl | ⟨A, x, rfl⟩
    · simp at h
    rw [List.concat_eq_append] at h ⊢
    obtain ⟨h1, h2⟩ := adds_facts n A (by simpa using h)
    rw [adds_snoc]
    have := addE_len (adds A) x.asked x.r
    exact ⟨by omega, addE_ok h2 _ _⟩

end Go.Proofs.Ytkphojcmjffccaa
