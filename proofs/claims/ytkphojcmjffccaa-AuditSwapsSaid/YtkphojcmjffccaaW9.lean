/- Of verifying: what was added is right, its beginning too; with one entry turned, the first that is wrong is it. -/
import Derived.Test.YtkphojcmjffccaaW7
import Derived.Test.YtkphojcmjffccaaE31
set_option linter.unusedVariables false
set_option linter.unusedSimpArgs false
set_option linter.unusedSectionVars false
set_option maxRecDepth 100000
set_option maxHeartbeats 8000000
namespace Go.Proofs.Ytkphojcmjffccaa
open Go.RowKit

/-- the link ahead of what comes behind xs, from h on -/
def lastG (h : List UInt8) : List En → List UInt8
  | [] => h
  | x :: xs => lastG x.link xs
theorem lastG_app : ∀ (h : List UInt8) (A : List En) (x : En), lastG h (A ++ [x]) = x.link
  | _, [], _ => rfl
  | _, _ :: A, x => lastG_app _ A x
theorem lastG_lastE (xs : List En) : lastG y32 xs = lastE xs := by
  rcases List.eq_nil_or_concat xs with rfl | ⟨A, x, rfl⟩
  · rfl
  · rw [List.concat_eq_append, lastG_app, lastE, List.getLast?_concat]
theorem verG_nonneg : ∀ (xs : List En) (h : List UInt8) (i : Nat), verG h xs i = -1 ∨ (i : Int) ≤ verG h xs i
  | [], _, _ => .inl rfl
  | x :: xs, h, i => by
    unfold verG
    split
    · rcases verG_nonneg xs x.link (i + 1) with h1 | h1
      · exact .inl h1
      · exact .inr (by omega)
    · exact .inr (Int.le_refl _)
theorem verG_app : ∀ (A B : List En) (h : List UInt8) (i : Nat), verG h A i = -1 → verG h (A ++ B) i = verG (lastG h A) B (i + A.length)
  | [], _, _, _, _ => rfl
  | x :: A, B, h, i, hv => by
    unfold verG at hv
    by_cases c : recE x.id x.e = 0 ∧ shaB (h ++ recR x.asked x.id x.e) = x.link
    · rw [if_pos c] at hv
      rw [List.cons_append, verG, if_pos c, verG_app A B x.link (i + 1) hv, lastG, List.length_cons]
      congr 1; omega
    · rw [if_neg c] at hv; omega
theorem verG_pre : ∀ (A B : List En) (h : List UInt8) (i : Nat), verG h (A ++ B) i = -1 → verG h A i = -1
  | [], _, _, _, _ => rfl
  | x :: A, B, h, i, hv => by
    rw [List.cons_append, verG] at hv
    by_cases c : recE x.id x.e = 0 ∧ shaB (h ++ recR x.asked x.id x.e) = x.link
    · rw [if_pos c] at hv
      rw [verG, if_pos c]
      exact verG_pre A B x.link (i + 1) hv
    · rw [if_neg c] at hv; omega
theorem verG_add {xs : List En} (h : verG y32 xs 0 = -1) (a : List UInt8) (r : Rp) (hr : recE r.id r.e = 0) : verG y32 (xs ++ [newE xs a r]) 0 = -1 := by
  rw [verG_app _ _ _ _ h, lastG_lastE, verG, if_pos ⟨hr, rfl⟩]; rfl
theorem verG_take {xs : List En} (h : verG y32 xs 0 = -1) (k : Nat) : verG y32 (xs.take k) 0 = -1 := by
  rw [← List.take_append_drop k xs] at h
  exact verG_pre _ _ _ _ h
/-- what the entry's own test says -/
def okAt (h : List UInt8) (x : En) : Prop := recE x.id x.e = 0 ∧ shaB (h ++ recR x.asked x.id x.e) = x.link
theorem verG_at {xs ys : List En} (h : verG y32 xs 0 = -1) {k : Nat} (hk : k ≤ xs.length) (x : En) (hx : ¬ okAt (lastE (xs.take k)) x) : verG y32 (xs.take k ++ x :: ys) 0 = (k : Int) := by
  unfold okAt at hx
  rw [verG_app _ _ _ _ (verG_take h k), lastG_lastE, verG, if_neg hx, List.length_take, Nat.zero_add, Nat.min_eq_left hk]
theorem okAt_of {xs : List En} (h : verG y32 xs 0 = -1) {k : Nat} (hk : k < xs.length) : okAt (lastE (xs.take k)) xs[k] := by
  have e : xs = xs.take k ++ xs[k] :: xs.drop (k + 1) := by rw [List.getElem_cons_drop hk, List.take_append_drop]
  by_cases c : okAt (lastE (xs.take k)) xs[k]
  · exact c
  · have := verG_at (ys := xs.drop (k + 1)) h (Nat.le_of_lt hk) _ c
    rw [← e, h] at this; omega
theorem lastE_take {xs : List En} {k : Nat} (hk : k < xs.length) : lastE (xs.take (k + 1)) = xs[k].link := by
  rw [List.take_succ_eq_append_getElem hk, lastE, List.getLast?_concat]
/-- numbers that a reply carries -/
theorem recE_small {i e : Int} (h : 0 ≤ i ∧ i ≤ 2147483647 ∧ 0 ≤ e ∧ e ≤ 255) : recE i e = 0 := by
  unfold recE encE
  obtain ⟨h1, h2, h3, h4⟩ := h
  exact if_pos (good_of (id := i) (e := e) (f := .full) (d := []) (by omega) (by omega) (by omega) (by omega) (by simp))
/-- cells of entries, one of them set -/
theorem enL_setAt {xs : List En} (hx : ∀ x ∈ xs, x.Ok) {k : Nat} (hk : k < xs.length) : enL xs = enL (xs.take k) ++ enC xs[k] ++ enL (xs.drop (k + 1)) := by
  have e : xs = xs.take k ++ xs[k] :: xs.drop (k + 1) := by rw [List.getElem_cons_drop hk, List.take_append_drop]
  refine (congrArg enL e).trans ?_
  rw [enL_append, List.append_assoc]; rfl
/-- one cell set -/
theorem put_at {P S : List IV} {v : IV} {m : Nat} (h : P.length = m) : List.take 1 (List.drop m (P ++ v :: S)) = [v] ∧ ∀ w, List.take m (P ++ v :: S) ++ [w] ++ List.drop (m + 1) (P ++ v :: S) = P ++ w :: S := by
  subst h
  refine ⟨by simp, fun w => ?_⟩
  rw [List.take_append_of_le_length (Nat.le_refl _), List.take_length, ← List.drop_drop]
  simp
theorem en_id {A B : List En} {x : En} (hx : x.Ok) {m : Nat} (h : (enL A).length = m) : List.take 1 (List.drop (m + 32) (enL A ++ enC x ++ enL B)) = [.int .i64 x.id] ∧ ∀ w, List.take (m + 32) (enL A ++ enC x ++ enL B) ++ [.int .i64 w] ++ List.drop (m + 32 + 1) (enL A ++ enC x ++ enL B) = enL A ++ enC { x with id := w } ++ enL B := by
  have la : (bl x.asked).length = 32 := by rw [bl_length, hx.a]
  have e : enL A ++ enC x ++ enL B = (enL A ++ bl x.asked) ++ .int .i64 x.id :: (.int .i64 x.e :: (bl x.link ++ enL B)) := by simp [enC]
  obtain ⟨h1, h2⟩ := put_at (P := enL A ++ bl x.asked) (S := .int .i64 x.e :: (bl x.link ++ enL B)) (v := .int .i64 x.id) (m := m + 32) (by rw [List.length_append, h, la])
  rw [e]
  exact ⟨h1, fun w => by rw [h2]; simp [enC]⟩
theorem en_e {A B : List En} {x : En} (hx : x.Ok) {m : Nat} (h : (enL A).length = m) : List.take 1 (List.drop (m + 33) (enL A ++ enC x ++ enL B)) = [.int .i64 x.e] ∧ ∀ w, List.take (m + 33) (enL A ++ enC x ++ enL B) ++ [.int .i64 w] ++ List.drop (m + 33 + 1) (enL A ++ enC x ++ enL B) = enL A ++ enC { x with e := w } ++ enL B := by
  have la : (bl x.asked).length = 32 := by rw [bl_length, hx.a]
  have e : enL A ++ enC x ++ enL B = (enL A ++ (bl x.asked ++ [.int .i64 x.id])) ++ .int .i64 x.e :: (bl x.link ++ enL B) := by simp [enC]
  obtain ⟨h1, h2⟩ := put_at (P := enL A ++ (bl x.asked ++ [.int .i64 x.id])) (S := bl x.link ++ enL B) (v := .int .i64 x.e) (m := m + 33) (by rw [List.length_append, List.length_append, h, la]; rfl)
  rw [e]
  exact ⟨h1, fun w => by rw [h2]; simp [enC]⟩
theorem en_link {A B : List En} {x : En} (hx : x.Ok) {m j : Nat} (h : (enL A).length = m) (hj : j < 32) : ∃ b : UInt8, x.link[j]? = some b ∧ List.take 1 (List.drop (m + 34 + j) (enL A ++ enC x ++ enL B)) = [.int .u8 (b.toNat : Nat)] ∧ ∀ w : UInt8, List.take (m + 34 + j) (enL A ++ enC x ++ enL B) ++ [.int .u8 (w.toNat : Nat)] ++ List.drop (m + 34 + j + 1) (enL A ++ enC x ++ enL B) = enL A ++ enC { x with link := x.link.set j w } ++ enL B := by
  have la : (bl x.asked).length = 32 := by rw [bl_length, hx.a]
  have hl := hx.l
  have hj' : j < x.link.length := by omega
  obtain ⟨b, hb⟩ : ∃ b, b = x.link[j] := ⟨_, rfl⟩
  have el : x.link = x.link.take j ++ b :: x.link.drop (j + 1) := by rw [hb, List.getElem_cons_drop hj', List.take_append_drop]
  have es : ∀ w, x.link.set j w = x.link.take j ++ w :: x.link.drop (j + 1) := fun w => by rw [List.set_eq_take_append_cons_drop, if_pos hj']
  obtain ⟨p, hp⟩ : ∃ p, p = x.link.take j := ⟨_, rfl⟩
  obtain ⟨q, hq⟩ : ∃ q, q = x.link.drop (j + 1) := ⟨_, rfl⟩
  have hpl : p.length = j := by rw [hp, List.length_take]; omega
  rw [← hp, ← hq] at el es
  have e : enL A ++ enC x ++ enL B = (enL A ++ (bl x.asked ++ [.int .i64 x.id, .int .i64 x.e] ++ bl p)) ++ .int .u8 (b.toNat : Nat) :: (bl q ++ enL B) := by
    rw [enC, el]; simp [bl]
  obtain ⟨h1, h2⟩ := put_at (P := enL A ++ (bl x.asked ++ [.int .i64 x.id, .int .i64 x.e] ++ bl p)) (S := bl q ++ enL B) (v := .int .u8 (b.toNat : Nat)) (m := m + 34 + j) (by simp [h, la, bl_length, hpl]; omega)
  refine ⟨b, by rw [List.getElem?_eq_getElem hj', hb], ?_⟩
  rw [e]
  exact ⟨h1, fun w => by rw [h2, enC, es]; simp [bl]⟩
end Go.Proofs.Ytkphojcmjffccaa
