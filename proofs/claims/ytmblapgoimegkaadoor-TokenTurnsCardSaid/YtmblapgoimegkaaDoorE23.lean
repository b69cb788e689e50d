/- Rules for the ideal machine's code. -/
import Derived.Test.YtmblapgoimegkaaDoorE22
set_option linter.unusedSectionVars false
set_option linter.unusedVariables false
set_option linter.unusedSimpArgs false
namespace Go.Proofs.YtmblapgoimegkaaDoor
open Go.RowKit

section
variable [Off] {R : Cs}

theorem runOp_mono {s : St} {d : Option Nat} {o : MOp} {K K' : St → Prop} (h : ∀ s, K s → K' s) : runOp R s d o K → runOp R s d o K' := by
  have gen : (if isAct s o then (match act s d o with | some s' => K s' | none => False)
    else match d with
      | some d => (match neu s d o with | some e => K (s.eff d e) | none => False)
      | none => False) → (if isAct s o then (match act s d o with | some s' => K' s' | none => False)
    else match d with
      | some d => (match neu s d o with | some e => K' (s.eff d e) | none => False)
      | none => False) := by
    intro hr
    split at hr
    · rename_i ha
      rw [if_pos ha]
      split at hr
      · exact h _ hr
      · exact hr
    · rename_i ha
      rw [if_neg ha]
      split at hr
      · split at hr
        · exact h _ hr
        · exact hr
      · exact hr
  intro hr
  cases o
  case call f xs =>
    simp only [runOp] at hr ⊢
    split at hr
    · obtain ⟨as, r, h1, h2, h3, h4⟩ := hr; exact ⟨as, r, h1, h2, h3, h _ h4⟩
    · exact hr
  case callp f xs =>
    simp only [runOp] at hr ⊢
    split at hr
    · obtain ⟨as, r, h1, h2, h3, h4⟩ := hr; exact ⟨as, r, h1, h2, h3, h _ h4⟩
    · exact hr
  case calln f xs =>
    simp only [runOp] at hr ⊢
    obtain ⟨vals, Q, h1, h2, h3⟩ := hr
    exact ⟨vals, Q, h1, h2, fun r h' hq => h _ (h3 r h' hq)⟩
  case calli x xs =>
    simp only [runOp] at hr ⊢
    split at hr
    · obtain ⟨g, as, r, h1, h2, h3, h4, h5⟩ := hr; exact ⟨g, as, r, h1, h2, h3, h4, h _ h5⟩
    · exact hr
  all_goals exact gen hr

theorem stepM_mono {s : St} {i : MI} {K K' : St → Prop} (h : ∀ s, K s → K' s) (hr : stepM R s i K) : stepM R s i K' := by
  cases i with
  | frz t => exact h _ hr
  | kill ts => exact h _ hr
  | op d o g =>
    simp only [stepM] at hr ⊢
    cases g with
    | none => exact runOp_mono h hr
    | some tb =>
      obtain ⟨t, b⟩ := tb
      simp only at hr ⊢
      split at hr
      · split at hr
        · rename_i hx; rw [if_pos hx]; exact runOp_mono h hr
        · rename_i hx; rw [if_neg hx]; exact h _ hr
      · exact h _ hr
      · exact hr

theorem runL_mono : ∀ {l : List MI} {s : St} {K K' : St → Prop}, (∀ s, K s → K' s) → runL R s l K → runL R s l K'
  | [], s, K, K', h, hr => h _ hr
  | i :: l, s, K, K', h, hr => stepM_mono (fun s hs => runL_mono h hs) hr

theorem runP_mono : ∀ {l : List MI} {s : St} {g : Nat → Blk} {K K' : St → Prop}, (∀ s, K s → K' s) → runP R s g l K → runP R s g l K'
  | [], s, g, K, K', h, hr => h _ hr
  | .frz _ :: _, _, _, _, _, _, hr => by simp [runP] at hr
  | .kill _ :: _, _, _, _, _, _, hr => by simp [runP] at hr
  | .op none _ _ :: _, _, _, _, _, _, hr => by simp [runP] at hr
  | .op (some d) o gd :: l, s, g, K, K', h, hr0 => by
    have ih : ∀ s g, runP R s g l K → runP R s g l K' := fun s g hh => runP_mono h hh
    revert hr0
    have body : (match o with
      | .call f args => ∃ as r, s.snaps args = some as ∧ R.C f as r ∧ (s.stabs args = true ∨ r.all IV.scalR = true) ∧
          runP R { s with t := upd s.t d (asRes (impV (hom d) ((s.h (hom d)).ver + 1) r).1) } (match (impV (hom d) ((s.h (hom d)).ver + 1) r).2 with | some cs => upd g (hom d) (freshBlk s (hom d) true true cs) | none => g) l K
      | .callp f args => ∃ as r, s.snaps args = some as ∧ R.C f as r ∧ (s.stabs args = true ∨ r.all IV.scalR = true) ∧ runP R { s with t := upd s.t d (asRes (plainL r)) } g l K
      | o => match neu s d o with
        | some e => runP R { s with t := upd s.t d e.v } (match e.b with | some b => upd g (hom d) b | none => g) l K
        | none => False) → (match o with
      | .call f args => ∃ as r, s.snaps args = some as ∧ R.C f as r ∧ (s.stabs args = true ∨ r.all IV.scalR = true) ∧
          runP R { s with t := upd s.t d (asRes (impV (hom d) ((s.h (hom d)).ver + 1) r).1) } (match (impV (hom d) ((s.h (hom d)).ver + 1) r).2 with | some cs => upd g (hom d) (freshBlk s (hom d) true true cs) | none => g) l K'
      | .callp f args => ∃ as r, s.snaps args = some as ∧ R.C f as r ∧ (s.stabs args = true ∨ r.all IV.scalR = true) ∧ runP R { s with t := upd s.t d (asRes (plainL r)) } g l K'
      | o => match neu s d o with
        | some e => runP R { s with t := upd s.t d e.v } (match e.b with | some b => upd g (hom d) b | none => g) l K'
        | none => False) := by
      intro hr
      split at hr
      · obtain ⟨as, r, h1, h2, h3, h4⟩ := hr; exact ⟨as, r, h1, h2, h3, ih _ _ h4⟩
      · obtain ⟨as, r, h1, h2, h3, h4⟩ := hr; exact ⟨as, r, h1, h2, h3, ih _ _ h4⟩
      · split at hr
        · exact ih _ _ hr
        · exact hr
    intro hr
    simp only [runP] at hr ⊢
    cases gd with
    | none => exact body hr
    | some tb =>
      obtain ⟨t, b⟩ := tb
      simp only at hr ⊢
      split at hr
      · split at hr
        · rename_i hx; rw [if_pos hx]; exact body hr
        · rename_i hx; rw [if_neg hx]; exact ih _ _ hr
      · exact ih _ _ hr
      · exact hr

theorem LoopN_mono {F : (Ex → St → Prop) → St → Prop} (hF : ∀ (Q Q' : Ex → St → Prop) (s : St), (∀ e s, Q e s → Q' e s) → F Q s → F Q' s) : ∀ (n : Nat) {Q Q' : Ex → St → Prop} {s : St}, (∀ e s, Q e s → Q' e s) → LoopN F n Q s → LoopN F n Q' s
  | 0, Q, Q', s, _, h => h
  | n + 1, Q, Q', s, hq, h => hF _ _ _ (fun e s' he => by
      cases e with
      | normal => exact LoopN_mono hF n hq he
      | exit id => exact hq _ _ he
      | ret => exact hq _ _ he) h
theorem LoopN_le {F : (Ex → St → Prop) → St → Prop} (hF : ∀ (Q Q' : Ex → St → Prop) (s : St), (∀ e s, Q e s → Q' e s) → F Q s → F Q' s) : ∀ (n m : Nat) {Q : Ex → St → Prop} {s : St}, n ≤ m → LoopN F n Q s → LoopN F m Q s
  | 0, m, Q, s, _, h => h.elim
  | n + 1, 0, Q, s, hle, h => by omega
  | n + 1, m + 1, Q, s, hle, h => hF _ _ _ (fun e s' he => by
      cases e with
      | normal => exact LoopN_le hF n m (by omega) he
      | exit id => exact he
      | ret => exact he) h

theorem Wp_mono : ∀ {m : MCode} {Q Q' : Ex → St → Prop} {s : St}, (∀ e s, Q e s → Q' e s) → Wp R m Q s → Wp R m Q' s
  | .skip, Q, Q', s, h, hw => h _ _ hw
  | .reg l, Q, Q', s, h, hw => runL_mono (fun s hs => h _ _ hs) hw
  | .drw p l, Q, Q', s, h, hw => runP_mono (fun s hs => runL_mono (fun s hs => h _ _ hs) hs) hw
  | .drc pa c pb suf, Q, Q', s, h, hw => by
    simp only [Wp] at hw ⊢
    split at hw
    · refine runP_mono (fun s1 h1 => ?_) hw
      obtain ⟨F, vals, C, k1, k2, k3, k4, k5⟩ := h1
      exact ⟨F, vals, C, k1, k2, k3, k4, runP_mono (fun sB hB r h' hC => runL_mono (fun s hs => h _ _ hs) (hB r h' hC)) k5⟩
    · exact hw
  | .seq a b, Q, Q', s, h, hw => Wp_mono (m := a) (fun e s' he => by
      cases e with
      | normal => exact Wp_mono (m := b) h he
      | exit id => exact h _ _ he
      | ret => exact h _ _ he) hw
  | .cond c a b, Q, Q', s, h, hw => by
    simp only [Wp] at hw ⊢
    split at hw
    · split at hw
      · rename_i ht; rw [if_pos ht]; exact Wp_mono (m := a) h hw
      · rename_i ht; rw [if_neg ht]; exact Wp_mono (m := b) h hw
    · exact ⟨Wp_mono (m := a) h hw.1, Wp_mono (m := b) h hw.2⟩
    · exact hw
  | .blk id a, Q, Q', s, h, hw => Wp_mono (m := a) (fun e s' he => by
      cases e with
      | normal => exact h _ _ he
      | exit j => simp only at he ⊢; split at he
                  · rename_i hj; rw [if_pos hj]; exact h _ _ he
                  · rename_i hj; rw [if_neg hj]; exact h _ _ he
      | ret => exact h _ _ he) hw
  | .loop a, Q, Q', s, h, hw => by
    obtain ⟨n, hn⟩ := hw
    exact ⟨n, LoopN_mono (F := Wp R a) (fun _ _ _ hq => Wp_mono (m := a) hq) n h hn⟩
  | .exit id, Q, Q', s, h, hw => h _ _ hw
  | .ret, Q, Q', s, h, hw => h _ _ hw

/-- A LOOP: what holds before each round, and a number that falls -/
theorem Wp_loop {a : MCode} {Q : Ex → St → Prop} {s : St} (I : Nat → St → Prop) (k : Nat) (h0 : I k s)
    (hr : ∀ k s, I k s → Wp R a (fun e s' => match e with | .normal => ∃ k', k' < k ∧ I k' s' | e => Q e s') s) : Wp R (.loop a) Q s := by
  refine ⟨k + 1, ?_⟩
  revert s
  induction k using Nat.strongRecOn with
  | _ k ih =>
    intro s h0
    refine Wp_mono (m := a) (fun e s' he => ?_) (hr k s h0)
    cases e with
    | normal =>
      obtain ⟨k', hk', hI⟩ := he
      exact LoopN_le (F := Wp R a) (fun _ _ _ hq => Wp_mono (m := a) hq) (k' + 1) k (by omega) (ih k' hk' hI)
    | exit id => exact he
    | ret => exact he

theorem Wp_seq {a b : MCode} {Q : Ex → St → Prop} {s : St} (J : St → Prop) (h : Wp R a (fun e s' => match e with | .normal => J s' | e => Q e s') s) (hb : ∀ s, J s → Wp R b Q s) : Wp R (.seq a b) Q s :=
  Wp_mono (m := a) (fun e s' he => by
    cases e with
    | normal => exact hb _ he
    | exit id => exact he
    | ret => exact he) h
end

/-! what the walk lays bare -/
theorem upd_same {α : Type} (f : Nat → α) (d : Nat) (v : α) : upd f d v d = v := by simp [upd]
theorem upd_ne {α : Type} (f : Nat → α) {d x : Nat} (v : α) (h : x ≠ d) : upd f d v x = f x := by simp [upd, h]

/-- numbers as cells -/
def il (xs : List Int) : List IV := xs.map (.int .i64)
theorem il_length (xs : List Int) : (il xs).length = xs.length := by simp [il]
theorem asV_at {cs : List IV} {i : Nat} (h : i < cs.length) : asV false ((cs.drop i).take 1) = some cs[i] := by
  rw [List.drop_eq_getElem_cons h]; rfl
theorem asV_il {xs : List Int} {i : Nat} (h : i < xs.length) : asV false (((il xs).drop i).take 1) = some (.int .i64 xs[i]) := by
  rw [asV_at (by simpa [il] using h)]; simp [il]
theorem RC.of_wp [Off] {P : Program} {f : FuncId} {h m : MFunc} (hf : compF P f h = some m) {args r : List IV} (hl : args.length = m.np) (hw : Wp (RCs P) m.body (Post m.res r) (St.start args)) : RC P f args r :=
  RC.of_wpW hf hl (Wp_mono (fun _ _ h => Post_W h) hw)
end Go.Proofs.YtmblapgoimegkaaDoor
