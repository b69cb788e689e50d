/- Regions in their own order. -/
import Derived.Test.YtmblapgoimegkaaDoorE15
import Derived.LoopN
set_option linter.unusedSectionVars false
set_option linter.unusedVariables false
set_option linter.unusedSimpArgs false
namespace Go.Proofs.YtmblapgoimegkaaDoor
open Go.RowKit

def guardT (ops : Array Oper) : Option (Nat × Bool) → Option (Option (Nat × Bool))
  | none => some none
  | some (g, b) => match (ops[g]?).bind (·.dst) with
    | some t => some (some (t, b))
    | none => none

def dstOk (N : Nat) : Option Nat → Bool
  | some d => decide (d < N)
  | none => true

def compL (P : Program) (N : Nat) (ops : Array Oper) : List Oper → List MI → Option (List MI)
  | os, .frz t :: hs => match compL P N ops os hs with | some l => some (.frz t :: l) | none => none
  | os, .kill ts :: hs => match compL P N ops os hs with | some l => some (.kill ts :: l) | none => none
  | o :: os, .op _ h _ :: hs => match cop P o h, guardT ops o.guard, dstOk N o.dst, compL P N ops os hs with
    | some m, some g, true, some l => some (.op o.dst m g :: l)
    | _, _, _, _ => none
  | [], [] => some []
  | _, _ => none

section
variable [Off] [Gh] [Old] {P : Program} {φ : Nat → Option (Nat × Nat)} {w0 : World} {N : Nat} {s s' : St} {a : Act} {w w' : World} {d : Nat} {e : Eff}

/-- homes shut or laid aside -/
theorem Evo.weak {H H' : Nat → Blk} {base : Nat} (h : ∀ x, (H' x).ver = (H x).ver ∧ (H' x).cells = (H x).cells ∧ (H' x).isRow = (H x).isRow ∧ ((H' x).live = true → (H x).live = true) ∧ ((H' x).rw = true → (H x).rw = true)) : Evo (sx w H φ base) (sx w H' φ base) where
  S b hb := ⟨hb.1, fun x hl hr p hp => hb.2.1 x ((h x).2.2.2.1 hl) ((h x).2.2.2.2 hr) p hp, hb.2.2⟩
  cell _ _ _ := rfl
  base := Nat.le_refl _
  ver x := by rw [(h x).1]; exact Nat.le_refl _
  same x hl _ := ⟨(h x).2.2.2.1 hl, rfl, by rw [(h x).2.1]; exact Nat.le_refl _⟩
  size _ := Nat.le_refl _

theorem RelC.weak (hr : RelC φ w0 N s a w) {H' : Nat → Blk} (h : ∀ x, (H' x).ver = (s.h x).ver ∧ (H' x).cells = (s.h x).cells ∧ (H' x).isRow = (s.h x).isRow ∧ ((H' x).live = true → (s.h x).live = true) ∧ ((H' x).rw = true → (s.h x).rw = true)) : RelC φ w0 N { t := s.t, h := H' } a w := by
  have he := Evo.weak (φ := φ) (w := w) (base := w0.heap.size) h
  refine hr.putN ⟨fun x hl => ?_, fun x y p q hlx hrx hly hne hpx hpy => ?_, hr.hs.size⟩ he hr.below
  · have hl' := (h x).2.2.2.1 hl
    have hh := hr.hs.home x hl'
    refine ⟨by rw [(h x).2.1]; exact hh.one, by rw [(h x).2.1, (h x).2.2.1]; exact hh.row, hh.low, ?_⟩
    have hat := hh.at_
    show match φ x with
      | none => _
      | some (b, o) => _
    revert hat
    show (match φ x with
      | none => _
      | some (b, o) => _) → _
    cases hp : φ x with
    | none => intro hat; rw [(h x).2.1]; exact hat
    | some p =>
      obtain ⟨b, o⟩ := p
      rintro ⟨cs, T, fr, us, g1, g2, g3, g4, g5⟩
      exact ⟨cs, T, fr, us, g1, fun hrw => g2 ((h x).2.2.2.2 hrw), by rw [(h x).2.1]; exact g3.evo he, g4, g5⟩
  · exact hr.hs.excl x y p q ((h x).2.2.2.1 hlx) ((h x).2.2.2.2 hrx) ((h y).2.2.2.1 hly) hne hpx hpy

theorem frzL_ok : ∀ (cs : List IV) (s : St), (frzL s cs).t = s.t ∧ ∀ x, ((frzL s cs).h x).ver = (s.h x).ver ∧ ((frzL s cs).h x).cells = (s.h x).cells ∧ ((frzL s cs).h x).isRow = (s.h x).isRow ∧ (((frzL s cs).h x).live = true → (s.h x).live = true) ∧ (((frzL s cs).h x).rw = true → (s.h x).rw = true)
  | [], s => ⟨rfl, fun _ => ⟨rfl, rfl, rfl, id, id⟩⟩
  | c :: cs, s => by
    have plain : ∀ s : St, (frzL s cs).t = s.t ∧ ∀ x, ((frzL s cs).h x).ver = (s.h x).ver ∧ ((frzL s cs).h x).cells = (s.h x).cells ∧ ((frzL s cs).h x).isRow = (s.h x).isRow ∧ (((frzL s cs).h x).live = true → (s.h x).live = true) ∧ (((frzL s cs).h x).rw = true → (s.h x).rw = true) := frzL_ok cs
    cases c with
    | row h off n sz ver =>
      simp only [frzL]
      obtain ⟨p1, p2⟩ := plain (s.frzH h)
      refine ⟨p1, fun x => ?_⟩
      obtain ⟨q1, q2, q3, q4, q5⟩ := p2 x
      simp only [St.frzH, upd] at q1 q2 q3 q4 q5
      by_cases hx : x = h
      · subst hx
        simp only [if_true] at q1 q2 q3 q4 q5
        exact ⟨q1, q2, q3, q4, fun e => by have := q5 e; cases this⟩
      · simp only [if_neg hx] at q1 q2 q3 q4 q5
        exact ⟨q1, q2, q3, q4, q5⟩
    | _ => exact plain s

theorem RelC.frz (hr : RelC φ w0 N s a w) (v : IV) : RelC φ w0 N (s.frz v) a w := by
  obtain ⟨h1, h2⟩ := frzL_ok v.cells s
  have := hr.weak h2
  have e : s.frz v = { t := s.t, h := (frzL s v.cells).h } := by
    show frzL s v.cells = _
    rw [← h1]
  rw [e]; exact this

theorem RelC.kill (hr : RelC φ w0 N s a w) (ts : List Nat) : RelC φ w0 N (s.kill ts) a w := ⟨hr.hs, hr.below, hr.size, hr.defers, fun t => by
  simp only [St.kill]
  split
  · simp only [VR]
  · exact hr.t t, hr.g⟩

theorem undef_VR {c : Sx} : VR c (.tup []) undef := by simp only [VR]; exact ⟨[], rfl, rfl, by simp [VRL]⟩

theorem RelC.skip (hr : RelC φ w0 N s a w) {dst : Option Nat} (hd : dstOk N dst = true) : RelC φ w0 N (s.put dst (.tup [])) (a.put dst undef) w := by
  cases dst with
  | none => exact hr
  | some d => exact hr.put hr.hs (Evo.refl _) hr.below (by simpa [dstOk] using hd) undef_VR

theorem yield_bool (hr : RelC φ w0 N s a w) {ops : Array Oper} {g t : Nat} (hg : (ops[g]?).bind (·.dst) = some t) {x : Bool} (hx : s.t t = .bool x) : yielded ops a.tmps g = some x := by
  have h := hr.t t
  rw [hx] at h
  have h := h.bool_
  unfold yielded
  simp only [hg, Option.bind_some]
  rw [Array.getD_eq_getD_getElem?] at h
  cases hh : a.tmps[t]? with
  | none => rw [hh] at h; simp [undef] at h
  | some u => rw [hh] at h; simp at h; subst h; rfl

theorem yield_none (hr : RelC φ w0 N s a w) {ops : Array Oper} {g t : Nat} (hg : (ops[g]?).bind (·.dst) = some t) (hx : s.t t = .tup []) : yielded ops a.tmps g = none := by
  have h := hr.t t
  rw [hx] at h
  simp only [VR, VRL] at h
  obtain ⟨us, h, _, rfl⟩ := h
  unfold yielded
  simp only [hg, Option.bind_some]
  rw [Array.getD_eq_getD_getElem?] at h
  cases hh : a.tmps[t]? with
  | none => rfl
  | some u => rw [hh] at h; simp at h; subst h; rfl

theorem guardT_some {ops : Array Oper} {og : Option (Nat × Bool)} {t : Nat} {b : Bool} (h : guardT ops og = some (some (t, b))) : ∃ g, og = some (g, b) ∧ (ops[g]?).bind (·.dst) = some t := by
  unfold guardT at h
  split at h
  · cases h
  · rename_i g b'
    split at h
    · rename_i t' ht
      injection h with h; injection h with h; injection h with h1 h2
      subst h1; subst h2
      exact ⟨g, rfl, ht⟩
    · cases h
theorem guardT_none {ops : Array Oper} {og : Option (Nat × Bool)} (h : guardT ops og = some none) : og = none := by
  unfold guardT at h
  split at h
  · rfl
  · split at h <;> simp at h

theorem wanted_none {o : Oper} (h : o.guard = none) (y : Nat → Option Bool) : Region.wanted o y = true := by simp [Region.wanted, h]
theorem wanted_some {o : Oper} {g : Nat} {b : Bool} (h : o.guard = some (g, b)) (y : Nat → Option Bool) : Region.wanted o y = (y g == some b) := by simp [Region.wanted, h]

/-- a step of a region -/
theorem stepM_wp (h : RelC φ w0 N s a w) {ops : Array Oper} {i : Nat} {o : Oper} (ho : ops[i]? = some o) {hint m : MOp} (hm : cop P o hint = some m) {g : Option (Nat × Bool)} (hg : guardT ops o.guard = some g) (hd : dstOk N o.dst = true) {K : St → Prop} (hr : stepM (RCs P) s (.op o.dst m g) K)
    {next : Act → World → Prop} {Q : Exit → Act → World → Prop} (hk : ∀ s' a' w', K s' → Rel w0 N s' a' w' → next a' w') : wpOp P ops Q i next a w := by
  have hd' : ∀ x, o.dst = some x → x < N := fun x hx => by rw [hx] at hd; simpa [dstOk] using hd
  unfold wpOp
  simp only [ho]
  simp only [stepM] at hr
  cases g with
  | none =>
    rw [wanted_none (guardT_none hg)]
    exact .inl (runOp_wp h hd' hm hr hk)
  | some tb =>
    obtain ⟨t, b⟩ := tb
    obtain ⟨g, hg1, hg2⟩ := guardT_some hg
    rw [wanted_some hg1]
    simp only at hr
    split at hr
    · rename_i x hx
      rw [yield_bool h hg2 hx]
      split at hr
      · rename_i hxb
        subst hxb
        simp only [BEq.rfl, if_true]
        exact .inl (runOp_wp h hd' hm hr hk)
      · rename_i hxb
        have : (some x == some b) = false := by simp; exact hxb
        rw [this]
        exact hk _ _ _ hr (h.skip hd).rel
    · rename_i hx
      rw [yield_none h hg2 hx]
      exact hk _ _ _ hr (h.skip hd).rel
    · exact hr.elim

theorem runL_wp {ops : Array Oper} {Q : Exit → Act → World → Prop} {K : St → Prop} (hQ : ∀ s a w, K s → Rel w0 N s a w → Q .normal a w) : ∀ (hs : List MI) (os : List Oper) (i : Nat) (l : List MI) (s : St) (a : Act) (w : World), compL P N ops os hs = some l → ops.toList.drop i = os →
    Rel w0 N s a w → runL (RCs P) s l K → wpOps P ops Q (List.range' i os.length) a w
  | .frz t :: hs, os, i, l, s, a, w, hc, hi, hr, hk => by
    simp only [compL] at hc
    split at hc
    · rename_i l' hl
      injection hc with hc; subst hc
      simp only [runL, stepM] at hk
      obtain ⟨φ, hr⟩ := hr.open_
      exact runL_wp hQ hs os i l' _ a w hl hi (hr.frz _).rel hk
    · cases hc
  | .kill ts :: hs, os, i, l, s, a, w, hc, hi, hr, hk => by
    simp only [compL] at hc
    split at hc
    · rename_i l' hl
      injection hc with hc; subst hc
      simp only [runL, stepM] at hk
      obtain ⟨φ, hr⟩ := hr.open_
      exact runL_wp hQ hs os i l' _ a w hl hi (hr.kill _).rel hk
    · cases hc
  | .op _ h _ :: hs, o :: os, i, l, s, a, w, hc, hi, hr, hk => by
    simp only [compL] at hc
    split at hc
    · rename_i m g l' hm hg hd hl
      injection hc with hc; subst hc
      obtain ⟨φ, hr⟩ := hr.open_
      have ho : ops[i]? = some o := by
        have h0 : (ops.toList.drop i)[0]? = some o := by rw [hi]; rfl
        rwa [List.getElem?_drop, Nat.add_zero, Array.getElem?_toList] at h0
      rw [List.length_cons, List.range'_succ, wpOps_cons]
      rw [runL] at hk
      refine stepM_wp hr ho hm hg hd hk (fun s' a' w' hk' hr' => ?_)
      exact runL_wp hQ hs os (i + 1) l' s' a' w' hl (by rw [← List.tail_drop, hi]; rfl) hr' hk'
    · cases hc
  | [], [], i, l, s, a, w, hc, hi, hr, hk => by
    simp only [compL, Option.some.injEq] at hc
    subst hc
    exact hQ _ _ _ hk hr
  | [], _ :: _, _, _, _, _, _, hc, _, _, _ => by simp [compL] at hc
  | .op _ _ _ :: _, [], _, _, _, _, _, hc, _, _, _ => by simp [compL] at hc
end
end Go.Proofs.YtmblapgoimegkaaDoor
