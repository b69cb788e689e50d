/- sha.Sum's loop: the blocks, 64 by 64. -/
import Derived.Test.YtlbilkldjhhopaaZ5
set_option linter.unusedSimpArgs false
set_option linter.unusedSectionVars false
set_option linter.unusedVariables false
namespace Go.Proofs.Ytlbilkldjhhopaa
open Go.RowKit Go.Shelf

/-- the engine's memory behind the loop: one home holds new cells -/
theorem RelC.reH {o : Old} {D : List Deferred} {φ : Nat → Option (Nat × Nat)} {w0 w3 W : World} {N b4 o4 : Nat} {T : TypeId} {s : St} {a : Act} {L L0 : List UInt32} (h : @RelC ⟨fun _ _ => False, [], []⟩ o φ w0 N s a w3) (hl : (s.h 4).live = true) (hrw : (s.h 4).rw = true) (hrow : (s.h 4).isRow = false) (hc : (s.h 4).cells = wl L0) (hL0 : L0.length = 8) (hL : L.length = 8) (hφ : φ 4 = some (b4, o4)) (hi : Inv w0 w3 b4 o4 T L W) (ps : List (Nat × Obj)) (hps : ∀ p ∈ ps, (∀ cs T fr, p.2 ≠ .cells cs T fr) ∧ W.heap[p.1]? = some p.2) :
    @RelC ⟨fun _ _ => False, D, ps⟩ o φ w0 N { s with h := upd s.h 4 { s.h 4 with cells := wl L } } { a with defers := D } W := by
  obtain ⟨hs, hbel, hsize, hdf, htt, hgg⟩ := h
  have hH4 : ∀ x, (upd s.h 4 { s.h 4 with cells := wl L } x).live = (s.h x).live ∧ (upd s.h 4 { s.h 4 with cells := wl L } x).rw = (s.h x).rw ∧ (upd s.h 4 { s.h 4 with cells := wl L } x).isRow = (s.h x).isRow ∧ (upd s.h 4 { s.h 4 with cells := wl L } x).ver = (s.h x).ver ∧ (upd s.h 4 { s.h 4 with cells := wl L } x).cells.length = (s.h x).cells.length := by
    intro x
    by_cases hx : x = 4
    · subst hx; simp only [upd, if_true]; refine ⟨trivial, trivial, trivial, trivial, ?_⟩; rw [hc, wl_length, wl_length, hL, hL0]
    · simp only [upd, if_neg hx]; exact ⟨trivial, trivial, trivial, trivial, trivial⟩
  have hE : Evo (@sx o w3 s.h φ w0.heap.size) (@sx o W (upd s.h 4 { s.h 4 with cells := wl L }) φ w0.heap.size) := by
    refine ⟨?_, ?_, Nat.le_refl _, fun x => Nat.le_of_eq (hH4 x).2.2.2.1.symm, ?_, ?_⟩
    · intro b hb
      refine ⟨Nat.lt_of_lt_of_le hb.1 hi.size, fun x hlx hrx p hp => ?_, hb.2.2⟩
      rw [(hH4 x).1] at hlx
      rw [(hH4 x).2.1] at hrx
      exact hb.2.1 x hlx hrx p hp
    · intro b hb i
      have hne : b ≠ b4 := fun e => hb.2.1 4 hl hrw _ hφ e.symm
      simp only [World.cell?, hi.keep b hb.1 hne]
    · intro x hlx _
      rw [(hH4 x).1] at hlx
      exact ⟨hlx, rfl, Nat.le_of_eq (hH4 x).2.2.2.2.symm⟩
    · intro b
      obtain ⟨cs, h1, h2, _⟩ := hi.at_
      by_cases hb : b = b4
      · subst hb; exact Nat.le_of_eq h2.symm
      · by_cases hlt : b < w3.heap.size
        · simp only [bsize, hi.keep b hlt hb]; exact Nat.le_refl _
        · have : w3.heap[b]? = none := Array.getElem?_eq_none (by omega)
          simp only [bsize, this]; exact Nat.zero_le _
  refine @RelC.mk ⟨fun _ _ => False, D, ps⟩ o φ w0 N _ _ W ?_ (@Bel.mk ⟨fun _ _ => False, D, ps⟩ w0 W hi.below hps) hsize rfl (fun t => (htt t).evo hE) (fun v u hg => hg.elim)
  refine ⟨?_, ?_, ?_⟩
  · intro x hlx
    have hlx' : (s.h x).live = true := by rw [← (hH4 x).1]; exact hlx
    have hx0 := hs.home x hlx'
    by_cases hx : x = 4
    · subst hx
      obtain ⟨cs, h1, h2, h3, h4⟩ := hi.at_
      refine ⟨?_, ?_, ?_, ?_⟩
      · simp only [upd, if_true]; exact scal_ones _ (wl_scal L)
      · intro hr; rw [(hH4 4).2.2.1, hrow] at hr; cases hr
      · exact hx0.low
      · have hat := hx0.at_
        simp only [hφ] at hat ⊢
        obtain ⟨_, _, fr, _, _, hfr, _⟩ := hat
        simp only [upd, if_true]
        refine ⟨cs, T, (0, 0), w32v L, h1, fun _ => ⟨rfl, (hfr hrw).2⟩, VRL_wl L, fun i hi => h4 i hi, by simp [w32v, hL]; omega⟩
    · have hux : upd s.h 4 { s.h 4 with cells := wl L } x = s.h x := by simp only [upd, if_neg hx]
      refine ⟨by simp only [hux]; exact hx0.one, by simp only [hux]; exact hx0.row, hx0.low, ?_⟩
      have hat := hx0.at_
      simp only [hux]
      cases hp : φ x with
      | none => simp only [hp] at hat; exact hat
      | some p =>
        obtain ⟨b, o'⟩ := p
        simp only [hp] at hat ⊢
        obtain ⟨cs, T', fr, us, g1, g2, g3, g4, g5⟩ := hat
        have hne : b ≠ b4 := fun e => hs.excl 4 x _ _ hl hrw hlx' (fun e => hx e.symm) hφ hp e.symm
        have hlt : b < w3.heap.size := (Array.getElem?_eq_some_iff.1 g1).1
        exact ⟨cs, T', fr, us, by rw [hi.keep b hlt hne]; exact g1, g2, g3.evo hE, g4, g5⟩
  · intro x x' p p' hlx hrx hlx' hne hp hp'
    rw [(hH4 x).1] at hlx
    rw [(hH4 x).2.1] at hrx
    rw [(hH4 x').1] at hlx'
    exact hs.excl x x' p p' hlx hrx hlx' hne hp hp'
  · exact Nat.le_trans hs.size hi.size

/-- H behind those blocks of m -/
def hF (m : List UInt8) {N : Nat} (pre : List (Fin N)) : H8 := pre.foldl (fun h x => toH8 (turnH h ((m.drop (64 * x.1)).take 64))) start8
theorem hF_snoc (m : List UInt8) {N : Nat} (pre : List (Fin N)) (x : Fin N) : hF m (pre ++ [x]) = toH8 (turnH (hF m pre) ((m.drop (64 * x.1)).take 64)) := by simp [hF]
theorem hF_up (m : List UInt8) (N : Nat) : ∀ k, k ≤ N → hF m (upN N k) = hashN m k
  | 0, _ => rfl
  | k + 1, h => by rw [upN_succ (by omega), hF_snoc, hF_up m N k (by omega)]; rfl
theorem H8_len (h : H8) : h.l.length = 8 := rfl
end Go.Proofs.Ytlbilkldjhhopaa
