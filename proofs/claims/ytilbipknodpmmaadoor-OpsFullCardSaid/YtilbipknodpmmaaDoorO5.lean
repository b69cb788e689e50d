/- slices.Delete of one volume: its contract in place. -/
import Derived.Test.YtilbipknodpmmaaDoorO4
import Derived.Test.YtilbipknodpmmaaDoorE31
import Derived.Test.YtilbipknodpmmaaDoorB1
import Derived.Lib.JoinLaws
import Derived.Lib.AppendZeros
import Derived.Deep.WholeRow
set_option linter.unusedVariables false
set_option linter.unusedSimpArgs false
set_option linter.unusedSectionVars false
set_option maxRecDepth 100000
namespace Go.Proofs.YtilbipknodpmmaaDoor
open Go.RowKit Go.Shelf Go.Lib

theorem setCells_row {P : Program} {b o : Nat} {T : TypeId} (vs : List Value) (cs : Array Value) (w : World) (hg : w.heap[b]? = some (.cells cs T (0, 0))) (hfit : o + vs.length ≤ cs.size) (h1 : ∀ v ∈ vs, v.oneCell' = true) :
    w.setCells b o vs = w.setRow b (cs.toList.take o ++ vs ++ cs.toList.drop (o + vs.length)).toArray := by
  have e1 := run_storeCells_at P b o T vs 0 cs w hg (by simpa using hfit) h1
  have e2 := run_storeCells_cells (P := P) b o vs 0 w (fun j hj => by
    simp only [World.cell?, hg, Nat.add_zero]
    rw [Array.getElem?_eq_getElem (by omega)]; rfl) (fun j hj => by
    simp only [World.frozen?, hg]
    simp) h1
  rw [e1] at e2
  injection e2 with _ e2
  simpa using e2.symm

theorem wrote_del (P : Program) {b o n i : Nat} {T : TypeId} {z1 z2 : Value} (olds : List Value) (cs : Array Value) (w : World) (hg : w.heap[b]? = some (.cells cs T (0, 0))) (hin : i < n) (hl : olds.length = n * 2) (hfit : o + n * 2 ≤ cs.size)
    (hat : ∀ j v, olds[j]? = some v → cs[o + j]? = some v) (h1 : ∀ v ∈ olds, v.oneCell' = true) (hz1 : z1.oneCell' = true) (hz2 : z2.oneCell' = true) :
    Wrote w ((w.setCells b (o + i * 2) (olds.drop ((i + 1) * 2))).setCells b (o + (n - 1) * 2) [z1, z2]) b o (olds.take (i * 2) ++ olds.drop ((i + 1) * 2) ++ [z1, z2]) := by
  have hnl : (olds.take (i * 2) ++ olds.drop ((i + 1) * 2) ++ [z1, z2]).length = n * 2 := by
    simp only [List.length_append, List.length_take, List.length_drop, List.length_cons, List.length_nil, hl]; omega
  refine ⟨cs, T, hg, by rw [hnl]; exact hfit, ?_⟩
  have hsz : cs.toList.length = cs.size := Array.length_toList
  have ho : (cs.toList.drop o).take (n * 2) = olds := by
    apply List.ext_getElem?
    intro j
    rw [List.getElem?_take]
    by_cases hj : j < n * 2
    · rw [if_pos hj, List.getElem?_drop, Array.getElem?_toList]
      rw [List.getElem?_eq_getElem (by omega)]
      exact hat j _ (List.getElem?_eq_getElem (by omega))
    · rw [if_neg hj, List.getElem?_eq_none (by omega)]
  obtain ⟨L, R, hcs, hL⟩ : ∃ L R, cs.toList = L ++ (olds ++ R) ∧ L.length = o := by
    refine ⟨cs.toList.take o, (cs.toList.drop o).drop (n * 2), ?_, by simp; omega⟩
    rw [← ho, List.take_append_drop, List.take_append_drop]
  have hD : (olds.drop ((i + 1) * 2)).length = (n - 1 - i) * 2 := by rw [List.length_drop, hl]; omega
  have hT : (olds.take (i * 2)).length = i * 2 := by rw [List.length_take, hl]; omega
  rw [setCells_row (P := P) (olds.drop ((i + 1) * 2)) cs w hg (by rw [hD]; omega) (fun v hv => h1 v (List.mem_of_mem_drop hv)),
    setCells_row (P := P) [z1, z2] _ _ (setRow_heap w b cs _ T (0, 0) hg) (by
      simp only [List.size_toArray, List.length_append, List.length_take, List.length_drop, List.length_cons, List.length_nil, hsz, hl]; omega) (by simp [hz1, hz2]), setRow_setRow]
  congr 2
  rw [hcs, hnl, hD]
  obtain ⟨D, hDD⟩ : ∃ D, D = olds.drop ((i + 1) * 2) := ⟨_, rfl⟩
  obtain ⟨F, hFF⟩ : ∃ F, F = olds.take (i * 2) := ⟨_, rfl⟩
  rw [← hDD] at hD ⊢
  rw [← hFF] at hT ⊢
  have e1 : List.take (o + i * 2) (L ++ (olds ++ R)) = L ++ F := by
    rw [List.take_append, List.take_of_length_le (by omega), hL, show o + i * 2 - o = i * 2 by omega, List.take_append_of_le_length (by omega), ← hFF]
  obtain ⟨E2, hE2⟩ : ∃ E2, E2 = olds.drop ((n - 1) * 2) := ⟨_, rfl⟩
  have lE2 : E2.length = 2 := by rw [hE2, List.length_drop, hl]; omega
  have e2 : List.drop (o + i * 2 + (n - 1 - i) * 2) (L ++ (olds ++ R)) = E2 ++ R := by
    rw [List.drop_append, List.drop_of_length_le (by omega), hL, show o + i * 2 + (n - 1 - i) * 2 - o = (n - 1) * 2 by omega, List.nil_append, List.drop_append_of_le_length (by omega), ← hE2]
  have e3 : List.drop (o + n * 2) (L ++ (olds ++ R)) = R := by
    rw [List.drop_append, List.drop_of_length_le (by omega), hL, show o + n * 2 - o = n * 2 by omega, List.nil_append, ← hl, List.drop_left]
  have e4 : List.take o (L ++ (olds ++ R)) = L := by rw [← hL, List.take_left]
  rw [e1, e2, e3, e4]
  have t1 : (L ++ F ++ D).length = o + (n - 1) * 2 := by simp only [List.length_append, hL, hT, hD]; omega
  have e5 : List.take (o + (n - 1) * 2) (L ++ F ++ D ++ (E2 ++ R)) = L ++ F ++ D := by rw [← t1, List.take_left]
  have e6 : List.drop (o + (n - 1) * 2 + [z1, z2].length) (L ++ F ++ D ++ (E2 ++ R)) = R := by
    rw [← t1, ← List.drop_drop, List.drop_left]
    show List.drop 2 (E2 ++ R) = R
    rw [← lE2, List.drop_left]
  rw [e5, e6]
  simp
section
variable [Off] [Gh] [Old] {P : Program} {φ : Nat → Option (Nat × Nat)} {w0 : World} {N : Nat} {w w' : World}
theorem HS.insIn {H : Nat → Blk} {base : Nat} (hs : HS (sx w H φ base)) {h d b ob off : Nat} (hl : (H h).live = true) (hr : (H h).rw = true) (hrow : (H h).isRow = true) (hφ : φ h = some (b, ob)) {vs : List Value} (hw : Wrote w w' b (ob + off) vs) {ds : List IV} (hd : VRL (sx w H φ base) ds vs) (h1 : ds.all IV.one = true) (hp : IV.purL ds = true)
    (blk : Blk) (hv : (upd H h { H h with ver := (H h).ver + 1, live := false } d).ver < blk.ver) (hbc : blk.cells = ds) :
    HS (sx w' (upd (upd H h { H h with ver := (H h).ver + 1, live := false }) d blk) (upd φ d (some (b, ob + off))) base) where
  home x hlx := by
    have he := Evo.appIn (φ := φ) (off := off) (base := base) hl hr hφ hw blk hv
    by_cases hxd : x = d
    · subst hxd
      have hh := hs.home h hl
      refine ⟨?_, ?_, ?_, ?_⟩
      · simp only [upd, if_true, hbc]; exact h1
      · simp only [upd, if_true, hbc]; intro _; exact hp
      · simp only [upd, if_true, Option.some.injEq]; rintro p rfl; exact hh.low (b, ob) hφ
      · have hat := hh.at_
        simp only [hφ] at hat
        simp only [upd, if_true]
        obtain ⟨cs, T, fr, us, e1, e2, e3, e4, e5⟩ := hat
        obtain ⟨cs1, cs', T', g1, g2, g3, g4, g5, g6⟩ := hw.get
        have e1' : w.heap[b]? = some (.cells cs T fr) := e1
        rw [g1] at e1'
        injection e1' with e1'; injection e1' with q1 q2 q3
        subst q1 q2 q3
        have hfit : ob + off + vs.length ≤ cs'.size := by
          obtain ⟨cs2, T2, f1, f2, _⟩ := hw.ex
          rw [g1] at f1
          injection f1 with f1; injection f1 with f1
          subst f1
          omega
        refine ⟨cs', T', (0, 0), vs, g2, fun _ => ⟨rfl, (e2 hr).2⟩, ?_, fun j hj => g5 j hj, hfit⟩
        rw [hbc]; exact hd.evo he
    · by_cases hxh : x = h
      · subst hxh; simp only [upd, if_neg hxd, if_true, Bool.false_eq_true] at hlx
      · have hlx' : (H x).live = true := by simpa only [upd, if_neg hxd, if_neg hxh] using hlx
        refine (hs.home x hlx').evo he (by simp only [upd, if_neg hxd, if_neg hxh]) (by simp only [upd, if_neg hxd]) rfl (fun c oc hc => hw.old (fun e => ?_))
        subst e
        exact hs.excl h x (c, ob) (c, oc) hl hr hlx' (fun e => hxh e.symm) hφ hc rfl
  excl x y p q hlx hrx hly hne hpx hpy := by
    by_cases hxd : x = d
    · subst hxd
      have hyd : y ≠ x := fun e => hne e.symm
      by_cases hyh : y = h
      · subst hyh; simp only [upd, if_neg hyd, if_true, Bool.false_eq_true] at hly
      · simp only [upd, if_neg hyd, if_neg hyh] at hly hpy
        simp only [upd, if_true, Option.some.injEq] at hpx
        subst hpx
        exact hs.excl h y (b, ob) q hl hr hly (fun e => hyh e.symm) hφ hpy
    · by_cases hxh : x = h
      · subst hxh; simp only [upd, if_neg hxd, if_true, Bool.false_eq_true] at hlx
      · simp only [upd, if_neg hxd, if_neg hxh] at hlx hrx hpx
        by_cases hyd : y = d
        · subst hyd
          simp only [upd, if_true, Option.some.injEq] at hpy
          subst hpy
          exact fun e => hs.excl h x (b, ob) p hl hr hlx (fun e => hxh e.symm) hφ hpx e.symm
        · by_cases hyh : y = h
          · subst hyh; simp only [upd, if_neg hyd, if_true, Bool.false_eq_true] at hly
          · simp only [upd, if_neg hyd, if_neg hyh] at hly hpy
            exact hs.excl x y p q hlx hrx hly hne hpx hpy
  size := by have := hs.size; show base ≤ w'.heap.size; rw [hw.size]; exact this
end

def delC (X : List IV) (i : Nat) : List IV := X.take (i * 2) ++ X.drop ((i + 1) * 2) ++ [.str [], .sl .full 0 []]
def delBlk (H : Nat → Blk) (hx off i : Nat) : Blk := ⟨(H hx).ver + 2, true, true, true, delC ((H hx).cells.drop off) i⟩
def delQ (H : Nat → Blk) (hx off n i : Nat) (r : List IV) (h' : Nat → Blk) : Prop :=
  r = [.row hx 0 (n - 1) 2 ((H hx).ver + 2)] ∧ h' = upd (upd H hx { H hx with ver := (H hx).ver + 1, live := false }) hx (delBlk H hx off i)
theorem del_ok {H : Nat → Blk} {hx off n i : Nat} (hl : (H hx).live = true) (hrw : (H hx).rw = true) (hrow : (H hx).isRow = true) (hoff : off + n * 2 = (H hx).cells.length) (hin : i < n) (hn : n < 2 ^ 36) :
    IC Tryd.prog 53 H [.row hx off n 2 (H hx).ver, .int .i64 i, .int .i64 ((i : Int) + 1)] (delQ H hx off n i) := by
  refine ⟨by kernel_rfl, ?_⟩
  intro o w0 w φ us G L hs hb hv hG
  letI := o
  letI : Gh := ⟨G, [], L⟩
  letI : Off := ⟨hx⟩
  have rel : @RelC ⟨G, [], L⟩ o φ w0 1 ⟨fun _ => .undef, H⟩ ⟨#[undef], []⟩ w := ⟨hs, hb, rfl, rfl, fun t => by simp only [VR], hG⟩
  simp only [VRL] at hv
  obtain ⟨u1, _, rfl, h1, u2, _, rfl, h2, u3, _, rfl, h3, rfl⟩ := hv
  simp only [VR] at h2 h3
  subst h2 h3
  -- the row
  obtain ⟨A, k, olds, e1, e2, e3, e4, e5⟩ := row_cells hs h1 hl rfl (n * 2) rfl
  subst e1
  simp only [VR] at h1
  obtain ⟨_, A', k', ea, _, hr⟩ := h1
  injection ea with ea1 _ ea2
  subst ea1 ea2
  have hr' := hr hl trivial
  unfold rowR at hr'
  have hseg : ((H hx).cells.drop off).take (n * 2) = (H hx).cells.drop off := List.take_of_length_le (by simp; omega)
  rw [hseg] at e2
  have hone := (hs.home hx hl).one
  have h1o : ∀ v ∈ olds, v.oneCell' = true := ones_cell e2 (all_drop hone _)
  cases hφ : φ hx with
  | none => simp only [hφ] at hr'; omega
  | some p =>
    obtain ⟨b, ob⟩ := p
    simp only [hφ] at hr'
    have hA : A = some ⟨b, ob + off, none⟩ := by rcases hr'.2.1 with h | h; omega; exact h
    have hat := (hs.home hx hl).at_
    simp only [hφ] at hat
    obtain ⟨cs, T, fr, us, f1, f2, f3, f4, f5⟩ := hat
    obtain ⟨rfl, hbb⟩ := f2 hrw
    have f1' : w.heap[b]? = some (.cells cs T (0, 0)) := f1
    have hbs : bsize w b = cs.size := by simp only [bsize, f1']
    subst hA
    obtain ⟨b2, o2, q1, q2⟩ := e5 (by intro h; rw [h] at e3; simp at e3; omega)
    injection q1 with q1; injection q1 with q1 q3
    subst q1 q3
    refine Calls.mono (del_calls b (ob + off) n k i olds w hin e4 hn e3 q2 (fun j => by simp only [World.frozen?, f1']; simp) h1o) ?_
    rintro e w' ⟨rfl, rfl⟩
    have hbel : Below w.heap.size w w.drew := ⟨rfl, rfl, rfl, Nat.le_refl _, fun _ _ => rfl⟩
    have rel' := rel.called hbel
    have e2' := e2.evo (Evo.called hs hbel)
    have hats : ∀ j v, olds[j]? = some v → cs[ob + off + j]? = some v := fun j v hj => by
      have := q2 j v hj
      simp only [World.cell?, f1'] at this
      exact this
    have hw := wrote_del Tryd.prog (z1 := .string ⟨#[]⟩) (z2 := .slice none 0 0) olds cs w.drew f1' hin e3 (by rw [← hbs]; have := hr'.2.2; omega) hats h1o rfl rfl
    have hd : VRL (sx w.drew H φ w0.heap.size) (delC ((H hx).cells.drop off) i) (olds.take (i * 2) ++ olds.drop ((i + 1) * 2) ++ [.string ⟨#[]⟩, .slice none 0 0]) := by
      unfold delC
      refine VRL.append (VRL.append (e2'.take _) (e2'.drop _)) ?_
      simp only [VRL, VR]
      refine ⟨_, _, rfl, rfl, _, _, rfl, ⟨none, 0, [], rfl, Nat.le_refl _, fun _ => rfl, fun h => (by cases h), rfl, rfl, rfl, fun i hi => absurd hi (Nat.not_lt_zero _)⟩, rfl⟩
    have hall : (delC ((H hx).cells.drop off) i).all IV.one = true := by
      unfold delC
      rw [List.all_append, List.all_append]
      have a1 : (((H hx).cells.drop off).take (i * 2)).all IV.one = true := List.all_eq_true.2 fun v hv => List.all_eq_true.1 (all_drop hone off) v (List.mem_of_mem_take hv)
      have a2 : (((H hx).cells.drop off).drop ((i + 1) * 2)).all IV.one = true := all_drop (all_drop hone off) _
      rw [a1, a2]; rfl
    have hpur0 : IV.purL ((H hx).cells.drop off) = true := purL_drop ((hs.home hx hl).row hrow) off
    have hpur : IV.purL (delC ((H hx).cells.drop off) i) = true := by
      unfold delC
      exact purL_append (purL_append (purL_take hpur0 _) (purL_drop hpur0 _)) rfl
    have hdl : (delC ((H hx).cells.drop off) i).length = n * 2 := by
      unfold delC
      simp only [List.length_append, List.length_take, List.length_drop, List.length_cons, List.length_nil]; omega
    have hver : (upd H hx { H hx with ver := (H hx).ver + 1, live := false } hx).ver < (delBlk H hx off i).ver := by simp only [upd, if_true, delBlk]; omega
    have hlow := (hs.home hx hl).low (b, ob) hφ
    have relF : @RelC ⟨G, [], L⟩ o (upd φ hx (some (b, ob + off))) w0 1 ⟨upd (fun _ => .undef) 0 (.row hx 0 (n - 1) 2 ((H hx).ver + 2)), upd (upd H hx { H hx with ver := (H hx).ver + 1, live := false }) hx (delBlk H hx off i)⟩ ((⟨#[undef], []⟩ : Act).put (some 0) (.slice (some ⟨b, ob + off, none⟩) (n - 1) k)) ((w.drew.setCells b (ob + off + i * 2) (olds.drop ((i + 1) * 2))).setCells b (ob + off + (n - 1) * 2) [.string ⟨#[]⟩, .slice none 0 0]) := by
      refine rel'.put (HS.insIn (off := off) rel'.hs hl hrw hrow hφ hw hd hall hpur (delBlk H hx off i) hver rfl) (Evo.appIn (off := off) hl hrw hφ hw (delBlk H hx off i) hver) (hw.bel rel'.below hlow) (by omega) ?_
      simp only [VR, upd, if_true, delBlk]
      refine ⟨Nat.le_refl _, some ⟨b, ob + off, none⟩, k, rfl, by omega, fun _ _ => ?_⟩
      unfold rowR
      simp only [upd, if_true, hdl, Nat.zero_add, Nat.add_zero]
      refine ⟨by omega, (by first | exact .inr rfl | exact .inr trivial), ?_⟩
      rw [hw.bsize]; exact hr'.2.2
    obtain ⟨g1, g2, g3, g4, g5, g6⟩ := relF
    refine ⟨_, rfl, _, _, _, [_], ⟨rfl, rfl⟩, g1, g2, g6, rfl, ?_, rfl⟩
    simp only [VRL]
    have := g5 0
    have ha : ((⟨#[undef], []⟩ : Act).put (some 0) (.slice (some ⟨b, ob + off, none⟩) (n - 1) k)).tmps.getD 0 undef = .slice (some ⟨b, ob + off, none⟩) (n - 1) k := rfl
    rw [ha] at this
    exact ⟨_, [], rfl, by simpa only [upd, if_true] using this, rfl⟩
end Go.Proofs.YtilbipknodpmmaaDoor
