/- Contracts, and calls. -/
import Derived.Test.YtilbipknodpmmaaDoorE13
set_option linter.unusedSectionVars false
set_option linter.unusedVariables false
set_option linter.unusedSimpArgs false
namespace Go.Proofs.YtilbipknodpmmaaDoor
open Go.RowKit

def deadH : Nat → Blk := fun _ => ⟨0, false, false, false, []⟩

@[reducible] def cArg (A : Nat → Prop) (w : World) : Sx := ⟨w, A, deadH, fun _ => none, w.heap.size⟩
@[reducible] def cAll (w : World) : Sx := cArg (fun b => b < w.heap.size) w

def RowOwn (w w' : World) (B : Nat → Prop) (n sz : Nat) (cs : List IV) (u : Value) : Prop :=
  n * sz = cs.length ∧ cs.all IV.one = true ∧ IV.purL cs = true ∧ ∃ A k, u = .slice A n k ∧ n ≤ k ∧
    ((cs = [] ∧ n = 0 ∧ k = 0) ∨ ∃ b o ccs T vs, (k = 0 ∨ A = some ⟨b, o, none⟩) ∧ w'.heap[b]? = some (.cells ccs T (0, 0)) ∧ ¬ B b ∧ w.heap.size ≤ b ∧ VRL ⟨w', B, deadH, fun _ => none, w.heap.size⟩ cs vs ∧ (∀ i (hi : i < vs.length), ccs[o + i]? = some vs[i]) ∧ o + vs.length ≤ ccs.size ∧ o + k * sz ≤ ccs.size)

def resOne (w w' : World) (B : Nat → Prop) : IV → Value → Prop
  | .own n sz cs, u => RowOwn w w' B n sz cs u
  | x, u => x.pur = true ∧ x.nlit = true ∧ VR ⟨w', B, deadH, fun _ => none, w.heap.size⟩ x u

def asVal : List Value → Value
  | [u] => u
  | us => .tuple us.toArray

def ResR (A : Nat → Prop) (w w' : World) (r : List IV) (rv : Value) : Prop :=
  ∃ (B : Nat → Prop) (us : List Value), rv = asVal us ∧ (∀ b, B b → (b < w.heap.size → A b) ∧ b < w'.heap.size) ∧ F2 (resOne w w' B) r us ∧ (r.filter isOwn).length ≤ 1

def PCalls (P : Program) (f : FuncId) (args r : List IV) : Prop :=
  ∀ (w : World) (A : Nat → Prop) (vals : List Value), (∀ b, A b → b < w.heap.size) → args.all IV.nlit = true → IV.purL args = true → VRL (cArg A w) args vals →
    Calls P f vals.toArray w fun e w' => ∃ rv, e = .returned rv ∧ ResR A w w' r rv ∧ Below w.heap.size w w'

section
variable [Off] [Gh] [Old] {P : Program} {φ : Nat → Option (Nat × Nat)} {w0 : World} {N : Nat} {s s' : St} {a : Act} {w w' : World} {d : Nat} {e : Eff}

theorem evoArg (w : World) (H : Nat → Blk) (φ : Nat → Option (Nat × Nat)) (base : Nat) : EvoP (sx w H φ base) (cAll w) := ⟨fun _ h => h.1, fun _ _ _ => rfl⟩

theorem live_row {H : Nat → Blk} {base : Nat} (hs : HS (sx w H φ base)) {h off n sz ver : Nat} {u : Value} (hv : VR (sx w H φ base) (.row h off n sz ver) u) (hl : (H h).live = true) (he : (H h).ver = ver)
    (hp : (H h).isRow = true ∨ IV.purL (((H h).cells.drop off).take (n * sz)) = true) : VR (cAll w) (.sl .plain n (((H h).cells.drop off).take (n * sz))) u := by
  obtain ⟨A, k, us, rfl, g2, g3, g4, g5⟩ := row_cells hs hv hl he _ rfl
  have hone := all_take (all_drop (hs.home h hl).one off) (n * sz)
  have hpur : IV.purL (((H h).cells.drop off).take (n * sz)) = true := by
    rcases hp with hp | hp
    · exact purL_take (purL_drop ((hs.home h hl).row hp) _) _
    · exact hp
  simp only [VR]
  refine ⟨A, k, us, rfl, g4, by simp, by simp, hpur, hone, g2.evoP (evoArg w H φ base) hpur (ones_nlit hone), fun i hi => ?_⟩
  obtain ⟨b, o', rfl, hrange⟩ := g5 (by intro e; rw [e] at hi; simp at hi)
  have hc := hrange i _ (List.getElem?_eq_getElem hi)
  exact ⟨⟨b, o', none⟩, rfl, rfl, World.block_lt_of_cell? w ⟨b, o' + i, none⟩ hc, hc⟩

theorem snapB_VR (h : RelC φ w0 N s a w) {v v' : IV} (hn : s.snapB v = some v') {u : Value} (hv : VR (sx w s.h φ w0.heap.size) v u) : VR (cAll w) v' u ∧ v'.pur = true ∧ v'.nlit = true := by
  have ev := evoArg w s.h φ w0.heap.size
  cases v <;> simp only [St.snapB] at hn <;> try (cases hn; done)
  case int k n => injection hn with hn; subst hn; exact ⟨hv.evoP ev rfl rfl, rfl, rfl⟩
  case bool b => injection hn with hn; subst hn; exact ⟨hv.evoP ev rfl rfl, rfl, rfl⟩
  case str l => injection hn with hn; subst hn; exact ⟨hv.evoP ev rfl rfl, rfl, rfl⟩
  case nilp => injection hn with hn; subst hn; exact ⟨hv.evoP ev rfl rfl, rfl, rfl⟩
  case sl f n cs =>
    have hpur : IV.purL cs = true := by simp only [VR] at hv; obtain ⟨_, _, _, _, _, _, _, h5, _⟩ := hv; exact h5
    cases f with
    | plain => simp only [Option.some.injEq] at hn; subst hn; exact ⟨hv.evoP ev hpur rfl, hpur, rfl⟩
    | full => simp only [Option.some.injEq] at hn; subst hn; exact ⟨hv.evoP ev hpur rfl, hpur, rfl⟩
    | lit =>
      simp only [Option.some.injEq] at hn; subst hn
      have hv' : VR (sx w s.h φ w0.heap.size) (.sl .full n cs) u := by
        simp only [VR] at hv ⊢
        obtain ⟨A, k, us, h1, h2, h3, h4, h5, h6, h7, h8⟩ := hv
        exact ⟨A, k, us, h1, h2, fun _ => h3 (by simp), by simp, h5, h6, h7, h8⟩
      exact ⟨hv'.evoP ev hpur rfl, hpur, rfl⟩
  case row x off n sz ver =>
    split at hn
    · rename_i hc
      obtain ⟨h1, h2⟩ := hc
      injection hn with hn; subst hn
      simp only [St.ok, Bool.and_eq_true, beq_iff_eq] at h1
      have := live_row h.hs hv h1.1 h1.2 h2
      refine ⟨this, ?_, rfl⟩
      simp only [VR] at this
      obtain ⟨_, _, _, _, _, _, _, h5, _⟩ := this
      exact h5
    · cases hn

theorem snapP_VR (h : RelC φ w0 N s a w) {v v' : IV} (hn : s.snapP v = some v') {u : Value} (hv : VR (sx w s.h φ w0.heap.size) v u) : VR (cAll w) v' u ∧ v'.pur = true ∧ v'.nlit = true := by
  cases v
  case ptr x off ver =>
    simp only [St.snapP] at hn
    split at hn
    · rename_i hc
      obtain ⟨h1, h2⟩ := hc
      injection hn with hn; subst hn
      simp only [St.ok, Bool.and_eq_true, beq_iff_eq] at h1
      obtain ⟨b, o, us, rfl, g2, g3⟩ := ptr_cells h.hs hv h1.1 h1.2
      have hone := all_drop (h.hs.home x h1.1).one off
      refine ⟨?_, h2, rfl⟩
      simp only [VR]
      refine ⟨_, us, rfl, rfl, h2, hone, g2.evoP (evoArg w s.h φ w0.heap.size) h2 (ones_nlit hone), fun i hi => ?_⟩
      have hc := g3 i _ (List.getElem?_eq_getElem hi)
      exact ⟨⟨b, o, none⟩, rfl, rfl, World.block_lt_of_cell? w ⟨b, o + i, none⟩ hc, hc⟩
    · cases hn
  case addr cs =>
    simp only [St.snapP, Option.some.injEq] at hn
    subst hn
    have hpur : IV.purL cs = true := by simp only [VR] at hv; obtain ⟨_, _, _, _, h3, _⟩ := hv; exact h3
    exact ⟨hv.evoP (evoArg w s.h φ w0.heap.size) hpur rfl, hpur, rfl⟩
  all_goals exact snapB_VR h (by simpa only [St.snapP] using hn) hv

theorem snapPL_VR (h : RelC φ w0 N s a w) : ∀ {vs vs' : List IV}, s.snapPL vs = some vs' → ∀ {us : List Value}, VRL (sx w s.h φ w0.heap.size) vs us → VRL (cAll w) vs' us ∧ IV.purL vs' = true ∧ vs'.all IV.nlit = true
  | [], vs', hn, us, hv => by simp only [St.snapPL, Option.some.injEq] at hn; subst hn; simp only [VRL] at hv ⊢; exact ⟨hv, rfl, rfl⟩
  | v :: vs, vs', hn, us, hv => by
    simp only [St.snapPL] at hn
    split at hn
    · rename_i x xs hx hxs
      injection hn with hn; subst hn
      simp only [VRL] at hv
      obtain ⟨u, us', rfl, hu, hus⟩ := hv
      obtain ⟨a1, a2, a3⟩ := snapP_VR h hx hu
      obtain ⟨b1, b2, b3⟩ := snapPL_VR h hxs hus
      exact ⟨VRL.cons a1 b1, by simp [IV.purL, a2, b2], by simp [a3, b3]⟩
    · cases hn

theorem snapB_one {v v' : IV} (hn : s.snapB v = some v') : v'.one = true := by
  cases v <;> simp only [St.snapB] at hn <;> try (cases hn; done)
  all_goals try (injection hn with hn; subst hn; rfl)
  · rename_i f n cs
    cases f <;> (simp only [Option.some.injEq] at hn; subst hn; rfl)
  · split at hn
    · injection hn with hn; subst hn; rfl
    · cases hn

theorem snapL_VR (h : RelC φ w0 N s a w) : ∀ {vs vs' : List IV}, s.snapL vs = some vs' → ∀ {us : List Value}, VRL (sx w s.h φ w0.heap.size) vs us → VRL (cAll w) vs' us ∧ IV.purL vs' = true ∧ vs'.all IV.one = true
  | [], vs', hn, us, hv => by simp only [St.snapL, Option.some.injEq] at hn; subst hn; simp only [VRL] at hv ⊢; exact ⟨hv, rfl, rfl⟩
  | v :: vs, vs', hn, us, hv => by
    simp only [St.snapL] at hn
    split at hn
    · rename_i x xs hx hxs
      injection hn with hn; subst hn
      simp only [VRL] at hv
      obtain ⟨u, us', rfl, hu, hus⟩ := hv
      obtain ⟨a1, a2, _⟩ := snapB_VR h hx hu
      obtain ⟨b1, b2, b3⟩ := snapL_VR h hxs hus
      exact ⟨VRL.cons a1 b1, by simp [IV.purL, a2, b2], by simp [snapB_one hx, b3]⟩
    · cases hn

theorem snap_VR (h : RelC φ w0 N s a w) {v v' : IV} (hn : s.snap v = some v') {u : Value} (hv : VR (sx w s.h φ w0.heap.size) v u) : VR (cAll w) v' u ∧ v'.pur = true ∧ v'.nlit = true := by
  have ev := evoArg w s.h φ w0.heap.size
  cases v
  case agg cs =>
    simp only [St.snap] at hn
    have hv0 := hv
    simp only [VR] at hv0
    obtain ⟨us, rfl, h1, hl⟩ := hv0
    split at hn
    · rename_i hsc
      injection hn with hn; subst hn
      obtain ⟨p, q⟩ := scal_pur hsc
      exact ⟨hv.evoP ev p rfl, p, rfl⟩
    · split at hn
      · rename_i cs' hcs
        injection hn with hn; subst hn
        obtain ⟨b1, b2, b3⟩ := snapL_VR h hcs hl
        refine ⟨?_, b2, rfl⟩
        simp only [VR]
        exact ⟨us, rfl, b3, b1⟩
      · cases hn
  case lits n sz cs =>
    simp only [St.snap] at hn
    simp only [VR] at hv
    obtain ⟨A, us, rfl, _, h1, hl, hat⟩ := hv
    split at hn
    · rename_i cs' hcs
      injection hn with hn; subst hn
      obtain ⟨b1, b2, b3⟩ := snapL_VR h hcs hl
      refine ⟨?_, b2, rfl⟩
      simp only [VR]
      exact ⟨A, n, us, rfl, Nat.le_refl _, by simp, by simp, b2, b3, b1, hat.evoP ev⟩
    · cases hn
  case clo f caps =>
    simp only [St.snap, St.snap1] at hn
    split at hn
    · rename_i cs hcs
      injection hn with hn; subst hn
      simp only [VR] at hv
      obtain ⟨us, rfl, _, hl⟩ := hv
      obtain ⟨b1, b2, b3⟩ := snapPL_VR h hcs hl
      refine ⟨?_, b2, rfl⟩
      simp only [VR]
      exact ⟨us, rfl, b3, b1⟩
    · cases hn
  all_goals exact snapB_VR h (by simpa only [St.snap, St.snap1] using hn) hv

theorem snaps_VR (h : RelC φ w0 N s a w) : ∀ {l : List Operand} {qs : List Opd} {as : List IV}, opds l = some qs → s.snaps qs = some as → VRL (cAll w) as (l.map a.eval) ∧ IV.purL as = true ∧ as.all IV.nlit = true
  | [], qs, as, h1, h2 => by
    simp only [opds, Option.some.injEq] at h1; subst h1
    simp only [St.snaps, Option.some.injEq] at h2; subst h2
    exact ⟨by simp [VRL], rfl, rfl⟩
  | x :: l, qs, as, h1, h2 => by
    simp only [opds] at h1
    split at h1
    · rename_i y ys hy hys
      injection h1 with h1; subst h1
      simp only [St.snaps] at h2
      split at h2
      · rename_i v hv
        split at h2
        · rename_i v' vs' hs hvs
          injection h2 with h2; subst h2
          obtain ⟨a1, a2, a3⟩ := snap_VR h hs (get_VR h hy hv)
          obtain ⟨b1, b2, b3⟩ := snaps_VR h hys hvs
          exact ⟨VRL.cons a1 b1, by simp [IV.purL, a2, b2], by simp [a3, b3]⟩
        · cases h2
      · cases h2
    · cases h1

/-! what stands for good -/
theorem evoSt (w : World) (H : Nat → Blk) (φ : Nat → Option (Nat × Nat)) (base : Nat) : EvoP (sx w H φ base) (cArg (stb w H φ base) w) := ⟨fun _ h => h, fun _ _ _ => rfl⟩

theorem snapB_st (h : RelC φ w0 N s a w) {v v' : IV} (hn : s.snapB v = some v') (hst : ∀ x off n sz ver, v = .row x off n sz ver → (s.h x).rw = false) {u : Value} (hv : VR (sx w s.h φ w0.heap.size) v u) : VR (cArg (stb w s.h φ w0.heap.size) w) v' u := by
  have ev := evoSt w s.h φ w0.heap.size
  obtain ⟨_, q1, q2⟩ := snapB_VR h hn hv
  cases v <;> simp only [St.snapB] at hn <;> try (cases hn; done)
  case int k n => injection hn with hn; subst hn; exact hv.evoP ev rfl rfl
  case bool b => injection hn with hn; subst hn; exact hv.evoP ev rfl rfl
  case str l => injection hn with hn; subst hn; exact hv.evoP ev rfl rfl
  case nilp => injection hn with hn; subst hn; exact hv.evoP ev rfl rfl
  case sl f n cs =>
    have hpur : IV.purL cs = true := by simp only [VR] at hv; obtain ⟨_, _, _, _, _, _, _, h5, _⟩ := hv; exact h5
    cases f with
    | plain => simp only [Option.some.injEq] at hn; subst hn; exact hv.evoP ev hpur rfl
    | full => simp only [Option.some.injEq] at hn; subst hn; exact hv.evoP ev hpur rfl
    | lit =>
      simp only [Option.some.injEq] at hn; subst hn
      have hv' : VR (sx w s.h φ w0.heap.size) (.sl .full n cs) u := by
        simp only [VR] at hv ⊢
        obtain ⟨A, k, us, h1, h2, h3, h4, h5, h6, h7, h8⟩ := hv
        exact ⟨A, k, us, h1, h2, fun _ => h3 (by simp), by simp, h5, h6, h7, h8⟩
      exact hv'.evoP ev hpur rfl
  case row x off n sz ver =>
    split at hn
    · rename_i hc
      obtain ⟨h1, h2⟩ := hc
      injection hn with hn; subst hn
      simp only [St.ok, Bool.and_eq_true, beq_iff_eq] at h1
      exact (frozen_row h.hs hv h1.1 h1.2 (hst _ _ _ _ _ rfl) h2).evoP ev q1 q2
    · cases hn

theorem snapL_st (h : RelC φ w0 N s a w) : ∀ {vs vs' : List IV}, s.snapL vs = some vs' → (∀ x off n sz ver, IV.row x off n sz ver ∈ vs → (s.h x).rw = false) → ∀ {us : List Value}, VRL (sx w s.h φ w0.heap.size) vs us → VRL (cArg (stb w s.h φ w0.heap.size) w) vs' us
  | [], vs', hn, _, us, hv => by simp only [St.snapL, Option.some.injEq] at hn; subst hn; simp only [VRL] at hv ⊢; exact hv
  | v :: vs, vs', hn, hst, us, hv => by
    simp only [St.snapL] at hn
    split at hn
    · rename_i x xs hx hxs
      injection hn with hn; subst hn
      simp only [VRL] at hv
      obtain ⟨u, us', rfl, hu, hus⟩ := hv
      exact VRL.cons (snapB_st h hx (fun x off n sz ver e => hst x off n sz ver (by simp [e])) hu) (snapL_st h hxs (fun x off n sz ver e => hst x off n sz ver (by simp [e])) hus)
    · cases hn

theorem snap_st (h : RelC φ w0 N s a w) {v v' : IV} (hn : s.snap v = some v') (hst : s.stab v = true) {u : Value} (hv : VR (sx w s.h φ w0.heap.size) v u) : VR (cArg (stb w s.h φ w0.heap.size) w) v' u := by
  have ev := evoSt w s.h φ w0.heap.size
  cases v
  case agg cs =>
    simp only [St.snap] at hn
    have hv0 := hv
    simp only [VR] at hv0
    obtain ⟨us, rfl, h1, hl⟩ := hv0
    split at hn
    · rename_i hsc
      injection hn with hn; subst hn
      obtain ⟨p, q⟩ := scal_pur hsc
      exact hv.evoP ev p rfl
    · split at hn
      · rename_i cs' hcs
        injection hn with hn; subst hn
        obtain ⟨_, _, b3⟩ := snapL_VR h hcs hl
        simp only [VR]
        refine ⟨us, rfl, b3, snapL_st h hcs (fun x off n sz ver hm => ?_) hl⟩
        simp only [St.stab, List.all_eq_true] at hst
        have := hst _ hm
        simpa using this
      · cases hn
  case clo f caps => simp [St.stab] at hst
  case lits n sz cs => simp [St.stab] at hst
  case ptr x off ver => simp [St.stab] at hst
  case row x off n sz ver => exact snapB_st h (by simpa only [St.snap, St.snap1] using hn) (fun x' off' n' sz' ver' e => by injection e with e1; subst e1; simpa [St.stab] using hst) hv
  all_goals exact snapB_st h (by simpa only [St.snap, St.snap1] using hn) (by simp) hv

theorem snaps_st (h : RelC φ w0 N s a w) : ∀ {l : List Operand} {qs : List Opd} {as : List IV}, opds l = some qs → s.snaps qs = some as → s.stabs qs = true → VRL (cArg (stb w s.h φ w0.heap.size) w) as (l.map a.eval)
  | [], qs, as, h1, h2, _ => by
    simp only [opds, Option.some.injEq] at h1; subst h1
    simp only [St.snaps, Option.some.injEq] at h2; subst h2
    simp [VRL]
  | x :: l, qs, as, h1, h2, h3 => by
    simp only [opds] at h1
    split at h1
    · rename_i y ys hy hys
      injection h1 with h1; subst h1
      simp only [St.snaps] at h2
      simp only [St.stabs, Bool.and_eq_true] at h3
      split at h2
      · rename_i v hv
        rw [hv] at h3
        split at h2
        · rename_i v' vs' hs hvs
          injection h2 with h2; subst h2
          exact VRL.cons (snap_st h hs h3.1 (get_VR h hy hv)) (snaps_st h hys hvs h3.2)
        · cases h2
      · cases h2
    · cases h1

theorem VR.scal_ {c c' : Sx} {x : IV} {u : Value} (hx : x.scal = true) (h : VR c x u) : VR c' x u := by
  cases x <;> first | (simp [IV.scal] at hx; done) | (simp only [VR] at h ⊢; exact h)
theorem VRL.scal_ {c c' : Sx} : ∀ {xs : List IV} {us : List Value}, xs.all IV.scal = true → VRL c xs us → VRL c' xs us
  | [], us, _, h => by simp only [VRL] at h ⊢; exact h
  | x :: xs, us, hx, h => by
    simp only [List.all_cons, Bool.and_eq_true] at hx
    simp only [VRL] at h
    obtain ⟨u, us', rfl, h1, h2⟩ := h
    exact VRL.cons (h1.scal_ hx.1) (VRL.scal_ hx.2 h2)

theorem resOne_scal {B B' : Nat → Prop} {x : IV} {u : Value} (hx : x.scalR = true) (h : resOne w w' B x u) : resOne w w' (fun _ => False) x u := by
  cases x
  case own n sz cs =>
    obtain ⟨e1, e2, e3, A, k, rfl, hnk, e4⟩ := h
    refine ⟨e1, e2, e3, A, k, rfl, hnk, ?_⟩
    rcases e4 with e4 | ⟨b, o, ccs, T, vs, hA, hblk, hnB, hwb, hvs, rest⟩
    · exact .inl e4
    · exact .inr ⟨b, o, ccs, T, vs, hA, hblk, by simp, hwb, VRL.scal_ (by simpa [IV.scalR] using hx) hvs, rest⟩
  case agg cs =>
    obtain ⟨h1, h2, h3⟩ := h
    refine ⟨h1, h2, ?_⟩
    simp only [VR] at h3 ⊢
    obtain ⟨us, g1, g2, g3⟩ := h3
    exact ⟨us, g1, g2, VRL.scal_ (by simpa [IV.scalR] using hx) g3⟩
  case sl f n cs =>
    obtain ⟨h1, h2, h3⟩ := h
    refine ⟨h1, h2, ?_⟩
    have : cs = [] := by simpa [IV.scalR] using hx
    subst this
    simp only [VR] at h3 ⊢
    obtain ⟨A, k, us, g1, g2, g3, g4, g5, g6, g7, g8⟩ := h3
    simp only [VRL] at g7
    subst g7
    exact ⟨A, k, [], g1, g2, g3, fun e => (by subst e; simp [IV.nlit] at h2), g5, g6, by simp [VRL], fun i hi => by simp at hi⟩
  all_goals first
    | (simp [IV.scalR, IV.scal] at hx; done)
    | (obtain ⟨h1, h2, h3⟩ := h; exact ⟨h1, h2, h3.scal_ rfl⟩)

theorem ResR.scal {A : Nat → Prop} {r : List IV} {rv : Value} (h : ResR A w w' r rv) (hr : r.all IV.scalR = true) (A' : Nat → Prop) : ResR A' w w' r rv := by
  obtain ⟨B, us, h1, h2, h3, h4⟩ := h
  refine ⟨fun _ => False, us, h1, fun _ h => h.elim, ?_, h4⟩
  clear h1 h4
  induction h3 with
  | nil => exact .nil
  | cons hx _ ih =>
    simp only [List.all_cons, Bool.and_eq_true] at hr
    exact .cons (resOne_scal (B' := B) hr.1 hx) (ih hr.2)

/-! ### behind a call -/
theorem Evo.called {H : Nat → Blk} {base : Nat} (hs : HS (sx w H φ base)) (hb : Below w.heap.size w w') : Evo (sx w H φ base) (sx w' H φ base) where
  S b h := ⟨Nat.lt_of_lt_of_le h.1 hb.size, h.2⟩
  cell b h i := by simp only [World.cell?, hb.block b h.1]
  base := Nat.le_refl _
  ver _ := Nat.le_refl _
  same _ hl _ := ⟨hl, rfl, Nat.le_refl _⟩
  size b := by
    by_cases h : b < w.heap.size
    · simp only [bsize, hb.block b h]; exact Nat.le_refl _
    · simp only [bsize]; rw [Array.getElem?_eq_none (by omega)]; exact Nat.zero_le _

theorem RelC.called (h : RelC φ w0 N s a w) (hb : Below w.heap.size w w') : RelC φ w0 N s a w' where
  hs := ⟨fun x hl => (h.hs.home x hl).evo (Evo.called h.hs hb) rfl rfl rfl (fun b off hp => hb.block b (home_lt h.hs hl hp)), h.hs.excl, Nat.le_trans h.hs.size hb.size⟩
  below := h.below.call h.hs.size hb
  size := h.size
  defers := h.defers
  t t := (h.t t).evo (Evo.called h.hs hb)
  g v u hg := (h.g v u hg).evo (Evo.called h.hs hb)

theorem evoRes (h : RelC φ w0 N s a w) {B : Nat → Prop} (hB : ∀ b, B b → (b < w.heap.size → stb w s.h φ w0.heap.size b) ∧ b < w'.heap.size) : EvoP ⟨w', B, deadH, fun _ => none, w.heap.size⟩ (sx w' s.h φ w0.heap.size) :=
  ⟨fun b hb => ⟨(hB b hb).2, fun x hl hr p hp => by
    by_cases hlt : b < w.heap.size
    · exact ((hB b hb).1 hlt).2.1 x hl hr p hp
    · obtain ⟨b', o⟩ := p
      have := home_lt h.hs hl hp
      simp only at this ⊢
      omega, fun hlt => by
    have hs : w0.heap.size ≤ w.heap.size := h.hs.size
    exact ((hB b hb).1 (by omega)).2.2 hlt⟩, fun _ _ _ => rfl⟩

theorem plainRes {B : Nat → Prop} {n : Nat} {w w' : World} (hn : n = w.heap.size) : ∀ {r : List IV} {us : List Value}, F2 (resOne w w' B) r us → (∀ x ∈ r, isOwn x = false) → VRL ⟨w', B, deadH, fun _ => none, n⟩ r us ∧ IV.purL r = true ∧ r.all IV.nlit = true
  | [], us, h, _ => by cases h; exact ⟨by simp [VRL], rfl, rfl⟩
  | x :: r, us, h, ho => by
    cases h with
    | @cons _ u _ us hx hr =>
      obtain ⟨a1, a2, a3⟩ := plainRes hn hr (fun y hy => ho y (by simp [hy]))
      have hxo := ho x (by simp)
      have : x.pur = true ∧ x.nlit = true ∧ VR ⟨w', B, deadH, fun _ => none, w.heap.size⟩ x u := by
        cases x <;> first | exact hx | simp [isOwn] at hxo
      subst hn
      exact ⟨VRL.cons this.2.2 a1, by simp [IV.purL, this.1, a2], by simp [this.2.1, a3]⟩

theorem asRes_VR {c : Sx} {r : List IV} {us : List Value} (h : VRL c r us) (hn : r.all IV.nlit = true) : VR c (asRes r) (asVal us) := by
  have hl := h.length
  match r, us, h, hl, hn with
  | [], us, h, hl, _ => simp only [VRL] at h; subst h; simp only [asRes, asVal, VR]; exact ⟨[], rfl, rfl, by simp [VRL]⟩
  | [x], [u], h, _, _ =>
    simp only [VRL] at h
    obtain ⟨u', us', e, h1, _⟩ := h
    injection e with e1 e2
    subst e1
    simpa only [asRes, asVal] using h1
  | x :: y :: r, us, h, hl, hn =>
    match us, hl, h with
    | u :: v :: us, _, h => simp only [asRes, asVal, VR]; exact ⟨u :: v :: us, rfl, hn, h⟩
end
end Go.Proofs.YtilbipknodpmmaaDoor

/-! A call, in both machines; one operation. -/
set_option linter.unusedSectionVars false
set_option linter.unusedVariables false
set_option linter.unusedSimpArgs false
namespace Go.Proofs.YtilbipknodpmmaaDoor
open Go.RowKit

def IC (P : Program) (f : FuncId) (h : Nat → Blk) (vals : List IV) (Q : List IV → (Nat → Blk) → Prop) : Prop := goodFn P f = true ∧
  ∀ (o : Old) (w0 w : World) (φ : Nat → Option (Nat × Nat)) (us : List Value) (G : IV → Value → Prop) (L : List (Nat × Obj)), HS (@sx o w h φ w0.heap.size) → @Bel ⟨G, [], L⟩ w0 w → VRL (@sx o w h φ w0.heap.size) vals us →
    (∀ v u, G v u → VR (@sx o w h φ w0.heap.size) v u) →
    Calls P f us.toArray w fun e w' => ∃ rv, e = .returned rv ∧ ∃ (φ' : Nat → Option (Nat × Nat)) (h' : Nat → Blk) (r : List IV) (us' : List Value), Q r h' ∧ HS (@sx o w' h' φ' w0.heap.size) ∧ @Bel ⟨G, [], L⟩ w0 w' ∧
      (∀ v u, G v u → VR (@sx o w' h' φ' w0.heap.size) v u) ∧ rv = asVal us' ∧ VRL (@sx o w' h' φ' w0.heap.size) r us' ∧ r.all IV.nlit = true

def RC (P : Program) (f : FuncId) (args r : List IV) : Prop := goodFn P f = true ∧ PCalls P f args r
@[reducible] def RCs (P : Program) : Cs := ⟨RC P, IC P⟩

section
variable [Off] [Gh] [Old] {P : Program} {φ : Nat → Option (Nat × Nat)} {w0 : World} {N : Nat} {s s' : St} {a : Act} {w w' : World} {d : Nat} {e : Eff}

theorem run_callFunc {f : FuncId} (hg : goodFn P f = true) (args : Array Value) (w : World) : (callFunc f args).run P w = .ok (.enter f args) w := by
  unfold goodFn at hg
  split at hg
  · rename_i fn hf
    simp only [Bool.and_eq_true, Bool.not_eq_true'] at hg
    have hb : fn.body.isNone = false := by cases hh : fn.body <;> simp [hh] at hg ⊢
    simp only [callFunc, Sem.run_bind, run_program, Result.andThen_ok, hf, hg.2, hb, Bool.false_eq_true, if_false, Sem.run_pure]
  · cases hg

theorem run_callV {o : Oper} {c : Call} (ho : o.op = .call c) {x : Operand} (hc : c.callee = .value x) {f : FuncId} {caps : Array Value} (hx : a.eval x = .func (.func f) #[] caps) (hg : goodFn P f = true) : (execOp a.eval o).run P w = .ok (.enter f (c.args.map a.eval ++ caps)) w := by
  unfold execOp
  rw [ho]
  simp only [resolve, hc, hx, Deferred.ofValue, Sem.run_bind, Sem.run_pure, Result.andThen_ok, invoke, run_callFunc hg, Array.empty_append]

theorem Evo.adopt {H : Nat → Blk} {base : Nat} (hb : Below w.heap.size w w') {p : Option (Nat × Nat)} (hp : ∀ q, p = some q → w.heap.size ≤ q.1) (blk : Blk) (hv : (H d).ver < blk.ver) : Evo (sx w H φ base) (sx w' (upd H d blk) (upd φ d p) base) where
  S b h := ⟨Nat.lt_of_lt_of_le h.1 hb.size, fun x hl hr q hq => by
    by_cases hx : x = d
    · subst hx
      simp only [upd, if_true] at hq
      have := hp q hq
      have := h.1
      omega
    · simp only [upd, if_neg hx] at hl hr hq
      exact h.2.1 x hl hr q hq, h.2.2⟩
  cell b h i := by simp only [World.cell?, hb.block b h.1]
  base := Nat.le_refl _
  ver x := by
    simp only [upd]
    split
    · rename_i hx; subst hx; omega
    · exact Nat.le_refl _
  same x hl hve := by
    by_cases hx : x = d
    · subst hx; simp only [upd, if_true] at hve; omega
    · simp only [upd, if_neg hx] at hl ⊢
      exact ⟨hl, trivial, Nat.le_refl _⟩
  size b := by
    by_cases h : b < w.heap.size
    · simp only [bsize, hb.block b h]; exact Nat.le_refl _
    · simp only [bsize]; rw [Array.getElem?_eq_none (by omega)]; exact Nat.zero_le _

theorem RelC.adopt (h : RelC φ w0 N s a w) (hb : Below w.heap.size w w') (hd : d < N) {dh : Nat} {p : Option (Nat × Nat)} (hp : ∀ q, p = some q → w.heap.size ≤ q.1) {blk : Blk} (hv : (s.h dh).ver < blk.ver)
    (hh : HomeR (sx w' (upd s.h dh blk) (upd φ dh p) w0.heap.size) dh) {v : IV} {rv : Value} (hr : VR (sx w' (upd s.h dh blk) (upd φ dh p) w0.heap.size) v rv) :
    RelC (upd φ dh p) w0 N { t := upd s.t d v, h := upd s.h dh blk } (a.put (some d) rv) w' := by
  have he := Evo.adopt (φ := φ) (H := s.h) (base := w0.heap.size) hb hp blk hv
  refine h.put (φ' := upd φ dh p) (H' := upd s.h dh blk) (w' := w') ⟨fun x hlx => ?_, fun x y q q' hlx hrx hly hne hpx hpy => ?_, Nat.le_trans h.hs.size hb.size⟩ he (h.below.call h.hs.size hb) hd hr
  · by_cases hx : x = dh
    · subst hx; exact hh
    · have hlx' : (s.h x).live = true := by simpa only [upd, if_neg hx] using hlx
      exact (h.hs.home x hlx').evo he (by simp only [upd, if_neg hx]) (by simp only [upd, if_neg hx]) rfl (fun b off hq => hb.block b (home_lt h.hs hlx' hq))
  · have lt : ∀ z r, z ≠ dh → (upd s.h dh blk z).live = true → upd φ dh p z = some r → r.1 < w.heap.size := fun z r hz hlz hr => by
      simp only [upd, if_neg hz] at hlz hr
      obtain ⟨b, off⟩ := r
      exact home_lt h.hs hlz hr
    by_cases hx : x = dh
    · subst hx
      simp only [upd, if_true] at hpx
      have := hp q hpx
      have := lt y q' (fun e => hne e.symm) hly hpy
      omega
    · by_cases hy : y = dh
      · subst hy
        have := lt x q hx hlx hpx
        simp only [upd, if_true] at hpy
        have := hp q' hpy
        omega
      · simp only [upd, if_neg hx] at hlx hrx hpx
        simp only [upd, if_neg hy] at hly hpy
        exact h.hs.excl x y q q' hlx hrx hly hne hpx hpy

/-! results -/
theorem noOwn_impV (d ver : Nat) : ∀ {r : List IV}, (∀ x ∈ r, isOwn x = false) → impV d ver r = (r, none)
  | [], _ => rfl
  | x :: r, h => by
    have h1 := noOwn_impV d ver (r := r) (fun y hy => h y (by simp [hy]))
    have h0 := h x (by simp)
    cases x <;> first | (simp only [impV, h1]; done) | simp [isOwn] at h0

theorem resOne_nlit {B : Nat → Prop} {x : IV} {u : Value} (h : resOne w w' B x u) (ho : isOwn x = false) : x.pur = true ∧ x.nlit = true ∧ VR ⟨w', B, deadH, fun _ => none, w.heap.size⟩ x u := by
  cases x <;> first | exact h | simp [isOwn] at ho

theorem imp_VRL {B : Nat → Prop} (d ver : Nat) : ∀ {r : List IV} {us : List Value}, F2 (resOne w w' B) r us → (r.filter isOwn).length ≤ 1 →
    (∀ x ∈ r, isOwn x = false) ∨ ∃ n sz cs u, (impV d ver r).2 = some cs ∧ RowOwn w w' B n sz cs u ∧
      ∀ c' : Sx, EvoP ⟨w', B, deadH, fun _ => none, w.heap.size⟩ c' → VR c' (.row d 0 n sz ver) u → VRL c' (impV d ver r).1 us ∧ (impV d ver r).1.all IV.nlit = true
  | [], us, h, _ => .inl (by simp)
  | x :: r, us, h, hc => by
    cases h with
    | @cons _ u _ us hx hr =>
      by_cases ho : isOwn x = true
      · right
        cases x <;> simp [isOwn] at ho
        rename_i n sz cs
        have hrest : ∀ y ∈ r, isOwn y = false := by
          simp only [List.filter_cons, isOwn, if_true, List.length_cons] at hc
          intro y hy
          cases h1 : isOwn y with
          | false => rfl
          | true =>
            have : y ∈ r.filter isOwn := List.mem_filter.2 ⟨hy, h1⟩
            have := List.length_pos_of_mem this
            omega
        obtain ⟨p1, p2, p3⟩ := plainRes rfl hr hrest
        refine ⟨n, sz, cs, u, rfl, hx, fun c' he hrow => ?_⟩
        simp only [impV]
        exact ⟨VRL.cons hrow (p1.evoP he p2 p3), by simp only [List.all_cons, p3, Bool.and_true]; rfl⟩
      · have ho' : isOwn x = false := by simpa using ho
        obtain ⟨q1, q2, q3⟩ := resOne_nlit hx ho'
        have hc' : (r.filter isOwn).length ≤ 1 := by simpa only [List.filter_cons, ho', Bool.false_eq_true, if_false] using hc
        have hi : impV d ver (x :: r) = (x :: (impV d ver r).1, (impV d ver r).2) := by cases x <;> first | rfl | simp [isOwn] at ho'
        rcases imp_VRL d ver hr hc' with hno | ⟨n, sz, cs, u', g1, g2, g3⟩
        · left
          intro y hy
          rcases List.mem_cons.1 hy with rfl | hy
          · exact ho'
          · exact hno y hy
        · right
          refine ⟨n, sz, cs, u', by rw [hi]; exact g1, g2, fun c' he hrow => ?_⟩
          obtain ⟨k1, k2⟩ := g3 c' he hrow
          rw [hi]
          exact ⟨VRL.cons (q3.evoP he q1 q2) k1, by simp only [List.all_cons, q2, k2, Bool.and_self]⟩

theorem RelC.imp (h : RelC φ w0 N s a w) (hb : Below w.heap.size w w') (hd : d < N) {r : List IV} {rv : Value} (hr : ResR (stb w s.h φ w0.heap.size) w w' r rv) : Rel w0 N (s.imp d r) (a.put (some d) rv) w' := by
  obtain ⟨B, us, rfl, hB, hf, hc⟩ := hr
  have hlt : ∀ x p, (s.h x).live = true → φ x = some p → p.1 < w.heap.size := fun x p hl hp => by obtain ⟨b, o⟩ := p; exact home_lt h.hs hl hp
  rcases imp_VRL (hom d) ((s.h (hom d)).ver + 1) hf hc with hno | ⟨n, sz, cs, u, g1, g2, g3⟩
  · obtain ⟨p1, p2, p3⟩ := plainRes rfl hf hno
    have h' := h.called hb
    have := h'.put h'.hs (Evo.refl _) h'.below hd (asRes_VR (p1.evoP (evoRes h hB) p2 p3) p3)
    simp only [St.imp, noOwn_impV _ _ hno]
    exact this.rel
  · obtain ⟨e1, e2, e3, A, k, rfl, hnk, e4⟩ := g2
    simp only [St.imp, g1]
    have hevo : ∀ p : Option (Nat × Nat), (∀ q, p = some q → ¬ B q.1) → EvoP ⟨w', B, deadH, fun _ => none, w.heap.size⟩ (sx w' (upd s.h (hom d) (freshBlk s (hom d) true true cs)) (upd φ (hom d) p) w0.heap.size) := fun p hp =>
      ⟨fun b hb' => ⟨(hB b hb').2, fun x hl hrw q hq => by
        by_cases hx : x = hom d
        · subst hx
          simp only [upd, if_true] at hq
          intro e; subst e; exact hp q hq hb'
        · simp only [upd, if_neg hx] at hl hq hrw
          exact (evoRes h hB).S b hb' |>.2.1 x hl hrw q hq, (evoRes h hB).S b hb' |>.2.2⟩, fun _ _ _ => rfl⟩
    rcases e4 with ⟨rfl, rfl, rfl⟩ | ⟨b, o, ccs, T, vs, hA, hblk, hnB, hwb, hvs, hat, hfit, hcap⟩
    · have hE := hevo none (by simp)
      refine (h.adopt hb hd (p := none) (by simp) (blk := freshBlk s (hom d) true true []) (Nat.lt_succ_self _) ?_ (asRes_VR (g3 _ hE ?_).1 (g3 _ hE ?_).2)).rel
      · exact ⟨by simp [upd, freshBlk], by simp [upd, freshBlk, IV.purL], by simp [upd], by simp [upd, freshBlk]⟩
      all_goals
        simp only [VR, upd, if_true, freshBlk]
        exact ⟨Nat.le_refl _, A, 0, rfl, Nat.le_refl _, fun _ _ => by simp [rowR, upd]⟩
    · have hE := hevo (some (b, o)) (by simp only [Option.some.injEq]; rintro q rfl; exact hnB)
      have hrow : VR (sx w' (upd s.h (hom d) (freshBlk s (hom d) true true cs)) (upd φ (hom d) (some (b, o))) w0.heap.size) (.row (hom d) 0 n sz ((s.h (hom d)).ver + 1)) (.slice A n k) := by
        simp only [VR, upd, if_true, freshBlk]
        refine ⟨Nat.le_refl _, A, k, rfl, hnk, fun _ _ => ?_⟩
        simp only [rowR, upd, if_true, bsize, hblk, Nat.add_zero, Nat.zero_add]
        exact ⟨by omega, hA, hcap⟩
      refine (h.adopt hb hd (p := some (b, o)) (by simp only [Option.some.injEq]; rintro q rfl; exact hwb) (blk := freshBlk s (hom d) true true cs) (Nat.lt_succ_self _) ?_ (asRes_VR (g3 _ hE hrow).1 (g3 _ hE hrow).2)).rel
      refine ⟨by simpa [upd, freshBlk] using e2, by simpa [upd, freshBlk] using e3, by simp only [upd, if_true, Option.some.injEq]; rintro q rfl; exact Nat.le_trans h.hs.size hwb, ?_⟩
      simp only [upd, if_true, freshBlk]
      exact ⟨ccs, T, (0, 0), vs, hblk, fun _ => ⟨rfl, Nat.le_trans h.hs.size hwb⟩, hvs.evoP hE e3 (ones_nlit e2), hat, hfit⟩

theorem plainL_VRL {A B : Nat → Prop} (hB : ∀ b, B b → (b < w.heap.size → A b) ∧ b < w'.heap.size) : ∀ {r : List IV} {us : List Value}, F2 (resOne w w' B) r us →
    VRL ⟨w', fun b => (b < w.heap.size → A b) ∧ b < w'.heap.size, deadH, fun _ => none, w.heap.size⟩ (plainL r) us ∧ IV.purL (plainL r) = true ∧ (plainL r).all IV.nlit = true
  | [], us, h => by cases h; exact ⟨by simp [plainL, VRL], rfl, rfl⟩
  | x :: r, us, h => by
    cases h with
    | @cons _ u _ us hx hr =>
      obtain ⟨a1, a2, a3⟩ := plainL_VRL hB hr
      have hev : EvoP ⟨w', B, deadH, fun _ => none, w.heap.size⟩ ⟨w', fun b => (b < w.heap.size → A b) ∧ b < w'.heap.size, deadH, fun _ => none, w.heap.size⟩ := ⟨hB, fun _ _ _ => rfl⟩
      by_cases ho : isOwn x = true
      · cases x <;> simp [isOwn] at ho
        rename_i n sz cs
        obtain ⟨e1, e2, e3, A, k, rfl, hnk, e4⟩ := hx
        simp only [plainL]
        refine ⟨VRL.cons ?_ a1, by simp [IV.purL, IV.pur, e3, a2], by simp only [List.all_cons, a3, Bool.and_true]; rfl⟩
        simp only [VR]
        rcases e4 with ⟨rfl, rfl, rfl⟩ | ⟨b, o, ccs, T, vs, hA, hblk, hnB, hwb, hvs, hat, hfit, hcap⟩
        · exact ⟨A, 0, [], rfl, Nat.le_refl _, by simp, by simp, rfl, rfl, by simp [VRL], fun i hi => by simp at hi⟩
        · refine ⟨A, k, vs, rfl, hnk, by simp, by simp, e3, e2, hvs.evoP hev e3 (ones_nlit e2), fun i hi => ?_⟩
          have hl := hvs.length
          rcases hA with hk | hA
          · subst hk
            have : n = 0 := by omega
            subst this
            simp at e1
            omega
          · subst hA
            refine ⟨⟨b, o, none⟩, rfl, rfl, ⟨fun hlt => absurd hlt (Nat.not_lt.2 hwb), (Array.getElem?_eq_some_iff.1 hblk).1⟩, ?_⟩
            show w'.cell? ⟨b, o + i, none⟩ = _
            rw [cell_of_row w' b (o + i) ccs T (0, 0) hblk]
            exact hat i hi
      · have ho' : isOwn x = false := by simpa using ho
        obtain ⟨q1, q2, q3⟩ := resOne_nlit hx ho'
        have hi : plainL (x :: r) = x :: plainL r := by cases x <;> first | rfl | simp [isOwn] at ho'
        rw [hi]
        exact ⟨VRL.cons (q3.evoP hev q1 q2) a1, by simp [IV.purL, q1, a2], by simp [q2, a3]⟩

theorem RelC.impP (h : RelC φ w0 N s a w) (hb : Below w.heap.size w w') (hd : d < N) {r : List IV} {rv : Value} (hr : ResR (stb w s.h φ w0.heap.size) w w' r rv) : Rel w0 N { s with t := upd s.t d (asRes (plainL r)) } (a.put (some d) rv) w' := by
  obtain ⟨B, us, rfl, hB, hf, hc⟩ := hr
  have hlt : ∀ x p, (s.h x).live = true → φ x = some p → p.1 < w.heap.size := fun x p hl hp => by obtain ⟨b, o⟩ := p; exact home_lt h.hs hl hp
  obtain ⟨p1, p2, p3⟩ := plainL_VRL hB hf
  have h' := h.called hb
  exact (h'.put h'.hs (Evo.refl _) h'.below hd (asRes_VR (p1.evoP (evoRes h (fun _ hb => hb)) p2 p3) p3)).rel

/-! what 'cop' has seen -/
theorem cop_call {o : Oper} {hint : MOp} {f : FuncId} {as : List Opd} (h : cop P o hint = some (.call f as)) : ∃ c, o.op = .call c ∧ c.callee = .value (.func f) ∧ opds c.args.toList = some as := by
  unfold cop at h
  split at h
  case h_23 c ho =>
    split at h
    · rename_i g hc
      split at h
      · rename_i as' has
        split at h
        · injection h with h
          cases hint <;> first | (cases h; done) | (injection h with h1 h2; subst h1; subst h2; exact ⟨c, ho, hc, has⟩)
        · cases h
      · cases h
    all_goals
      exfalso
      repeat' split at h
      all_goals first
        | (cases h; done)
        | (injection h with h; cases h; done)
        | (injection h with h; cases hint <;> cases h; done)
  all_goals
    exfalso
    repeat' split at h
    all_goals first
      | (cases h; done)
      | (injection h with h; cases h; done)

theorem cop_callp {o : Oper} {hint : MOp} {f : FuncId} {as : List Opd} (h : cop P o hint = some (.callp f as)) : ∃ c, o.op = .call c ∧ c.callee = .value (.func f) ∧ opds c.args.toList = some as := by
  unfold cop at h
  split at h
  case h_23 c ho =>
    split at h
    · rename_i g hc
      split at h
      · rename_i as' has
        split at h
        · injection h with h
          cases hint <;> first | (cases h; done) | (injection h with h1 h2; subst h1; subst h2; exact ⟨c, ho, hc, has⟩)
        · cases h
      · cases h
    all_goals
      exfalso
      repeat' split at h
      all_goals first
        | (cases h; done)
        | (injection h with h; cases h; done)
        | (injection h with h; cases hint <;> cases h; done)
  all_goals
    exfalso
    repeat' split at h
    all_goals first
      | (cases h; done)
      | (injection h with h; cases h; done)

theorem cop_calln {o : Oper} {hint : MOp} {f : FuncId} {as : List Opd} (h : cop P o hint = some (.calln f as)) : ∃ c, o.op = .call c ∧ c.callee = .value (.func f) ∧ opds c.args.toList = some as := by
  unfold cop at h
  split at h
  case h_23 c ho =>
    split at h
    · rename_i g hc
      split at h
      · rename_i as' has
        split at h
        · injection h with h
          cases hint <;> first | (cases h; done) | (injection h with h1 h2; subst h1; subst h2; exact ⟨c, ho, hc, has⟩)
        · cases h
      · cases h
    all_goals
      exfalso
      repeat' split at h
      all_goals first
        | (cases h; done)
        | (injection h with h; cases h; done)
        | (injection h with h; cases hint <;> cases h; done)
  all_goals
    exfalso
    repeat' split at h
    all_goals first
      | (cases h; done)
      | (injection h with h; cases h; done)

theorem cop_calli {o : Oper} {hint : MOp} {x' : Opd} {as : List Opd} (h : cop P o hint = some (.calli x' as)) : ∃ c x, o.op = .call c ∧ c.callee = .value x ∧ opd x = some x' ∧ opds c.args.toList = some as := by
  unfold cop at h
  split at h
  case h_23 c ho =>
    split at h
    · exfalso
      repeat' split at h
      all_goals first
        | (cases h; done)
        | (injection h with h; cases hint <;> cases h; done)
    · rename_i x hc
      split at h
      · rename_i x' as' hx has
        injection h with h
        injection h with h1 h2
        subst h1; subst h2
        exact ⟨c, _, ho, by assumption, hx, has⟩
      · cases h
    all_goals
      exfalso
      repeat' split at h
      all_goals first
        | (cases h; done)
        | (injection h with h; cases h; done)
        | (injection h with h; cases hint <;> cases h; done)
  all_goals
    exfalso
    repeat' split at h
    all_goals first
      | (cases h; done)
      | (injection h with h; cases h; done)

theorem args_eq (xs : Array Operand) (a : Act) : xs.map a.eval = (xs.toList.map a.eval).toArray := by rw [← Array.toList_map]

theorem vals_VR (h : RelC φ w0 N s a w) : ∀ {l : List Operand} {qs : List Opd} {vs : List IV}, opds l = some qs → s.vals qs = some vs → VRL (sx w s.h φ w0.heap.size) vs (l.map a.eval)
  | [], qs, vs, h1, h2 => by
    simp only [opds, Option.some.injEq] at h1; subst h1
    simp only [St.vals, Option.some.injEq] at h2; subst h2
    exact VRL.nil
  | x :: l, qs, vs, h1, h2 => by
    simp only [opds] at h1
    split at h1
    · rename_i y ys hy hys
      injection h1 with h1; subst h1
      simp only [St.vals] at h2
      split at h2
      · rename_i v vs' hv hvs
        injection h2 with h2; subst h2
        exact VRL.cons (get_VR h hy hv) (vals_VR h hys hvs)
      · cases h2
    · cases h1

theorem runOp_wp (h : RelC φ w0 N s a w) {o : Oper} (hd : ∀ x, o.dst = some x → x < N) {hint m : MOp} (hm : cop P o hint = some m) {K : St → Prop} (hr : runOp (RCs P) s o.dst m K) {next : Act → World → Prop} {Q : Exit → Act → World → Prop}
    (hk : ∀ s' a' w', K s' → Rel w0 N s' a' w' → next a' w') : o.wp P a w next Q := by
  have gen : (∀ f as, m ≠ .call f as) → (∀ f as, m ≠ .callp f as) → (∀ f as, m ≠ .calli f as) → (∀ f as, m ≠ .calln f as) → o.wp P a w next Q := by
    intro n1 n2 n3 n4
    have hr' : if isAct s m then (match act s o.dst m with | some s' => K s' | none => False) else match o.dst with
      | some d => (match neu s d m with | some e => K (s.eff d e) | none => False)
      | none => False := by
      cases m <;> first | exact hr | exact absurd rfl (n1 _ _) | exact absurd rfl (n2 _ _) | exact absurd rfl (n3 _ _) | exact absurd rfl (n4 _ _)
    split at hr'
    · split at hr'
      · rename_i s' hs'
        obtain ⟨rv, w', φ', hrun, hrel⟩ := act_snd h hd hm hs'
        unfold Oper.wp
        rcases hrun with hrun | ⟨rfl, hrun⟩
        · rw [hrun]; exact hk _ _ _ hr' hrel.rel
        · rw [hrun]; exact hk _ _ _ hr' hrel.rel
      · exact hr'.elim
    · split at hr'
      · rename_i d hdd
        split at hr'
        · rename_i e he
          obtain ⟨rv, w', φ', hrun, hrel⟩ := neu_snd h (hd _ hdd) hm he
          unfold Oper.wp
          rw [hrun]
          show next (a.put o.dst rv) w'
          rw [hdd]
          exact hk _ _ _ hr' hrel.rel
        · exact hr'.elim
      · exact hr'.elim
  cases m
  case call f as =>
    simp only [runOp] at hr
    split at hr
    · rename_i d hdd
      obtain ⟨args, r, h1, ⟨hg, h2⟩, hst, h3⟩ := hr
      obtain ⟨c, ho, hc, has⟩ := cop_call hm
      obtain ⟨b1, b2, b3⟩ := snaps_VR h has h1
      unfold Oper.wp
      rw [run_callV ho hc (a := a) (x := .func f) (f := f) (caps := #[]) rfl hg]
      have hcalls : Calls P f (List.map a.eval c.args.toList).toArray w fun e w'' => ∃ rv, e = .returned rv ∧ ResR (stb w s.h φ w0.heap.size) w w'' r rv ∧ Below w.heap.size w w'' := by
        rcases hst with hst | hst
        · exact h2 w _ _ (fun _ h => h.1) b3 b2 (snaps_st h has h1 hst)
        · exact Calls.mono (h2 w _ _ (fun _ h => h) b3 b2 b1) fun e w'' ⟨rv, q1, q2, q3⟩ => ⟨rv, q1, q2.scal hst _, q3⟩
      refine Calls.mono (by rw [Array.append_empty, args_eq]; exact hcalls) fun e w'' he => ?_
      obtain ⟨rv, rfl, hres, hb⟩ := he
      show next (a.put o.dst rv) w''
      rw [hdd]
      exact hk _ _ _ h3 (h.imp hb (hd _ hdd) hres)
    · exact hr.elim
  case callp f as =>
    simp only [runOp] at hr
    split at hr
    · rename_i d hdd
      obtain ⟨args, r, h1, ⟨hg, h2⟩, hst, h3⟩ := hr
      obtain ⟨c, ho, hc, has⟩ := cop_callp hm
      obtain ⟨b1, b2, b3⟩ := snaps_VR h has h1
      unfold Oper.wp
      rw [run_callV ho hc (a := a) (x := .func f) (f := f) (caps := #[]) rfl hg]
      have hcalls : Calls P f (List.map a.eval c.args.toList).toArray w fun e w'' => ∃ rv, e = .returned rv ∧ ResR (stb w s.h φ w0.heap.size) w w'' r rv ∧ Below w.heap.size w w'' := by
        rcases hst with hst | hst
        · exact h2 w _ _ (fun _ h => h.1) b3 b2 (snaps_st h has h1 hst)
        · exact Calls.mono (h2 w _ _ (fun _ h => h) b3 b2 b1) fun e w'' ⟨rv, q1, q2, q3⟩ => ⟨rv, q1, q2.scal hst _, q3⟩
      refine Calls.mono (by rw [Array.append_empty, args_eq]; exact hcalls) fun e w'' he => ?_
      obtain ⟨rv, rfl, hres, hb⟩ := he
      show next (a.put o.dst rv) w''
      rw [hdd]
      exact hk _ _ _ h3 (h.impP hb (hd _ hdd) hres)
    · exact hr.elim
  case calln f as =>
    simp only [runOp] at hr
    obtain ⟨vals, Q', h1, ⟨hg, h2⟩, h3⟩ := hr
    obtain ⟨c, ho, hc, has⟩ := cop_calln hm
    have b1 := vals_VR h has h1
    unfold Oper.wp
    rw [run_callV ho hc (a := a) (x := .func f) (f := f) (caps := #[]) rfl hg]
    refine Calls.mono (by rw [Array.append_empty, args_eq]; exact h2 ‹Old› w0 w φ _ (fun v u => Gh.G v u ∨ ∃ t, v = s.t t ∧ u = a.tmps.getD t undef) Gh.pins h.hs (@Bel.mk ⟨fun v u => Gh.G v u ∨ ∃ t, v = s.t t ∧ u = a.tmps.getD t undef, [], Gh.pins⟩ w0 w h.below.lo h.below.pin) b1 (by rintro v u (hg | ⟨t, rfl, rfl⟩); exact h.g v u hg; exact h.t t)) fun e w'' he => ?_
    obtain ⟨rv, rfl, φ', h', r, us', hQ, k1, k2, k3, rfl, k4, k5⟩ := he
    show next (a.put o.dst (asVal us')) w''
    obtain ⟨k2a, k2b⟩ := k2
    have base : RelC φ' w0 N ⟨s.t, h'⟩ a w'' := ⟨k1, ⟨k2a, k2b⟩, h.size, h.defers, fun t => k3 _ _ (.inr ⟨t, rfl, rfl⟩), fun v u hg => k3 v u (.inl hg)⟩
    refine hk _ _ _ (h3 r h' hQ) (RelC.rel (φ := φ') ?_)
    have := base.put_ base.hs (Evo.refl _) base.below hd (asRes_VR k4 k5)
    cases hdd : o.dst with
    | none => rw [hdd] at this; exact this
    | some d => rw [hdd] at this; exact this
  case calli x' as =>
    simp only [runOp] at hr
    split at hr
    · rename_i d hdd
      obtain ⟨g, args, r, h0, h1, ⟨hg, h2⟩, hst, h3⟩ := hr
      obtain ⟨c, x, ho, hc, hx, has⟩ := cop_calli hm
      obtain ⟨b1, b2, b3⟩ := snaps_VR h has h1
      unfold St.callee at h0
      split at h0
      · rename_i f caps hv
        split at h0
        · rename_i caps' hcs
          injection h0 with h0; subst h0
          have hxv := get_VR h hx hv
          simp only [VR] at hxv
          obtain ⟨us, hxe, _, hl⟩ := hxv
          obtain ⟨c1, c2, c3⟩ := snapPL_VR h hcs hl
          unfold Oper.wp
          rw [run_callV ho hc hxe hg]
          refine Calls.mono (by rw [args_eq, List.append_toArray]; exact h2 w _ _ (fun _ h => h) (by simp [b3, c3]) (purL_append b2 c2) (b1.append c1)) fun e w'' he => ?_
          obtain ⟨rv, rfl, hres, hb⟩ := he
          have hres := hres.scal hst (stb w s.h φ w0.heap.size)
          show next (a.put o.dst rv) w''
          rw [hdd]
          exact hk _ _ _ h3 (h.impP hb (hd _ hdd) hres)
        · cases h0
      · cases h0
    · exact hr.elim
  all_goals exact gen (by simp) (by simp) (by simp) (by simp)
end
end Go.Proofs.YtilbipknodpmmaaDoor
