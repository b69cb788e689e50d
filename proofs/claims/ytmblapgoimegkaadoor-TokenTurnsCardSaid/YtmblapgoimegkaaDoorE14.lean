/- Contracts, and calls. -/
import Derived.Test.YtmblapgoimegkaaDoorE13
set_option linter.unusedSectionVars false
set_option linter.unusedVariables false
set_option linter.unusedSimpArgs false
namespace Go.Proofs.YtmblapgoimegkaaDoor
open Go.RowKit

def deadH : Nat → Blk := fun _ => ⟨0, false, false, false, []⟩

/-- how arguments are read where a call begins: they hang on A -/
@[reducible] def cArg (A : Nat → Prop) (w : World) : Sx := ⟨w, A, deadH, fun _ => none, w.heap.size⟩
@[reducible] def cAll (w : World) : Sx := cArg (fun b => b < w.heap.size) w

/-- a result that is a row of its own, or a pure one; B: the blocks that pure ones hang on -/
def RowOwn (w w' : World) (B : Nat → Prop) (n sz : Nat) (cs : List IV) (u : Value) : Prop :=
  n * sz = cs.length ∧ cs.all IV.one = true ∧ IV.purL cs = true ∧ ∃ A k, u = .slice A n k ∧ n ≤ k ∧
    ((cs = [] ∧ n = 0 ∧ k = 0) ∨ ∃ b o ccs T vs, (k = 0 ∨ A = some ⟨b, o, none⟩) ∧ w'.heap[b]? = some (.cells ccs T (0, 0)) ∧ ¬ B b ∧ w.heap.size ≤ b ∧ VRL ⟨w', B, deadH, fun _ => none, w.heap.size⟩ cs vs ∧ (∀ i (hi : i < vs.length), ccs[o + i]? = some vs[i]) ∧ o + vs.length ≤ ccs.size ∧ o + k * sz ≤ ccs.size)

def resOne (w w' : World) (B : Nat → Prop) : IV → Value → Prop
  | .own n sz cs, u => RowOwn w w' B n sz cs u
  | x, u => x.pur = true ∧ x.nlit = true ∧ VR ⟨w', B, deadH, fun _ => none, w.heap.size⟩ x u

def asVal : List Value → Value
  | [u] => u
  | us => .tuple us.toArray

def ResR (A : Nat → Prop) (w w' : World) (r : List IV) (rv : Value) : Prop :=
  ∃ (B : Nat → Prop) (us : List Value), rv = asVal us ∧ (∀ b, B b → (b < w.heap.size → A b) ∧ b < w'.heap.size) ∧ F2 (resOne w w' B) r us ∧ (r.filter isOwn).length ≤ 1

/-- THE CONTRACT: called on these arguments, f answers r; nothing that stood has turned -/
def PCalls (P : Program) (f : FuncId) (args r : List IV) : Prop :=
  ∀ (w : World) (A : Nat → Prop) (vals : List Value), (∀ b, A b → b < w.heap.size) → args.all IV.nlit = true → IV.purL args = true → VRL (cArg A w) args vals →
    Calls P f vals.toArray w fun e w' => ∃ rv, e = .returned rv ∧ ResR A w w' r rv ∧ Below w.heap.size w w'

section
variable [Off] [Gh] [Old] {P : Program} {φ : Nat → Option (Nat × Nat)} {w0 : World} {N : Nat} {s s' : St} {a : Act} {w w' : World} {d : Nat} {e : Eff}

theorem evoArg (w : World) (H : Nat → Blk) (φ : Nat → Option (Nat × Nat)) (base : Nat) : EvoP (sx w H φ base) (cAll w) := ⟨fun _ h => h.1, fun _ _ _ => rfl⟩

theorem live_row {H : Nat → Blk} {base : Nat} (hs : HS (sx w H φ base)) {h off n sz ver : Nat} {u : Value} (hv : VR (sx w H φ base) (.row h off n sz ver) u) (hl : (H h).live = true) (he : (H h).ver = ver)
    (hp : (H h).isRow = true ∨ IV.purL (((H h).cells.drop off).take (n * sz)) = true) : VR (cAll w) (.sl .plain n (((H h).cells.drop off).take (n * sz))) u := by
  obtain ⟨A, k, us, rfl, g2, g3, g4, g5⟩ := row_cells hs hv hl he _ rfl
  have hone := all_take (all_drop (hs.home h hl).one off) (n * sz)
  have hpur : IV.purL (((H h).cells.drop off).take (n * sz)) = true := by
    rcases hp with hp | hp
    · exact purL_take (purL_drop ((hs.home h hl).row hp) _) _
    · exact hp
  simp only [VR]
  refine ⟨A, k, us, rfl, g4, by simp, by simp, hpur, hone, g2.evoP (evoArg w H φ base) hpur (ones_nlit hone), fun i hi => ?_⟩
  obtain ⟨b, o', rfl, hrange⟩ := g5 (by intro e; rw [e] at hi; simp at hi)
  have hc := hrange i _ (List.getElem?_eq_getElem hi)
  exact ⟨⟨b, o', none⟩, rfl, rfl, World.block_lt_of_cell? w ⟨b, o' + i, none⟩ hc, hc⟩

theorem snapB_VR (h : RelC φ w0 N s a w) {v v' : IV} (hn : s.snapB v = some v') {u : Value} (hv : VR (sx w s.h φ w0.heap.size) v u) : VR (cAll w) v' u ∧ v'.pur = true ∧ v'.nlit = true := by
  have ev := evoArg w s.h φ w0.heap.size
  cases v <;> simp only [St.snapB] at hn <;> try (cases hn; done)
  case int k n => injection hn with hn; subst hn; exact ⟨hv.evoP ev rfl rfl, rfl, rfl⟩
  case bool b => injection hn with hn; subst hn; exact ⟨hv.evoP ev rfl rfl, rfl, rfl⟩
  case str l => injection hn with hn; subst hn; exact ⟨hv.evoP ev rfl rfl, rfl, rfl⟩
  case nilp => injection hn with hn; subst hn; exact ⟨hv.evoP ev rfl rfl, rfl, rfl⟩
  case sl f n cs =>
    have hpur : IV.purL cs = true := by simp only [VR] at hv; obtain ⟨_, _, _, _, _, _, _, h5, _⟩ := hv; exact h5
    cases f with
    | plain => simp only [Option.some.injEq] at hn; subst hn; exact ⟨hv.evoP ev hpur rfl, hpur, rfl⟩
    | full => simp only [Option.some.injEq] at hn; subst hn; exact ⟨hv.evoP ev hpur rfl, hpur, rfl⟩
    | lit =>
      simp only [Option.some.injEq] at hn; subst hn
      have hv' : VR (sx w s.h φ w0.heap.size) (.sl .full n cs) u := by
        simp only [VR] at hv ⊢
        obtain ⟨A, k, us, h1, h2, h3, h4, h5, h6, h7, h8⟩ := hv
        exact ⟨A, k, us, h1, h2, fun _ => h3 (by simp), by simp, h5, h6, h7, h8⟩
      exact ⟨hv'.evoP ev hpur rfl, hpur, rfl⟩
  case row x off n sz ver =>
    split at hn
    · rename_i hc
      obtain ⟨h1, h2⟩ := hc
      injection hn with hn; subst hn
      simp only [St.ok, Bool.and_eq_true, beq_iff_eq] at h1
      have := live_row h.hs hv h1.1 h1.2 h2
      refine ⟨this, ?_, rfl⟩
      simp only [VR] at this
      obtain ⟨_, _, _, _, _, _, _, h5, _⟩ := this
      exact h5
    · cases hn

theorem snapP_VR (h : RelC φ w0 N s a w) {v v' : IV} (hn : s.snapP v = some v') {u : Value} (hv : VR (sx w s.h φ w0.heap.size) v u) : VR (cAll w) v' u ∧ v'.pur = true ∧ v'.nlit = true := by
  cases v
  case ptr x off ver =>
    simp only [St.snapP] at hn
    split at hn
    · rename_i hc
      obtain ⟨h1, h2⟩ := hc
      injection hn with hn; subst hn
      simp only [St.ok, Bool.and_eq_true, beq_iff_eq] at h1
      obtain ⟨b, o, us, rfl, g2, g3⟩ := ptr_cells h.hs hv h1.1 h1.2
      have hone := all_drop (h.hs.home x h1.1).one off
      refine ⟨?_, h2, rfl⟩
      simp only [VR]
      refine ⟨_, us, rfl, rfl, h2, hone, g2.evoP (evoArg w s.h φ w0.heap.size) h2 (ones_nlit hone), fun i hi => ?_⟩
      have hc := g3 i _ (List.getElem?_eq_getElem hi)
      exact ⟨⟨b, o, none⟩, rfl, rfl, World.block_lt_of_cell? w ⟨b, o + i, none⟩ hc, hc⟩
    · cases hn
  all_goals exact snapB_VR h (by simpa only [St.snapP] using hn) hv

theorem snapPL_VR (h : RelC φ w0 N s a w) : ∀ {vs vs' : List IV}, s.snapPL vs = some vs' → ∀ {us : List Value}, VRL (sx w s.h φ w0.heap.size) vs us → VRL (cAll w) vs' us ∧ IV.purL vs' = true ∧ vs'.all IV.nlit = true
  | [], vs', hn, us, hv => by simp only [St.snapPL, Option.some.injEq] at hn; subst hn; simp only [VRL] at hv ⊢; exact ⟨hv, rfl, rfl⟩
  | v :: vs, vs', hn, us, hv => by
    simp only [St.snapPL] at hn
    split at hn
    · rename_i x xs hx hxs
      injection hn with hn; subst hn
      simp only [VRL] at hv
      obtain ⟨u, us', rfl, hu, hus⟩ := hv
      obtain ⟨a1, a2, a3⟩ := snapP_VR h hx hu
      obtain ⟨b1, b2, b3⟩ := snapPL_VR h hxs hus
      exact ⟨VRL.cons a1 b1, by simp [IV.purL, a2, b2], by simp [a3, b3]⟩
    · cases hn

theorem snapB_one {v v' : IV} (hn : s.snapB v = some v') : v'.one = true := by
  cases v <;> simp only [St.snapB] at hn <;> try (cases hn; done)
  all_goals try (injection hn with hn; subst hn; rfl)
  · rename_i f n cs
    cases f <;> (simp only [Option.some.injEq] at hn; subst hn; rfl)
  · split at hn
    · injection hn with hn; subst hn; rfl
    · cases hn

theorem snapL_VR (h : RelC φ w0 N s a w) : ∀ {vs vs' : List IV}, s.snapL vs = some vs' → ∀ {us : List Value}, VRL (sx w s.h φ w0.heap.size) vs us → VRL (cAll w) vs' us ∧ IV.purL vs' = true ∧ vs'.all IV.one = true
  | [], vs', hn, us, hv => by simp only [St.snapL, Option.some.injEq] at hn; subst hn; simp only [VRL] at hv ⊢; exact ⟨hv, rfl, rfl⟩
  | v :: vs, vs', hn, us, hv => by
    simp only [St.snapL] at hn
    split at hn
    · rename_i x xs hx hxs
      injection hn with hn; subst hn
      simp only [VRL] at hv
      obtain ⟨u, us', rfl, hu, hus⟩ := hv
      obtain ⟨a1, a2, _⟩ := snapB_VR h hx hu
      obtain ⟨b1, b2, b3⟩ := snapL_VR h hxs hus
      exact ⟨VRL.cons a1 b1, by simp [IV.purL, a2, b2], by simp [snapB_one hx, b3]⟩
    · cases hn

theorem snap_VR (h : RelC φ w0 N s a w) {v v' : IV} (hn : s.snap v = some v') {u : Value} (hv : VR (sx w s.h φ w0.heap.size) v u) : VR (cAll w) v' u ∧ v'.pur = true ∧ v'.nlit = true := by
  have ev := evoArg w s.h φ w0.heap.size
  cases v
  case agg cs =>
    simp only [St.snap] at hn
    have hv0 := hv
    simp only [VR] at hv0
    obtain ⟨us, rfl, h1, hl⟩ := hv0
    split at hn
    · rename_i hsc
      injection hn with hn; subst hn
      obtain ⟨p, q⟩ := scal_pur hsc
      exact ⟨hv.evoP ev p rfl, p, rfl⟩
    · split at hn
      · rename_i cs' hcs
        injection hn with hn; subst hn
        obtain ⟨b1, b2, b3⟩ := snapL_VR h hcs hl
        refine ⟨?_, b2, rfl⟩
        simp only [VR]
        exact ⟨us, rfl, b3, b1⟩
      · cases hn
  case lits n sz cs =>
    simp only [St.snap] at hn
    simp only [VR] at hv
    obtain ⟨A, us, rfl, _, h1, hl, hat⟩ := hv
    split at hn
    · rename_i cs' hcs
      injection hn with hn; subst hn
      obtain ⟨b1, b2, b3⟩ := snapL_VR h hcs hl
      refine ⟨?_, b2, rfl⟩
      simp only [VR]
      exact ⟨A, n, us, rfl, Nat.le_refl _, by simp, by simp, b2, b3, b1, hat.evoP ev⟩
    · cases hn
  case clo f caps =>
    simp only [St.snap, St.snap1] at hn
    split at hn
    · rename_i cs hcs
      injection hn with hn; subst hn
      simp only [VR] at hv
      obtain ⟨us, rfl, _, hl⟩ := hv
      obtain ⟨b1, b2, b3⟩ := snapPL_VR h hcs hl
      refine ⟨?_, b2, rfl⟩
      simp only [VR]
      exact ⟨us, rfl, b3, b1⟩
    · cases hn
  all_goals exact snapB_VR h (by simpa only [St.snap, St.snap1] using hn) hv

theorem snaps_VR (h : RelC φ w0 N s a w) : ∀ {l : List Operand} {qs : List Opd} {as : List IV}, opds l = some qs → s.snaps qs = some as → VRL (cAll w) as (l.map a.eval) ∧ IV.purL as = true ∧ as.all IV.nlit = true
  | [], qs, as, h1, h2 => by
    simp only [opds, Option.some.injEq] at h1; subst h1
    simp only [St.snaps, Option.some.injEq] at h2; subst h2
    exact ⟨by simp [VRL], rfl, rfl⟩
  | x :: l, qs, as, h1, h2 => by
    simp only [opds] at h1
    split at h1
    · rename_i y ys hy hys
      injection h1 with h1; subst h1
      simp only [St.snaps] at h2
      split at h2
      · rename_i v hv
        split at h2
        · rename_i v' vs' hs hvs
          injection h2 with h2; subst h2
          obtain ⟨a1, a2, a3⟩ := snap_VR h hs (get_VR h hy hv)
          obtain ⟨b1, b2, b3⟩ := snaps_VR h hys hvs
          exact ⟨VRL.cons a1 b1, by simp [IV.purL, a2, b2], by simp [a3, b3]⟩
        · cases h2
      · cases h2
    · cases h1

/-! what stands for good -/
theorem evoSt (w : World) (H : Nat → Blk) (φ : Nat → Option (Nat × Nat)) (base : Nat) : EvoP (sx w H φ base) (cArg (stb w H φ base) w) := ⟨fun _ h => h, fun _ _ _ => rfl⟩

theorem snapB_st (h : RelC φ w0 N s a w) {v v' : IV} (hn : s.snapB v = some v') (hst : ∀ x off n sz ver, v = .row x off n sz ver → (s.h x).rw = false) {u : Value} (hv : VR (sx w s.h φ w0.heap.size) v u) : VR (cArg (stb w s.h φ w0.heap.size) w) v' u := by
  have ev := evoSt w s.h φ w0.heap.size
  obtain ⟨_, q1, q2⟩ := snapB_VR h hn hv
  cases v <;> simp only [St.snapB] at hn <;> try (cases hn; done)
  case int k n => injection hn with hn; subst hn; exact hv.evoP ev rfl rfl
  case bool b => injection hn with hn; subst hn; exact hv.evoP ev rfl rfl
  case str l => injection hn with hn; subst hn; exact hv.evoP ev rfl rfl
  case nilp => injection hn with hn; subst hn; exact hv.evoP ev rfl rfl
  case sl f n cs =>
    have hpur : IV.purL cs = true := by simp only [VR] at hv; obtain ⟨_, _, _, _, _, _, _, h5, _⟩ := hv; exact h5
    cases f with
    | plain => simp only [Option.some.injEq] at hn; subst hn; exact hv.evoP ev hpur rfl
    | full => simp only [Option.some.injEq] at hn; subst hn; exact hv.evoP ev hpur rfl
    | lit =>
      simp only [Option.some.injEq] at hn; subst hn
      have hv' : VR (sx w s.h φ w0.heap.size) (.sl .full n cs) u := by
        simp only [VR] at hv ⊢
        obtain ⟨A, k, us, h1, h2, h3, h4, h5, h6, h7, h8⟩ := hv
        exact ⟨A, k, us, h1, h2, fun _ => h3 (by simp), by simp, h5, h6, h7, h8⟩
      exact hv'.evoP ev hpur rfl
  case row x off n sz ver =>
    split at hn
    · rename_i hc
      obtain ⟨h1, h2⟩ := hc
      injection hn with hn; subst hn
      simp only [St.ok, Bool.and_eq_true, beq_iff_eq] at h1
      exact (frozen_row h.hs hv h1.1 h1.2 (hst _ _ _ _ _ rfl) h2).evoP ev q1 q2
    · cases hn

theorem snapL_st (h : RelC φ w0 N s a w) : ∀ {vs vs' : List IV}, s.snapL vs = some vs' → (∀ x off n sz ver, IV.row x off n sz ver ∈ vs → (s.h x).rw = false) → ∀ {us : List Value}, VRL (sx w s.h φ w0.heap.size) vs us → VRL (cArg (stb w s.h φ w0.heap.size) w) vs' us
  | [], vs', hn, _, us, hv => by simp only [St.snapL, Option.some.injEq] at hn; subst hn; simp only [VRL] at hv ⊢; exact hv
  | v :: vs, vs', hn, hst, us, hv => by
    simp only [St.snapL] at hn
    split at hn
    · rename_i x xs hx hxs
      injection hn with hn; subst hn
      simp only [VRL] at hv
      obtain ⟨u, us', rfl, hu, hus⟩ := hv
      exact VRL.cons (snapB_st h hx (fun x off n sz ver e => hst x off n sz ver (by simp [e])) hu) (snapL_st h hxs (fun x off n sz ver e => hst x off n sz ver (by simp [e])) hus)
    · cases hn

theorem snap_st (h : RelC φ w0 N s a w) {v v' : IV} (hn : s.snap v = some v') (hst : s.stab v = true) {u : Value} (hv : VR (sx w s.h φ w0.heap.size) v u) : VR (cArg (stb w s.h φ w0.heap.size) w) v' u := by
  have ev := evoSt w s.h φ w0.heap.size
  cases v
  case agg cs =>
    simp only [St.snap] at hn
    have hv0 := hv
    simp only [VR] at hv0
    obtain ⟨us, rfl, h1, hl⟩ := hv0
    split at hn
    · rename_i hsc
      injection hn with hn; subst hn
      obtain ⟨p, q⟩ := scal_pur hsc
      exact hv.evoP ev p rfl
    · split at hn
      · rename_i cs' hcs
        injection hn with hn; subst hn
        obtain ⟨_, _, b3⟩ := snapL_VR h hcs hl
        simp only [VR]
        refine ⟨us, rfl, b3, snapL_st h hcs (fun x off n sz ver hm => ?_) hl⟩
        simp only [St.stab, List.all_eq_true] at hst
        have := hst _ hm
        simpa using this
      · cases hn
  case clo f caps => simp [St.stab] at hst
  case lits n sz cs => simp [St.stab] at hst
  case ptr x off ver => simp [St.stab] at hst
  case row x off n sz ver => exact snapB_st h (by simpa only [St.snap, St.snap1] using hn) (fun x' off' n' sz' ver' e => by injection e with e1; subst e1; simpa [St.stab] using hst) hv
  all_goals exact snapB_st h (by simpa only [St.snap, St.snap1] using hn) (by simp) hv

theorem snaps_st (h : RelC φ w0 N s a w) : ∀ {l : List Operand} {qs : List Opd} {as : List IV}, opds l = some qs → s.snaps qs = some as → s.stabs qs = true → VRL (cArg (stb w s.h φ w0.heap.size) w) as (l.map a.eval)
  | [], qs, as, h1, h2, _ => by
    simp only [opds, Option.some.injEq] at h1; subst h1
    simp only [St.snaps, Option.some.injEq] at h2; subst h2
    simp [VRL]
  | x :: l, qs, as, h1, h2, h3 => by
    simp only [opds] at h1
    split at h1
    · rename_i y ys hy hys
      injection h1 with h1; subst h1
      simp only [St.snaps] at h2
      simp only [St.stabs, Bool.and_eq_true] at h3
      split at h2
      · rename_i v hv
        rw [hv] at h3
        split at h2
        · rename_i v' vs' hs hvs
          injection h2 with h2; subst h2
          exact VRL.cons (snap_st h hs h3.1 (get_VR h hy hv)) (snaps_st h hys hvs h3.2)
        · cases h2
      · cases h2
    · cases h1

theorem VR.scal_ {c c' : Sx} {x : IV} {u : Value} (hx : x.scal = true) (h : VR c x u) : VR c' x u := by
  cases x <;> first | (simp [IV.scal] at hx; done) | (simp only [VR] at h ⊢; exact h)
theorem VRL.scal_ {c c' : Sx} : ∀ {xs : List IV} {us : List Value}, xs.all IV.scal = true → VRL c xs us → VRL c' xs us
  | [], us, _, h => by simp only [VRL] at h ⊢; exact h
  | x :: xs, us, hx, h => by
    simp only [List.all_cons, Bool.and_eq_true] at hx
    simp only [VRL] at h
    obtain ⟨u, us', rfl, h1, h2⟩ := h
    exact VRL.cons (h1.scal_ hx.1) (VRL.scal_ hx.2 h2)

theorem resOne_scal {B B' : Nat → Prop} {x : IV} {u : Value} (hx : x.scalR = true) (h : resOne w w' B x u) : resOne w w' (fun _ => False) x u := by
  cases x
  case own n sz cs =>
    obtain ⟨e1, e2, e3, A, k, rfl, hnk, e4⟩ := h
    refine ⟨e1, e2, e3, A, k, rfl, hnk, ?_⟩
    rcases e4 with e4 | ⟨b, o, ccs, T, vs, hA, hblk, hnB, hwb, hvs, rest⟩
    · exact .inl e4
    · exact .inr ⟨b, o, ccs, T, vs, hA, hblk, by simp, hwb, VRL.scal_ (by simpa [IV.scalR] using hx) hvs, rest⟩
  case agg cs =>
    obtain ⟨h1, h2, h3⟩ := h
    refine ⟨h1, h2, ?_⟩
    simp only [VR] at h3 ⊢
    obtain ⟨us, g1, g2, g3⟩ := h3
    exact ⟨us, g1, g2, VRL.scal_ (by simpa [IV.scalR] using hx) g3⟩
  case sl f n cs =>
    obtain ⟨h1, h2, h3⟩ := h
    refine ⟨h1, h2, ?_⟩
    have : cs = [] := by simpa [IV.scalR] using hx
    subst this
    simp only [VR] at h3 ⊢
    obtain ⟨A, k, us, g1, g2, g3, g4, g5, g6, g7, g8⟩ := h3
    simp only [VRL] at g7
    subst g7
    exact ⟨A, k, [], g1, g2, g3, fun e => (by subst e; simp [IV.nlit] at h2), g5, g6, by simp [VRL], fun i hi => by simp at hi⟩
  all_goals first
    | (simp [IV.scalR, IV.scal] at hx; done)
    | (obtain ⟨h1, h2, h3⟩ := h; exact ⟨h1, h2, h3.scal_ rfl⟩)

theorem ResR.scal {A : Nat → Prop} {r : List IV} {rv : Value} (h : ResR A w w' r rv) (hr : r.all IV.scalR = true) (A' : Nat → Prop) : ResR A' w w' r rv := by
  obtain ⟨B, us, h1, h2, h3, h4⟩ := h
  refine ⟨fun _ => False, us, h1, fun _ h => h.elim, ?_, h4⟩
  clear h1 h4
  induction h3 with
  | nil => exact .nil
  | cons hx _ ih =>
    simp only [List.all_cons, Bool.and_eq_true] at hr
    exact .cons (resOne_scal (B' := B) hr.1 hx) (ih hr.2)

/-! ### behind a call -/
theorem Evo.called {H : Nat → Blk} {base : Nat} (hs : HS (sx w H φ base)) (hb : Below w.heap.size w w') : Evo (sx w H φ base) (sx w' H φ base) where
  S b h := ⟨Nat.lt_of_lt_of_le h.1 hb.size, h.2⟩
  cell b h i := by simp only [World.cell?, hb.block b h.1]
  base := Nat.le_refl _
  ver _ := Nat.le_refl _
  same _ hl _ := ⟨hl, rfl, Nat.le_refl _⟩
  size b := by
    by_cases h : b < w.heap.size
    · simp only [bsize, hb.block b h]; exact Nat.le_refl _
    · simp only [bsize]; rw [Array.getElem?_eq_none (by omega)]; exact Nat.zero_le _

theorem RelC.called (h : RelC φ w0 N s a w) (hb : Below w.heap.size w w') : RelC φ w0 N s a w' where
  hs := ⟨fun x hl => (h.hs.home x hl).evo (Evo.called h.hs hb) rfl rfl rfl (fun b off hp => hb.block b (home_lt h.hs hl hp)), h.hs.excl, Nat.le_trans h.hs.size hb.size⟩
  below := h.below.trans (hb.mono h.hs.size)
  size := h.size
  defers := h.defers
  t t := (h.t t).evo (Evo.called h.hs hb)
  g v u hg := (h.g v u hg).evo (Evo.called h.hs hb)

/-- what a pure result hangs on stands -/
theorem evoRes (h : RelC φ w0 N s a w) {B : Nat → Prop} (hB : ∀ b, B b → (b < w.heap.size → stb w s.h φ w0.heap.size b) ∧ b < w'.heap.size) : EvoP ⟨w', B, deadH, fun _ => none, w.heap.size⟩ (sx w' s.h φ w0.heap.size) :=
  ⟨fun b hb => ⟨(hB b hb).2, fun x hl hr p hp => by
    by_cases hlt : b < w.heap.size
    · exact ((hB b hb).1 hlt).2.1 x hl hr p hp
    · obtain ⟨b', o⟩ := p
      have := home_lt h.hs hl hp
      simp only at this ⊢
      omega, fun hlt => by
    have hs : w0.heap.size ≤ w.heap.size := h.hs.size
    exact ((hB b hb).1 (by omega)).2.2 hlt⟩, fun _ _ _ => rfl⟩

theorem plainRes {B : Nat → Prop} {n : Nat} {w w' : World} (hn : n = w.heap.size) : ∀ {r : List IV} {us : List Value}, F2 (resOne w w' B) r us → (∀ x ∈ r, isOwn x = false) → VRL ⟨w', B, deadH, fun _ => none, n⟩ r us ∧ IV.purL r = true ∧ r.all IV.nlit = true
  | [], us, h, _ => by cases h; exact ⟨by simp [VRL], rfl, rfl⟩
  | x :: r, us, h, ho => by
    cases h with
    | @cons _ u _ us hx hr =>
      obtain ⟨a1, a2, a3⟩ := plainRes hn hr (fun y hy => ho y (by simp [hy]))
      have hxo := ho x (by simp)
      have : x.pur = true ∧ x.nlit = true ∧ VR ⟨w', B, deadH, fun _ => none, w.heap.size⟩ x u := by
        cases x <;> first | exact hx | simp [isOwn] at hxo
      subst hn
      exact ⟨VRL.cons this.2.2 a1, by simp [IV.purL, this.1, a2], by simp [this.2.1, a3]⟩

theorem asRes_VR {c : Sx} {r : List IV} {us : List Value} (h : VRL c r us) (hn : r.all IV.nlit = true) : VR c (asRes r) (asVal us) := by
  have hl := h.length
  match r, us, h, hl, hn with
  | [], us, h, hl, _ => simp only [VRL] at h; subst h; simp only [asRes, asVal, VR]; exact ⟨[], rfl, rfl, by simp [VRL]⟩
  | [x], [u], h, _, _ =>
    simp only [VRL] at h
    obtain ⟨u', us', e, h1, _⟩ := h
    injection e with e1 e2
    subst e1
    simpa only [asRes, asVal] using h1
  | x :: y :: r, us, h, hl, hn =>
    match us, hl, h with
    | u :: v :: us, _, h => simp only [asRes, asVal, VR]; exact ⟨u :: v :: us, rfl, hn, h⟩
end
end Go.Proofs.YtmblapgoimegkaaDoor
