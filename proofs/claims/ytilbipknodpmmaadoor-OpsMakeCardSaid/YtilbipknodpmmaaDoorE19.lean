/- Regions in their own order. -/
import Derived.Test.YtilbipknodpmmaaDoorE15
import Derived.LoopN
set_option linter.unusedSectionVars false
set_option linter.unusedVariables false
set_option linter.unusedSimpArgs false
namespace Go.Proofs.YtilbipknodpmmaaDoor
open Go.RowKit

def guardT (ops : Array Oper) : Option (Nat × Bool) → Option (Option (Nat × Bool))
  | none => some none
  | some (g, b) => match (ops[g]?).bind (·.dst) with
    | some t => some (some (t, b))
    | none => none

def dstOk (N : Nat) : Option Nat → Bool
  | some d => decide (d < N)
  | none => true

def compL (P : Program) (N : Nat) (ops : Array Oper) : List Oper → List MI → Option (List MI)
  | os, .frz t :: hs => match compL P N ops os hs with | some l => some (.frz t :: l) | none => none
  | os, .kill ts :: hs => match compL P N ops os hs with | some l => some (.kill ts :: l) | none => none
  | o :: os, .op _ h _ :: hs => match cop P o h, guardT ops o.guard, dstOk N o.dst, compL P N ops os hs with
    | some m, some g, true, some l => some (.op o.dst m g :: l)
    | _, _, _, _ => none
  | [], [] => some []
  | _, _ => none

section
variable [Off] [Gh] [Old] {P : Program} {φ : Nat → Option (Nat × Nat)} {w0 : World} {N : Nat} {s s' : St} {a : Act} {w w' : World} {d : Nat} {e : Eff}

theorem Evo.weak {H H' : Nat → Blk} {base : Nat} (h : ∀ x, (H' x).ver = (H x).ver ∧ (H' x).cells = (H x).cells ∧ (H' x).isRow = (H x).isRow ∧ ((H' x).live = true → (H x).live = true) ∧ ((H' x).rw = true → (H x).rw = true)) : Evo (sx w H φ base) (sx w H' φ base) where
  S b hb := ⟨hb.1, fun x hl hr p hp => hb.2.1 x ((h x).2.2.2.1 hl) ((h x).2.2.2.2 hr) p hp, hb.2.2⟩
  cell _ _ _ := rfl
  base := Nat.le_refl _
  ver x := by rw [(h x).1]; exact Nat.le_refl _
  same x hl _ := ⟨(h x).2.2.2.1 hl, rfl, by rw [(h x).2.1]; exact Nat.le_refl _⟩
  size _ := Nat.le_refl _

theorem RelC.weak (hr : RelC φ w0 N s a w) {H' : Nat → Blk} (h : ∀ x, (H' x).ver = (s.h x).ver ∧ (H' x).cells = (s.h x).cells ∧ (H' x).isRow = (s.h x).isRow ∧ ((H' x).live = true → (s.h x).live = true) ∧ ((H' x).rw = true → (s.h x).rw = true)) : RelC φ w0 N { t := s.t, h := H' } a w := by
  have he := Evo.weak (φ := φ) (w := w) (base := w0.heap.size) h
  refine hr.putN ⟨fun x hl => ?_, fun x y p q hlx hrx hly hne hpx hpy => ?_, hr.hs.size⟩ he hr.below
  · have hl' := (h x).2.2.2.1 hl
    have hh := hr.hs.home x hl'
    refine ⟨by rw [(h x).2.1]; exact hh.one, by rw [(h x).2.1, (h x).2.2.1]; exact hh.row, hh.low, ?_⟩
    have hat := hh.at_
    show match φ x with
      | none => _
      | some (b, o) => _
    revert hat
    show (match φ x with
      | none => _
      | some (b, o) => _) → _
    cases hp : φ x with
    | none => intro hat; rw [(h x).2.1]; exact hat
    | some p =>
      obtain ⟨b, o⟩ := p
      rintro ⟨cs, T, fr, us, g1, g2, g3, g4, g5⟩
      exact ⟨cs, T, fr, us, g1, fun hrw => g2 ((h x).2.2.2.2 hrw), by rw [(h x).2.1]; exact g3.evo he, g4, g5⟩
  · exact hr.hs.excl x y p q ((h x).2.2.2.1 hlx) ((h x).2.2.2.2 hrx) ((h y).2.2.2.1 hly) hne hpx hpy

theorem frzL_ok : ∀ (cs : List IV) (s : St), (frzL s cs).t = s.t ∧ ∀ x, ((frzL s cs).h x).ver = (s.h x).ver ∧ ((frzL s cs).h x).cells = (s.h x).cells ∧ ((frzL s cs).h x).isRow = (s.h x).isRow ∧ (((frzL s cs).h x).live = true → (s.h x).live = true) ∧ (((frzL s cs).h x).rw = true → (s.h x).rw = true)
  | [], s => ⟨rfl, fun _ => ⟨rfl, rfl, rfl, id, id⟩⟩
  | c :: cs, s => by
    have plain : ∀ s : St, (frzL s cs).t = s.t ∧ ∀ x, ((frzL s cs).h x).ver = (s.h x).ver ∧ ((frzL s cs).h x).cells = (s.h x).cells ∧ ((frzL s cs).h x).isRow = (s.h x).isRow ∧ (((frzL s cs).h x).live = true → (s.h x).live = true) ∧ (((frzL s cs).h x).rw = true → (s.h x).rw = true) := frzL_ok cs
    cases c with
    | row h off n sz ver =>
      simp only [frzL]
      obtain ⟨p1, p2⟩ := plain (s.frzH h)
      refine ⟨p1, fun x => ?_⟩
      obtain ⟨q1, q2, q3, q4, q5⟩ := p2 x
      simp only [St.frzH, upd] at q1 q2 q3 q4 q5
      by_cases hx : x = h
      · subst hx
        simp only [if_true] at q1 q2 q3 q4 q5
        exact ⟨q1, q2, q3, q4, fun e => by have := q5 e; cases this⟩
      · simp only [if_neg hx] at q1 q2 q3 q4 q5
        exact ⟨q1, q2, q3, q4, q5⟩
    | ptr h off ver =>
      simp only [frzL]
      obtain ⟨p1, p2⟩ := plain (s.frzH h)
      refine ⟨p1, fun x => ?_⟩
      obtain ⟨q1, q2, q3, q4, q5⟩ := p2 x
      simp only [St.frzH, upd] at q1 q2 q3 q4 q5
      by_cases hx : x = h
      · subst hx
        simp only [if_true] at q1 q2 q3 q4 q5
        exact ⟨q1, q2, q3, q4, fun e => by have := q5 e; cases this⟩
      · simp only [if_neg hx] at q1 q2 q3 q4 q5
        exact ⟨q1, q2, q3, q4, q5⟩
    | _ => exact plain s

theorem RelC.frz (hr : RelC φ w0 N s a w) (v : IV) : RelC φ w0 N (s.frz v) a w := by
  obtain ⟨h1, h2⟩ := frzL_ok v.cells s
  have := hr.weak h2
  have e : s.frz v = { t := s.t, h := (frzL s v.cells).h } := by
    show frzL s v.cells = _
    rw [← h1]
  rw [e]; exact this

theorem RelC.kill (hr : RelC φ w0 N s a w) (ts : List Nat) : RelC φ w0 N (s.kill ts) a w := ⟨hr.hs, hr.below, hr.size, hr.defers, fun t => by
  simp only [St.kill]
  split
  · simp only [VR]
  · exact hr.t t, hr.g⟩

theorem undef_VR {c : Sx} : VR c (.tup []) undef := by simp only [VR]; exact ⟨[], rfl, rfl, by simp [VRL]⟩

theorem RelC.skip (hr : RelC φ w0 N s a w) {dst : Option Nat} (hd : dstOk N dst = true) : RelC φ w0 N (s.put dst (.tup [])) (a.put dst undef) w := by
  cases dst with
  | none => exact hr
  | some d => exact hr.put hr.hs (Evo.refl _) hr.below (by simpa [dstOk] using hd) undef_VR

theorem yield_bool (hr : RelC φ w0 N s a w) {ops : Array Oper} {g t : Nat} (hg : (ops[g]?).bind (·.dst) = some t) {x : Bool} (hx : s.t t = .bool x) : yielded ops a.tmps g = some x := by
  have h := hr.t t
  rw [hx] at h
  have h := h.bool_
  unfold yielded
  simp only [hg, Option.bind_some]
  rw [Array.getD_eq_getD_getElem?] at h
  cases hh : a.tmps[t]? with
  | none => rw [hh] at h; simp [undef] at h
  | some u => rw [hh] at h; simp at h; subst h; rfl

theorem yield_none (hr : RelC φ w0 N s a w) {ops : Array Oper} {g t : Nat} (hg : (ops[g]?).bind (·.dst) = some t) (hx : s.t t = .tup []) : yielded ops a.tmps g = none := by
  have h := hr.t t
  rw [hx] at h
  simp only [VR, VRL] at h
  obtain ⟨us, h, _, rfl⟩ := h
  unfold yielded
  simp only [hg, Option.bind_some]
  rw [Array.getD_eq_getD_getElem?] at h
  cases hh : a.tmps[t]? with
  | none => rfl
  | some u => rw [hh] at h; simp at h; subst h; rfl

theorem guardT_some {ops : Array Oper} {og : Option (Nat × Bool)} {t : Nat} {b : Bool} (h : guardT ops og = some (some (t, b))) : ∃ g, og = some (g, b) ∧ (ops[g]?).bind (·.dst) = some t := by
  unfold guardT at h
  split at h
  · cases h
  · rename_i g b'
    split at h
    · rename_i t' ht
      injection h with h; injection h with h; injection h with h1 h2
      subst h1; subst h2
      exact ⟨g, rfl, ht⟩
    · cases h
theorem guardT_none {ops : Array Oper} {og : Option (Nat × Bool)} (h : guardT ops og = some none) : og = none := by
  unfold guardT at h
  split at h
  · rfl
  · split at h <;> simp at h

theorem wanted_none {o : Oper} (h : o.guard = none) (y : Nat → Option Bool) : Region.wanted o y = true := by simp [Region.wanted, h]
theorem wanted_some {o : Oper} {g : Nat} {b : Bool} (h : o.guard = some (g, b)) (y : Nat → Option Bool) : Region.wanted o y = (y g == some b) := by simp [Region.wanted, h]

theorem stepM_wp (h : RelC φ w0 N s a w) {ops : Array Oper} {i : Nat} {o : Oper} (ho : ops[i]? = some o) {hint m : MOp} (hm : cop P o hint = some m) {g : Option (Nat × Bool)} (hg : guardT ops o.guard = some g) (hd : dstOk N o.dst = true) {K : St → Prop} (hr : stepM (RCs P) s (.op o.dst m g) K)
    {next : Act → World → Prop} {Q : Exit → Act → World → Prop} (hk : ∀ s' a' w', K s' → Rel w0 N s' a' w' → next a' w') : wpOp P ops Q i next a w := by
  have hd' : ∀ x, o.dst = some x → x < N := fun x hx => by rw [hx] at hd; simpa [dstOk] using hd
  unfold wpOp
  simp only [ho]
  simp only [stepM] at hr
  cases g with
  | none =>
    rw [wanted_none (guardT_none hg)]
    exact .inl (runOp_wp h hd' hm hr hk)
  | some tb =>
    obtain ⟨t, b⟩ := tb
    obtain ⟨g, hg1, hg2⟩ := guardT_some hg
    rw [wanted_some hg1]
    simp only at hr
    split at hr
    · rename_i x hx
      rw [yield_bool h hg2 hx]
      split at hr
      · rename_i hxb
        subst hxb
        simp only [BEq.rfl, if_true]
        exact .inl (runOp_wp h hd' hm hr hk)
      · rename_i hxb
        have : (some x == some b) = false := by simp; exact hxb
        rw [this]
        exact hk _ _ _ hr (h.skip hd).rel
    · rename_i hx
      rw [yield_none h hg2 hx]
      exact hk _ _ _ hr (h.skip hd).rel
    · exact hr.elim

theorem runL_wp {ops : Array Oper} {Q : Exit → Act → World → Prop} {K : St → Prop} (hQ : ∀ s a w, K s → Rel w0 N s a w → Q .normal a w) : ∀ (hs : List MI) (os : List Oper) (i : Nat) (l : List MI) (s : St) (a : Act) (w : World), compL P N ops os hs = some l → ops.toList.drop i = os →
    Rel w0 N s a w → runL (RCs P) s l K → wpOps P ops Q (List.range' i os.length) a w
  | .frz t :: hs, os, i, l, s, a, w, hc, hi, hr, hk => by
    simp only [compL] at hc
    split at hc
    · rename_i l' hl
      injection hc with hc; subst hc
      simp only [runL, stepM] at hk
      obtain ⟨φ, hr⟩ := hr.open_
      exact runL_wp hQ hs os i l' _ a w hl hi (hr.frz _).rel hk
    · cases hc
  | .kill ts :: hs, os, i, l, s, a, w, hc, hi, hr, hk => by
    simp only [compL] at hc
    split at hc
    · rename_i l' hl
      injection hc with hc; subst hc
      simp only [runL, stepM] at hk
      obtain ⟨φ, hr⟩ := hr.open_
      exact runL_wp hQ hs os i l' _ a w hl hi (hr.kill _).rel hk
    · cases hc
  | .op _ h _ :: hs, o :: os, i, l, s, a, w, hc, hi, hr, hk => by
    simp only [compL] at hc
    split at hc
    · rename_i m g l' hm hg hd hl
      injection hc with hc; subst hc
      obtain ⟨φ, hr⟩ := hr.open_
      have ho : ops[i]? = some o := by
        have h0 : (ops.toList.drop i)[0]? = some o := by rw [hi]; rfl
        rwa [List.getElem?_drop, Nat.add_zero, Array.getElem?_toList] at h0
      rw [List.length_cons, List.range'_succ, wpOps_cons]
      rw [runL] at hk
      refine stepM_wp hr ho hm hg hd hk (fun s' a' w' hk' hr' => ?_)
      exact runL_wp hQ hs os (i + 1) l' s' a' w' hl (by rw [← List.tail_drop, hi]; rfl) hr' hk'
    · cases hc
  | [], [], i, l, s, a, w, hc, hi, hr, hk => by
    simp only [compL, Option.some.injEq] at hc
    subst hc
    exact hQ _ _ _ hk hr
  | [], _ :: _, _, _, _, _, _, hc, _, _, _ => by simp [compL] at hc
  | .op _ _ _ :: _, [], _, _, _, _, _, hc, _, _, _ => by simp [compL] at hc
end
end Go.Proofs.YtilbipknodpmmaaDoor

/-! What an operation reads, and that it yields the same where that is the same. -/
set_option linter.unusedSectionVars false
set_option linter.unusedVariables false
set_option linter.unusedSimpArgs false
namespace Go.Proofs.YtilbipknodpmmaaDoor
open Go.RowKit

def MOp.opds : MOp → List Opd
  | .mov x | .box x | .chk x | .un _ x | .toInt _ x | .toStr x | .mark x | .arrOf _ _ x | .fa _ x | .fld _ _ _ x | .ext x _ | .len x | .lenS x | .movS x | .nilS _ x | .nilP _ x | .cap x => [x]
  | .load _ _ x => [x]
  | .pick c a b => [c, a, b]
  | .slArrF _ _ x => [x]
  | .alloc _ | .bad | .lenC _ => []
  | .build _ ps | .bsl _ _ _ ps | .bslR _ _ _ ps => ps.map (·.2.2)
  | .store _ a v => [a, v]
  | .bin _ x y | .binB _ x y | .eqv _ _ x y | .mk _ _ _ x y | .ixArr _ _ x y | .ixSl _ x y | .idx _ _ _ x y | .idxStr x y | .app _ _ x y | .appP _ _ x y | .appZ _ _ _ x y | .copy _ x y | .mnx _ x y => [x, y]
  | .slStr x lo hi => x :: (lo.toList ++ hi.toList)
  | .slSl _ x lo hi mx | .slArr _ _ x lo hi mx => x :: (lo.toList ++ hi.toList ++ mx.toList)
  | .call _ as | .callp _ as | .calln _ as | .mkf _ as => as
  | .calli x as => x :: as

variable [Off]
structure Le (s0 s : St) (d : Nat) (X : List Opd) : Prop where
  get : ∀ q ∈ X, s.get q = s0.get q
  home : ∀ x, (s0.h x).live = true → s.h x = s0.h x
  ver : (s.h (hom d)).ver = (s0.h (hom d)).ver

section
variable {s0 s : St} {d : Nat} {X : List Opd}

theorem Le.ok (h : Le s0 s d X) {x v : Nat} (hk : s0.ok x v = true) : s.ok x v = true ∧ s.h x = s0.h x := by
  have hl : (s0.h x).live = true := by simp only [St.ok, Bool.and_eq_true] at hk; exact hk.1
  have := h.home x hl
  exact ⟨by simpa only [St.ok, this] using hk, this⟩

theorem Le.elems (h : Le s0 s d X) {sz : Nat} {v : IV} {r : Nat × List IV} (he : s0.elems sz v = some r) : s.elems sz v = some r := by
  cases v <;> simp only [St.elems] at he ⊢ <;> try exact he
  split at he
  · rename_i hc
    obtain ⟨o1, o2⟩ := h.ok hc.1
    rw [o1, St.seg, o2]
    rw [if_pos ⟨rfl, hc.2⟩]
    exact he
  · cases he

theorem Le.more (h : Le s0 s d X) {sz : Nat} {v : IV} {r : Nat × List IV} (he : s0.more sz v = some r) : s.more sz v = some r := by
  cases v with
  | str l => exact he
  | row x off n sz' ver => simp only [St.more] at he ⊢; exact h.elems he
  | _ => simp only [St.more] at he ⊢; exact h.elems he

theorem Le.nest1 (h : Le s0 s d X) {v r : IV} (he : s0.nest1 v = some r) : s.nest1 v = some r := by
  cases v <;> simp only [St.nest1] at he ⊢ <;> try exact he
  split at he
  · rename_i hc
    obtain ⟨o1, o2⟩ := h.ok hc.1
    rw [o1, St.seg, o2]
    rw [if_pos ⟨rfl, hc.2⟩]
    exact he
  · cases he

theorem Le.nestL (h : Le s0 s d X) : ∀ {v r : List IV}, s0.nestL v = some r → s.nestL v = some r
  | [], r, he => he
  | c :: cs, r, he => by
    simp only [St.nestL] at he ⊢
    split at he
    · rename_i x xs h1 h2; rw [h.nest1 h1, h.nestL h2]; exact he
    · cases he

theorem Le.nest (h : Le s0 s d X) {v : IV} {r : List IV} (he : s0.nest v = some r) : s.nest v = some r := by
  simp only [St.nest] at he ⊢
  split at he
  · rename_i hc; rw [if_pos hc]; exact he
  · rename_i hc; rw [if_neg hc]; exact h.nestL he

theorem Le.snapB (h : Le s0 s d X) {v r : IV} (he : s0.snapB v = some r) : s.snapB v = some r := by
  cases v with
  | row x off n sz ver =>
    simp only [St.snapB] at he ⊢
    split at he
    · rename_i hc
      obtain ⟨o1, o2⟩ := h.ok hc.1
      rw [o1, St.seg, o2]
      rw [if_pos ⟨rfl, hc.2⟩]
      exact he
    · cases he
  | sl f n cs => cases f <;> (simp only [St.snapB] at he ⊢; exact he)
  | _ => simp only [St.snapB] at he ⊢; exact he

theorem Le.snapP (h : Le s0 s d X) {v r : IV} (he : s0.snapP v = some r) : s.snapP v = some r := by
  cases v with
  | ptr x off ver =>
    simp only [St.snapP] at he ⊢
    split at he
    · rename_i hc
      obtain ⟨o1, o2⟩ := h.ok hc.1
      rw [o1, o2]
      rw [if_pos ⟨rfl, hc.2⟩]
      exact he
    · cases he
  | addr cs => simp only [St.snapP] at he ⊢; exact he
  | _ => simp only [St.snapP] at he ⊢; exact h.snapB he

theorem Le.snapPL (h : Le s0 s d X) : ∀ {v r : List IV}, s0.snapPL v = some r → s.snapPL v = some r
  | [], r, he => he
  | c :: cs, r, he => by
    simp only [St.snapPL] at he ⊢
    split at he
    · rename_i x xs h1 h2; rw [h.snapP h1, h.snapPL h2]; exact he
    · cases he
theorem Le.snapL (h : Le s0 s d X) : ∀ {v r : List IV}, s0.snapL v = some r → s.snapL v = some r
  | [], r, he => he
  | c :: cs, r, he => by
    simp only [St.snapL] at he ⊢
    split at he
    · rename_i x xs h1 h2; rw [h.snapB h1, h.snapL h2]; exact he
    · cases he
theorem Le.snap1 (h : Le s0 s d X) {v r : IV} (he : s0.snap1 v = some r) : s.snap1 v = some r := by
  cases v with
  | clo f caps =>
    simp only [St.snap1] at he ⊢
    split at he
    · rename_i cs hc; rw [h.snapPL hc]; exact he
    · cases he
  | _ => simp only [St.snap1] at he ⊢; exact h.snapB he
theorem Le.snap (h : Le s0 s d X) {v r : IV} (he : s0.snap v = some r) : s.snap v = some r := by
  cases v with
  | agg cs =>
    simp only [St.snap] at he ⊢
    split at he
    · rename_i hc; rw [if_pos hc]; exact he
    · rename_i hc
      rw [if_neg hc]
      split at he
      · rename_i cs hs; rw [h.snapL hs]; exact he
      · cases he
  | lits n sz cs =>
    simp only [St.snap] at he ⊢
    split at he
    · rename_i cs' hs; rw [h.snapL hs]; exact he
    · cases he
  | _ => simp only [St.snap] at he ⊢; exact h.snap1 he
theorem Le.snaps_ (h : Le s0 s d X) : ∀ {l : List Opd} {r : List IV}, (∀ q ∈ l, s.get q = s0.get q) → s0.snaps l = some r → s.snaps l = some r
  | [], r, _, he => he
  | q :: l, r, hg, he => by
    simp only [St.snaps] at he ⊢
    rw [hg q (by simp)]
    split at he
    · rename_i v hv
      split at he
      · rename_i x xs h1 h2; rw [h.snap h1, h.snaps_ (fun q hq => hg q (by simp [hq])) h2]; exact he
      · cases he
    · cases he

theorem Le.stab (h : Le s0 s d X) {v r : IV} (hs : s0.snap v = some r) (he : s0.stab v = true) : s.stab v = true := by
  cases v with
  | row x off n sz ver =>
    simp only [St.snap, St.snap1, St.snapB] at hs
    split at hs
    · rename_i hc
      simp only [St.stab, (h.ok hc.1).2] at he ⊢
      exact he
    · cases hs
  | agg cs =>
    simp only [St.stab, List.all_eq_true] at he ⊢
    intro c hc
    have := he c hc
    cases c with
    | row x off n sz ver =>
      simp only at this ⊢
      simp only [St.snap] at hs
      split at hs
      · rename_i hsc
        have := (List.all_eq_true.1 hsc) _ hc
        simp [IV.scal] at this
      · split at hs
        · rename_i cs' hcs
          have key : ∀ (cs cs' : List IV), s0.snapL cs = some cs' → IV.row x off n sz ver ∈ cs → ∃ r, s0.snapB (.row x off n sz ver) = some r := by
            intro cs
            induction cs with
            | nil => intro _ _ hm; cases hm
            | cons y ys ih =>
              intro cs' hl hm
              simp only [St.snapL] at hl
              split at hl
              · rename_i z zs hz hzs
                rcases List.mem_cons.1 hm with rfl | hm
                · exact ⟨z, hz⟩
                · exact ih _ hzs hm
              · cases hl
          obtain ⟨r', hr'⟩ := key _ _ hcs hc
          simp only [St.snapB] at hr'
          split at hr'
          · rename_i hc'
            rw [(h.ok hc'.1).2]; exact this
          · cases hr'
        · cases hs
    | _ => exact this
  | _ => exact he
theorem Le.stabs_ (h : Le s0 s d X) : ∀ {l : List Opd} {r : List IV}, (∀ q ∈ l, s.get q = s0.get q) → s0.snaps l = some r → s0.stabs l = true → s.stabs l = true
  | [], _, _, _, _ => rfl
  | q :: l, r, hg, hs, he => by
    simp only [St.stabs, Bool.and_eq_true] at he ⊢
    simp only [St.snaps] at hs
    rw [hg q (by simp)]
    split at hs
    · rename_i v hv
      split at hs
      · rename_i x xs h1 h2
        rw [hv] at he
        exact ⟨h.stab h1 he.1, h.stabs_ (fun q hq => hg q (by simp [hq])) h2 he.2⟩
      · cases hs
    · cases hs

theorem Le.parts (h : Le s0 s d X) : ∀ {l : List (Nat × Nat × Opd)} {r : List (Nat × List IV)}, (∀ q ∈ l.map (·.2.2), s.get q = s0.get q) → s0.parts l = some r → s.parts l = some r
  | [], r, _, he => he
  | (off, n, x) :: l, r, hg, he => by
    simp only [St.parts] at he ⊢
    rw [hg x (by simp)]
    split at he
    · rename_i v ps hv hps
      rw [hv, h.parts (fun q hq => hg q (by simp only [List.map_cons, List.mem_cons]; exact .inr hq)) hps]; exact he
    · cases he
theorem Le.partsN (h : Le s0 s d X) : ∀ {l : List (Nat × Nat × Opd)} {r : List (Nat × List IV)}, (∀ q ∈ l.map (·.2.2), s.get q = s0.get q) → s0.partsN l = some r → s.partsN l = some r
  | [], r, _, he => he
  | (off, n, x) :: l, r, hg, he => by
    simp only [St.partsN] at he ⊢
    rw [hg x (by simp)]
    split at he
    · rename_i v ps hv hps
      rw [hv, h.partsN (fun q hq => hg q (by simp only [List.map_cons, List.mem_cons]; exact .inr hq)) hps]
      simp only []
      split at he
      · rename_i cs hn; rw [h.nest hn]; exact he
      · cases he
    · cases he

theorem bnd_le {q : Option Opd} (hg : ∀ y ∈ q.toList, s.get y = s0.get y) (n : Nat) : bnd s q n = bnd s0 q n := by
  cases q with
  | none => rfl
  | some y => simp only [bnd, hg y (by simp)]
theorem bnds_le {lo hi mx : Option Opd} (h1 : ∀ y ∈ lo.toList, s.get y = s0.get y) (h2 : ∀ y ∈ hi.toList, s.get y = s0.get y) (h3 : ∀ y ∈ mx.toList, s.get y = s0.get y) (n : Nat) : bnds s n lo hi mx = bnds s0 n lo hi mx := by
  simp only [bnds, bnd_le h1, bnd_le h2, bnd_le h3]

theorem Le.fresh (h : Le s0 s d X) (rw_ row : Bool) (cs : List IV) : freshBlk s (hom d) rw_ row cs = freshBlk s0 (hom d) rw_ row cs := by simp only [freshBlk, h.ver]

theorem neu_mono {m : MOp} (h : Le s0 s d m.opds) {e : Eff} (he : neu s0 d m = some e) : neu s d m = some e := by
  have hv := h.ver
  cases m with
  | mov x => simp only [neu, h.get x (by simp [MOp.opds])] at he ⊢; exact he
  | pick c a b => simp only [neu, h.get c (by simp [MOp.opds]), h.get a (by simp [MOp.opds]), h.get b (by simp [MOp.opds])] at he ⊢; exact he
  | alloc z => simp only [neu, h.fresh, hv] at he ⊢; exact he
  | box x => simp only [neu, h.fresh, hv, h.get x (by simp [MOp.opds])] at he ⊢; exact he
  | build z ps =>
    simp only [neu] at he ⊢
    split at he
    · rename_i r hr; rw [h.parts (fun q hq => h.get q hq) hr]; exact he
    · cases he
  | bslR n sz z ps =>
    simp only [neu] at he ⊢
    split at he
    · rename_i r hr; rw [h.parts (fun q hq => h.get q hq) hr]; exact he
    · cases he
  | bsl n sz z ps =>
    simp only [neu] at he ⊢
    split at he
    · rename_i r hr; rw [h.partsN (fun q hq => h.get q hq) hr]; exact he
    · cases he
  | load ag n a =>
    simp only [neu, h.get a (by simp [MOp.opds])] at he ⊢
    split at he
    · rename_i x off ver hx
      split at he
      · rename_i hc
        obtain ⟨o1, o2⟩ := h.ok hc.1
        simp only [o1, o2, St.seg]; rw [if_pos ⟨trivial, hc.2⟩]; exact he
      · cases he
    · rename_i cs hx; exact he
    · cases he
  | store n a v => simp [neu] at he
  | chk x =>
    simp only [neu, h.get x (by simp [MOp.opds])] at he ⊢
    split at he
    · rename_i y off ver hx
      split at he
      · rename_i hc; simp only [(h.ok hc).1, if_true]; exact he
      · cases he
    · rename_i cs hx; exact he
    · cases he
  | bin op x y => simp only [neu, h.get x (by simp [MOp.opds]), h.get y (by simp [MOp.opds])] at he ⊢; exact he
  | binB op x y => simp only [neu, h.get x (by simp [MOp.opds]), h.get y (by simp [MOp.opds])] at he ⊢; exact he
  | eqv ng ks x y => simp only [neu, h.get x (by simp [MOp.opds]), h.get y (by simp [MOp.opds])] at he ⊢; exact he
  | un op x => simp only [neu, h.get x (by simp [MOp.opds])] at he ⊢; exact he
  | toInt k x => simp only [neu, h.get x (by simp [MOp.opds])] at he ⊢; exact he
  | toStr x =>
    simp only [neu, h.get x (by simp [MOp.opds])] at he ⊢
    split at he
    · rename_i v hx
      split at he
      · rename_i n cs hel; rw [h.elems hel]; exact he
      · cases he
    · cases he
  | mark x => simp only [neu, h.get x (by simp [MOp.opds])] at he ⊢; exact he
  | arrOf n sz x =>
    simp only [neu, h.get x (by simp [MOp.opds])] at he ⊢
    split at he
    · rename_i y off m sz' ver hx
      split at he
      · rename_i hc; simp only [(h.ok hc.1).1]; rw [if_pos ⟨trivial, hc.2⟩]; exact he
      · cases he
    · rename_i f m cs hx; exact he
    · cases he
  | mk sz by_ z l c => simp only [neu, h.fresh, hv, h.get l (by simp [MOp.opds]), h.get c (by simp [MOp.opds])] at he ⊢; exact he
  | slStr x lo hi =>
    rw [neu, h.get x (by simp [MOp.opds])]
    rw [neu] at he
    split at he
    · rename_i l hx
      simp only [bnds_le (s := s) (s0 := s0) (mx := none) (fun y hy => h.get y (by simp only [MOp.opds, List.mem_cons, List.mem_append]; exact .inr (.inl hy))) (fun y hy => h.get y (by simp only [MOp.opds, List.mem_cons, List.mem_append]; exact .inr (.inr hy))) (by simp)]
      exact he
    · cases he
  | slSl sz x lo hi mx =>
    have hb := fun n => bnds_le (s := s) (s0 := s0) (lo := lo) (hi := hi) (mx := mx) (fun y hy => h.get y (by simp only [MOp.opds, List.mem_cons, List.mem_append]; exact .inr (.inl (.inl hy)))) (fun y hy => h.get y (by simp only [MOp.opds, List.mem_cons, List.mem_append]; exact .inr (.inl (.inr hy)))) (fun y hy => h.get y (by simp only [MOp.opds, List.mem_cons, List.mem_append]; exact .inr (.inr hy))) n
    simp only [neu, h.get x (by simp [MOp.opds]), hb] at he ⊢
    exact he
  | slArr n sz x lo hi mx =>
    have hb := fun n => bnds_le (s := s) (s0 := s0) (lo := lo) (hi := hi) (mx := mx) (fun y hy => h.get y (by simp only [MOp.opds, List.mem_cons, List.mem_append]; exact .inr (.inl (.inl hy)))) (fun y hy => h.get y (by simp only [MOp.opds, List.mem_cons, List.mem_append]; exact .inr (.inl (.inr hy)))) (fun y hy => h.get y (by simp only [MOp.opds, List.mem_cons, List.mem_append]; exact .inr (.inr hy))) n
    simp only [neu, h.get x (by simp [MOp.opds]), hb] at he ⊢
    split at he
    · rename_i y off ver hx
      split at he
      · rename_i p q e' hbb
        split at he
        · rename_i hc
          obtain ⟨o1, o2⟩ := h.ok hc.1
          simp only [o1, o2]; rw [if_pos ⟨trivial, hc.2⟩]; exact he
        · cases he
      · cases he
    · rename_i cs hx; exact he
    · cases he
  | slArrF n sz x =>
    simp only [neu, h.get x (by simp [MOp.opds])] at he ⊢
    split at he
    · rename_i y off ver hx
      split at he
      · rename_i hc
        obtain ⟨o1, o2⟩ := h.ok hc.1
        simp only [o1, o2, St.seg]; rw [if_pos ⟨trivial, hc.2⟩]; exact he
      · cases he
    · cases he
  | fa off x =>
    simp only [neu, h.get x (by simp [MOp.opds])] at he ⊢
    split at he
    · rename_i y o ver hx
      split at he
      · rename_i hc; simp only [(h.ok hc).1, if_true]; exact he
      · cases he
    · rename_i cs hx; exact he
    · cases he
  | fld ag off n x => simp only [neu, h.get x (by simp [MOp.opds])] at he ⊢; exact he
  | ixArr n sz x i =>
    simp only [neu, h.get x (by simp [MOp.opds]), h.get i (by simp [MOp.opds])] at he ⊢
    split at he
    · rename_i y o ver j hx hj
      split at he
      · rename_i hc; simp only [(h.ok hc.1).1]; rw [if_pos ⟨trivial, hc.2⟩]; exact he
      · cases he
    · rename_i cs j hx hj; exact he
    · cases he
  | ixSl sz x i =>
    simp only [neu, h.get x (by simp [MOp.opds]), h.get i (by simp [MOp.opds])] at he ⊢
    split at he
    · rename_i y o n sz' ver j hx hj
      split at he
      · rename_i hc; simp only [(h.ok hc.1).1]; rw [if_pos ⟨trivial, hc.2⟩]; exact he
      · cases he
    · rename_i f n cs j hx hj; exact he
    · cases he
  | idx n sz ag x i => simp only [neu, h.get x (by simp [MOp.opds]), h.get i (by simp [MOp.opds])] at he ⊢; exact he
  | idxStr x i => simp only [neu, h.get x (by simp [MOp.opds]), h.get i (by simp [MOp.opds])] at he ⊢; exact he
  | ext x i => simp only [neu, h.get x (by simp [MOp.opds])] at he ⊢; exact he
  | call f as => simp [neu] at he
  | callp f as => simp [neu] at he
  | calln f as => simp [neu] at he
  | calli f as => simp [neu] at he
  | mkf f caps =>
    have : caps.mapM s.get = caps.mapM s0.get := by
      have : ∀ l : List Opd, (∀ q ∈ l, s.get q = s0.get q) → l.mapM s.get = l.mapM s0.get := by
        intro l
        induction l with
        | nil => intro _; rfl
        | cons q l ih => intro hl; rw [List.mapM_cons, List.mapM_cons, hl q (by simp), ih (fun q hq => hl q (by simp [hq]))]
      exact this caps (fun q hq => h.get q hq)
    simp only [neu, this] at he ⊢
    exact he
  | bad => simp [neu] at he
  | lenC n => exact he
  | len x =>
    simp only [neu, h.get x (by simp [MOp.opds])] at he ⊢
    split at he
    · rename_i f n cs hx; exact he
    · rename_i y o n sz ver hx
      split at he
      · rename_i hc; simp only [(h.ok hc).1, if_true]; exact he
      · cases he
    · cases he
  | lenS x => simp only [neu, h.get x (by simp [MOp.opds])] at he ⊢; exact he
  | movS x => simp only [neu, h.get x (by simp [MOp.opds])] at he ⊢; exact he
  | nilS ng x =>
    simp only [neu, h.get x (by simp [MOp.opds])] at he ⊢
    split at he
    · rename_i f n cs hx; exact he
    · rename_i y o n sz ver hx
      split at he
      · rename_i hc; simp only [(h.ok hc).1, if_true]; exact he
      · cases he
    · cases he
  | nilP ng x =>
    simp only [neu, h.get x (by simp [MOp.opds])] at he ⊢
    split at he
    · rename_i hx; exact he
    · rename_i y o ver hx
      split at he
      · rename_i hc; simp only [(h.ok hc).1, if_true]; exact he
      · cases he
    · rename_i cs hx; exact he
    · cases he
  | cap x => simp only [neu, h.get x (by simp [MOp.opds])] at he ⊢; exact he
  | app sz by_ x y =>
    simp only [neu, h.get x (by simp [MOp.opds]), h.get y (by simp [MOp.opds]), h.fresh, hv] at he ⊢
    split at he
    · rename_i f n cs v hx hy
      split at he
      · rename_i mm ds hm; rw [h.more hm]; exact he
      · cases he
    · cases he
  | appP sz by_ x y =>
    simp only [neu, h.get x (by simp [MOp.opds]), h.get y (by simp [MOp.opds])] at he ⊢
    split at he
    · rename_i f n cs v hx hy
      split at he
      · rename_i mm ds hm; rw [h.more hm]; exact he
      · cases he
    · cases he
  | appZ sz by_ z x y => simp [neu] at he
  | copy sz x y => simp [neu] at he
  | mnx b x y => simp only [neu, h.get x (by simp [MOp.opds]), h.get y (by simp [MOp.opds])] at he ⊢; exact he
end
end Go.Proofs.YtilbipknodpmmaaDoor

/-! Regions whose order is open: the trace. -/
set_option linter.unusedSectionVars false
set_option linter.unusedVariables false
set_option linter.unusedSimpArgs false
namespace Go.Proofs.YtilbipknodpmmaaDoor
open Go.RowKit

section
variable [Off] (R : Cs)
def OutO (s : St) (d : Nat) (o : MOp) (v : IV) (b : Option Blk) : Prop :=
  match o with
  | .call f args => ∃ as r, s.snaps args = some as ∧ R.C f as r ∧ (s.stabs args = true ∨ r.all IV.scalR = true) ∧ v = asRes (impV (hom d) ((s.h (hom d)).ver + 1) r).1 ∧ b = (impV (hom d) ((s.h (hom d)).ver + 1) r).2.map (freshBlk s (hom d) true true)
  | .callp f args => ∃ as r, s.snaps args = some as ∧ R.C f as r ∧ (s.stabs args = true ∨ r.all IV.scalR = true) ∧ v = asRes (plainL r) ∧ b = none
  | o => ∃ e, neu s d o = some e ∧ v = e.v ∧ b = e.b
def OutP (s : St) (d : Nat) (o : MOp) (g : Option (Nat × Bool)) (v : IV) (b : Option Blk) : Prop :=
  match g with
  | none => OutO R s d o v b
  | some (t, x) => (∃ y, s.t t = .bool y ∧ (y = x → OutO R s d o v b) ∧ (y ≠ x → v = .tup [] ∧ b = none)) ∨ (s.t t = .tup [] ∧ v = .tup [] ∧ b = none)
end
def updO (h : Nat → Blk) (d : Nat) (b : Option Blk) : Nat → Blk := match b with
  | some b => upd h d b
  | none => h

section
variable [Off] {R : Cs}

theorem runP_op {s : St} {g : Nat → Blk} {d : Nat} {o : MOp} {l : List MI} {K : St → Prop}
    (h : (match o with
      | .call f args => ∃ as r, s.snaps args = some as ∧ R.C f as r ∧ (s.stabs args = true ∨ r.all IV.scalR = true) ∧
          runP R { s with t := upd s.t d (asRes (impV (hom d) ((s.h (hom d)).ver + 1) r).1) } (match (impV (hom d) ((s.h (hom d)).ver + 1) r).2 with | some cs => upd g (hom d) (freshBlk s (hom d) true true cs) | none => g) l K
      | .callp f args => ∃ as r, s.snaps args = some as ∧ R.C f as r ∧ (s.stabs args = true ∨ r.all IV.scalR = true) ∧ runP R { s with t := upd s.t d (asRes (plainL r)) } g l K
      | o => match neu s d o with
        | some e => runP R { s with t := upd s.t d e.v } (match e.b with | some b => upd g (hom d) b | none => g) l K
        | none => False)) : ∃ v b, OutO R s d o v b ∧ runP R { s with t := upd s.t d v } (updO g (hom d) b) l K := by
  have gen : (match neu s d o with
        | some e => runP R { s with t := upd s.t d e.v } (match e.b with | some b => upd g (hom d) b | none => g) l K
        | none => False) → ∃ v b, (∃ e, neu s d o = some e ∧ v = e.v ∧ b = e.b) ∧ runP R { s with t := upd s.t d v } (updO g (hom d) b) l K := by
    intro h
    split at h
    · rename_i e he
      refine ⟨e.v, e.b, ⟨e, he, rfl, rfl⟩, ?_⟩
      cases hb : e.b with
      | none => rw [hb] at h; exact h
      | some b => rw [hb] at h; exact h
    · exact h.elim
  cases o
  case call f args =>
    obtain ⟨as, r, h1, h2, hst, h3⟩ := h
    refine ⟨_, _, ⟨as, r, h1, h2, hst, rfl, rfl⟩, ?_⟩
    cases hi : (impV (hom d) ((s.h (hom d)).ver + 1) r).2 with
    | none => rw [hi] at h3; exact h3
    | some cs => rw [hi] at h3; exact h3
  case callp f args =>
    obtain ⟨as, r, h1, h2, hst, h3⟩ := h
    exact ⟨_, _, ⟨as, r, h1, h2, hst, rfl, rfl⟩, h3⟩
  all_goals exact gen h

theorem runP_cons {s : St} {g : Nat → Blk} {d : Nat} {o : MOp} {gd : Option (Nat × Bool)} {l : List MI} {K : St → Prop} (h : runP R s g (.op (some d) o gd :: l) K) :
    ∃ v b, OutP R s d o gd v b ∧ runP R { s with t := upd s.t d v } (updO g (hom d) b) l K := by
  cases gd with
  | none => exact runP_op h
  | some tb =>
    obtain ⟨t, x⟩ := tb
    simp only [runP] at h
    split at h
    · rename_i y hy
      split at h
      · rename_i hyx
        obtain ⟨v, b, h1, h2⟩ := runP_op h
        exact ⟨v, b, .inl ⟨y, hy, fun _ => h1, fun n => absurd hyx n⟩, h2⟩
      · rename_i hyx
        exact ⟨.tup [], none, .inl ⟨y, hy, fun e => absurd e hyx, fun _ => ⟨rfl, rfl⟩⟩, h⟩
    · rename_i ht
      exact ⟨.tup [], none, .inr ⟨ht, rfl, rfl⟩, h⟩
    · exact h.elim

theorem mem_dsts {d : Nat} {o : MOp} {g : Option (Nat × Bool)} : ∀ {l : List MI}, MI.op (some d) o g ∈ l → d ∈ dsts l
  | m :: l, h => by
    rcases List.mem_cons.1 h with h | h
    · subst h; simp [dsts]
    · have := mem_dsts h
      cases m with
      | op d'' o'' g'' => cases d'' <;> simp [dsts, this]
      | frz t => simpa [dsts] using this
      | kill ts => simpa [dsts] using this

theorem mem_dsts_take {x : Nat} : ∀ {l : List MI} {i : Nat}, x ∈ dsts (l.take i) → x ∈ dsts l
  | [], i, h => by simp [dsts] at h
  | m :: l, 0, h => by simp [dsts] at h
  | m :: l, i + 1, h => by
    rw [List.take_succ_cons] at h
    cases m with
    | op d'' o'' g'' =>
      cases d'' with
      | none => simp only [dsts] at h ⊢; exact mem_dsts_take h
      | some d'' =>
        simp only [dsts, List.mem_cons] at h ⊢
        rcases h with h | h
        · exact .inl h
        · exact .inr (mem_dsts_take h)
    | frz t => simp only [dsts] at h ⊢; exact mem_dsts_take h
    | kill ts => simp only [dsts] at h ⊢; exact mem_dsts_take h

theorem runP_pts (h0 : Nat → Blk) : ∀ (pre : List MI) (t : Nat → IV) (g : Nat → Blk) (K : St → Prop), runP R ⟨t, h0⟩ g pre K → (dsts pre).Nodup →
    ∃ (vs : Nat → IV) (bs : Nat → Option Blk) (s' : St), K s' ∧ (∀ x, s'.t x = if x ∈ dsts pre then vs x else t x) ∧ (∀ y, s'.h y = if y ∈ (dsts pre).map hom then (bs y).getD (g y) else g y) ∧
      ∀ i (hi : i < pre.length), ∃ d o gd, pre[i] = .op (some d) o gd ∧ OutP R ⟨fun x => if x ∈ dsts (pre.take i) then vs x else t x, h0⟩ d o gd (vs d) (bs (hom d))
  | [], t, g, K, h, _ => ⟨t, fun _ => none, _, h, fun x => by simp [dsts], fun x => by simp [dsts], fun i hi => by simp at hi⟩
  | .op (some d) o gd :: l, t, g, K, h, hn => by
    obtain ⟨v, b, h1, h2⟩ := runP_cons h
    simp only [dsts, List.nodup_cons] at hn
    obtain ⟨vs, bs, s', k1, k2, k3, k4⟩ := runP_pts h0 l _ _ K h2 hn.2
    have hnh : hom d ∉ (dsts l).map hom := by
      intro hm
      obtain ⟨e, he, hee⟩ := List.mem_map.1 hm
      exact hn.1 ((hom_inj.1 hee) ▸ he)
    refine ⟨upd vs d v, upd bs (hom d) b, s', k1, fun x => ?_, fun y => ?_, fun i hi => ?_⟩
    · rw [k2 x]
      simp only [dsts, List.mem_cons, upd]
      by_cases hx : x = d
      · subst hx; rw [if_neg hn.1]; simp
      · simp [hx]
    · rw [k3 y]
      simp only [dsts, List.map_cons, List.mem_cons, upd]
      by_cases hx : y = hom d
      · subst hx
        rw [if_neg hnh]
        cases b <;> simp [updO, upd]
      · have : updO g (hom d) b y = g y := by cases b <;> simp [updO, upd, hx]
        simp only [hx, this, false_or, if_false]
    · cases i with
      | zero =>
        refine ⟨d, o, gd, rfl, ?_⟩
        simpa [dsts, upd] using h1
      | succ i =>
        obtain ⟨d', o', gd', q1, q2⟩ := k4 i (by simpa using hi)
        refine ⟨d', o', gd', q1, ?_⟩
        have hd' : d' ∈ dsts l := mem_dsts (by rw [← q1]; exact List.getElem_mem _)
        have hne : d' ≠ d := fun e => hn.1 (e ▸ hd')
        have hneh : hom d' ≠ hom d := fun e => hne (hom_inj.1 e)
        have e1 : upd vs d v d' = vs d' := by simp [upd, hne]
        have e2 : upd bs (hom d) b (hom d') = bs (hom d') := by simp [upd, hneh]
        rw [e1, e2]
        have e3 : (fun x => if x ∈ dsts (List.take (i + 1) (MI.op (some d) o gd :: l)) then upd vs d v x else t x) = (fun x => if x ∈ dsts (l.take i) then vs x else upd t d v x) := by
          funext x
          simp only [List.take_succ_cons, dsts, List.mem_cons, upd]
          by_cases hx : x = d
          · subst hx
            have : x ∉ dsts (l.take i) := fun hh => hn.1 (mem_dsts_take hh)
            simp [this]
          · simp [hx]
        rw [e3]
        exact q2
  | .op none _ _ :: _, _, _, _, h, _ => by simp [runP] at h
  | .frz _ :: _, _, _, _, h, _ => by simp [runP] at h
  | .kill _ :: _, _, _, _, h, _ => by simp [runP] at h
end

section
variable [Off] [Gh] [Old] {P : Program} {φ : Nat → Option (Nat × Nat)} {w0 : World} {N : Nat} {s s0 : St} {a : Act} {w w' : World} {d : Nat} {e : Eff}

theorem neu_noAct {m : MOp} (h : neu s d m = some e) : isAct s m = false := by
  cases m <;> first | rfl | (simp [neu] at h; done) | skip
  simp only [neu] at h
  simp only [isAct]
  split at h
  · rename_i hx _; rw [hx]
  · cases h

theorem outO_wp (h : RelC φ w0 N s a w) {o : Oper} (hd : d < N) (hdd : o.dst = some d) {hint m : MOp} (hm : cop P o hint = some m) (hl : Le s0 s d m.opds) {v : IV} {b : Option Blk} (hr : OutO (RCs P) s0 d m v b)
    {next : Act → World → Prop} {Q : Exit → Act → World → Prop} (hk : ∀ a' w', Rel w0 N ⟨upd s.t d v, updO s.h (hom d) b⟩ a' w' → next a' w') : o.wp P a w next Q := by
  have hd' : ∀ x, o.dst = some x → x < N := fun x hx => by rw [hdd] at hx; injection hx with hx; subst hx; exact hd
  refine runOp_wp (K := fun s' => s' = ⟨upd s.t d v, updO s.h (hom d) b⟩) h hd' hm ?_ (fun s' a' w' e hr => by subst e; exact hk _ _ hr)
  rw [hdd]
  have gen : (∃ e, neu s0 d m = some e ∧ v = e.v ∧ b = e.b) → (if isAct s m then (match act s (some d) m with | some s' => s' = ⟨upd s.t d v, updO s.h (hom d) b⟩ | none => False) else (match neu s d m with | some e => s.eff d e = ⟨upd s.t d v, updO s.h (hom d) b⟩ | none => False)) := by
    rintro ⟨e, he, rfl, rfl⟩
    have he' := neu_mono hl he
    rw [neu_noAct he', he']
    simp only [Bool.false_eq_true, if_false, St.eff, updO]
    cases e.b <;> rfl
  cases m
  case call f args =>
    obtain ⟨as, r, h1, h2, hst, rfl, rfl⟩ := hr
    refine ⟨as, r, hl.snaps_ (fun q hq => hl.get q hq) h1, h2, hst.imp (hl.stabs_ (fun q hq => hl.get q hq) h1) id, ?_⟩
    simp only [St.imp, updO, ← hl.ver]
    cases hi : (impV (hom d) ((s.h (hom d)).ver + 1) r).2 with
    | none => simp
    | some cs => simp [hl.fresh]
  case callp f args =>
    obtain ⟨as, r, h1, h2, hst, rfl, rfl⟩ := hr
    exact ⟨as, r, hl.snaps_ (fun q hq => hl.get q hq) h1, h2, hst.imp (hl.stabs_ (fun q hq => hl.get q hq) h1) id, rfl⟩
  case calln f args =>
    obtain ⟨e, he, _⟩ := hr
    simp [neu] at he
  case calli x args =>
    obtain ⟨e, he, _⟩ := hr
    simp [neu] at he
  all_goals exact gen hr

theorem outP_wp (h : RelC φ w0 N s a w) {ops : Array Oper} {i : Nat} {o : Oper} (ho : ops[i]? = some o) (hd : d < N) (hdd : o.dst = some d) {hint m : MOp} (hm : cop P o hint = some m) {g : Option (Nat × Bool)} (hg : guardT ops o.guard = some g)
    (hl : Le s0 s d m.opds) (hgt : ∀ t b, g = some (t, b) → s.t t = s0.t t) {v : IV} {b : Option Blk} (hr : OutP (RCs P) s0 d m g v b)
    {next : Act → World → Prop} {Q : Exit → Act → World → Prop} (hk : ∀ a' w', Rel w0 N ⟨upd s.t d v, updO s.h (hom d) b⟩ a' w' → next a' w') : wpOp P ops Q i next a w := by
  unfold wpOp
  simp only [ho]
  have skip : v = .tup [] → b = none → next (a.put o.dst undef) w := by
    rintro rfl rfl
    refine hk _ _ ?_
    have := h.skip (dst := some d) (by simpa [dstOk] using hd)
    rw [hdd]
    exact this.rel
  cases g with
  | none =>
    rw [wanted_none (guardT_none hg)]
    exact .inl (outO_wp h hd hdd hm hl hr hk)
  | some tb =>
    obtain ⟨t, x⟩ := tb
    obtain ⟨gi, hg1, hg2⟩ := guardT_some hg
    have ht := hgt t x rfl
    rw [wanted_some hg1]
    rcases hr with ⟨y, hy, hyes, hno⟩ | ⟨hy, hv, hb⟩
    · rw [yield_bool h hg2 (ht.trans hy)]
      by_cases hxy : y = x
      · subst hxy
        simp only [BEq.rfl, if_true]
        exact .inl (outO_wp h hd hdd hm hl (hyes rfl) hk)
      · have : (some y == some x) = false := by simp; exact hxy
        rw [this]
        obtain ⟨e1, e2⟩ := hno hxy
        exact skip e1 e2
    · rw [yield_none h hg2 (ht.trans hy)]
      exact skip hv hb
end
end Go.Proofs.YtilbipknodpmmaaDoor

/-! Regions whose order is open. -/
set_option linter.unusedSectionVars false
set_option linter.unusedVariables false
set_option linter.unusedSimpArgs false
namespace Go.Proofs.YtilbipknodpmmaaDoor
open Go.RowKit

/-! ### who must come before whom -/
def edgeMask (tbl : List Nat) (m : Nat) (e : Edge) : Nat := if Region.binds .any e then m ||| 2 ^ e.on ||| tbl.getD e.on 0 else m
def ancs : List Oper → List Nat → List Nat
  | [], tbl => tbl
  | o :: os, tbl => ancs os (tbl ++ [o.after.toList.foldl (edgeMask tbl) 0])

def MI.isOp : MI → Bool
  | .op _ _ _ => true
  | _ => false
def tmpOf : Opd → Option Nat
  | .tmp t => some t
  | _ => none
def MI.reads : MI → List Nat
  | .op _ o g => o.opds.filterMap tmpOf ++ (g.map (·.1)).toList
  | _ => []
def MI.dst : MI → Option Nat
  | .op d _ _ => d
  | _ => none

def drawOk (ops : Array Oper) (pre : List MI) : Bool :=
  let tbl := ancs ops.toList []
  (List.range ops.size).all (fun i => match ops[i]? with | some o => o.after.toList.all (fun e => !Region.binds .any e || decide (e.on < i)) | none => false) &&
  decide ((dsts pre).length = pre.length) && decide (dsts pre).Nodup &&
  (List.range pre.length).all (fun i => match pre[i]? with
    | some m => m.reads.all (fun x => (List.range pre.length).all (fun j => !((dsts pre)[j]? == some x) || (decide (j < i) && (tbl.getD i 0).testBit j)))
    | none => false) &&
  (List.range ops.size).all (fun k => decide (k < pre.length) || (List.range k).all (fun j => (tbl.getD k 0).testBit j))

section
variable {ops : Array Oper}

def Closed (ops : Array Oper) (L : Nat → Prop) : Prop := ∀ i o, ops[i]? = some o → L i → ∀ e ∈ o.after.toList, Region.binds .any e = true → L e.on
def Anc (ops : Array Oper) (i j : Nat) : Prop := ∀ L, Closed ops L → ∀ o, ops[i]? = some o → (∀ e ∈ o.after.toList, Region.binds .any e = true → L e.on) → L j

theorem fold_mask (tbl : List Nat) (j : Nat) : ∀ (es : List Edge) (m : Nat), (es.foldl (edgeMask tbl) m).testBit j = true → m.testBit j = true ∨ ∃ e ∈ es, Region.binds .any e = true ∧ (j = e.on ∨ (tbl.getD e.on 0).testBit j = true)
  | [], m, h => .inl h
  | e :: es, m, h => by
    rcases fold_mask tbl j es _ h with h | ⟨e', he', h1, h2⟩
    · unfold edgeMask at h
      split at h
      · rename_i hb
        rw [Nat.testBit_or, Nat.testBit_or, Bool.or_eq_true, Bool.or_eq_true] at h
        rcases h with (h | h) | h
        · exact .inl h
        · rw [Nat.testBit_two_pow] at h
          exact .inr ⟨e, by simp, hb, .inl (by simpa using h : e.on = j).symm⟩
        · exact .inr ⟨e, by simp, hb, .inr h⟩
      · exact .inl h
    · exact .inr ⟨e', by simp [he'], h1, h2⟩

theorem ancs_ok : ∀ (os : List Oper) (tbl : List Nat), ops.toList.drop tbl.length = os → tbl.length ≤ ops.size → (∀ i j, (tbl.getD i 0).testBit j = true → Anc ops i j) → ∀ i j, ((ancs os tbl).getD i 0).testBit j = true → Anc ops i j
  | [], tbl, _, _, h => h
  | o :: os, tbl, hd, hlen, h => by
    have ho : ops[tbl.length]? = some o := by
      have h0 : (ops.toList.drop tbl.length)[0]? = some o := by rw [hd]; rfl
      rwa [List.getElem?_drop, Nat.add_zero, Array.getElem?_toList] at h0
    have hlt := (Array.getElem?_eq_some_iff.1 ho).1
    refine ancs_ok os _ (by rw [List.length_append, List.length_singleton, ← List.tail_drop, hd]; rfl) (by simp; omega) (fun i j hij => ?_)
    by_cases hi : i < tbl.length
    · rw [List.getD_eq_getElem?_getD, List.getElem?_append_left hi, ← List.getD_eq_getElem?_getD] at hij
      exact h i j hij
    · by_cases hie : i = tbl.length
      · subst hie
        rw [List.getD_eq_getElem?_getD, List.getElem?_append_right (Nat.le_refl _), Nat.sub_self] at hij
        simp only [List.getElem?_cons_zero, Option.getD_some] at hij
        rcases fold_mask tbl j _ 0 hij with h0 | ⟨e, he, hb, hj⟩
        · simp at h0
        · intro L hL o' ho' hall
          rw [ho] at ho'
          injection ho' with ho'
          subst ho'
          have hon := hall e he hb
          rcases hj with rfl | hj
          · exact hon
          · cases hoo : ops[e.on]? with
            | none =>
              exfalso
              rw [Array.getElem?_eq_none_iff] at hoo
              rw [List.getD_eq_getElem?_getD, List.getElem?_eq_none (by omega)] at hj
              simp at hj
            | some oo => exact h e.on j hj L hL oo hoo (hL e.on oo hoo hon)
      · rw [List.getD_eq_getElem?_getD, List.getElem?_eq_none (by simp; omega)] at hij
        simp at hij

theorem ancs_anc {i j : Nat} (h : ((ancs ops.toList []).getD i 0).testBit j = true) : Anc ops i j :=
  ancs_ok ops.toList [] rfl (by simp) (fun i j h => by simp at h) i j h

structure DrawOk (ops : Array Oper) (pre : List MI) : Prop where
  back : ∀ i o, ops[i]? = some o → ∀ e ∈ o.after.toList, Region.binds .any e = true → e.on < i
  len : (dsts pre).length = pre.length
  nodup : (dsts pre).Nodup
  reads : ∀ i (hi : i < pre.length), ∀ x ∈ pre[i].reads, ∀ j, (dsts pre)[j]? = some x → j < i ∧ Anc ops i j
  suf : ∀ k, pre.length ≤ k → k < ops.size → ∀ j, j < k → Anc ops k j

theorem drawOk_spec {pre : List MI} (h : drawOk ops pre = true) : DrawOk ops pre := by
  unfold drawOk at h
  simp only [Bool.and_eq_true, decide_eq_true_eq] at h
  obtain ⟨⟨⟨⟨h1, h2⟩, h3⟩, h4⟩, h5⟩ := h
  rw [List.all_eq_true] at h1 h4 h5
  refine ⟨fun i o ho e he hb => ?_, h2, h3, fun i hi x hx j hj => ?_, fun k hk hk' j hj => ?_⟩
  · have hi := (Array.getElem?_eq_some_iff.1 ho).1
    have := h1 i (List.mem_range.2 hi)
    rw [ho] at this
    simp only [List.all_eq_true] at this
    have := this e he
    simpa [hb] using this
  · have := h4 i (List.mem_range.2 hi)
    rw [List.getElem?_eq_getElem hi] at this
    simp only [List.all_eq_true] at this
    have hjl : j < pre.length := by
      rw [← h2]
      exact (List.getElem?_eq_some_iff.1 hj).1
    have := this x hx j (List.mem_range.2 hjl)
    rw [hj] at this
    simp only [BEq.rfl, Bool.not_true, Bool.false_or, Bool.and_eq_true, decide_eq_true_eq] at this
    exact ⟨this.1, ancs_anc this.2⟩
  · have := h5 k (List.mem_range.2 hk')
    simp only [Bool.or_eq_true, decide_eq_true_eq, List.all_eq_true] at this
    rcases this with this | this
    · omega
    · exact ancs_anc (this j (List.mem_range.2 hj))
end

section
variable [Off] [Gh] [Old] {P : Program} {w0 : World} {N : Nat} {ops : Array Oper} {Q : Exit → Act → World → Prop}

theorem getD_lt {listed : Array Bool} {i : Nat} (h : i < listed.size) (d d' : Bool) : listed.getD i d = listed.getD i d' := by
  simp [Array.getD_eq_getD_getElem?, h]

theorem forced_wp {pre : List MI} (hok : DrawOk ops pre) : ∀ (n k : Nat) (listed : Array Bool) (a : Act) (w : World), pre.length ≤ k → k + n = ops.size → listed.size = ops.size → (∀ j, j < ops.size → listed.getD j false = decide (j < k)) →
    wpOps P ops Q (List.range' k n) a w → wpAny P .any ops Q n listed a w
  | 0, k, listed, a, w, hp, hk, hs, hl, h => by
    refine wpAny_done ?_ h 0
    cases hr : Region.ready .any ops listed with
    | nil => rfl
    | cons i rs =>
      have hi : i ∈ Region.ready .any ops listed := by rw [hr]; simp
      obtain ⟨hun, o, ho, _⟩ := mem_ready.1 hi
      have hlt := (Array.getElem?_eq_some_iff.1 ho).1
      rw [getD_lt (by omega) true false, hl i hlt] at hun
      simp at hun
      omega
  | n + 1, k, listed, a, w, hp, hk, hs, hl, h => by
    have hkl : k < ops.size := by omega
    have hready : k ∈ Region.ready .any ops listed := by
      refine mem_ready.2 ⟨?_, ops[k], by simp [hkl], fun e he hb => ?_⟩
      · rw [getD_lt (by omega) true false, hl k hkl]; simp
      · have := hok.back k ops[k] (by simp [hkl]) e (by simpa using he) hb
        rw [hl _ (by omega)]; simpa using this
    refine ⟨fun h0 => (by rw [h0] at hready; cases hready), fun i hi => ?_⟩
    obtain ⟨hun, o, ho, hpre⟩ := mem_ready.1 hi
    have hlt := (Array.getElem?_eq_some_iff.1 ho).1
    rw [getD_lt (by omega) true false, hl i hlt] at hun
    have hik : k ≤ i := by simp at hun; omega
    have : i = k := by
      rcases Nat.lt_or_ge k i with hki | hki
      · exfalso
        have hcl : Closed ops (fun j => listed.getD j false = true) := fun j oj hoj hlj e he hb => by
          have hjl := (Array.getElem?_eq_some_iff.1 hoj).1
          have hlj : listed.getD j false = true := hlj
          show listed.getD e.on false = true
          rw [hl j hjl] at hlj
          have := hok.back j oj hoj e he hb
          rw [hl _ (by omega)]
          simp at hlj ⊢
          omega
        have hanc : listed.getD k false = true := hok.suf i (by omega) hlt k hki _ hcl o ho (fun e he hb => hpre e (by simpa using he) hb)
        rw [hl k hkl] at hanc
        simp at hanc
      · omega
    subst this
    rw [List.range'_succ, wpOps_cons] at h
    refine wpOp_mono (fun a' w' h' => ?_) h
    refine forced_wp hok n (i + 1) _ a' w' (by omega) (by omega) (by simpa using hs) (fun j hj => ?_) h'
    by_cases hji : i = j
    · subst hji; simp [hs, hj]
    · rw [getD_set_ne false hji, hl j hj]
      simp; omega

theorem compL_ops : ∀ (hs : List MI) (os : List Oper) (l : List MI), compL P N ops os hs = some l → hs.all MI.isOp = true → l.length = os.length ∧ hs.length = os.length ∧
    ∀ i (hi : i < os.length) (hi' : i < l.length), ∃ h m g, cop P os[i] h = some m ∧ guardT ops os[i].guard = some g ∧ dstOk N os[i].dst = true ∧ l[i] = .op os[i].dst m g
  | [], [], l, h, _ => by simp only [compL, Option.some.injEq] at h; subst h; exact ⟨rfl, rfl, fun i hi => by simp at hi⟩
  | .op _ h _ :: hs, o :: os, l, hc, ha => by
    simp only [compL] at hc
    split at hc
    · rename_i m g l' hm hg hd hl
      injection hc with hc; subst hc
      obtain ⟨e1, e2, e3⟩ := compL_ops hs os l' hl (by simpa [MI.isOp] using ha)
      refine ⟨by simp [e1], by simp [e2], fun i hi hi' => ?_⟩
      cases i with
      | zero => exact ⟨h, m, g, hm, hg, hd, rfl⟩
      | succ i => exact e3 i (by simpa using hi) (by simpa using hi')
    · cases hc
  | [], _ :: _, _, hc, _ => by simp [compL] at hc
  | .op _ _ _ :: _, [], _, hc, _ => by simp [compL] at hc
  | .frz _ :: _, _, _, _, ha => by simp [MI.isOp] at ha
  | .kill _ :: _, _, _, _, ha => by simp [MI.isOp] at ha
end
end Go.Proofs.YtilbipknodpmmaaDoor
