/- Operations that make memory. -/
import Derived.Test.YtmblapgoimegkaaDoorE7
set_option linter.unusedSectionVars false
set_option linter.unusedVariables false
set_option linter.unusedSimpArgs false
namespace Go.Proofs.YtmblapgoimegkaaDoor
open Go.RowKit

/-- w' is w with one block more -/
structure Pushed (w w' : World) (o : Obj) : Prop where
  heap : w'.heap = w.heap.push o
  os : w'.os = w.os
  tape : w'.tape = w.tape
  output : w'.output = w.output

theorem pushed_alloc (w : World) (o : Obj) : Pushed w (w.alloc o) o := ⟨rfl, rfl, rfl, rfl⟩
theorem pushed_drew (w : World) (o : Obj) : Pushed w (w.drew.alloc o) o := ⟨rfl, rfl, rfl, rfl⟩

section
variable {w w' : World} {o : Obj}
theorem Pushed.size (h : Pushed w w' o) : w'.heap.size = w.heap.size + 1 := by rw [h.heap, Array.size_push]
theorem Pushed.old (h : Pushed w w' o) {b : Nat} (hb : b < w.heap.size) : w'.heap[b]? = w.heap[b]? := by
  rw [h.heap, Array.getElem?_push, if_neg (by omega)]
theorem Pushed.new (h : Pushed w w' o) : w'.heap[w.heap.size]? = some o := by
  rw [h.heap, Array.getElem?_push, if_pos rfl]
theorem Pushed.cell (h : Pushed w w' o) {b : Nat} (hb : b < w.heap.size) (i : Nat) : w'.cell? ⟨b, i, none⟩ = w.cell? ⟨b, i, none⟩ := by
  simp only [World.cell?, h.old hb]
theorem Pushed.below (h : Pushed w w' o) {B : Nat} {w0 : World} (hb : Below B w0 w) (hB : B ≤ w.heap.size) : Below B w0 w' :=
  hb.trans ⟨h.os, h.tape, h.output, by rw [h.size]; omega, fun k hk => h.old (by omega)⟩
theorem Pushed.bsize (h : Pushed w w' o) (b : Nat) : bsize w b ≤ bsize w' b := by
  by_cases hb : b < w.heap.size
  · simp only [Go.Proofs.YtmblapgoimegkaaDoor.bsize, h.old hb]; exact Nat.le_refl _
  · simp only [Go.Proofs.YtmblapgoimegkaaDoor.bsize]
    rw [Array.getElem?_eq_none (by omega)]
    exact Nat.zero_le _
end

section
variable [Off] [Gh] [Old] {P : Program} {φ : Nat → Option (Nat × Nat)} {w0 : World} {N : Nat} {s : St} {a : Act} {w w' : World} {d : Nat} {e : Eff} {o : Obj}

/-- memory has grown; the homes are as they were -/
theorem Evo.pushed {H : Nat → Blk} {φ : Nat → Option (Nat × Nat)} {base : Nat} (hp : Pushed w w' o) : Evo (sx w H φ base) (sx w' H φ base) where
  S b hb := ⟨by have := hb.1; rw [hp.size]; omega, hb.2⟩
  cell b hb i := hp.cell hb.1 i
  base := Nat.le_refl _
  ver _ := Nat.le_refl _
  same _ hl _ := ⟨hl, rfl, Nat.le_refl _⟩
  size b := hp.bsize b

theorem HomeR.evo {c c' : Sx} (e : Evo c c') {x : Nat} (hH : c'.H x = c.H x) (hφ : c'.φ x = c.φ x) (hb : c'.base = c.base) (hw : ∀ b o, c.φ x = some (b, o) → c'.w.heap[b]? = c.w.heap[b]?) (h : HomeR c x) : HomeR c' x where
  low p hp := by rw [hb]; rw [hφ] at hp; exact h.low p hp
  one := by rw [hH]; exact h.one
  row := by rw [hH]; exact h.row
  at_ := by
    have := h.at_
    rw [hφ]
    cases hp : c.φ x with
    | none => rw [hp] at this; rw [hH]; exact this
    | some p =>
      obtain ⟨b, off⟩ := p
      rw [hp] at this
      obtain ⟨cs, T, fr, us, h1, h2, h3, h4, h5⟩ := this
      exact ⟨cs, T, fr, us, (hw b off hp).trans h1, by rw [hH, hb]; exact h2, by rw [hH]; exact h3.evo e, h4, h5⟩

theorem home_lt {c : Sx} (h : HS c) {x : Nat} (hl : (c.H x).live = true) {b off : Nat} (hp : c.φ x = some (b, off)) : b < c.w.heap.size := by
  have := (h.home x hl).at_
  rw [hp] at this
  obtain ⟨cs, T, fr, us, h1, _⟩ := this
  exact (Array.getElem?_eq_some_iff.1 h1).1

theorem HS.pushed {H : Nat → Blk} {φ : Nat → Option (Nat × Nat)} {base : Nat} (hp : Pushed w w' o) (h : HS (sx w H φ base)) : HS (sx w' H φ base) where
  home x hl := (h.home x hl).evo (Evo.pushed hp) rfl rfl rfl (fun b off hb => hp.old (home_lt h hl hb))
  excl := h.excl
  size := by have := h.size; show base ≤ w'.heap.size; rw [hp.size]; exact Nat.le_succ_of_le this

theorem RelC.pushed (h : RelC φ w0 N s a w) (hp : Pushed w w' o) : RelC φ w0 N s a w' where
  hs := h.hs.pushed hp
  below := hp.below h.below h.hs.size
  size := h.size
  defers := h.defers
  t t := (h.t t).evo (Evo.pushed hp)
  g v u hg := (h.g v u hg).evo (Evo.pushed hp)

/-- a new home -/
theorem Evo.home {H : Nat → Blk} {φ : Nat → Option (Nat × Nat)} {base : Nat} (hp : Pushed w w' o) (blk : Blk) (hv : (H d).ver < blk.ver) : Evo (sx w H φ base) (sx w' (upd H d blk) (upd φ d (some (w.heap.size, 0))) base) where
  S b hb := ⟨by have := hb.1; rw [hp.size]; omega, fun x hl hr p hpx => by
    by_cases hx : x = d
    · subst hx
      simp only [upd, if_true, Option.some.injEq] at hpx
      subst hpx
      have := hb.1
      simp only; omega
    · simp only [upd, if_neg hx] at hl hr hpx
      exact hb.2.1 x hl hr p hpx, hb.2.2⟩
  cell b hb i := hp.cell hb.1 i
  base := Nat.le_refl _
  ver x := by
    simp only [upd]
    split
    · rename_i hx; subst hx; omega
    · exact Nat.le_refl _
  same x hl hve := by
    by_cases hx : x = d
    · subst hx; simp only [upd, if_true] at hve; omega
    · simp only [upd, if_neg hx] at hl ⊢
      exact ⟨hl, trivial, Nat.le_refl _⟩
  size b := hp.bsize b

theorem HS.newHome {H : Nat → Blk} {φ : Nat → Option (Nat × Nat)} {base : Nat} (h : HS (sx w H φ base)) {cells : Array Value} {T : TypeId} (hp : Pushed w w' (.cells cells T (0, 0))) (blk : Blk) (hv : (H d).ver < blk.ver)
    {us : List Value} (hl : VRL (sx w H φ base) blk.cells us) (h1 : blk.cells.all IV.one = true) (hrow : blk.isRow = true → IV.purL blk.cells = true) (hc : ∀ i (hi : i < us.length), cells[i]? = some us[i]) (hsz : us.length ≤ cells.size) : HS (sx w' (upd H d blk) (upd φ d (some (w.heap.size, 0))) base) where
  home x hlx := by
    by_cases hx : x = d
    · subst hx
      exact {
        low := by simp only [upd, if_true, Option.some.injEq]; rintro p rfl; exact h.size
        one := by simpa only [upd, if_true] using h1
        row := by simpa only [upd, if_true] using hrow
        at_ := by
          simp only [upd, if_true]
          refine ⟨cells, T, (0, 0), us, hp.new, fun _ => ⟨rfl, h.size⟩, hl.evo (Evo.home hp blk hv), fun i hi => by rw [Nat.zero_add]; exact hc i hi, by omega⟩ }
    · have hlx' : (H x).live = true := by simpa only [upd, if_neg hx] using hlx
      refine (h.home x hlx').evo (Evo.home hp blk hv) (by simp only [upd, if_neg hx]) (by simp only [upd, if_neg hx]) rfl (fun b off hb => hp.old (home_lt h hlx' hb))
  excl x y p q hlx hrx hly hne hpx hpy := by
    have lt : ∀ z r, z ≠ d → (upd H d blk z).live = true → upd φ d (some (w.heap.size, 0)) z = some r → r.1 < w.heap.size := fun z r hz hlz hr => by
      simp only [upd, if_neg hz] at hlz hr
      obtain ⟨b, off⟩ := r
      exact home_lt h hlz hr
    by_cases hx : x = d
    · subst hx
      simp only [upd, if_true, Option.some.injEq] at hpx
      subst hpx
      have := lt y q (fun e => hne e.symm) hly hpy
      simp only; omega
    · by_cases hy : y = d
      · subst hy
        have := lt x p hx hlx hpx
        simp only [upd, if_true, Option.some.injEq] at hpy
        subst hpy
        simp only; omega
      · simp only [upd, if_neg hx] at hlx hrx hpx
        simp only [upd, if_neg hy] at hly hpy
        exact h.excl x y p q hlx hrx hly hne hpx hpy
  size := by have := h.size; show base ≤ w'.heap.size; rw [hp.size]; exact Nat.le_succ_of_le this

theorem RelC.newPtr (h : RelC φ w0 N s a w) (hd : d < N) {cells : Array Value} {T : TypeId} (hp : Pushed w w' (.cells cells T (0, 0))) {cs : List IV} (h1 : cs.all IV.one = true)
    (hl : VRL (sx w s.h φ w0.heap.size) cs cells.toList) :
    RelC (upd φ (hom d) (some (w.heap.size, 0))) w0 N (s.eff d ⟨.ptr (hom d) 0 ((s.h (hom d)).ver + 1), some (freshBlk s (hom d) true false cs)⟩) (a.put (some d) (.pointer (some ⟨w.heap.size, 0, none⟩))) w' := by
  refine h.put (HS.newHome h.hs hp (freshBlk s (hom d) true false cs) (Nat.lt_succ_self _) hl h1 (by simp [freshBlk]) (fun i hi => by simp at hi ⊢) (by simp)) (Evo.home hp _ (Nat.lt_succ_self _)) (hp.below h.below h.hs.size) hd ?_
  simp only [VR, upd, if_true, freshBlk]
  exact ⟨Nat.le_refl _, rfl, fun _ _ => by simp only [ptrR, upd, if_true]⟩

theorem RelC.newRow (h : RelC φ w0 N s a w) (hd : d < N) {cells : Array Value} {T : TypeId} (hp : Pushed w w' (.cells cells T (0, 0))) {cs : List IV} {us : List Value} (h1 : cs.all IV.one = true) (hpu : IV.purL cs = true)
    (hl : VRL (sx w s.h φ w0.heap.size) cs us) (hc : ∀ i (hi : i < us.length), cells[i]? = some us[i]) {n sz k : Nat} (hn : n * sz ≤ cs.length) (hk : n ≤ k) (hsz : k * sz ≤ cells.size) (hlen : us.length ≤ cells.size) :
    RelC (upd φ (hom d) (some (w.heap.size, 0))) w0 N (s.eff d ⟨.row (hom d) 0 n sz ((s.h (hom d)).ver + 1), some (freshBlk s (hom d) true true cs)⟩) (a.put (some d) (.slice (some ⟨w.heap.size, 0, none⟩) n k)) w' := by
  refine h.put (HS.newHome h.hs hp (freshBlk s (hom d) true true cs) (Nat.lt_succ_self _) hl h1 (fun _ => hpu) hc hlen) (Evo.home hp _ (Nat.lt_succ_self _)) (hp.below h.below h.hs.size) hd ?_
  simp only [VR, upd, if_true, freshBlk]
  refine ⟨Nat.le_refl _, _, k, rfl, hk, fun _ _ => ?_⟩
  unfold rowR
  refine ⟨by simpa only [upd, if_true, Nat.zero_add] using hn, ?_⟩
  simp only [upd, if_true]
  refine ⟨.inr trivial, ?_⟩
  simp only [bsize, hp.new]
  omega

/-! ### the operations -/
theorem zeroL_VR {t : TypeId} {z : List IV} (hz : zeroL P t = some z) (c : Sx) : ∃ i v, P.info? t = some i ∧ i.zero = some v ∧ VRL c z v.cells.toList ∧ z.all IV.one = true ∧ IV.purL z = true := by
  unfold zeroL at hz
  split at hz
  · rename_i i hi
    split at hz
    · rename_i v hv
      have := toIVs_VRL c hz
      exact ⟨i, v, hi, hv, this.1, this.2.1, this.2.2⟩
    · cases hz
  · cases hz

theorem run_zero {t : TypeId} {i : TypeInfo} {v : Value} (hi : P.info? t = some i) (hv : i.zero = some v) (w : World) : (zeroValue t).run P w = .ok v w := by
  simp [zeroValue, typeInfo, hi, hv]

theorem boxed {c : Sx} {v : IV} {u : Value} (h : VR c v u) (hb : v.boxable = true) : ∃ us, u.cells = us.toArray ∧ VRL c v.cells us ∧ v.cells.all IV.one = true := by
  have hu : v.isU = false := by cases v <;> first | rfl | simp [IV.boxable, IV.one] at hb
  obtain ⟨us, h1, h2⟩ := cells_VR h hu
  refine ⟨us, h1, h2, ?_⟩
  cases v with
  | agg cs => simp only [VR] at h; obtain ⟨_, _, h3, _⟩ := h; exact h3
  | sl f n cs => cases f <;> rfl
  | _ => simp only [IV.boxable] at hb; simp [IV.cells, hb]

theorem snd_alloc (h : RelC φ w0 N s a w) (hd : d < N) {op : Oper} {t : TypeId} (ho : op.op = .alloc t) {z : List IV} (hz : zeroL P t = some z) (he : neu s d (.alloc z) = some e) : Snd P w0 N s a w d op e := by
  simp only [neu, Option.some.injEq] at he
  subst he
  obtain ⟨i, v, hi, hv, hl, h1, _⟩ := zeroL_VR hz (sx w s.h φ w0.heap.size)
  refine ⟨_, w.alloc (.cells v.cells t), _, ?_, h.newPtr hd (pushed_alloc w _) h1 hl⟩
  unfold execOp
  rw [ho]
  simp only [Instr.alloc, Sem.run_bind, run_zero hi hv, Result.andThen_ok, newVar, newRow, run_newObj, Sem.run_pure, World.alloc_eq]

theorem snd_box (h : RelC φ w0 N s a w) (hd : d < N) {op : Oper} {t : TypeId} {x : Operand} (ho : op.op = .box t x) {x' : Opd} (hx : opd x = some x') (he : neu s d (.box x') = some e) : Snd P w0 N s a w d op e := by
  simp only [neu] at he
  split at he
  · rename_i v hv
    split at he
    · rename_i hbx
      injection he with he; subst he
      obtain ⟨us, hc, hl, h1⟩ := boxed (get_VR h hx hv) hbx
      refine ⟨_, w.alloc (.cells (a.eval x).cells t), _, ?_, h.newPtr hd (pushed_alloc w _) h1 (by rw [hc]; exact hl)⟩
      unfold execOp
      rw [ho]
      simp only [Instr.box, Sem.run_bind, Result.andThen_ok, newVar, newRow, run_newObj, Sem.run_pure, World.alloc_eq]
    · cases he
  · cases he

theorem snd_mkf (h : RelC φ w0 N s a w) (hd : d < N) {op : Oper} {f : FuncId} {first caps : Array Operand} (ho : op.op = .makeFunc (.func f) first caps) (hf : first.size = 0) {cs : List Opd} (hc : opds caps.toList = some cs) (he : neu s d (.mkf f cs) = some e) : Snd P w0 N s a w d op e := by
  simp only [neu] at he
  split at he
  · rename_i vs hvs
    split at he
    · rename_i hnl
      injection he with he; subst he
      have lst : ∀ (l : List Operand) (cs : List Opd) (vs : List IV), opds l = some cs → cs.mapM s.get = some vs → VRL (sx w s.h φ w0.heap.size) vs (l.map a.eval) := by
        intro l
        induction l with
        | nil => intro cs vs h1 h2; simp only [opds, Option.some.injEq] at h1; subst h1; simp at h2; subst h2; simp [VRL]
        | cons x l ih =>
          intro cs vs h1 h2
          simp only [opds] at h1
          split at h1
          · rename_i y ys hy hys
            injection h1 with h1; subst h1
            rw [List.mapM_cons] at h2
            simp only [bind, Option.bind_eq_some_iff, pure, Option.some.injEq] at h2
            obtain ⟨v, hv, vs', hvs', rfl⟩ := h2
            exact VRL.cons (get_VR h hy hv) (ih _ _ hys hvs')
          · cases h1
      have hl := lst _ _ _ hc hvs
      refine Snd.pure h hd (rv := .func (.func f) #[] (caps.map a.eval)) ?_ ?_
      · unfold execOp
        rw [ho]
        simp only [Instr.makeFunc, Sem.run_bind, Sem.run_pure, Result.andThen_ok]
        rw [Array.eq_empty_of_size_eq_zero hf]
        simp only [List.map_toArray, List.map_nil, Array.map_empty]
        first | done | rfl
      · simp only [VR]
        exact ⟨caps.toList.map a.eval, by rw [← Array.toList_map, Array.toArray_toList], hnl, hl⟩
    · cases he
  · cases he

theorem snd_arrOf (h : RelC φ w0 N s a w) (hd : d < N) {op : Oper} {t : TypeId} {x : Operand} (ho : op.op = .sliceToArrayPointer t x) {n : Nat} {el : TypeId} (hu : P.underlying t = some (.array n el)) {x' : Opd} (hx : opd x = some x') {sz : Nat} (he : neu s d (.arrOf n sz x') = some e) : Snd P w0 N s a w d op e := by
  have run : ∀ b o' m k, a.eval x = .slice (some ⟨b, o', none⟩) m k → n ≤ m → (execOp a.eval op).run P w = .ok (.value (.pointer (some ⟨b, o', none⟩))) w := by
    intro b o' m k hb hm
    unfold execOp
    rw [ho]
    simp only [hb, Instr.arrayAt, Sem.run_bind, run_underlying hu, Result.andThen_ok, if_neg (Nat.not_lt.2 hm), Sem.run_pure]
  simp only [neu] at he
  split at he
  · rename_i hh off m sz' ver hv
    split at he
    · rename_i hc
      obtain ⟨hok, hnm, hn, hsz, rfl⟩ := hc
      injection he with he; subst he
      have h0 := get_VR h hx hv
      simp only [VR] at h0
      obtain ⟨hver, A, k, hb, hmk, hrow⟩ := h0
      simp only [St.ok, Bool.and_eq_true, beq_iff_eq] at hok
      have hr := hrow hok.1 hok.2
      unfold rowR at hr
      cases hφ : φ hh with
      | none => simp only [hφ] at hr; omega
      | some p =>
        obtain ⟨b, o'⟩ := p
        simp only [hφ] at hr
        rcases hr.2.1 with hk | hA
        · omega
        subst hA
        refine Snd.pure h hd (run b _ m k hb hnm) ?_
        simp only [VR]
        refine ⟨hver, rfl, fun _ _ => ?_⟩
        simp only [ptrR, hφ]
    · cases he
  · rename_i f m cs hv
    split at he
    · rename_i hc
      obtain ⟨hnm, hn, hsz, hlen⟩ := hc
      injection he with he; subst he
      have h0 := get_VR h hx hv
      simp only [VR] at h0
      obtain ⟨A, k, us, hb, hnk, _, _, hp, h1', hl, hat⟩ := h0
      have hl' := hl.length
      obtain ⟨ad, rfl, hsp, _, _⟩ := hat 0 (by rw [hl', hlen]; exact Nat.mul_pos (by omega) hsz)
      refine Snd.pure h hd (run ad.block ad.off m k (by rw [hb]; congr 1; rw [← addr_eta hsp]) hnm) ?_
      simp only [VR]
      exact ⟨_, us, rfl, rfl, hp, h1', hl, by rw [← addr_eta hsp]; exact hat⟩
    · cases he
  · cases he
end
end Go.Proofs.YtmblapgoimegkaaDoor
