/- Operations that make memory. -/
import Derived.Test.YtilbipknodpmmaaDoorE7
import Derived.Laws.MakeOwn
set_option linter.unusedSectionVars false
set_option linter.unusedVariables false
set_option linter.unusedSimpArgs false
namespace Go.Proofs.YtilbipknodpmmaaDoor
open Go.RowKit

structure Pushed (w w' : World) (o : Obj) : Prop where
  heap : w'.heap = w.heap.push o
  os : w'.os = w.os
  tape : w'.tape = w.tape
  output : w'.output = w.output

theorem pushed_alloc (w : World) (o : Obj) : Pushed w (w.alloc o) o := ⟨rfl, rfl, rfl, rfl⟩
theorem pushed_drew (w : World) (o : Obj) : Pushed w (w.drew.alloc o) o := ⟨rfl, rfl, rfl, rfl⟩

section
variable {w w' : World} {o : Obj}
theorem Pushed.size (h : Pushed w w' o) : w'.heap.size = w.heap.size + 1 := by rw [h.heap, Array.size_push]
theorem Pushed.old (h : Pushed w w' o) {b : Nat} (hb : b < w.heap.size) : w'.heap[b]? = w.heap[b]? := by
  rw [h.heap, Array.getElem?_push, if_neg (by omega)]
theorem Pushed.new (h : Pushed w w' o) : w'.heap[w.heap.size]? = some o := by
  rw [h.heap, Array.getElem?_push, if_pos rfl]
theorem Pushed.cell (h : Pushed w w' o) {b : Nat} (hb : b < w.heap.size) (i : Nat) : w'.cell? ⟨b, i, none⟩ = w.cell? ⟨b, i, none⟩ := by
  simp only [World.cell?, h.old hb]
theorem Pushed.below (h : Pushed w w' o) {B : Nat} {w0 : World} (hb : Below B w0 w) (hB : B ≤ w.heap.size) : Below B w0 w' :=
  hb.trans ⟨h.os, h.tape, h.output, by rw [h.size]; omega, fun k hk => h.old (by omega)⟩
theorem Pushed.bel [Gh] (h : Pushed w w' o) {w0 : World} (hb : Bel w0 w) (hB : w0.heap.size ≤ w.heap.size) : Bel w0 w' :=
  ⟨h.below hb.lo hB, fun p hp => ⟨(hb.pin p hp).1, (h.old (Array.getElem?_eq_some_iff.1 (hb.pin p hp).2).1).trans (hb.pin p hp).2⟩⟩
theorem Pushed.bsize (h : Pushed w w' o) (b : Nat) : bsize w b ≤ bsize w' b := by
  by_cases hb : b < w.heap.size
  · simp only [Go.Proofs.YtilbipknodpmmaaDoor.bsize, h.old hb]; exact Nat.le_refl _
  · simp only [Go.Proofs.YtilbipknodpmmaaDoor.bsize]
    rw [Array.getElem?_eq_none (by omega)]
    exact Nat.zero_le _
end

section
variable [Off] [Gh] [Old] {P : Program} {φ : Nat → Option (Nat × Nat)} {w0 : World} {N : Nat} {s : St} {a : Act} {w w' : World} {d : Nat} {e : Eff} {o : Obj}

theorem Evo.pushed {H : Nat → Blk} {φ : Nat → Option (Nat × Nat)} {base : Nat} (hp : Pushed w w' o) : Evo (sx w H φ base) (sx w' H φ base) where
  S b hb := ⟨by have := hb.1; rw [hp.size]; omega, hb.2⟩
  cell b hb i := hp.cell hb.1 i
  base := Nat.le_refl _
  ver _ := Nat.le_refl _
  same _ hl _ := ⟨hl, rfl, Nat.le_refl _⟩
  size b := hp.bsize b

theorem HomeR.evo {c c' : Sx} (e : Evo c c') {x : Nat} (hH : c'.H x = c.H x) (hφ : c'.φ x = c.φ x) (hb : c'.base = c.base) (hw : ∀ b o, c.φ x = some (b, o) → c'.w.heap[b]? = c.w.heap[b]?) (h : HomeR c x) : HomeR c' x where
  low p hp := by rw [hb]; rw [hφ] at hp; exact h.low p hp
  one := by rw [hH]; exact h.one
  row := by rw [hH]; exact h.row
  at_ := by
    have := h.at_
    rw [hφ]
    cases hp : c.φ x with
    | none => rw [hp] at this; rw [hH]; exact this
    | some p =>
      obtain ⟨b, off⟩ := p
      rw [hp] at this
      obtain ⟨cs, T, fr, us, h1, h2, h3, h4, h5⟩ := this
      exact ⟨cs, T, fr, us, (hw b off hp).trans h1, by rw [hH, hb]; exact h2, by rw [hH]; exact h3.evo e, h4, h5⟩

theorem home_lt {c : Sx} (h : HS c) {x : Nat} (hl : (c.H x).live = true) {b off : Nat} (hp : c.φ x = some (b, off)) : b < c.w.heap.size := by
  have := (h.home x hl).at_
  rw [hp] at this
  obtain ⟨cs, T, fr, us, h1, _⟩ := this
  exact (Array.getElem?_eq_some_iff.1 h1).1

theorem HS.pushed {H : Nat → Blk} {φ : Nat → Option (Nat × Nat)} {base : Nat} (hp : Pushed w w' o) (h : HS (sx w H φ base)) : HS (sx w' H φ base) where
  home x hl := (h.home x hl).evo (Evo.pushed hp) rfl rfl rfl (fun b off hb => hp.old (home_lt h hl hb))
  excl := h.excl
  size := by have := h.size; show base ≤ w'.heap.size; rw [hp.size]; exact Nat.le_succ_of_le this

theorem RelC.pushed (h : RelC φ w0 N s a w) (hp : Pushed w w' o) : RelC φ w0 N s a w' where
  hs := h.hs.pushed hp
  below := hp.bel h.below h.hs.size
  size := h.size
  defers := h.defers
  t t := (h.t t).evo (Evo.pushed hp)
  g v u hg := (h.g v u hg).evo (Evo.pushed hp)

theorem Evo.home {H : Nat → Blk} {φ : Nat → Option (Nat × Nat)} {base : Nat} (hp : Pushed w w' o) (blk : Blk) (hv : (H d).ver < blk.ver) : Evo (sx w H φ base) (sx w' (upd H d blk) (upd φ d (some (w.heap.size, 0))) base) where
  S b hb := ⟨by have := hb.1; rw [hp.size]; omega, fun x hl hr p hpx => by
    by_cases hx : x = d
    · subst hx
      simp only [upd, if_true, Option.some.injEq] at hpx
      subst hpx
      have := hb.1
      simp only; omega
    · simp only [upd, if_neg hx] at hl hr hpx
      exact hb.2.1 x hl hr p hpx, hb.2.2⟩
  cell b hb i := hp.cell hb.1 i
  base := Nat.le_refl _
  ver x := by
    simp only [upd]
    split
    · rename_i hx; subst hx; omega
    · exact Nat.le_refl _
  same x hl hve := by
    by_cases hx : x = d
    · subst hx; simp only [upd, if_true] at hve; omega
    · simp only [upd, if_neg hx] at hl ⊢
      exact ⟨hl, trivial, Nat.le_refl _⟩
  size b := hp.bsize b

theorem HS.newHome {H : Nat → Blk} {φ : Nat → Option (Nat × Nat)} {base : Nat} (h : HS (sx w H φ base)) {cells : Array Value} {T : TypeId} (hp : Pushed w w' (.cells cells T (0, 0))) (blk : Blk) (hv : (H d).ver < blk.ver)
    {us : List Value} (hl : VRL (sx w H φ base) blk.cells us) (h1 : blk.cells.all IV.one = true) (hrow : blk.isRow = true → IV.purL blk.cells = true) (hc : ∀ i (hi : i < us.length), cells[i]? = some us[i]) (hsz : us.length ≤ cells.size) : HS (sx w' (upd H d blk) (upd φ d (some (w.heap.size, 0))) base) where
  home x hlx := by
    by_cases hx : x = d
    · subst hx
      exact {
        low := by simp only [upd, if_true, Option.some.injEq]; rintro p rfl; exact h.size
        one := by simpa only [upd, if_true] using h1
        row := by simpa only [upd, if_true] using hrow
        at_ := by
          simp only [upd, if_true]
          refine ⟨cells, T, (0, 0), us, hp.new, fun _ => ⟨rfl, h.size⟩, hl.evo (Evo.home hp blk hv), fun i hi => by rw [Nat.zero_add]; exact hc i hi, by omega⟩ }
    · have hlx' : (H x).live = true := by simpa only [upd, if_neg hx] using hlx
      refine (h.home x hlx').evo (Evo.home hp blk hv) (by simp only [upd, if_neg hx]) (by simp only [upd, if_neg hx]) rfl (fun b off hb => hp.old (home_lt h hlx' hb))
  excl x y p q hlx hrx hly hne hpx hpy := by
    have lt : ∀ z r, z ≠ d → (upd H d blk z).live = true → upd φ d (some (w.heap.size, 0)) z = some r → r.1 < w.heap.size := fun z r hz hlz hr => by
      simp only [upd, if_neg hz] at hlz hr
      obtain ⟨b, off⟩ := r
      exact home_lt h hlz hr
    by_cases hx : x = d
    · subst hx
      simp only [upd, if_true, Option.some.injEq] at hpx
      subst hpx
      have := lt y q (fun e => hne e.symm) hly hpy
      simp only; omega
    · by_cases hy : y = d
      · subst hy
        have := lt x p hx hlx hpx
        simp only [upd, if_true, Option.some.injEq] at hpy
        subst hpy
        simp only; omega
      · simp only [upd, if_neg hx] at hlx hrx hpx
        simp only [upd, if_neg hy] at hly hpy
        exact h.excl x y p q hlx hrx hly hne hpx hpy
  size := by have := h.size; show base ≤ w'.heap.size; rw [hp.size]; exact Nat.le_succ_of_le this

theorem RelC.newPtr (h : RelC φ w0 N s a w) (hd : d < N) {cells : Array Value} {T : TypeId} (hp : Pushed w w' (.cells cells T (0, 0))) {cs : List IV} (h1 : cs.all IV.one = true)
    (hl : VRL (sx w s.h φ w0.heap.size) cs cells.toList) :
    RelC (upd φ (hom d) (some (w.heap.size, 0))) w0 N (s.eff d ⟨.ptr (hom d) 0 ((s.h (hom d)).ver + 1), some (freshBlk s (hom d) true false cs)⟩) (a.put (some d) (.pointer (some ⟨w.heap.size, 0, none⟩))) w' := by
  refine h.put (HS.newHome h.hs hp (freshBlk s (hom d) true false cs) (Nat.lt_succ_self _) hl h1 (by simp [freshBlk]) (fun i hi => by simp at hi ⊢) (by simp)) (Evo.home hp _ (Nat.lt_succ_self _)) (hp.bel h.below h.hs.size) hd ?_
  simp only [VR, upd, if_true, freshBlk]
  exact ⟨Nat.le_refl _, rfl, fun _ _ => by simp only [ptrR, upd, if_true]⟩

theorem RelC.newRow (h : RelC φ w0 N s a w) (hd : d < N) {cells : Array Value} {T : TypeId} (hp : Pushed w w' (.cells cells T (0, 0))) {cs : List IV} {us : List Value} (h1 : cs.all IV.one = true) (hpu : IV.purL cs = true)
    (hl : VRL (sx w s.h φ w0.heap.size) cs us) (hc : ∀ i (hi : i < us.length), cells[i]? = some us[i]) {n sz k : Nat} (hn : n * sz ≤ cs.length) (hk : n ≤ k) (hsz : k * sz ≤ cells.size) (hlen : us.length ≤ cells.size) :
    RelC (upd φ (hom d) (some (w.heap.size, 0))) w0 N (s.eff d ⟨.row (hom d) 0 n sz ((s.h (hom d)).ver + 1), some (freshBlk s (hom d) true true cs)⟩) (a.put (some d) (.slice (some ⟨w.heap.size, 0, none⟩) n k)) w' := by
  refine h.put (HS.newHome h.hs hp (freshBlk s (hom d) true true cs) (Nat.lt_succ_self _) hl h1 (fun _ => hpu) hc hlen) (Evo.home hp _ (Nat.lt_succ_self _)) (hp.bel h.below h.hs.size) hd ?_
  simp only [VR, upd, if_true, freshBlk]
  refine ⟨Nat.le_refl _, _, k, rfl, hk, fun _ _ => ?_⟩
  unfold rowR
  refine ⟨by simpa only [upd, if_true, Nat.zero_add] using hn, ?_⟩
  simp only [upd, if_true]
  refine ⟨.inr trivial, ?_⟩
  simp only [bsize, hp.new]
  omega

/-! ### the operations -/
theorem zeroL_VR {t : TypeId} {z : List IV} (hz : zeroL P t = some z) (c : Sx) : ∃ i v, P.info? t = some i ∧ i.zero = some v ∧ VRL c z v.cells.toList ∧ z.all IV.one = true ∧ IV.purL z = true := by
  unfold zeroL at hz
  split at hz
  · rename_i i hi
    split at hz
    · rename_i v hv
      have := toIVs_VRL c hz
      exact ⟨i, v, hi, hv, this.1, this.2.1, this.2.2⟩
    · cases hz
  · cases hz

theorem run_zero {t : TypeId} {i : TypeInfo} {v : Value} (hi : P.info? t = some i) (hv : i.zero = some v) (w : World) : (zeroValue t).run P w = .ok v w := by
  simp [zeroValue, typeInfo, hi, hv]

theorem boxed {c : Sx} {v : IV} {u : Value} (h : VR c v u) (hb : v.boxable = true) : ∃ us, u.cells = us.toArray ∧ VRL c v.cells us ∧ v.cells.all IV.one = true := by
  have hu : v.isU = false := by cases v <;> first | rfl | simp [IV.boxable, IV.one] at hb
  obtain ⟨us, h1, h2⟩ := cells_VR h hu
  refine ⟨us, h1, h2, ?_⟩
  cases v with
  | agg cs => simp only [VR] at h; obtain ⟨_, _, h3, _⟩ := h; exact h3
  | sl f n cs => cases f <;> rfl
  | _ => simp only [IV.boxable] at hb; simp [IV.cells, hb]

theorem snd_alloc (h : RelC φ w0 N s a w) (hd : d < N) {op : Oper} {t : TypeId} (ho : op.op = .alloc t) {z : List IV} (hz : zeroL P t = some z) (he : neu s d (.alloc z) = some e) : Snd P w0 N s a w d op e := by
  simp only [neu, Option.some.injEq] at he
  subst he
  obtain ⟨i, v, hi, hv, hl, h1, _⟩ := zeroL_VR hz (sx w s.h φ w0.heap.size)
  refine ⟨_, w.alloc (.cells v.cells t), _, ?_, h.newPtr hd (pushed_alloc w _) h1 hl⟩
  unfold execOp
  rw [ho]
  simp only [Instr.alloc, Sem.run_bind, run_zero hi hv, Result.andThen_ok, newVar, newRow, run_newObj, Sem.run_pure, World.alloc_eq]

theorem snd_box (h : RelC φ w0 N s a w) (hd : d < N) {op : Oper} {t : TypeId} {x : Operand} (ho : op.op = .box t x) {x' : Opd} (hx : opd x = some x') (he : neu s d (.box x') = some e) : Snd P w0 N s a w d op e := by
  simp only [neu] at he
  split at he
  · rename_i v hv
    split at he
    · rename_i hbx
      injection he with he; subst he
      obtain ⟨us, hc, hl, h1⟩ := boxed (get_VR h hx hv) hbx
      refine ⟨_, w.alloc (.cells (a.eval x).cells t), _, ?_, h.newPtr hd (pushed_alloc w _) h1 (by rw [hc]; exact hl)⟩
      unfold execOp
      rw [ho]
      simp only [Instr.box, Sem.run_bind, Result.andThen_ok, newVar, newRow, run_newObj, Sem.run_pure, World.alloc_eq]
    · cases he
  · cases he

theorem snd_mkf (h : RelC φ w0 N s a w) (hd : d < N) {op : Oper} {f : FuncId} {first caps : Array Operand} (ho : op.op = .makeFunc (.func f) first caps) (hf : first.size = 0) {cs : List Opd} (hc : opds caps.toList = some cs) (he : neu s d (.mkf f cs) = some e) : Snd P w0 N s a w d op e := by
  simp only [neu] at he
  split at he
  · rename_i vs hvs
    split at he
    · rename_i hnl
      injection he with he; subst he
      have lst : ∀ (l : List Operand) (cs : List Opd) (vs : List IV), opds l = some cs → cs.mapM s.get = some vs → VRL (sx w s.h φ w0.heap.size) vs (l.map a.eval) := by
        intro l
        induction l with
        | nil => intro cs vs h1 h2; simp only [opds, Option.some.injEq] at h1; subst h1; simp at h2; subst h2; simp [VRL]
        | cons x l ih =>
          intro cs vs h1 h2
          simp only [opds] at h1
          split at h1
          · rename_i y ys hy hys
            injection h1 with h1; subst h1
            rw [List.mapM_cons] at h2
            simp only [bind, Option.bind_eq_some_iff, pure, Option.some.injEq] at h2
            obtain ⟨v, hv, vs', hvs', rfl⟩ := h2
            exact VRL.cons (get_VR h hy hv) (ih _ _ hys hvs')
          · cases h1
      have hl := lst _ _ _ hc hvs
      refine Snd.pure h hd (rv := .func (.func f) #[] (caps.map a.eval)) ?_ ?_
      · unfold execOp
        rw [ho]
        simp only [Instr.makeFunc, Sem.run_bind, Sem.run_pure, Result.andThen_ok]
        rw [Array.eq_empty_of_size_eq_zero hf]
        simp only [List.map_toArray, List.map_nil, Array.map_empty]
        first | done | rfl
      · simp only [VR]
        exact ⟨caps.toList.map a.eval, by rw [← Array.toList_map, Array.toArray_toList], hnl, hl⟩
    · cases he
  · cases he

theorem snd_arrOf (h : RelC φ w0 N s a w) (hd : d < N) {op : Oper} {t : TypeId} {x : Operand} (ho : op.op = .sliceToArrayPointer t x) {n : Nat} {el : TypeId} (hu : P.underlying t = some (.array n el)) {x' : Opd} (hx : opd x = some x') {sz : Nat} (he : neu s d (.arrOf n sz x') = some e) : Snd P w0 N s a w d op e := by
  have run : ∀ b o' m k, a.eval x = .slice (some ⟨b, o', none⟩) m k → n ≤ m → (execOp a.eval op).run P w = .ok (.value (.pointer (some ⟨b, o', none⟩))) w := by
    intro b o' m k hb hm
    unfold execOp
    rw [ho]
    simp only [hb, Instr.arrayAt, Sem.run_bind, run_underlying hu, Result.andThen_ok, if_neg (Nat.not_lt.2 hm), Sem.run_pure]
  simp only [neu] at he
  split at he
  · rename_i hh off m sz' ver hv
    split at he
    · rename_i hc
      obtain ⟨hok, hnm, hn, hsz, rfl⟩ := hc
      injection he with he; subst he
      have h0 := get_VR h hx hv
      simp only [VR] at h0
      obtain ⟨hver, A, k, hb, hmk, hrow⟩ := h0
      simp only [St.ok, Bool.and_eq_true, beq_iff_eq] at hok
      have hr := hrow hok.1 hok.2
      unfold rowR at hr
      cases hφ : φ hh with
      | none => simp only [hφ] at hr; omega
      | some p =>
        obtain ⟨b, o'⟩ := p
        simp only [hφ] at hr
        rcases hr.2.1 with hk | hA
        · omega
        subst hA
        refine Snd.pure h hd (run b _ m k hb hnm) ?_
        simp only [VR]
        refine ⟨hver, rfl, fun _ _ => ?_⟩
        simp only [ptrR, hφ]
    · cases he
  · rename_i f m cs hv
    split at he
    · rename_i hc
      obtain ⟨hnm, hn, hsz, hlen⟩ := hc
      injection he with he; subst he
      have h0 := get_VR h hx hv
      simp only [VR] at h0
      obtain ⟨A, k, us, hb, hnk, _, _, hp, h1', hl, hat⟩ := h0
      have hl' := hl.length
      obtain ⟨ad, rfl, hsp, _, _⟩ := hat 0 (by rw [hl', hlen]; exact Nat.mul_pos (by omega) hsz)
      refine Snd.pure h hd (run ad.block ad.off m k (by rw [hb]; congr 1; rw [← addr_eta hsp]) hnm) ?_
      simp only [VR]
      exact ⟨_, us, rfl, rfl, hp, h1', hl, by rw [← addr_eta hsp]; exact hat⟩
    · cases he
  · cases he
end
end Go.Proofs.YtilbipknodpmmaaDoor

/-! What is built, made, appended. -/
set_option linter.unusedSectionVars false
set_option linter.unusedVariables false
set_option linter.unusedSimpArgs false
namespace Go.Proofs.YtilbipknodpmmaaDoor
open Go.RowKit

theorem setRun_get (us : List Value) : ∀ (j off : Nat) (cs : Array Value), off + j + us.length ≤ cs.size → ∀ m, ((us.zipIdx j).foldl (fun cs p => cs.setIfInBounds (off + p.2) p.1) cs)[m]? = if off + j ≤ m ∧ m < off + j + us.length then us[m - (off + j)]? else cs[m]? := by
  induction us with
  | nil => intro j off cs _ m; simp only [List.zipIdx_nil, List.foldl_nil, List.length_nil]; rw [if_neg (by omega)]
  | cons u us ih =>
    intro j off cs h m
    simp only [List.length_cons] at h
    rw [List.zipIdx_cons, List.foldl_cons, ih (j + 1) off _ (by simp; omega)]
    simp only [List.length_cons, Array.getElem?_setIfInBounds]
    by_cases h1 : m = off + j
    · subst h1
      rw [if_neg (by omega), if_pos (by omega), if_pos (by omega), if_pos (by omega)]
      simp
    · by_cases h2 : off + (j + 1) ≤ m ∧ m < off + (j + 1) + us.length
      · rw [if_pos h2, if_pos (by omega)]
        rw [show m - (off + j) = (m - (off + (j + 1))) + 1 by omega, List.getElem?_cons_succ]
      · rw [if_neg h2, if_neg (by omega), if_neg (by omega)]

theorem setRun (us : List Value) (off : Nat) (cs : Array Value) (h : off + us.length ≤ cs.size) : (us.toArray.zipIdx).foldl (fun cs p => cs.setIfInBounds (off + p.2) p.1) cs = (cs.toList.take off ++ us ++ cs.toList.drop (off + us.length)).toArray := by
  apply Array.ext_getElem?
  intro m
  rw [← Array.foldl_toList, Array.toList_zipIdx, setRun_get us 0 off cs (by simpa using h) m]
  simp only [Nat.add_zero, List.getElem?_toArray, List.append_assoc]
  by_cases h1 : m < off
  · rw [if_neg (by omega), List.getElem?_append_left (by simp; omega), List.getElem?_take, if_pos h1]; simp
  · rw [List.getElem?_append_right (by simp; omega)]
    rw [show (List.take off cs.toList).length = off by simp; omega]
    by_cases h2 : m < off + us.length
    · rw [if_pos (by omega), List.getElem?_append_left (by omega)]
    · rw [if_neg (by omega), List.getElem?_append_right (by omega), List.getElem?_drop]
      rw [show off + us.length + (m - off - us.length) = m by omega]; simp

inductive F2 {α β : Type} (R : α → β → Prop) : List α → List β → Prop where
  | nil : F2 R [] []
  | cons {a : α} {b : β} {as : List α} {bs : List β} : R a b → F2 R as bs → F2 R (a :: as) (b :: bs)

theorem fill_run {c : Sx} (place : Nat → Option (Nat × Nat)) : ∀ (vals : List (Nat × Value)) (ps : List (Nat × List IV)) (acc cs : List IV) (us : List Value), placed acc ps = some cs → VRL c acc us → acc.all IV.one = true →
    F2 (fun (v : Nat × Value) (p : Nat × List IV) => ∃ n, place v.1 = some (p.1, n) ∧ p.2.length = n ∧ ∃ ws, v.2.cells = ws.toArray ∧ VRL c p.2 ws ∧ p.2.all IV.one = true) vals ps →
    ∃ us', Instr.fill place us.toArray vals = some us'.toArray ∧ VRL c cs us' ∧ cs.all IV.one = true
  | _, [], acc, cs, us, h, hl, h1, hf => by
    simp only [placed, Option.some.injEq] at h
    subst h
    cases hf
    exact ⟨us, rfl, hl, h1⟩
  | _, (off, p) :: ps, acc, cs, us, h, hl, h1, hf => by
    cases hf with
    | cons hv hrest =>
      rename_i v vals
      obtain ⟨i, x⟩ := v
      obtain ⟨n, hp, hn, ws, hw, hwl, hw1⟩ := hv
      simp only at hp hn hw hwl hw1
      simp only [placed] at h
      split at h
      · rename_i hle
        have hlen := hl.length
        have hwlen : ws.length = p.length := hwl.length
        have hl' : VRL c (acc.take off ++ p ++ acc.drop (off + p.length)) (us.take off ++ ws ++ us.drop (off + ws.length)) := by
          rw [hwlen]
          exact ((hl.take off).append hwl).append (hl.drop _)
        obtain ⟨us', g1, g2, g3⟩ := fill_run place vals ps _ cs _ h hl' (by simp only [List.all_append, Bool.and_eq_true]; exact ⟨⟨all_take h1 _, hw1⟩, all_drop h1 _⟩) hrest
        refine ⟨us', ?_, g2, g3⟩
        simp only [Instr.fill, hp]
        have hc : ¬ ((decide (x.cells.size ≠ n) || decide (off + x.cells.size > us.toArray.size)) = true) := by
          rw [hw]
          simp
          omega
        rw [if_neg hc]
        rw [← g1]
        congr 1
        rw [hw]
        exact setRun ws off us.toArray (by simp; omega)
      · cases h

section
variable [Off] [Gh] [Old] {P : Program} {φ : Nat → Option (Nat × Nat)} {w0 : World} {N : Nat} {s : St} {a : Act} {w w' : World} {d : Nat} {e : Eff} {o : Obj}

theorem parts_run (h : RelC φ w0 N s a w) (place : Nat → Option (Nat × Nat)) : ∀ {l : List (Nat × Operand)} {qs : List (Nat × Nat × Opd)} {ps : List (Nat × List IV)}, copParts place l = some qs → s.parts qs = some ps →
    F2 (fun (v : Nat × Value) (p : Nat × List IV) => ∃ n, place v.1 = some (p.1, n) ∧ p.2.length = n ∧ ∃ ws, v.2.cells = ws.toArray ∧ VRL (sx w s.h φ w0.heap.size) p.2 ws ∧ p.2.all IV.one = true) (l.map fun q => (q.1, a.eval q.2)) ps
  | [], qs, ps, h1, h2 => by
    simp only [copParts, Option.some.injEq] at h1; subst h1
    simp only [St.parts, Option.some.injEq] at h2; subst h2
    exact .nil
  | (i, x) :: l, qs, ps, h1, h2 => by
    simp only [copParts] at h1
    split at h1
    · rename_i off n y qs' hp hy hqs
      injection h1 with h1; subst h1
      simp only [St.parts] at h2
      split at h2
      · rename_i v ps' hv hps
        split at h2
        · rename_i hc
          injection h2 with h2; subst h2
          refine .cons ?_ (parts_run h place hqs hps)
          obtain ⟨ws, g1, g2, g3⟩ := boxed (get_VR h hy hv) hc.2
          exact ⟨n, hp, hc.1, ws, g1, g2, g3⟩
        · cases h2
      · cases h2
    · cases h1

theorem snd_build (h : RelC φ w0 N s a w) (hd : d < N) {op : Oper} {t : TypeId} {ps : Array (Nat × Operand)} (ho : op.op = .build t ps) {z : List IV} (hz : zeroL P t = some z) {place : Nat → Option (Nat × Nat)} {qs : List (Nat × Nat × Opd)} (hq : copParts place ps.toList = some qs)
    (hkind : (∃ fs, P.underlying t = some (.struct fs) ∧ fs.toList.all (fun f => (P.info? f.type).isSome) = true ∧ place = fun i => (fs[i]?).map fun f => (f.offset, P.cellsOf f.type)) ∨ (∃ n el, P.underlying t = some (.array n el) ∧ (P.info? el).isSome = true ∧ place = fun i => some (i * P.cellsOf el, P.cellsOf el)))
    (he : neu s d (.build z qs) = some e) : Snd P w0 N s a w d op e := by
  simp only [neu] at he
  split at he
  · rename_i rs hrs
    split at he
    · rename_i cs hcs
      injection he with he; subst he
      obtain ⟨i, v, hi, hv, hl, h1, _⟩ := zeroL_VR hz (sx w s.h φ w0.heap.size)
      obtain ⟨us', g1, g2, g3⟩ := fill_run place _ _ _ _ _ hcs hl h1 (parts_run h place hq hrs)
      have hmap : (ps.map fun q => (q.1, a.eval q.2)).toList = ps.toList.map fun q => (q.1, a.eval q.2) := by simp
      refine Snd.pure h hd (rv := .agg us'.toArray) ?_ (by simp only [VR]; exact ⟨us', rfl, g3, g2⟩)
      unfold execOp
      rw [ho]
      have gz : v.cells.toList.toArray = v.cells := by simp
      rw [gz] at g1
      rcases hkind with ⟨fs, hu, hfs, rfl⟩ | ⟨n, el, hu, hel, rfl⟩
      · have hm : ∀ (l : List Field), l.all (fun f => (P.info? f.type).isSome) = true → (l.mapM (fun (f : Field) => do Pure.pure (f.offset, ← sizeOf f.type)) : Sem (List (Nat × Nat))).run P w = .ok (l.map fun (f : Field) => (f.offset, P.cellsOf f.type)) w := by
          intro l
          induction l with
          | nil => intro _; rfl
          | cons f l ih =>
            intro hall
            simp only [List.all_cons, Bool.and_eq_true] at hall
            obtain ⟨i', hi'⟩ := Option.isSome_iff_exists.1 hall.1
            simp only [List.mapM_cons, Sem.run_bind, run_sizeOf w hi', Result.andThen_ok, Sem.run_pure, ih hall.2, List.map_cons]
        have hma : (fs.mapM (fun (f : Field) => do Pure.pure (f.offset, ← sizeOf f.type)) : Sem (Array (Nat × Nat))).run P w = .ok (fs.map fun (f : Field) => (f.offset, P.cellsOf f.type)) w := by
          rw [Array.mapM_eq_mapM_toList]
          simp only [Sem.run_map, hm fs.toList hfs, Result.andThen_ok]
          congr 1
          rw [← Array.toList_map]
        simp only [Instr.build, Sem.run_bind, run_zero hi hv, Result.andThen_ok, run_underlying hu, hma]
        have hpl : (fun i : Nat => (fs.map fun (f : Field) => (f.offset, P.cellsOf f.type))[i]?) = fun i : Nat => (fs[i]?).map fun (f : Field) => (f.offset, P.cellsOf f.type) := by funext i; simp
        rw [hpl, hmap, g1]
        simp only [Sem.run_pure, Result.andThen_ok]
      · obtain ⟨i', hi'⟩ := Option.isSome_iff_exists.1 hel
        simp only [Instr.build, Sem.run_bind, run_zero hi hv, Result.andThen_ok, run_underlying hu, run_sizeOf w hi']
        rw [hmap, g1]
        simp only [Sem.run_pure, Result.andThen_ok]
    · cases he
  · cases he
end
end Go.Proofs.YtilbipknodpmmaaDoor

/-! What is made, nested, appended to what is whole. -/
set_option linter.unusedSectionVars false
set_option linter.unusedVariables false
set_option linter.unusedSimpArgs false
namespace Go.Proofs.YtilbipknodpmmaaDoor
open Go.RowKit

section
variable [Off] [Gh] [Old] {P : Program} {φ : Nat → Option (Nat × Nat)} {w0 : World} {N : Nat} {s : St} {a : Act} {w w' : World} {d : Nat} {e : Eff} {o : Obj}

theorem frozen_row {H : Nat → Blk} {base : Nat} (hs : HS (sx w H φ base)) {h off n sz ver : Nat} {u : Value} (hv : VR (sx w H φ base) (.row h off n sz ver) u) (hl : (H h).live = true) (he : (H h).ver = ver) (hr : (H h).rw = false)
    (hp : (H h).isRow = true ∨ IV.purL (((H h).cells.drop off).take (n * sz)) = true) : VR (sx w H φ base) (.sl .plain n (((H h).cells.drop off).take (n * sz))) u := by
  obtain ⟨A, k, us, rfl, g2, g3, g4, g5⟩ := row_cells hs hv hl he _ rfl
  simp only [VR]
  refine ⟨A, k, us, rfl, g4, by simp, by simp, ?_, all_take (all_drop (hs.home h hl).one _) _, g2, ?_⟩
  · rcases hp with hp | hp
    · exact purL_take (purL_drop ((hs.home h hl).row hp) _) _
    · exact hp
  · intro i hi
    obtain ⟨b, o', rfl, hrange⟩ := g5 (by intro e; rw [e] at hi; simp at hi)
    refine ⟨_, rfl, rfl, ?_, hrange i _ (List.getElem?_eq_getElem hi)⟩
    -- the block is nobody's
    simp only [VR] at hv
    obtain ⟨_, A', k', e1, _, hrow⟩ := hv
    have hrr := hrow hl he
    unfold rowR at hrr
    cases hφ : φ h with
    | none => simp only [hφ] at hrr; have : n = 0 := by injection e1 with e1 e2 e3; omega
              subst this; simp at g3; rw [g3] at hi; simp at hi
    | some p =>
      obtain ⟨b2, o2⟩ := p
      simp only [hφ] at hrr
      have hb : b2 = b := by
        injection e1 with e1 e2 e3
        rcases hrr.2.1 with hk | hA
        · subst hk
          have : n = 0 := by omega
          subst this; simp at g3; rw [g3] at hi; simp at hi
        · rw [← e1] at hA; injection hA with hA; injection hA with hA; exact hA.symm
      subst hb
      refine ⟨home_lt hs hl hφ, fun x hxl hxr p hxp => ?_, fun hlt => absurd hlt (Nat.not_lt.2 ((hs.home h hl).low _ hφ))⟩
      by_cases hx : x = h
      · subst hx; exact absurd (hr.symm.trans hxr) (by simp)
      · exact hs.excl x h p (b2, o2) hxl hxr hl hx hxp hφ

theorem snd_slArrF (h : RelC φ w0 N s a w) (hd : d < N) {o : Oper} {t : TypeId} {x : Operand} {lo hi mx : Option Operand} (ho : o.op = .slice t x lo hi mx) {el : TypeId} {n : Nat} (hu : P.underlying t = some (.array n el)) (hi0 : (P.info? el).isSome = true) {x' : Opd} (hx : opd x = some x') (h1 : opdO lo = some none) (h2 : opdO hi = some none) (h3 : opdO mx = some none)
    {sz : Nat} (hsz : sz = P.cellsOf el) (he : neu s d (.slArrF n sz x') = some e) : Snd P w0 N s a w d o e := by
  subst hsz
  obtain ⟨inf, hi0⟩ := Option.isSome_iff_exists.1 hi0
  simp only [neu] at he
  split at he
  · rename_i hh off ver hv
    split at he
    · rename_i hc
      obtain ⟨hok, hrw, hle, hpur⟩ := hc
      injection he with he; subst he
      have h0 := get_VR h hx hv
      simp only [VR] at h0
      simp only [St.ok, Bool.and_eq_true, beq_iff_eq] at hok
      have hp := h0.2.2 hok.1 hok.2
      unfold ptrR at hp
      have hmx : mx = none := by
        cases mx with
        | none => rfl
        | some z => simp only [opdO] at h3; split at h3 <;> simp at h3
      obtain ⟨m, hr, _, _, _, _, _, g6⟩ := bnds_run (P := P) h h1 h2 h3 (n := n) (x := 0) (y := n) (e := false) (by simp [bnds, bnd]) false n (Nat.le_refl _)
      have hm : m = n := g6 rfl hmx
      subst hm
      cases hφ : φ hh with
      | none => simp only [hφ] at hp
      | some pp =>
        obtain ⟨b, o'⟩ := pp
        simp only [hφ] at hp
        have run : (execOp a.eval o).run P w = .ok (.value (.slice (some ⟨b, o' + off, none⟩) m m)) w := by
          unfold execOp
          rw [ho]
          simp only [hp, Instr.sliceAt, Sem.run_bind, run_underlying hu, Result.andThen_ok, Instr.sureAddr, hr, run_sizeOf w hi0, Sem.run_pure, add_at]
          simp
        have hbs : o' + (s.h hh).cells.length ≤ bsize w b := by
          have hat := (h.hs.home hh hok.1).at_
          simp only [hφ] at hat
          obtain ⟨cs, T, fr, us, e1, _, e3, _, e5⟩ := hat
          have hlen : us.length = (s.h hh).cells.length := e3.length
          simp only [bsize, e1]
          omega
        have hrow : VR (sx w s.h φ w0.heap.size) (.row hh off m (P.cellsOf el) ver) (.slice (some ⟨b, o' + off, none⟩) m m) := by
          simp only [VR]
          refine ⟨h0.1, _, m, rfl, Nat.le_refl _, fun hl hve => ?_⟩
          unfold rowR
          refine ⟨hle, ?_⟩
          simp only [hφ]
          exact ⟨.inr (by first | trivial | rfl), by omega⟩
        have hfr := frozen_row h.hs hrow hok.1 hok.2 hrw (.inr hpur)
        refine Snd.pure h hd run ?_
        simp only [VR] at hfr ⊢
        obtain ⟨A, k, us, e1, _, _, _, e5⟩ := hfr
        injection e1 with e1 e2 e3
        subst e1 e3
        exact ⟨_, _, us, rfl, Nat.le_refl _, fun _ => rfl, by simp, e5⟩
    · cases he
  · cases he
theorem nest1_VR (h : RelC φ w0 N s a w) {v v' : IV} (hn : s.nest1 v = some v') {u : Value} (hv : VR (sx w s.h φ w0.heap.size) v u) : VR (sx w s.h φ w0.heap.size) v' u ∧ v'.one = true ∧ v'.pur = true := by
  cases v <;> simp only [St.nest1] at hn <;> try (cases hn; done)
  all_goals try (injection hn with hn; subst hn; exact ⟨hv, rfl, rfl⟩)
  · injection hn with hn; subst hn
    have h0 := hv
    simp only [VR] at h0
    obtain ⟨A, k, us, rfl, h2, h3, h4, h5, h6, h7, h8⟩ := h0
    refine ⟨?_, rfl, h5⟩
    simp only [VR]
    exact ⟨A, k, us, rfl, h2, by simp, by simp, h5, h6, h7, h8⟩
  · split at hn
    · rename_i hc
      obtain ⟨h1, h2, h3⟩ := hc
      injection hn with hn; subst hn
      simp only [St.ok, Bool.and_eq_true, beq_iff_eq] at h1
      have := frozen_row h.hs hv h1.1 h1.2 h2 h3
      refine ⟨this, rfl, ?_⟩
      simp only [VR] at this
      obtain ⟨_, _, _, _, _, _, _, h5, _⟩ := this
      exact h5
    · cases hn

theorem nestL_VR (h : RelC φ w0 N s a w) : ∀ {vs vs' : List IV}, s.nestL vs = some vs' → ∀ {us : List Value}, VRL (sx w s.h φ w0.heap.size) vs us → VRL (sx w s.h φ w0.heap.size) vs' us ∧ vs'.all IV.one = true ∧ IV.purL vs' = true
  | [], vs', hn, us, hv => by simp only [St.nestL, Option.some.injEq] at hn; subst hn; exact ⟨hv, rfl, rfl⟩
  | v :: vs, vs', hn, us, hv => by
    simp only [St.nestL] at hn
    split at hn
    · rename_i x xs hx hxs
      injection hn with hn; subst hn
      simp only [VRL] at hv
      obtain ⟨u, us', rfl, hu, hus⟩ := hv
      obtain ⟨a1, a2, a3⟩ := nest1_VR h hx hu
      obtain ⟨b1, b2, b3⟩ := nestL_VR h hxs hus
      exact ⟨VRL.cons a1 b1, by simp [a2, b2], by simp [IV.purL, a3, b3]⟩
    · cases hn

theorem scal_pur : ∀ {vs : List IV}, vs.all IV.scal = true → IV.purL vs = true ∧ vs.all IV.one = true
  | [], _ => ⟨rfl, rfl⟩
  | v :: vs, h => by
    simp only [List.all_cons, Bool.and_eq_true] at h
    obtain ⟨a, b⟩ := scal_pur h.2
    have : v.pur = true ∧ v.one = true := by cases v <;> simp [IV.scal] at h <;> exact ⟨rfl, rfl⟩
    simp [IV.purL, this.1, this.2, a, b]

theorem nest_VR (h : RelC φ w0 N s a w) {v : IV} {cs : List IV} (hn : s.nest v = some cs) {u : Value} (hv : VR (sx w s.h φ w0.heap.size) v u) (hu : v.isU = false) : ∃ us, u.cells = us.toArray ∧ VRL (sx w s.h φ w0.heap.size) cs us ∧ cs.all IV.one = true ∧ IV.purL cs = true := by
  obtain ⟨us, h1, h2⟩ := cells_VR hv hu
  unfold St.nest at hn
  split at hn
  · rename_i hsc
    injection hn with hn; subst hn
    obtain ⟨p, q⟩ := scal_pur hsc
    exact ⟨us, h1, h2, q, p⟩
  · obtain ⟨a1, a2, a3⟩ := nestL_VR h hn h2
    exact ⟨us, h1, a1, a2, a3⟩

theorem nest_notU {v : IV} {cs : List IV} (hn : s.nest v = some cs) : v.isU = false := by
  cases v <;> first | rfl | (simp [St.nest, IV.cells, IV.scal, St.nestL, St.nest1] at hn)

theorem partsN_run (h : RelC φ w0 N s a w) (place : Nat → Option (Nat × Nat)) : ∀ {l : List (Nat × Operand)} {qs : List (Nat × Nat × Opd)} {ps : List (Nat × List IV)}, copParts place l = some qs → s.partsN qs = some ps →
    F2 (fun (v : Nat × Value) (p : Nat × List IV) => ∃ n, place v.1 = some (p.1, n) ∧ p.2.length = n ∧ ∃ ws, v.2.cells = ws.toArray ∧ VRL (sx w s.h φ w0.heap.size) p.2 ws ∧ p.2.all IV.one = true) (l.map fun q => (q.1, a.eval q.2)) ps ∧ ∀ p ∈ ps, IV.purL p.2 = true
  | [], qs, ps, h1, h2 => by
    simp only [copParts, Option.some.injEq] at h1; subst h1
    simp only [St.partsN, Option.some.injEq] at h2; subst h2
    exact ⟨.nil, by simp⟩
  | (i, x) :: l, qs, ps, h1, h2 => by
    simp only [copParts] at h1
    split at h1
    · rename_i off n y qs' hp hy hqs
      injection h1 with h1; subst h1
      simp only [St.partsN] at h2
      split at h2
      · rename_i v ps' hv hps
        split at h2
        · rename_i cs hcs
          split at h2
          · rename_i hc
            injection h2 with h2; subst h2
            obtain ⟨ih1, ih2⟩ := partsN_run h place hqs hps
            obtain ⟨ws, g1, g2, g3, g4⟩ := nest_VR h hcs (get_VR h hy hv) (nest_notU hcs)
            refine ⟨.cons ⟨n, hp, hc, ws, g1, g2, g3⟩ ih1, fun p hpm => ?_⟩
            rcases List.mem_cons.1 hpm with rfl | hpm
            · exact g4
            · exact ih2 p hpm
          · cases h2
        · cases h2
      · cases h2
    · cases h1

theorem placed_pur : ∀ {ps : List (Nat × List IV)} {acc cs : List IV}, placed acc ps = some cs → IV.purL acc = true → (∀ p ∈ ps, IV.purL p.2 = true) → IV.purL cs = true
  | [], acc, cs, h, ha, _ => by simp only [placed, Option.some.injEq] at h; subst h; exact ha
  | (off, p) :: ps, acc, cs, h, ha, hp => by
    simp only [placed] at h
    split at h
    · exact placed_pur h (purL_append (purL_append (purL_take ha _) (hp (off, p) (by simp))) (purL_drop ha _)) (fun q hq => hp q (by simp [hq]))
    · cases h

theorem repl_length (n : Nat) (z : List IV) : (repl n z).length = n * z.length := by simp [repl]
theorem repl_get (n : Nat) (z : List IV) (i : Nat) (hi : i < (repl n z).length) (hz : i % z.length < z.length) : (repl n z)[i] = z[i % z.length] := by
  induction n generalizing i with
  | zero => simp [repl] at hi
  | succ n ih =>
    have hr : repl (n + 1) z = z ++ repl n z := by simp [repl, List.replicate_succ]
    simp only [hr] at hi ⊢
    by_cases h : i < z.length
    · rw [List.getElem_append_left h]
      congr 1
      exact (Nat.mod_eq_of_lt h).symm
    · rw [List.getElem_append_right (by omega)]
      have hi' : i - z.length < (repl n z).length := by simp at hi; omega
      rw [ih (i - z.length) hi' (Nat.mod_lt _ (by omega))]
      congr 1
      exact (Nat.mod_eq_sub_mod (by omega)).symm
theorem repl_all (n : Nat) {z : List IV} {p : IV → Bool} (h : z.all p = true) : (repl n z).all p = true := by
  rw [List.all_eq_true] at *
  intro x hx
  simp only [repl, List.mem_flatten, List.mem_replicate] at hx
  obtain ⟨l, ⟨_, rfl⟩, hx⟩ := hx
  exact h x hx
theorem repl_pur (n : Nat) {z : List IV} (h : IV.purL z = true) : IV.purL (repl n z) = true := by rw [purL_all] at *; exact repl_all n h

theorem made_VRL {c : Sx} {z : List IV} {v : Value} (hl : VRL c z v.cells.toList) (n : Nat) : VRL c (repl n z) (madeCells v.cells (n * z.length)).toList := by
  have hlen : v.cells.size = z.length := by simpa using hl.length
  refine VRL.mk (by simp [madeCells, repl_length]) (fun i hi hi' => ?_)
  have hpos : 0 < z.length := by
    rw [repl_length] at hi
    rcases Nat.eq_zero_or_pos z.length with h | h
    · rw [h, Nat.mul_zero] at hi; omega
    · exact h
  have hm := Nat.mod_lt i hpos
  rw [repl_get n z i hi hm]
  have : (madeCells v.cells (n * z.length)).toList[i] = v.cells.toList[i % z.length]'(by simp [hlen]; exact hm) := by
    simp only [madeCells, Array.getElem_toList, Array.getElem_map, Array.getElem_range, hlen]
    rw [getElem!_pos v.cells (i % z.length) (by rw [hlen]; exact hm)]
  rw [this]
  exact hl.get _ hm _

theorem new_at {H : Nat → Blk} {base : Nat} (hs : HS (sx w H φ base)) {cells : Array Value} {T : TypeId} {fr : Nat × Nat} (hp : Pushed w w' (.cells cells T fr)) {us : List Value} (hc : ∀ i (hi : i < us.length), cells[i]? = some us[i]) : CellsAt (sx w' H φ base) (some ⟨w.heap.size, 0, none⟩) us := by
  intro i hi
  refine ⟨_, rfl, rfl, ⟨by rw [hp.size]; exact Nat.lt_succ_self _, fun x hl _ p hpx => ?_, ?_⟩, ?_⟩
  · obtain ⟨b, off⟩ := p
    have := home_lt hs hl hpx
    simp only at this ⊢; omega
  · exact fun hlt => absurd hlt (Nat.not_lt.2 hs.size)
  · rw [cell_of_row w' _ _ cells T fr hp.new, Nat.zero_add]
    exact hc i hi

theorem snd_bsl (h : RelC φ w0 N s a w) (hd : d < N) {op : Oper} {t el : TypeId} {n : Nat} {ps : Array (Nat × Operand)} (ho : op.op = .buildSlice t n ps) (hu : P.underlying t = some (.slice el)) {z : List IV} (hz : zeroL P el = some z) {qs : List (Nat × Nat × Opd)} (hq : copParts (fun i => some (i * P.cellsOf el, P.cellsOf el)) ps.toList = some qs)
    (hle : n * P.cellsOf el ≤ 2 ^ 24) {sz : Nat} (hsz : sz = P.cellsOf el) (he : neu s d (.bsl n sz z qs) = some e) : Snd P w0 N s a w d op e := by
  simp only [neu] at he
  split at he
  · rename_i rs hrs
    split at he
    · rename_i cs hcs
      split at he
      · rename_i hzl
        injection he with he; subst he
        obtain ⟨i, v, hi, hv, hl, h1, hpz⟩ := zeroL_VR hz (sx w s.h φ w0.heap.size)
        obtain ⟨hf, hpp⟩ := partsN_run h _ hq hrs
        have hm := made_VRL hl n
        obtain ⟨us', g1, g2, g3⟩ := fill_run (fun i => some (i * P.cellsOf el, P.cellsOf el)) _ _ _ _ _ hcs hm (repl_all n h1) hf
        have hpc := placed_pur hcs (repl_pur n hpz) hpp
        have hmap : (ps.map fun q => (q.1, a.eval q.2)).toList = ps.toList.map fun q => (q.1, a.eval q.2) := by simp
        have hgt : ¬ (n * P.cellsOf el > 2 ^ 24) := by omega
        have hz0 : (madeCells v.cells (n * z.length)).toList.toArray = (Array.range (n * P.cellsOf el)).map (v.cells[· % v.cells.size]!) := by
          simp only [Array.toArray_toList, madeCells, hzl, hsz]
        have hp := pushed_alloc w (.cells us'.toArray el)
        refine ⟨.slice (some ⟨w.heap.size, 0, none⟩) n n, w.alloc (.cells us'.toArray el), φ, ?_, (h.pushed hp).pure hd ?_⟩
        · unfold execOp
          rw [ho]
          by_cases h0 : n * P.cellsOf el = 0
          · simp only [Instr.buildSlice, Sem.run_bind, run_underlying hu, Result.andThen_ok, run_sizeOf w hi, if_neg hgt, if_pos h0, Sem.run_pure]
            rw [hz0] at g1
            have g1' : Instr.fill (fun i => some (i * P.cellsOf el, P.cellsOf el)) ((Array.range (n * P.cellsOf el)).map fun x => (#[] : Array Value)[x % (#[] : Array Value).size]!) (ps.toList.map fun q => (q.1, a.eval q.2)) = some us'.toArray := by
              rw [← g1]; congr 1; simp [h0]
            rw [hmap, g1']
            simp only [newRow, Sem.run_bind, run_newObj, Result.andThen_ok, Sem.run_pure, World.alloc_eq]
          · simp only [Instr.buildSlice, Sem.run_bind, run_underlying hu, Result.andThen_ok, run_sizeOf w hi, if_neg hgt, if_neg h0, Sem.run_pure, run_zero hi hv]
            rw [hz0] at g1
            rw [hmap, g1]
            simp only [newRow, Sem.run_bind, run_newObj, Result.andThen_ok, Sem.run_pure, World.alloc_eq]
        · simp only [VR]
          exact ⟨_, n, us', rfl, Nat.le_refl _, by simp, fun _ ad ha => by injection ha with ha; subst ha; exact h.hs.size, hpc, g3, g2.evo (Evo.pushed hp), new_at h.hs hp (fun i hi => by simp [hi])⟩
      · cases he
    · cases he
  · cases he

theorem snd_bslR (h : RelC φ w0 N s a w) (hd : d < N) {op : Oper} {t el : TypeId} {n : Nat} {ps : Array (Nat × Operand)} (ho : op.op = .buildSlice t n ps) (hu : P.underlying t = some (.slice el)) {z : List IV} (hz : zeroL P el = some z) {qs : List (Nat × Nat × Opd)} (hq : copParts (fun i => some (i * P.cellsOf el, P.cellsOf el)) ps.toList = some qs)
    (hle : n * P.cellsOf el ≤ 2 ^ 24) {sz : Nat} (hsz : sz = P.cellsOf el) (he : neu s d (.bslR n sz z qs) = some e) : Snd P w0 N s a w d op e := by
  simp only [neu] at he
  split at he
  · rename_i rs hrs
    split at he
    · rename_i cs hcs
      split at he
      · rename_i hzl
        injection he with he; subst he
        obtain ⟨i, v, hi, hv, hl, h1, hpz⟩ := zeroL_VR hz (sx w s.h φ w0.heap.size)
        have hf := parts_run h _ hq hrs
        have hm := made_VRL hl n
        obtain ⟨us', g1, g2, g3⟩ := fill_run (fun i => some (i * P.cellsOf el, P.cellsOf el)) _ _ _ _ _ hcs hm (repl_all n h1) hf
        have hmap : (ps.map fun q => (q.1, a.eval q.2)).toList = ps.toList.map fun q => (q.1, a.eval q.2) := by simp
        have hgt : ¬ (n * P.cellsOf el > 2 ^ 24) := by omega
        have hz0 : (madeCells v.cells (n * z.length)).toList.toArray = (Array.range (n * P.cellsOf el)).map (v.cells[· % v.cells.size]!) := by
          simp only [Array.toArray_toList, madeCells, hzl, hsz]
        have hp := pushed_alloc w (.cells us'.toArray el)
        refine ⟨.slice (some ⟨w.heap.size, 0, none⟩) n n, w.alloc (.cells us'.toArray el), φ, ?_, (h.pushed hp).pure hd ?_⟩
        · unfold execOp
          rw [ho]
          by_cases h0 : n * P.cellsOf el = 0
          · simp only [Instr.buildSlice, Sem.run_bind, run_underlying hu, Result.andThen_ok, run_sizeOf w hi, if_neg hgt, if_pos h0, Sem.run_pure]
            rw [hz0] at g1
            have g1' : Instr.fill (fun i => some (i * P.cellsOf el, P.cellsOf el)) ((Array.range (n * P.cellsOf el)).map fun x => (#[] : Array Value)[x % (#[] : Array Value).size]!) (ps.toList.map fun q => (q.1, a.eval q.2)) = some us'.toArray := by
              rw [← g1]; congr 1; simp [h0]
            rw [hmap, g1']
            simp only [newRow, Sem.run_bind, run_newObj, Result.andThen_ok, Sem.run_pure, World.alloc_eq]
          · simp only [Instr.buildSlice, Sem.run_bind, run_underlying hu, Result.andThen_ok, run_sizeOf w hi, if_neg hgt, if_neg h0, Sem.run_pure, run_zero hi hv]
            rw [hz0] at g1
            rw [hmap, g1]
            simp only [newRow, Sem.run_bind, run_newObj, Result.andThen_ok, Sem.run_pure, World.alloc_eq]
        · simp only [VR]
          exact ⟨_, us', rfl, fun ad ha => by injection ha with ha; subst ha; exact h.hs.size, g3, g2.evo (Evo.pushed hp), new_at h.hs hp (fun i hi => by simp [hi])⟩
      · cases he
    · cases he
  · cases he

theorem snd_mk (h : RelC φ w0 N s a w) (hd : d < N) {op : Oper} {t el : TypeId} {l c : Operand} (ho : op.op = .makeSlice t l c) (hu : P.underlying t = some (.slice el)) {i : TypeInfo} (hi : P.info? el = some i) {z : List IV} (hz : zeroL P el = some z) {l' c' : Opd} (hl' : opd l = some l') (hc' : opd c = some c')
    {sz bytes : Nat} (hsz : sz = P.cellsOf el) (hby : bytes = i.bytes) (he : neu s d (.mk sz bytes z l' c') = some e) : Snd P w0 N s a w d op e := by
  subst hby
  simp only [neu] at he
  split at he
  · rename_i k1 lv k2 cv hg1 hg2
    split at he
    · rename_i hc
      obtain ⟨h0, hlc, hroom, hzl⟩ := hc
      subst hlc
      injection he with he; subst he
      have e1 := (get_VR h hl' hg1).int_
      have e2 := (get_VR h hc' hg2).int_
      obtain ⟨i', v, hi', hv, hl, h1, hpz⟩ := zeroL_VR hz (sx w s.h φ w0.heap.size)
      rw [hi] at hi'; injection hi' with hi'; subst hi'
      simp only [roomy, Bool.and_eq_true, decide_eq_true_eq] at hroom
      have hb : (i.bytes : Int) * lv ≤ 281474976710656 := by
        have : ((lv.toNat * i.bytes : Nat) : Int) ≤ 2 ^ 44 := by exact_mod_cast hroom.1
        rw [Int.natCast_mul, Int.toNat_of_nonneg h0, Int.mul_comm] at this
        omega
      have hrun := run_make (P := P) w t el i v hu hi hv k1 k2 lv lv h0 (Int.le_refl _) hb (by omega)
      have hsize : i.size = z.length := by rw [hzl, hsz]; simp [Program.cellsOf, hi]
      rw [hsize] at hrun
      have hp := pushed_alloc w (.cells (madeCells v.cells (lv.toNat * z.length)) el)
      refine ⟨_, _, _, ?_, h.newRow hd hp (repl_all _ h1) (repl_pur _ hpz) (made_VRL hl lv.toNat) (fun i hi => by simp at hi ⊢) (n := lv.toNat) (sz := sz) (k := lv.toNat) (by rw [repl_length, hzl]; exact Nat.le_refl _) (Nat.le_refl _) (by rw [size_madeCells, hzl]; exact Nat.le_refl _) (by simp)⟩
      unfold execOp
      rw [ho]
      simp only [e1, e2, Sem.run_bind, hrun, Result.andThen_ok, Sem.run_pure]
    · cases he
  · cases he
end
end Go.Proofs.YtilbipknodpmmaaDoor

/-! Append; what a string or a slice adds. -/
set_option linter.unusedSectionVars false
set_option linter.unusedVariables false
set_option linter.unusedSimpArgs false
namespace Go.Proofs.YtilbipknodpmmaaDoor
open Go.RowKit

section
variable [Off] [Gh] [Old] {P : Program} {φ : Nat → Option (Nat × Nat)} {w0 : World} {N : Nat} {s : St} {a : Act} {w w' : World} {d : Nat} {e : Eff} {o : Obj}

theorem more_run (h : RelC φ w0 N s a w) {sz : Nat} {v : IV} {m : Nat} {ds : List IV} (hm : s.more sz v = some (m, ds)) {u : Value} (hv : VR (sx w s.h φ w0.heap.size) v u) :
    ∃ us, VRL (sx w s.h φ w0.heap.size) ds us ∧ us.length = m * sz ∧ IV.purL ds = true ∧ ds.all IV.one = true ∧ (Builtin.lenOf u).run P w = .ok m w ∧
      (∀ w1, (∀ b i v, w.cell? ⟨b, i, none⟩ = some v → w1.cell? ⟨b, i, none⟩ = some v) → (Builtin.firstCells sz m u).run P w1 = .ok us.toArray w1) ∧ (∀ k w1, (∀ b i v, w.cell? ⟨b, i, none⟩ = some v → w1.cell? ⟨b, i, none⟩ = some v) → k ≤ m → (Builtin.firstCells sz k u).run P w1 = .ok (us.take (k * sz)).toArray w1) := by
  have slice : ∀ A k us, u = .slice A m k → us.length = m * sz → (us ≠ [] → ∃ b o, A = some ⟨b, o, none⟩ ∧ w.rangeAt b o us) → ∀ j w1, (∀ b i v, w.cell? ⟨b, i, none⟩ = some v → w1.cell? ⟨b, i, none⟩ = some v) → j ≤ m → (Builtin.firstCells sz j u).run P w1 = .ok (us.take (j * sz)).toArray w1 := by
    rintro A k us rfl hl hat j w1 hw hj
    have hjl : j * sz ≤ m * sz := Nat.mul_le_mul_right _ hj
    by_cases hne : us = []
    · subst hne
      have h0 : j * sz = 0 := by simp at hl; omega
      cases A with
      | none => simp [Builtin.firstCells]
      | some ad =>
        simp only [Builtin.firstCells, h0, List.take_nil]
        exact run_loadCells_list (P := P) w1 ad [] (by simp)
    · obtain ⟨b, o', rfl, hr⟩ := hat hne
      refine run_firstCells_some (P := P) w1 sz j _ m k _ (by simp [hl, hjl]) (fun q z hq => ?_)
      rw [add_at]
      exact hw _ _ _ (rangeAt_take hr _ q z hq)
  cases v with
  | str l =>
    simp only [St.more] at hm
    split at hm
    · rename_i hsz
      subst hsz
      simp only [Option.some.injEq, Prod.mk.injEq] at hm
      obtain ⟨rfl, rfl⟩ := hm
      have hu := hv.str_
      subst hu
      have hsize : (⟨l.toArray⟩ : ByteArray).size = l.length := rfl
      have hfirst : ∀ k w1, k ≤ l.length → (Builtin.firstCells 1 k (.string ⟨l.toArray⟩)).run P w1 = .ok ((l.take k).map fun b => Value.int .u8 b.toNat).toArray w1 := by
        intro k w1 hk
        simp only [Builtin.firstCells, Sem.run_pure]
        congr 1
        rw [ByteArray.data_extract]
        show (l.toArray.extract 0 k).map _ = _
        rw [List.extract_toArray, List.extract_eq_take_drop]
        simp
      refine ⟨l.map fun b => .int .u8 b.toNat, ?_, by simp, ?_, ?_, ?_, ?_, ?_⟩
      · refine VRL.mk (by simp [bytesV]) (fun i hi hi' => ?_)
        simp only [bytesV, List.getElem_map]
        exact VR.int_mk
      · rw [purL_all]; simp [bytesV, IV.pur]
      · simp [bytesV, IV.one]
      · simp only [Builtin.lenOf, Sem.run_pure, hsize]
      · intro w1 _
        rw [hfirst _ _ (Nat.le_refl _)]
        simp
      · intro k w1 _ hk
        rw [hfirst _ _ hk]
        simp
    · cases hm
  | sl f n cs =>
    have hm : s.elems sz (.sl f n cs) = some (m, ds) := by simpa only [St.more] using hm
    obtain ⟨A, k, us, hu, g2, g3, g4, g5, g6⟩ := elems_cells h.hs rfl hm hv
    refine ⟨us, g2, g3, g4, g5, by rw [hu]; rfl, fun w1 hw => ?_, fun j w1 hw hj => slice A k us hu g3 g6 j w1 hw hj⟩
    have := slice A k us hu g3 g6 m w1 hw (Nat.le_refl _)
    rwa [List.take_of_length_le (by omega)] at this
  | row x off n sz' ver =>
    have hm : s.elems sz (.row x off n sz' ver) = some (m, ds) := by simpa only [St.more] using hm
    obtain ⟨A, k, us, hu, g2, g3, g4, g5, g6⟩ := elems_cells h.hs rfl hm hv
    refine ⟨us, g2, g3, g4, g5, by rw [hu]; rfl, fun w1 hw => ?_, fun j w1 hw hj => slice A k us hu g3 g6 j w1 hw hj⟩
    have := slice A k us hu g3 g6 m w1 hw (Nat.le_refl _)
    rwa [List.take_of_length_le (by omega)] at this
  | _ => simp [St.more, St.elems] at hm

theorem run_append_in {t u el : TypeId} {ud : TypeDesc} {i : TypeInfo} (ht : P.underlying t = some (.slice el)) (hu : P.underlying u = some ud) (hnot : ∀ k, ud ≠ .int k) (hi : P.info? el = some i) (ty : TypeId)
    {A : Option Addr} {n k m : Nat} {x : Value} (hlen : (Builtin.lenOf x).run P w = .ok m w) {news : List Value} (hf : (Builtin.firstCells (P.cellsOf el) m x).run P w = .ok news.toArray w) (hle : n + m ≤ k) {w1 : World} (hst : ∀ ad, A = some ad → (storeCells (ad.add (n * P.cellsOf el)) news).run P w = .ok () w1) (hnone : A = none → w1 = w) :
    (Builtin.append_ #[t, u] ty #[.slice A n k, x]).run P w = .ok (.slice A (n + m) k) w1 := by
  unfold Builtin.append_
  simp only [List.getElem?_toArray, List.getElem?_cons_zero, List.getElem?_cons_succ, Sem.run_bind, run_underlying ht, run_underlying hu, run_sizeOf w hi, Result.andThen_ok, Sem.run_pure]
  cases ud <;> first
    | exact absurd rfl (hnot _)
    | (simp only [Bool.false_eq_true, if_false, Sem.run_pure, hlen, Result.andThen_ok, Sem.run_bind, Sem.run_ite, if_pos hle, hf, Bool.not_false, if_true]
       cases A with
       | none => rw [hnone rfl]; rfl
       | some ad => simp only [hst ad rfl, Result.andThen_ok, Sem.run_pure, Sem.run_bind])

theorem run_append_new {t u el : TypeId} {ud : TypeDesc} {i : TypeInfo} {z : Value} (ht : P.underlying t = some (.slice el)) (hu : P.underlying u = some ud) (hnot : ∀ k, ud ≠ .int k) (hi : P.info? el = some i) (hzv : i.zero = some z) (ty : TypeId)
    {A : Option Addr} {n k m : Nat} {x : Value} (hlen : (Builtin.lenOf x).run P w = .ok m w) {olds news : List Value} (ho : (Builtin.firstCells (P.cellsOf el) n (.slice A n k)).run P w.drew = .ok olds.toArray w.drew) (hf : (Builtin.firstCells (P.cellsOf el) m x).run P w.drew = .ok news.toArray w.drew) (hgt : k < n + m) (hroom : (n + m) * i.bytes ≤ 140737488355328) (h63 : n + m ≤ 2 ^ 62) :
    ∃ cap, n + m ≤ cap ∧ (Builtin.append_ #[t, u] ty #[.slice A n k, x]).run P w = .ok (.slice (some ⟨w.heap.size, 0, none⟩) (n + m) cap) (w.drew.alloc (.cells (olds.toArray ++ news.toArray ++ Builtin.zeroCells z.cells (cap - (n + m))) el)) := by
  refine ⟨grownCap w (n + m) k el, grownCap_ge _ _ _ _, ?_⟩
  have hfit := growslice_fits hgt hroom
  have h1 : ¬ (((n + m : Nat) : Int) > IntKind.i64.max ∧ ((false : Bool) = true ∨ i.bytes = 0)) := by
    simp only [IntKind.max, IntKind.signed, IntKind.bits, if_true]; omega
  have h2 : ¬ (Builtin.nextslicecap (n + m) k * i.bytes > 2 ^ 48) := by omega
  have hch : (choose (.appendCap (n + m) k el)).run P w = .ok (grownCap w (n + m) k el) w.drew := by
    rw [run_choose]
    simp [Question.forced, grownCap]
  unfold Builtin.append_
  simp only [List.getElem?_toArray, List.getElem?_cons_zero, List.getElem?_cons_succ, Sem.run_bind, run_underlying ht, run_underlying hu, run_sizeOf w hi, Result.andThen_ok, Sem.run_pure]
  have hti : ∀ w, (typeInfo el).run P w = .ok i w := fun w => by simp [typeInfo, hi]
  cases ud <;> first
    | exact absurd rfl (hnot _)
    | (simp only [Bool.false_eq_true, if_false, Sem.run_pure, hlen, Result.andThen_ok, Sem.run_bind, Sem.run_ite, if_neg (Nat.not_le.2 hgt), hf, Bool.not_false, if_true, hti, if_neg h1, if_neg h2, hch, run_askRoom, ho, run_zero hi hzv, newRow, run_newObj, World.alloc_eq]
       rw [if_neg (show ¬ (((n + m : Nat) : Int) > IntKind.i64.max ∧ (False ∨ i.bytes = 0)) by simp only [IntKind.max, IntKind.signed, IntKind.bits, if_true]; omega)]
       rfl)

theorem Evo.noHome {H : Nat → Blk} {φ : Nat → Option (Nat × Nat)} {base : Nat} (blk : Blk) (hv : (H d).ver < blk.ver) : Evo (sx w H φ base) (sx w (upd H d blk) (upd φ d none) base) where
  S b hb := ⟨hb.1, fun x hl hr p hpx => by
    by_cases hx : x = d
    · subst hx; simp only [upd, if_true, reduceCtorEq] at hpx
    · simp only [upd, if_neg hx] at hl hr hpx
      exact hb.2.1 x hl hr p hpx, hb.2.2⟩
  cell b hb i := rfl
  base := Nat.le_refl _
  ver x := by
    simp only [upd]
    split
    · rename_i hx; subst hx; omega
    · exact Nat.le_refl _
  same x hl hve := by
    by_cases hx : x = d
    · subst hx; simp only [upd, if_true] at hve; omega
    · simp only [upd, if_neg hx] at hl ⊢
      exact ⟨hl, trivial, Nat.le_refl _⟩
  size b := Nat.le_refl _

theorem HS.noHome {H : Nat → Blk} {φ : Nat → Option (Nat × Nat)} {base : Nat} (h : HS (sx w H φ base)) (blk : Blk) (hv : (H d).ver < blk.ver) (hc : blk.cells = []) : HS (sx w (upd H d blk) (upd φ d none) base) where
  home x hlx := by
    by_cases hx : x = d
    · subst hx
      exact {
        low := by simp only [upd, if_true]; intro p hp; cases hp
        one := by simp only [upd, if_true, hc]; rfl
        row := by simp only [upd, if_true, hc]; intro _; rfl
        at_ := by simp only [upd, if_true, hc] }
    · have hlx' : (H x).live = true := by simpa only [upd, if_neg hx] using hlx
      exact (h.home x hlx').evo (Evo.noHome blk hv) (by simp only [upd, if_neg hx]) (by simp only [upd, if_neg hx]) rfl (fun _ _ _ => rfl)
  excl x y p q hlx hrx hly hne hpx hpy := by
    by_cases hx : x = d
    · subst hx; simp only [upd, if_true, reduceCtorEq] at hpx
    · by_cases hy : y = d
      · subst hy; simp only [upd, if_true, reduceCtorEq] at hpy
      · simp only [upd, if_neg hx] at hlx hrx hpx
        simp only [upd, if_neg hy] at hly hpy
        exact h.excl x y p q hlx hrx hly hne hpx hpy
  size := h.size

theorem RelC.emptyRow (h : RelC φ w0 N s a w) (hd : d < N) {sz : Nat} {A : Option Addr} :
    RelC (upd φ (hom d) none) w0 N (s.eff d ⟨.row (hom d) 0 0 sz ((s.h (hom d)).ver + 1), some (freshBlk s (hom d) true true [])⟩) (a.put (some d) (.slice A 0 0)) w := by
  refine h.put (HS.noHome h.hs (freshBlk s (hom d) true true []) (Nat.lt_succ_self _) rfl) (Evo.noHome _ (Nat.lt_succ_self _)) h.below hd ?_
  simp only [VR, upd, if_true, freshBlk]
  refine ⟨Nat.le_refl _, A, 0, rfl, Nat.le_refl _, fun _ _ => ?_⟩
  unfold rowR
  simp only [upd, if_true]
  simp

theorem cells_drew (w : World) : ∀ b i v, w.cell? ⟨b, i, none⟩ = some v → w.drew.cell? ⟨b, i, none⟩ = some v := fun _ _ _ h => h

theorem olds_run {c : Sx} {A : Option Addr} {n k sz : Nat} {cs : List IV} {us : List Value} (hl : VRL c cs us) (hat : CellsAt c A us) (hlen : cs.length = n * sz) (w1 : World) (hw : ∀ b i v, c.w.cell? ⟨b, i, none⟩ = some v → w1.cell? ⟨b, i, none⟩ = some v) : (Builtin.firstCells sz n (.slice A n k)).run P w1 = .ok us.toArray w1 := by
  have hl' := hl.length
  by_cases hne : us = []
  · subst hne
    have h0 : n * sz = 0 := by simp at hl'; omega
    cases A with
    | none => simp [Builtin.firstCells]
    | some ad =>
      simp only [Builtin.firstCells, h0]
      exact run_loadCells_list (P := P) w1 ad [] (by simp)
  · obtain ⟨ad, rfl, hsp, _, _⟩ := hat 0 (List.length_pos_iff.2 hne)
    refine run_firstCells_some (P := P) w1 sz n ad n k us (by omega) (fun q z hq => ?_)
    rw [addr_eta hsp, add_at]
    exact hw _ _ _ (hat.range q z hq)

theorem callb_run {op : Oper} {c : Call} (ho : op.op = .call c) (hc : c.callee = .builtin .append) {x y : Operand} (hargs : c.args.toList = [x, y]) {t u : TypeId} (hts : c.argTypes.toList = [t, u]) {rv : Value} {w1 : World} (hr : (Builtin.append_ #[t, u] op.type #[a.eval x, a.eval y]).run P w = .ok rv w1) :
    (execOp a.eval op).run P w = .ok (.value rv) w1 := by
  have h1 : c.args = #[x, y] := by rw [← hargs]
  have h2 : c.argTypes = #[t, u] := by rw [← hts]
  unfold execOp
  rw [ho]
  simp only [resolve, hc, h1, h2, Sem.run_bind, Sem.run_pure, Result.andThen_ok, invoke, builtin, List.map_toArray, List.map_cons, List.map_nil, hr]

theorem snd_app (h : RelC φ w0 N s a w) (hd : d < N) {op : Oper} {c : Call} (ho : op.op = .call c) (hc : c.callee = .builtin .append) {x y : Operand} (hargs : c.args.toList = [x, y]) {t u el : TypeId} (hts : c.argTypes.toList = [t, u]) {ud : TypeDesc} (ht : P.underlying t = some (.slice el)) (hu : P.underlying u = some ud) (hnot : ∀ k, ud ≠ .int k) {i : TypeInfo} (hi : P.info? el = some i) {z : List IV} (hz : zeroL P el = some z) (hzl : z.length = P.cellsOf el)
    {x' y' : Opd} (hx : opd x = some x') (hy : opd y = some y') {sz bytes : Nat} (hsz : sz = P.cellsOf el) (hby : bytes = i.bytes) (he : neu s d (.app sz bytes x' y') = some e) : Snd P w0 N s a w d op e := by
  subst hsz hby
  simp only [neu] at he
  split at he
  · rename_i f n cs v hgx hgy
    split at he
    · rename_i m ds hmore
      split at he
      · rename_i hcond
        obtain ⟨hf, hlen, hm0, hroom⟩ := hcond
        injection he with he; subst he
        have hvx := get_VR h hx hgx
        have hvy := get_VR h hy hgy
        obtain ⟨i', zv, hi', hzv, hzz, _, _⟩ := zeroL_VR hz (sx w s.h φ w0.heap.size)
        rw [hi] at hi'; injection hi' with hi'; subst hi'
        obtain ⟨us, g1, g2, g3, g4, g5, g6, _⟩ := more_run (P := P) h hmore hvy
        simp only [VR] at hvx
        obtain ⟨A, k, olds, hax, hnk, hfull, _, hpo, h1o, hlo, hato⟩ := hvx
        have hk := hfull hf
        subst hk
        simp only [roomy, Bool.and_eq_true, decide_eq_true_eq] at hroom
        by_cases hm : m = 0
        · subst hm
          have hn0 : k = 0 := by omega
          subst hn0
          have hds : ds = [] := List.eq_nil_of_length_eq_zero (by have := g1.length; omega)
          have hcs : cs = [] := List.eq_nil_of_length_eq_zero (by omega)
          have hus : us = [] := List.eq_nil_of_length_eq_zero (by omega)
          subst hds hcs hus
          refine ⟨.slice A 0 0, w, _, ?_, h.emptyRow hd⟩
          refine callb_run ho hc hargs hts ?_
          rw [hax]
          exact run_append_in (P := P) ht hu hnot hi op.type g5 (news := []) (by simpa using g6 w (fun _ _ _ h => h)) (Nat.le_refl _) (fun ad _ => rfl) (fun _ => rfl)
        · have hold := olds_run (P := P) (k := k) hlo hato hlen w.drew (cells_drew w)
          obtain ⟨cap, hcap, hrun⟩ := run_append_new (P := P) ht hu hnot hi hzv op.type (A := A) (n := k) (k := k) g5 hold (g6 w.drew (cells_drew w)) (by omega) (by omega) (by omega)
          have hlo' := hlo.length
          have hds' := g1.length
          refine ⟨_, _, upd φ (hom d) (some (w.heap.size, 0)), callb_run ho hc hargs hts (by rw [hax]; exact hrun), ?_⟩
          refine h.newRow hd (pushed_drew w _) (cs := cs ++ ds) (us := olds ++ us) (by simp [h1o, g4]) (purL_append hpo g3) (hlo.append g1) (fun j hj => ?_) (by simp only [List.length_append]; rw [Nat.add_mul]; omega) hcap ?_ ?_
          · simp only [List.append_toArray, List.getElem?_toArray, Array.getElem?_append, List.size_toArray, List.length_append] at hj ⊢
            rw [if_pos (by simpa using hj), List.getElem?_eq_getElem]
          · have hzs : zv.cells.size = P.cellsOf el := by have := hzz.length; simp only [Array.length_toList] at this; omega
            simp only [Array.size_append, List.size_toArray, size_zeroCells, hzs, hlo', hlen, g2]
            rw [← Nat.add_mul, ← Nat.add_mul]
            exact Nat.mul_le_mul_right _ (by omega)
          · simp only [Array.size_append, List.size_toArray, List.length_append]; omega
      · cases he
    · cases he
  · cases he

theorem snd_appP (h : RelC φ w0 N s a w) (hd : d < N) {op : Oper} {c : Call} (ho : op.op = .call c) (hc : c.callee = .builtin .append) {x y : Operand} (hargs : c.args.toList = [x, y]) {t u el : TypeId} (hts : c.argTypes.toList = [t, u]) {ud : TypeDesc} (ht : P.underlying t = some (.slice el)) (hu : P.underlying u = some ud) (hnot : ∀ k, ud ≠ .int k) {i : TypeInfo} (hi : P.info? el = some i) {z : List IV} (hz : zeroL P el = some z)
    {x' y' : Opd} (hx : opd x = some x') (hy : opd y = some y') {sz bytes : Nat} (hsz : sz = P.cellsOf el) (hby : bytes = i.bytes) (he : neu s d (.appP sz bytes x' y') = some e) : Snd P w0 N s a w d op e := by
  subst hsz hby
  simp only [neu] at he
  split at he
  · rename_i f n cs v hgx hgy
    split at he
    · rename_i m ds hmore
      split at he
      · rename_i hcond
        obtain ⟨hf, hlen, hroom⟩ := hcond
        injection he with he; subst he
        have hvx := get_VR h hx hgx
        have hvy := get_VR h hy hgy
        obtain ⟨i', zv, hi', hzv, hzz, _, _⟩ := zeroL_VR hz (sx w s.h φ w0.heap.size)
        rw [hi] at hi'; injection hi' with hi'; subst hi'
        obtain ⟨us, g1, g2, g3, g4, g5, g6, _⟩ := more_run (P := P) h hmore hvy
        simp only [VR] at hvx
        obtain ⟨A, k, olds, hax, hnk, hfull, _, hpo, h1o, hlo, hato⟩ := hvx
        have hk := hfull hf
        subst hk
        simp only [roomy, Bool.and_eq_true, decide_eq_true_eq] at hroom
        by_cases hm : m = 0
        · subst hm
          have hds : ds = [] := List.eq_nil_of_length_eq_zero (by have := g1.length; omega)
          have hus : us = [] := List.eq_nil_of_length_eq_zero (by omega)
          subst hds hus
          refine Snd.pure h hd (rv := .slice A k k) (callb_run ho hc hargs hts ?_) ?_
          · rw [hax]
            exact run_append_in (P := P) ht hu hnot hi op.type g5 (news := []) (by simpa using g6 w (fun _ _ _ h => h)) (Nat.le_refl _) (fun ad _ => rfl) (fun _ => rfl)
          · simp only [VR]
            exact ⟨A, k, olds, rfl, by omega, by simp, by simp, by simpa using hpo, by simpa using h1o, by simpa using hlo, hato⟩
        · have hold := olds_run (P := P) (k := k) hlo hato hlen w.drew (cells_drew w)
          obtain ⟨cap, hcap, hrun⟩ := run_append_new (P := P) ht hu hnot hi hzv op.type (A := A) (n := k) (k := k) g5 hold (g6 w.drew (cells_drew w)) (by omega) (by omega) (by omega)
          have hp := pushed_drew w (.cells (olds.toArray ++ us.toArray ++ Builtin.zeroCells zv.cells (cap - (k + m))) el)
          refine ⟨_, _, φ, callb_run ho hc hargs hts (by rw [hax]; exact hrun), (h.pushed hp).pure hd ?_⟩
          simp only [VR]
          refine ⟨_, cap, olds ++ us, rfl, hcap, by simp, by simp, purL_append hpo g3, by simp [h1o, g4], (hlo.append g1).evo (Evo.pushed hp), new_at h.hs hp (fun j hj => ?_)⟩
          simp only [List.append_toArray, List.getElem?_toArray, Array.getElem?_append, List.size_toArray, List.length_append] at hj ⊢
          rw [if_pos (by simpa using hj), List.getElem?_eq_getElem]
      · cases he
    · cases he
  · cases he

theorem freeze_old (w : World) (b off k c : Nat) (hc : c ≠ b) : (w.freeze ⟨b, off, none⟩ k).heap[c]? = w.heap[c]? := by
  unfold World.freeze
  split
  · rfl
  · simp only [Array.getElem?_modify]
    rw [if_neg (fun e => hc e.symm)]
theorem freeze_cell (w : World) (b off k c i : Nat) : (w.freeze ⟨b, off, none⟩ k).cell? ⟨c, i, none⟩ = w.cell? ⟨c, i, none⟩ := by
  unfold World.freeze
  split
  · rfl
  · simp only [World.cell?, Array.getElem?_modify]
    by_cases h : b = c
    · subst h
      rw [if_pos rfl]
      cases w.heap[b]? with
      | none => rfl
      | some o => cases o <;> rfl
    · rw [if_neg h]
theorem freeze_size (w : World) (b off k : Nat) : (w.freeze ⟨b, off, none⟩ k).heap.size = w.heap.size := by
  unfold World.freeze
  split
  · rfl
  · simp
theorem freeze_bsize (w : World) (b off k c : Nat) : bsize (w.freeze ⟨b, off, none⟩ k) c = bsize w c := by
  unfold World.freeze
  split
  · rfl
  · simp only [bsize, Array.getElem?_modify]
    by_cases h : b = c
    · subst h
      rw [if_pos rfl]
      cases w.heap[b]? with
      | none => rfl
      | some o => cases o <;> rfl
    · rw [if_neg h]
theorem freeze_below {B : Nat} {b off k : Nat} (h : Below B w0 w) (hb : B ≤ b) : Below B w0 (w.freeze ⟨b, off, none⟩ k) := by
  refine h.trans ⟨?_, ?_, ?_, by rw [freeze_size]; exact Nat.le_refl _, fun c hc => freeze_old w b off k c (by omega)⟩ <;> (unfold World.freeze; split <;> rfl)

theorem freeze_bel [Gh] {b off k : Nat} (h : Bel w0 w) (hb : w0.heap.size ≤ b) : Bel w0 (w.freeze ⟨b, off, none⟩ k) := by
  refine ⟨freeze_below h.lo hb, fun p hp => ⟨(h.pin p hp).1, ?_⟩⟩
  have h1 := h.pin p hp
  by_cases hpb : p.1 = b
  · subst hpb
    have h2 := h1.1
    unfold World.freeze
    split
    · exact h1.2
    · simp only [Array.getElem?_modify, if_true, h1.2, Option.map_some]
      congr 1
      cases hq : p.2 <;> first | rfl | exact absurd hq (h2 _ _ _)
  · rw [freeze_old w b off k p.1 hpb]; exact h1.2
theorem snd_mark (h : RelC φ w0 N s a w) (hd : d < N) {op : Oper} {t el : TypeId} {x : Operand} (ho : op.op = .convert t t x) (ht : P.underlying t = some (.slice el)) (hel : P.underlying el = some (.int .u8)) {x' : Opd} (hx : opd x = some x') (he : neu s d (.mark x') = some e) : Snd P w0 N s a w d op e := by
  simp only [neu] at he
  split at he
  · rename_i n cs hg
    split at he
    · rename_i hpos
      injection he with he; subst he
      have hvx := get_VR h hx hg
      have hv0 := hvx
      simp only [VR] at hv0
      obtain ⟨A, k, us, hax, hnk, _, hlit, hpo, h1o, hlo, hat⟩ := hv0
      have hl := hlo.length
      obtain ⟨ad, rfl, hsp, hS, hcell⟩ := hat 0 (by omega)
      have hbase := hlit trivial ad rfl
      have hsh : ∃ el' m, w.shape? ad.block = some (el', m) := by
        simp only [World.cell?] at hcell
        unfold World.shape?
        cases hh : w.heap[ad.block]? with
        | none => rw [hh] at hcell; cases hcell
        | some o => cases o <;> rw [hh] at hcell <;> first | exact ⟨_, _, rfl⟩ | cases hcell
      obtain ⟨el', m, hsh⟩ := hsh
      have hrun : (execOp a.eval op).run P w = .ok (.value (.slice (some ad) n k)) (w.freeze ⟨ad.block, m, none⟩ 1) := by
        unfold execOp
        rw [ho]
        simp only [hax, convert, Sem.run_bind, run_underlying ht, run_underlying hel, Result.andThen_ok, beq_self_eq_true, markStringish, run_shape, hsh, run_freeze, Sem.run_pure]
      have hevo : Evo (sx w s.h φ w0.heap.size) (sx (w.freeze ⟨ad.block, m, none⟩ 1) s.h φ w0.heap.size) := ⟨fun b hb => ⟨by rw [freeze_size]; exact hb.1, hb.2⟩, fun b _ i => freeze_cell _ _ _ _ _ _, Nat.le_refl _, fun _ => Nat.le_refl _, fun _ hl _ => ⟨hl, rfl, Nat.le_refl _⟩, fun b => by rw [freeze_bsize]; exact Nat.le_refl _⟩
      have hhs : HS (sx (w.freeze ⟨ad.block, m, none⟩ 1) s.h φ w0.heap.size) := by
       refine ⟨fun y hly => ?_, h.hs.excl, by show _ ≤ (World.freeze _ _ _).heap.size; rw [freeze_size]; exact h.hs.size⟩
       have hh := h.hs.home y hly
       refine ⟨hh.one, hh.row, hh.low, ?_⟩
       have hat' := hh.at_
       cases hφ : φ y with
       | none => simp only [hφ] at hat' ⊢; exact hat'
       | some p =>
         obtain ⟨b, off⟩ := p
         simp only [hφ] at hat' ⊢
         obtain ⟨ccs, T, fr, us', e1, e2, e3, e4, e5⟩ := hat'
         by_cases hb : b = ad.block
         · have hnrw : (s.h y).rw = false := by
             cases hrw : (s.h y).rw with
             | false => rfl
             | true => exact absurd hb (hS.2.1 y hly hrw (b, off) hφ)
           subst hb
           refine ⟨ccs, T, (if fr.1 == fr.2 then (m, m + 1) else (min fr.1 m, max fr.2 (m + 1))), us', ?_, fun hr => absurd (hnrw.symm.trans hr) (by simp), e3.evo hevo, e4, e5⟩
           · unfold World.freeze
             rw [if_neg (by decide)]
             simp only [Array.getElem?_modify, if_pos]
             rw [e1]
             rfl
         · exact ⟨ccs, T, fr, us', by rw [← e1]; exact freeze_old _ _ _ _ _ hb, e2, e3.evo hevo, e4, e5⟩
      exact ⟨_, _, φ, hrun, h.put (φ' := φ) (H' := s.h) hhs hevo (freeze_bel h.below hbase) hd (v := .sl .lit n cs) (rv := .slice (some ad) n k) (by rw [← hax]; exact hvx.evo hevo)⟩
    · cases he
  · cases he
end
end Go.Proofs.YtilbipknodpmmaaDoor
