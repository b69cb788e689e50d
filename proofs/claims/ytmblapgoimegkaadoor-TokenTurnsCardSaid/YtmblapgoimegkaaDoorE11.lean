/- Append; what a string or a slice adds. -/
import Derived.Test.YtmblapgoimegkaaDoorE10
set_option linter.unusedSectionVars false
set_option linter.unusedVariables false
set_option linter.unusedSimpArgs false
namespace Go.Proofs.YtmblapgoimegkaaDoor
open Go.RowKit

section
variable [Off] [Gh] [Old] {P : Program} {φ : Nat → Option (Nat × Nat)} {w0 : World} {N : Nat} {s : St} {a : Act} {w w' : World} {d : Nat} {e : Eff} {o : Obj}

/-- what is added: its cells, and how the machine fetches them -/
theorem more_run (h : RelC φ w0 N s a w) {sz : Nat} {v : IV} {m : Nat} {ds : List IV} (hm : s.more sz v = some (m, ds)) {u : Value} (hv : VR (sx w s.h φ w0.heap.size) v u) :
    ∃ us, VRL (sx w s.h φ w0.heap.size) ds us ∧ us.length = m * sz ∧ IV.purL ds = true ∧ ds.all IV.one = true ∧ (Builtin.lenOf u).run P w = .ok m w ∧
      (∀ w1, (∀ b i v, w.cell? ⟨b, i, none⟩ = some v → w1.cell? ⟨b, i, none⟩ = some v) → (Builtin.firstCells sz m u).run P w1 = .ok us.toArray w1) ∧ (∀ k w1, (∀ b i v, w.cell? ⟨b, i, none⟩ = some v → w1.cell? ⟨b, i, none⟩ = some v) → k ≤ m → (Builtin.firstCells sz k u).run P w1 = .ok (us.take (k * sz)).toArray w1) := by
  have slice : ∀ A k us, u = .slice A m k → us.length = m * sz → (us ≠ [] → ∃ b o, A = some ⟨b, o, none⟩ ∧ w.rangeAt b o us) → ∀ j w1, (∀ b i v, w.cell? ⟨b, i, none⟩ = some v → w1.cell? ⟨b, i, none⟩ = some v) → j ≤ m → (Builtin.firstCells sz j u).run P w1 = .ok (us.take (j * sz)).toArray w1 := by
    rintro A k us rfl hl hat j w1 hw hj
    have hjl : j * sz ≤ m * sz := Nat.mul_le_mul_right _ hj
    by_cases hne : us = []
    · subst hne
      have h0 : j * sz = 0 := by simp at hl; omega
      cases A with
      | none => simp [Builtin.firstCells]
      | some ad =>
        simp only [Builtin.firstCells, h0, List.take_nil]
        exact run_loadCells_list (P := P) w1 ad [] (by simp)
    · obtain ⟨b, o', rfl, hr⟩ := hat hne
      refine run_firstCells_some (P := P) w1 sz j _ m k _ (by simp [hl, hjl]) (fun q z hq => ?_)
      rw [add_at]
      exact hw _ _ _ (rangeAt_take hr _ q z hq)
  cases v with
  | str l =>
    simp only [St.more] at hm
    split at hm
    · rename_i hsz
      subst hsz
      simp only [Option.some.injEq, Prod.mk.injEq] at hm
      obtain ⟨rfl, rfl⟩ := hm
      have hu := hv.str_
      subst hu
      have hsize : (⟨l.toArray⟩ : ByteArray).size = l.length := rfl
      have hfirst : ∀ k w1, k ≤ l.length → (Builtin.firstCells 1 k (.string ⟨l.toArray⟩)).run P w1 = .ok ((l.take k).map fun b => Value.int .u8 b.toNat).toArray w1 := by
        intro k w1 hk
        simp only [Builtin.firstCells, Sem.run_pure]
        congr 1
        rw [ByteArray.data_extract]
        show (l.toArray.extract 0 k).map _ = _
        rw [List.extract_toArray, List.extract_eq_take_drop]
        simp
      refine ⟨l.map fun b => .int .u8 b.toNat, ?_, by simp, ?_, ?_, ?_, ?_, ?_⟩
      · refine VRL.mk (by simp [bytesV]) (fun i hi hi' => ?_)
        simp only [bytesV, List.getElem_map]
        exact VR.int_mk
      · rw [purL_all]; simp [bytesV, IV.pur]
      · simp [bytesV, IV.one]
      · simp only [Builtin.lenOf, Sem.run_pure, hsize]
      · intro w1 _
        rw [hfirst _ _ (Nat.le_refl _)]
        simp
      · intro k w1 _ hk
        rw [hfirst _ _ hk]
        simp
    · cases hm
  | sl f n cs =>
    have hm : s.elems sz (.sl f n cs) = some (m, ds) := by simpa only [St.more] using hm
    obtain ⟨A, k, us, hu, g2, g3, g4, g5, g6⟩ := elems_cells h.hs rfl hm hv
    refine ⟨us, g2, g3, g4, g5, by rw [hu]; rfl, fun w1 hw => ?_, fun j w1 hw hj => slice A k us hu g3 g6 j w1 hw hj⟩
    have := slice A k us hu g3 g6 m w1 hw (Nat.le_refl _)
    rwa [List.take_of_length_le (by omega)] at this
  | row x off n sz' ver =>
    have hm : s.elems sz (.row x off n sz' ver) = some (m, ds) := by simpa only [St.more] using hm
    obtain ⟨A, k, us, hu, g2, g3, g4, g5, g6⟩ := elems_cells h.hs rfl hm hv
    refine ⟨us, g2, g3, g4, g5, by rw [hu]; rfl, fun w1 hw => ?_, fun j w1 hw hj => slice A k us hu g3 g6 j w1 hw hj⟩
    have := slice A k us hu g3 g6 m w1 hw (Nat.le_refl _)
    rwa [List.take_of_length_le (by omega)] at this
  | _ => simp [St.more, St.elems] at hm

/-- append, the row being large enough -/
theorem run_append_in {t u el : TypeId} {ud : TypeDesc} {i : TypeInfo} (ht : P.underlying t = some (.slice el)) (hu : P.underlying u = some ud) (hnot : ∀ k, ud ≠ .int k) (hi : P.info? el = some i) (ty : TypeId)
    {A : Option Addr} {n k m : Nat} {x : Value} (hlen : (Builtin.lenOf x).run P w = .ok m w) {news : List Value} (hf : (Builtin.firstCells (P.cellsOf el) m x).run P w = .ok news.toArray w) (hle : n + m ≤ k) {w1 : World} (hst : ∀ ad, A = some ad → (storeCells (ad.add (n * P.cellsOf el)) news).run P w = .ok () w1) (hnone : A = none → w1 = w) :
    (Builtin.append_ #[t, u] ty #[.slice A n k, x]).run P w = .ok (.slice A (n + m) k) w1 := by
  unfold Builtin.append_
  simp only [List.getElem?_toArray, List.getElem?_cons_zero, List.getElem?_cons_succ, Sem.run_bind, run_underlying ht, run_underlying hu, run_sizeOf w hi, Result.andThen_ok, Sem.run_pure]
  cases ud <;> first
    | exact absurd rfl (hnot _)
    | (simp only [Bool.false_eq_true, if_false, Sem.run_pure, hlen, Result.andThen_ok, Sem.run_bind, Sem.run_ite, if_pos hle, hf, Bool.not_false, if_true]
       cases A with
       | none => rw [hnone rfl]; rfl
       | some ad => simp only [hst ad rfl, Result.andThen_ok, Sem.run_pure, Sem.run_bind])

/-- append, a new row being made -/
theorem run_append_new {t u el : TypeId} {ud : TypeDesc} {i : TypeInfo} {z : Value} (ht : P.underlying t = some (.slice el)) (hu : P.underlying u = some ud) (hnot : ∀ k, ud ≠ .int k) (hi : P.info? el = some i) (hzv : i.zero = some z) (ty : TypeId)
    {A : Option Addr} {n k m : Nat} {x : Value} (hlen : (Builtin.lenOf x).run P w = .ok m w) {olds news : List Value} (ho : (Builtin.firstCells (P.cellsOf el) n (.slice A n k)).run P w.drew = .ok olds.toArray w.drew) (hf : (Builtin.firstCells (P.cellsOf el) m x).run P w.drew = .ok news.toArray w.drew) (hgt : k < n + m) (hroom : (n + m) * i.bytes ≤ 140737488355328) (h63 : n + m ≤ 2 ^ 62) :
    ∃ cap, n + m ≤ cap ∧ (Builtin.append_ #[t, u] ty #[.slice A n k, x]).run P w = .ok (.slice (some ⟨w.heap.size, 0, none⟩) (n + m) cap) (w.drew.alloc (.cells (olds.toArray ++ news.toArray ++ Builtin.zeroCells z.cells (cap - (n + m))) el)) := by
  refine ⟨grownCap w (n + m) k el, grownCap_ge _ _ _ _, ?_⟩
  have hfit := growslice_fits hgt hroom
  have h1 : ¬ (((n + m : Nat) : Int) > IntKind.i64.max ∧ ((false : Bool) = true ∨ i.bytes = 0)) := by
    simp only [IntKind.max, IntKind.signed, IntKind.bits, if_true]; omega
  have h2 : ¬ (Builtin.nextslicecap (n + m) k * i.bytes > 2 ^ 48) := by omega
  have hch : (choose (.appendCap (n + m) k el)).run P w = .ok (grownCap w (n + m) k el) w.drew := by
    rw [run_choose]
    simp [Question.forced, grownCap]
  unfold Builtin.append_
  simp only [List.getElem?_toArray, List.getElem?_cons_zero, List.getElem?_cons_succ, Sem.run_bind, run_underlying ht, run_underlying hu, run_sizeOf w hi, Result.andThen_ok, Sem.run_pure]
  have hti : ∀ w, (typeInfo el).run P w = .ok i w := fun w => by simp [typeInfo, hi]
  cases ud <;> first
    | exact absurd rfl (hnot _)
    | (simp only [Bool.false_eq_true, if_false, Sem.run_pure, hlen, Result.andThen_ok, Sem.run_bind, Sem.run_ite, if_neg (Nat.not_le.2 hgt), hf, Bool.not_false, if_true, hti, if_neg h1, if_neg h2, hch, run_askRoom, ho, run_zero hi hzv, newRow, run_newObj, World.alloc_eq]
       rw [if_neg (show ¬ (((n + m : Nat) : Int) > IntKind.i64.max ∧ (False ∨ i.bytes = 0)) by simp only [IntKind.max, IntKind.signed, IntKind.bits, if_true]; omega)]
       rfl)

/-- a home without a block: an empty row -/
theorem Evo.noHome {H : Nat → Blk} {φ : Nat → Option (Nat × Nat)} {base : Nat} (blk : Blk) (hv : (H d).ver < blk.ver) : Evo (sx w H φ base) (sx w (upd H d blk) (upd φ d none) base) where
  S b hb := ⟨hb.1, fun x hl hr p hpx => by
    by_cases hx : x = d
    · subst hx; simp only [upd, if_true, reduceCtorEq] at hpx
    · simp only [upd, if_neg hx] at hl hr hpx
      exact hb.2.1 x hl hr p hpx, hb.2.2⟩
  cell b hb i := rfl
  base := Nat.le_refl _
  ver x := by
    simp only [upd]
    split
    · rename_i hx; subst hx; omega
    · exact Nat.le_refl _
  same x hl hve := by
    by_cases hx : x = d
    · subst hx; simp only [upd, if_true] at hve; omega
    · simp only [upd, if_neg hx] at hl ⊢
      exact ⟨hl, trivial, Nat.le_refl _⟩
  size b := Nat.le_refl _

theorem HS.noHome {H : Nat → Blk} {φ : Nat → Option (Nat × Nat)} {base : Nat} (h : HS (sx w H φ base)) (blk : Blk) (hv : (H d).ver < blk.ver) (hc : blk.cells = []) : HS (sx w (upd H d blk) (upd φ d none) base) where
  home x hlx := by
    by_cases hx : x = d
    · subst hx
      exact {
        low := by simp only [upd, if_true]; intro p hp; cases hp
        one := by simp only [upd, if_true, hc]; rfl
        row := by simp only [upd, if_true, hc]; intro _; rfl
        at_ := by simp only [upd, if_true, hc] }
    · have hlx' : (H x).live = true := by simpa only [upd, if_neg hx] using hlx
      exact (h.home x hlx').evo (Evo.noHome blk hv) (by simp only [upd, if_neg hx]) (by simp only [upd, if_neg hx]) rfl (fun _ _ _ => rfl)
  excl x y p q hlx hrx hly hne hpx hpy := by
    by_cases hx : x = d
    · subst hx; simp only [upd, if_true, reduceCtorEq] at hpx
    · by_cases hy : y = d
      · subst hy; simp only [upd, if_true, reduceCtorEq] at hpy
      · simp only [upd, if_neg hx] at hlx hrx hpx
        simp only [upd, if_neg hy] at hly hpy
        exact h.excl x y p q hlx hrx hly hne hpx hpy
  size := h.size

theorem RelC.emptyRow (h : RelC φ w0 N s a w) (hd : d < N) {sz : Nat} {A : Option Addr} :
    RelC (upd φ (hom d) none) w0 N (s.eff d ⟨.row (hom d) 0 0 sz ((s.h (hom d)).ver + 1), some (freshBlk s (hom d) true true [])⟩) (a.put (some d) (.slice A 0 0)) w := by
  refine h.put (HS.noHome h.hs (freshBlk s (hom d) true true []) (Nat.lt_succ_self _) rfl) (Evo.noHome _ (Nat.lt_succ_self _)) h.below hd ?_
  simp only [VR, upd, if_true, freshBlk]
  refine ⟨Nat.le_refl _, A, 0, rfl, Nat.le_refl _, fun _ _ => ?_⟩
  unfold rowR
  simp only [upd, if_true]
  simp

theorem cells_drew (w : World) : ∀ b i v, w.cell? ⟨b, i, none⟩ = some v → w.drew.cell? ⟨b, i, none⟩ = some v := fun _ _ _ h => h

/-- what stands in a slice that is whole -/
theorem olds_run {c : Sx} {A : Option Addr} {n k sz : Nat} {cs : List IV} {us : List Value} (hl : VRL c cs us) (hat : CellsAt c A us) (hlen : cs.length = n * sz) (w1 : World) (hw : ∀ b i v, c.w.cell? ⟨b, i, none⟩ = some v → w1.cell? ⟨b, i, none⟩ = some v) : (Builtin.firstCells sz n (.slice A n k)).run P w1 = .ok us.toArray w1 := by
  have hl' := hl.length
  by_cases hne : us = []
  · subst hne
    have h0 : n * sz = 0 := by simp at hl'; omega
    cases A with
    | none => simp [Builtin.firstCells]
    | some ad =>
      simp only [Builtin.firstCells, h0]
      exact run_loadCells_list (P := P) w1 ad [] (by simp)
  · obtain ⟨ad, rfl, hsp, _, _⟩ := hat 0 (List.length_pos_iff.2 hne)
    refine run_firstCells_some (P := P) w1 sz n ad n k us (by omega) (fun q z hq => ?_)
    rw [addr_eta hsp, add_at]
    exact hw _ _ _ (hat.range q z hq)

theorem callb_run {op : Oper} {c : Call} (ho : op.op = .call c) (hc : c.callee = .builtin .append) {x y : Operand} (hargs : c.args.toList = [x, y]) {t u : TypeId} (hts : c.argTypes.toList = [t, u]) {rv : Value} {w1 : World} (hr : (Builtin.append_ #[t, u] op.type #[a.eval x, a.eval y]).run P w = .ok rv w1) :
    (execOp a.eval op).run P w = .ok (.value rv) w1 := by
  have h1 : c.args = #[x, y] := by rw [← hargs]
  have h2 : c.argTypes = #[t, u] := by rw [← hts]
  unfold execOp
  rw [ho]
  simp only [resolve, hc, h1, h2, Sem.run_bind, Sem.run_pure, Result.andThen_ok, invoke, builtin, List.map_toArray, List.map_cons, List.map_nil, hr]

theorem snd_app (h : RelC φ w0 N s a w) (hd : d < N) {op : Oper} {c : Call} (ho : op.op = .call c) (hc : c.callee = .builtin .append) {x y : Operand} (hargs : c.args.toList = [x, y]) {t u el : TypeId} (hts : c.argTypes.toList = [t, u]) {ud : TypeDesc} (ht : P.underlying t = some (.slice el)) (hu : P.underlying u = some ud) (hnot : ∀ k, ud ≠ .int k) {i : TypeInfo} (hi : P.info? el = some i) {z : List IV} (hz : zeroL P el = some z) (hzl : z.length = P.cellsOf el)
    {x' y' : Opd} (hx : opd x = some x') (hy : opd y = some y') {sz bytes : Nat} (hsz : sz = P.cellsOf el) (hby : bytes = i.bytes) (he : neu s d (.app sz bytes x' y') = some e) : Snd P w0 N s a w d op e := by
  subst hsz hby
  simp only [neu] at he
  split at he
  · rename_i f n cs v hgx hgy
    split at he
    · rename_i m ds hmore
      split at he
      · rename_i hcond
        obtain ⟨hf, hlen, hm0, hroom⟩ := hcond
        injection he with he; subst he
        have hvx := get_VR h hx hgx
        have hvy := get_VR h hy hgy
        obtain ⟨i', zv, hi', hzv, hzz, _, _⟩ := zeroL_VR hz (sx w s.h φ w0.heap.size)
        rw [hi] at hi'; injection hi' with hi'; subst hi'
        obtain ⟨us, g1, g2, g3, g4, g5, g6, _⟩ := more_run (P := P) h hmore hvy
        simp only [VR] at hvx
        obtain ⟨A, k, olds, hax, hnk, hfull, _, hpo, h1o, hlo, hato⟩ := hvx
        have hk := hfull hf
        subst hk
        simp only [roomy, Bool.and_eq_true, decide_eq_true_eq] at hroom
        by_cases hm : m = 0
        · subst hm
          have hn0 : k = 0 := by omega
          subst hn0
          have hds : ds = [] := List.eq_nil_of_length_eq_zero (by have := g1.length; omega)
          have hcs : cs = [] := List.eq_nil_of_length_eq_zero (by omega)
          have hus : us = [] := List.eq_nil_of_length_eq_zero (by omega)
          subst hds hcs hus
          refine ⟨.slice A 0 0, w, _, ?_, h.emptyRow hd⟩
          refine callb_run ho hc hargs hts ?_
          rw [hax]
          exact run_append_in (P := P) ht hu hnot hi op.type g5 (news := []) (by simpa using g6 w (fun _ _ _ h => h)) (Nat.le_refl _) (fun ad _ => rfl) (fun _ => rfl)
        · have hold := olds_run (P := P) (k := k) hlo hato hlen w.drew (cells_drew w)
          obtain ⟨cap, hcap, hrun⟩ := run_append_new (P := P) ht hu hnot hi hzv op.type (A := A) (n := k) (k := k) g5 hold (g6 w.drew (cells_drew w)) (by omega) (by omega) (by omega)
          have hlo' := hlo.length
          have hds' := g1.length
          refine ⟨_, _, upd φ (hom d) (some (w.heap.size, 0)), callb_run ho hc hargs hts (by rw [hax]; exact hrun), ?_⟩
          refine h.newRow hd (pushed_drew w _) (cs := cs ++ ds) (us := olds ++ us) (by simp [h1o, g4]) (purL_append hpo g3) (hlo.append g1) (fun j hj => ?_) (by simp only [List.length_append]; rw [Nat.add_mul]; omega) hcap ?_ ?_
          · simp only [List.append_toArray, List.getElem?_toArray, Array.getElem?_append, List.size_toArray, List.length_append] at hj ⊢
            rw [if_pos (by simpa using hj), List.getElem?_eq_getElem]
          · have hzs : zv.cells.size = P.cellsOf el := by have := hzz.length; simp only [Array.length_toList] at this; omega
            simp only [Array.size_append, List.size_toArray, size_zeroCells, hzs, hlo', hlen, g2]
            rw [← Nat.add_mul, ← Nat.add_mul]
            exact Nat.mul_le_mul_right _ (by omega)
          · simp only [Array.size_append, List.size_toArray, List.length_append]; omega
      · cases he
    · cases he
  · cases he

theorem snd_appP (h : RelC φ w0 N s a w) (hd : d < N) {op : Oper} {c : Call} (ho : op.op = .call c) (hc : c.callee = .builtin .append) {x y : Operand} (hargs : c.args.toList = [x, y]) {t u el : TypeId} (hts : c.argTypes.toList = [t, u]) {ud : TypeDesc} (ht : P.underlying t = some (.slice el)) (hu : P.underlying u = some ud) (hnot : ∀ k, ud ≠ .int k) {i : TypeInfo} (hi : P.info? el = some i) {z : List IV} (hz : zeroL P el = some z)
    {x' y' : Opd} (hx : opd x = some x') (hy : opd y = some y') {sz bytes : Nat} (hsz : sz = P.cellsOf el) (hby : bytes = i.bytes) (he : neu s d (.appP sz bytes x' y') = some e) : Snd P w0 N s a w d op e := by
  subst hsz hby
  simp only [neu] at he
  split at he
  · rename_i f n cs v hgx hgy
    split at he
    · rename_i m ds hmore
      split at he
      · rename_i hcond
        obtain ⟨hf, hlen, hroom⟩ := hcond
        injection he with he; subst he
        have hvx := get_VR h hx hgx
        have hvy := get_VR h hy hgy
        obtain ⟨i', zv, hi', hzv, hzz, _, _⟩ := zeroL_VR hz (sx w s.h φ w0.heap.size)
        rw [hi] at hi'; injection hi' with hi'; subst hi'
        obtain ⟨us, g1, g2, g3, g4, g5, g6, _⟩ := more_run (P := P) h hmore hvy
        simp only [VR] at hvx
        obtain ⟨A, k, olds, hax, hnk, hfull, _, hpo, h1o, hlo, hato⟩ := hvx
        have hk := hfull hf
        subst hk
        simp only [roomy, Bool.and_eq_true, decide_eq_true_eq] at hroom
        by_cases hm : m = 0
        · subst hm
          have hds : ds = [] := List.eq_nil_of_length_eq_zero (by have := g1.length; omega)
          have hus : us = [] := List.eq_nil_of_length_eq_zero (by omega)
          subst hds hus
          refine Snd.pure h hd (rv := .slice A k k) (callb_run ho hc hargs hts ?_) ?_
          · rw [hax]
            exact run_append_in (P := P) ht hu hnot hi op.type g5 (news := []) (by simpa using g6 w (fun _ _ _ h => h)) (Nat.le_refl _) (fun ad _ => rfl) (fun _ => rfl)
          · simp only [VR]
            exact ⟨A, k, olds, rfl, by omega, by simp, by simp, by simpa using hpo, by simpa using h1o, by simpa using hlo, hato⟩
        · have hold := olds_run (P := P) (k := k) hlo hato hlen w.drew (cells_drew w)
          obtain ⟨cap, hcap, hrun⟩ := run_append_new (P := P) ht hu hnot hi hzv op.type (A := A) (n := k) (k := k) g5 hold (g6 w.drew (cells_drew w)) (by omega) (by omega) (by omega)
          have hp := pushed_drew w (.cells (olds.toArray ++ us.toArray ++ Builtin.zeroCells zv.cells (cap - (k + m))) el)
          refine ⟨_, _, φ, callb_run ho hc hargs hts (by rw [hax]; exact hrun), (h.pushed hp).pure hd ?_⟩
          simp only [VR]
          refine ⟨_, cap, olds ++ us, rfl, hcap, by simp, by simp, purL_append hpo g3, by simp [h1o, g4], (hlo.append g1).evo (Evo.pushed hp), new_at h.hs hp (fun j hj => ?_)⟩
          simp only [List.append_toArray, List.getElem?_toArray, Array.getElem?_append, List.size_toArray, List.length_append] at hj ⊢
          rw [if_pos (by simpa using hj), List.getElem?_eq_getElem]
      · cases he
    · cases he
  · cases he

/-- a mark on a block that is nobody's home -/
theorem freeze_old (w : World) (b off k c : Nat) (hc : c ≠ b) : (w.freeze ⟨b, off, none⟩ k).heap[c]? = w.heap[c]? := by
  unfold World.freeze
  split
  · rfl
  · simp only [Array.getElem?_modify]
    rw [if_neg (fun e => hc e.symm)]
theorem freeze_cell (w : World) (b off k c i : Nat) : (w.freeze ⟨b, off, none⟩ k).cell? ⟨c, i, none⟩ = w.cell? ⟨c, i, none⟩ := by
  unfold World.freeze
  split
  · rfl
  · simp only [World.cell?, Array.getElem?_modify]
    by_cases h : b = c
    · subst h
      rw [if_pos rfl]
      cases w.heap[b]? with
      | none => rfl
      | some o => cases o <;> rfl
    · rw [if_neg h]
theorem freeze_size (w : World) (b off k : Nat) : (w.freeze ⟨b, off, none⟩ k).heap.size = w.heap.size := by
  unfold World.freeze
  split
  · rfl
  · simp
theorem freeze_bsize (w : World) (b off k c : Nat) : bsize (w.freeze ⟨b, off, none⟩ k) c = bsize w c := by
  unfold World.freeze
  split
  · rfl
  · simp only [bsize, Array.getElem?_modify]
    by_cases h : b = c
    · subst h
      rw [if_pos rfl]
      cases w.heap[b]? with
      | none => rfl
      | some o => cases o <;> rfl
    · rw [if_neg h]
theorem freeze_below {B : Nat} {b off k : Nat} (h : Below B w0 w) (hb : B ≤ b) : Below B w0 (w.freeze ⟨b, off, none⟩ k) := by
  refine h.trans ⟨?_, ?_, ?_, by rw [freeze_size]; exact Nat.le_refl _, fun c hc => freeze_old w b off k c (by omega)⟩ <;> (unfold World.freeze; split <;> rfl)

theorem snd_mark (h : RelC φ w0 N s a w) (hd : d < N) {op : Oper} {t el : TypeId} {x : Operand} (ho : op.op = .convert t t x) (ht : P.underlying t = some (.slice el)) (hel : P.underlying el = some (.int .u8)) {x' : Opd} (hx : opd x = some x') (he : neu s d (.mark x') = some e) : Snd P w0 N s a w d op e := by
  simp only [neu] at he
  split at he
  · rename_i n cs hg
    split at he
    · rename_i hpos
      injection he with he; subst he
      have hvx := get_VR h hx hg
      have hv0 := hvx
      simp only [VR] at hv0
      obtain ⟨A, k, us, hax, hnk, _, hlit, hpo, h1o, hlo, hat⟩ := hv0
      have hl := hlo.length
      obtain ⟨ad, rfl, hsp, hS, hcell⟩ := hat 0 (by omega)
      have hbase := hlit trivial ad rfl
      have hsh : ∃ el' m, w.shape? ad.block = some (el', m) := by
        simp only [World.cell?] at hcell
        unfold World.shape?
        cases hh : w.heap[ad.block]? with
        | none => rw [hh] at hcell; cases hcell
        | some o => cases o <;> rw [hh] at hcell <;> first | exact ⟨_, _, rfl⟩ | cases hcell
      obtain ⟨el', m, hsh⟩ := hsh
      have hrun : (execOp a.eval op).run P w = .ok (.value (.slice (some ad) n k)) (w.freeze ⟨ad.block, m, none⟩ 1) := by
        unfold execOp
        rw [ho]
        simp only [hax, convert, Sem.run_bind, run_underlying ht, run_underlying hel, Result.andThen_ok, beq_self_eq_true, markStringish, run_shape, hsh, run_freeze, Sem.run_pure]
      have hevo : Evo (sx w s.h φ w0.heap.size) (sx (w.freeze ⟨ad.block, m, none⟩ 1) s.h φ w0.heap.size) := ⟨fun b hb => ⟨by rw [freeze_size]; exact hb.1, hb.2⟩, fun b _ i => freeze_cell _ _ _ _ _ _, Nat.le_refl _, fun _ => Nat.le_refl _, fun _ hl _ => ⟨hl, rfl, Nat.le_refl _⟩, fun b => by rw [freeze_bsize]; exact Nat.le_refl _⟩
      have hhs : HS (sx (w.freeze ⟨ad.block, m, none⟩ 1) s.h φ w0.heap.size) := by
       refine ⟨fun y hly => ?_, h.hs.excl, by show _ ≤ (World.freeze _ _ _).heap.size; rw [freeze_size]; exact h.hs.size⟩
       have hh := h.hs.home y hly
       refine ⟨hh.one, hh.row, hh.low, ?_⟩
       have hat' := hh.at_
       cases hφ : φ y with
       | none => simp only [hφ] at hat' ⊢; exact hat'
       | some p =>
         obtain ⟨b, off⟩ := p
         simp only [hφ] at hat' ⊢
         obtain ⟨ccs, T, fr, us', e1, e2, e3, e4, e5⟩ := hat'
         by_cases hb : b = ad.block
         · have hnrw : (s.h y).rw = false := by
             cases hrw : (s.h y).rw with
             | false => rfl
             | true => exact absurd hb (hS.2.1 y hly hrw (b, off) hφ)
           subst hb
           refine ⟨ccs, T, (if fr.1 == fr.2 then (m, m + 1) else (min fr.1 m, max fr.2 (m + 1))), us', ?_, fun hr => absurd (hnrw.symm.trans hr) (by simp), e3.evo hevo, e4, e5⟩
           · unfold World.freeze
             rw [if_neg (by decide)]
             simp only [Array.getElem?_modify, if_pos]
             rw [e1]
             rfl
         · exact ⟨ccs, T, fr, us', by rw [← e1]; exact freeze_old _ _ _ _ _ hb, e2, e3.evo hevo, e4, e5⟩
      exact ⟨_, _, φ, hrun, h.put (φ' := φ) (H' := s.h) hhs hevo (freeze_below h.below hbase) hd (v := .sl .lit n cs) (rv := .slice (some ad) n k) (by rw [← hax]; exact hvx.evo hevo)⟩
    · cases he
  · cases he
end
end Go.Proofs.YtmblapgoimegkaaDoor
