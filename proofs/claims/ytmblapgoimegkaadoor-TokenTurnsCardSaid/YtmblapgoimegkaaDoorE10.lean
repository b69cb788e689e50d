/- What is made, nested, appended to what is whole. -/
import Derived.Test.YtmblapgoimegkaaDoorE9
set_option linter.unusedSectionVars false
set_option linter.unusedVariables false
set_option linter.unusedSimpArgs false
namespace Go.Proofs.YtmblapgoimegkaaDoor
open Go.RowKit

section
variable [Off] [Gh] [Old] {P : Program} {φ : Nat → Option (Nat × Nat)} {w0 : World} {N : Nat} {s : St} {a : Act} {w w' : World} {d : Nat} {e : Eff} {o : Obj}

/-- a row that nobody writes any more is a plain slice -/
theorem frozen_row {H : Nat → Blk} {base : Nat} (hs : HS (sx w H φ base)) {h off n sz ver : Nat} {u : Value} (hv : VR (sx w H φ base) (.row h off n sz ver) u) (hl : (H h).live = true) (he : (H h).ver = ver) (hr : (H h).rw = false)
    (hp : (H h).isRow = true ∨ IV.purL (((H h).cells.drop off).take (n * sz)) = true) : VR (sx w H φ base) (.sl .plain n (((H h).cells.drop off).take (n * sz))) u := by
  obtain ⟨A, k, us, rfl, g2, g3, g4, g5⟩ := row_cells hs hv hl he _ rfl
  simp only [VR]
  refine ⟨A, k, us, rfl, g4, by simp, by simp, ?_, all_take (all_drop (hs.home h hl).one _) _, g2, ?_⟩
  · rcases hp with hp | hp
    · exact purL_take (purL_drop ((hs.home h hl).row hp) _) _
    · exact hp
  · intro i hi
    obtain ⟨b, o', rfl, hrange⟩ := g5 (by intro e; rw [e] at hi; simp at hi)
    refine ⟨_, rfl, rfl, ?_, hrange i _ (List.getElem?_eq_getElem hi)⟩
    -- the block is nobody's
    simp only [VR] at hv
    obtain ⟨_, A', k', e1, _, hrow⟩ := hv
    have hrr := hrow hl he
    unfold rowR at hrr
    cases hφ : φ h with
    | none => simp only [hφ] at hrr; have : n = 0 := by injection e1 with e1 e2 e3; omega
              subst this; simp at g3; rw [g3] at hi; simp at hi
    | some p =>
      obtain ⟨b2, o2⟩ := p
      simp only [hφ] at hrr
      have hb : b2 = b := by
        injection e1 with e1 e2 e3
        rcases hrr.2.1 with hk | hA
        · subst hk
          have : n = 0 := by omega
          subst this; simp at g3; rw [g3] at hi; simp at hi
        · rw [← e1] at hA; injection hA with hA; injection hA with hA; exact hA.symm
      subst hb
      refine ⟨home_lt hs hl hφ, fun x hxl hxr p hxp => ?_, fun hlt => absurd hlt (Nat.not_lt.2 ((hs.home h hl).low _ hφ))⟩
      by_cases hx : x = h
      · subst hx; exact absurd (hr.symm.trans hxr) (by simp)
      · exact hs.excl x h p (b2, o2) hxl hxr hl hx hxp hφ

theorem nest1_VR (h : RelC φ w0 N s a w) {v v' : IV} (hn : s.nest1 v = some v') {u : Value} (hv : VR (sx w s.h φ w0.heap.size) v u) : VR (sx w s.h φ w0.heap.size) v' u ∧ v'.one = true ∧ v'.pur = true := by
  cases v <;> simp only [St.nest1] at hn <;> try (cases hn; done)
  all_goals try (injection hn with hn; subst hn; exact ⟨hv, rfl, rfl⟩)
  · injection hn with hn; subst hn
    have h0 := hv
    simp only [VR] at h0
    obtain ⟨A, k, us, rfl, h2, h3, h4, h5, h6, h7, h8⟩ := h0
    refine ⟨?_, rfl, h5⟩
    simp only [VR]
    exact ⟨A, k, us, rfl, h2, by simp, by simp, h5, h6, h7, h8⟩
  · split at hn
    · rename_i hc
      obtain ⟨h1, h2, h3⟩ := hc
      injection hn with hn; subst hn
      simp only [St.ok, Bool.and_eq_true, beq_iff_eq] at h1
      have := frozen_row h.hs hv h1.1 h1.2 h2 h3
      refine ⟨this, rfl, ?_⟩
      simp only [VR] at this
      obtain ⟨_, _, _, _, _, _, _, h5, _⟩ := this
      exact h5
    · cases hn

theorem nestL_VR (h : RelC φ w0 N s a w) : ∀ {vs vs' : List IV}, s.nestL vs = some vs' → ∀ {us : List Value}, VRL (sx w s.h φ w0.heap.size) vs us → VRL (sx w s.h φ w0.heap.size) vs' us ∧ vs'.all IV.one = true ∧ IV.purL vs' = true
  | [], vs', hn, us, hv => by simp only [St.nestL, Option.some.injEq] at hn; subst hn; exact ⟨hv, rfl, rfl⟩
  | v :: vs, vs', hn, us, hv => by
    simp only [St.nestL] at hn
    split at hn
    · rename_i x xs hx hxs
      injection hn with hn; subst hn
      simp only [VRL] at hv
      obtain ⟨u, us', rfl, hu, hus⟩ := hv
      obtain ⟨a1, a2, a3⟩ := nest1_VR h hx hu
      obtain ⟨b1, b2, b3⟩ := nestL_VR h hxs hus
      exact ⟨VRL.cons a1 b1, by simp [a2, b2], by simp [IV.purL, a3, b3]⟩
    · cases hn

theorem scal_pur : ∀ {vs : List IV}, vs.all IV.scal = true → IV.purL vs = true ∧ vs.all IV.one = true
  | [], _ => ⟨rfl, rfl⟩
  | v :: vs, h => by
    simp only [List.all_cons, Bool.and_eq_true] at h
    obtain ⟨a, b⟩ := scal_pur h.2
    have : v.pur = true ∧ v.one = true := by cases v <;> simp [IV.scal] at h <;> exact ⟨rfl, rfl⟩
    simp [IV.purL, this.1, this.2, a, b]

theorem nest_VR (h : RelC φ w0 N s a w) {v : IV} {cs : List IV} (hn : s.nest v = some cs) {u : Value} (hv : VR (sx w s.h φ w0.heap.size) v u) (hu : v.isU = false) : ∃ us, u.cells = us.toArray ∧ VRL (sx w s.h φ w0.heap.size) cs us ∧ cs.all IV.one = true ∧ IV.purL cs = true := by
  obtain ⟨us, h1, h2⟩ := cells_VR hv hu
  unfold St.nest at hn
  split at hn
  · rename_i hsc
    injection hn with hn; subst hn
    obtain ⟨p, q⟩ := scal_pur hsc
    exact ⟨us, h1, h2, q, p⟩
  · obtain ⟨a1, a2, a3⟩ := nestL_VR h hn h2
    exact ⟨us, h1, a1, a2, a3⟩

theorem nest_notU {v : IV} {cs : List IV} (hn : s.nest v = some cs) : v.isU = false := by
  cases v <;> first | rfl | (simp [St.nest, IV.cells, IV.scal, St.nestL, St.nest1] at hn)

theorem partsN_run (h : RelC φ w0 N s a w) (place : Nat → Option (Nat × Nat)) : ∀ {l : List (Nat × Operand)} {qs : List (Nat × Nat × Opd)} {ps : List (Nat × List IV)}, copParts place l = some qs → s.partsN qs = some ps →
    F2 (fun (v : Nat × Value) (p : Nat × List IV) => ∃ n, place v.1 = some (p.1, n) ∧ p.2.length = n ∧ ∃ ws, v.2.cells = ws.toArray ∧ VRL (sx w s.h φ w0.heap.size) p.2 ws ∧ p.2.all IV.one = true) (l.map fun q => (q.1, a.eval q.2)) ps ∧ ∀ p ∈ ps, IV.purL p.2 = true
  | [], qs, ps, h1, h2 => by
    simp only [copParts, Option.some.injEq] at h1; subst h1
    simp only [St.partsN, Option.some.injEq] at h2; subst h2
    exact ⟨.nil, by simp⟩
  | (i, x) :: l, qs, ps, h1, h2 => by
    simp only [copParts] at h1
    split at h1
    · rename_i off n y qs' hp hy hqs
      injection h1 with h1; subst h1
      simp only [St.partsN] at h2
      split at h2
      · rename_i v ps' hv hps
        split at h2
        · rename_i cs hcs
          split at h2
          · rename_i hc
            injection h2 with h2; subst h2
            obtain ⟨ih1, ih2⟩ := partsN_run h place hqs hps
            obtain ⟨ws, g1, g2, g3, g4⟩ := nest_VR h hcs (get_VR h hy hv) (nest_notU hcs)
            refine ⟨.cons ⟨n, hp, hc, ws, g1, g2, g3⟩ ih1, fun p hpm => ?_⟩
            rcases List.mem_cons.1 hpm with rfl | hpm
            · exact g4
            · exact ih2 p hpm
          · cases h2
        · cases h2
      · cases h2
    · cases h1

theorem placed_pur : ∀ {ps : List (Nat × List IV)} {acc cs : List IV}, placed acc ps = some cs → IV.purL acc = true → (∀ p ∈ ps, IV.purL p.2 = true) → IV.purL cs = true
  | [], acc, cs, h, ha, _ => by simp only [placed, Option.some.injEq] at h; subst h; exact ha
  | (off, p) :: ps, acc, cs, h, ha, hp => by
    simp only [placed] at h
    split at h
    · exact placed_pur h (purL_append (purL_append (purL_take ha _) (hp (off, p) (by simp))) (purL_drop ha _)) (fun q hq => hp q (by simp [hq]))
    · cases h

theorem repl_length (n : Nat) (z : List IV) : (repl n z).length = n * z.length := by simp [repl]
theorem repl_get (n : Nat) (z : List IV) (i : Nat) (hi : i < (repl n z).length) (hz : i % z.length < z.length) : (repl n z)[i] = z[i % z.length] := by
  induction n generalizing i with
  | zero => simp [repl] at hi
  | succ n ih =>
    have hr : repl (n + 1) z = z ++ repl n z := by simp [repl, List.replicate_succ]
    simp only [hr] at hi ⊢
    by_cases h : i < z.length
    · rw [List.getElem_append_left h]
      congr 1
      exact (Nat.mod_eq_of_lt h).symm
    · rw [List.getElem_append_right (by omega)]
      have hi' : i - z.length < (repl n z).length := by simp at hi; omega
      rw [ih (i - z.length) hi' (Nat.mod_lt _ (by omega))]
      congr 1
      exact (Nat.mod_eq_sub_mod (by omega)).symm
theorem repl_all (n : Nat) {z : List IV} {p : IV → Bool} (h : z.all p = true) : (repl n z).all p = true := by
  rw [List.all_eq_true] at *
  intro x hx
  simp only [repl, List.mem_flatten, List.mem_replicate] at hx
  obtain ⟨l, ⟨_, rfl⟩, hx⟩ := hx
  exact h x hx
theorem repl_pur (n : Nat) {z : List IV} (h : IV.purL z = true) : IV.purL (repl n z) = true := by rw [purL_all] at *; exact repl_all n h

theorem made_VRL {c : Sx} {z : List IV} {v : Value} (hl : VRL c z v.cells.toList) (n : Nat) : VRL c (repl n z) (madeCells v.cells (n * z.length)).toList := by
  have hlen : v.cells.size = z.length := by simpa using hl.length
  refine VRL.mk (by simp [madeCells, repl_length]) (fun i hi hi' => ?_)
  have hpos : 0 < z.length := by
    rw [repl_length] at hi
    rcases Nat.eq_zero_or_pos z.length with h | h
    · rw [h, Nat.mul_zero] at hi; omega
    · exact h
  have hm := Nat.mod_lt i hpos
  rw [repl_get n z i hi hm]
  have : (madeCells v.cells (n * z.length)).toList[i] = v.cells.toList[i % z.length]'(by simp [hlen]; exact hm) := by
    simp only [madeCells, Array.getElem_toList, Array.getElem_map, Array.getElem_range, hlen]
    rw [getElem!_pos v.cells (i % z.length) (by rw [hlen]; exact hm)]
  rw [this]
  exact hl.get _ hm _

/-- cells in a new block that is no home -/
theorem new_at {H : Nat → Blk} {base : Nat} (hs : HS (sx w H φ base)) {cells : Array Value} {T : TypeId} {fr : Nat × Nat} (hp : Pushed w w' (.cells cells T fr)) {us : List Value} (hc : ∀ i (hi : i < us.length), cells[i]? = some us[i]) : CellsAt (sx w' H φ base) (some ⟨w.heap.size, 0, none⟩) us := by
  intro i hi
  refine ⟨_, rfl, rfl, ⟨by rw [hp.size]; exact Nat.lt_succ_self _, fun x hl _ p hpx => ?_, ?_⟩, ?_⟩
  · obtain ⟨b, off⟩ := p
    have := home_lt hs hl hpx
    simp only at this ⊢; omega
  · exact fun hlt => absurd hlt (Nat.not_lt.2 hs.size)
  · rw [cell_of_row w' _ _ cells T fr hp.new, Nat.zero_add]
    exact hc i hi

theorem snd_bsl (h : RelC φ w0 N s a w) (hd : d < N) {op : Oper} {t el : TypeId} {n : Nat} {ps : Array (Nat × Operand)} (ho : op.op = .buildSlice t n ps) (hu : P.underlying t = some (.slice el)) {z : List IV} (hz : zeroL P el = some z) {qs : List (Nat × Nat × Opd)} (hq : copParts (fun i => some (i * P.cellsOf el, P.cellsOf el)) ps.toList = some qs)
    (hle : n * P.cellsOf el ≤ 2 ^ 24) {sz : Nat} (hsz : sz = P.cellsOf el) (he : neu s d (.bsl n sz z qs) = some e) : Snd P w0 N s a w d op e := by
  simp only [neu] at he
  split at he
  · rename_i rs hrs
    split at he
    · rename_i cs hcs
      split at he
      · rename_i hzl
        injection he with he; subst he
        obtain ⟨i, v, hi, hv, hl, h1, hpz⟩ := zeroL_VR hz (sx w s.h φ w0.heap.size)
        obtain ⟨hf, hpp⟩ := partsN_run h _ hq hrs
        have hm := made_VRL hl n
        obtain ⟨us', g1, g2, g3⟩ := fill_run (fun i => some (i * P.cellsOf el, P.cellsOf el)) _ _ _ _ _ hcs hm (repl_all n h1) hf
        have hpc := placed_pur hcs (repl_pur n hpz) hpp
        have hmap : (ps.map fun q => (q.1, a.eval q.2)).toList = ps.toList.map fun q => (q.1, a.eval q.2) := by simp
        have hgt : ¬ (n * P.cellsOf el > 2 ^ 24) := by omega
        have hz0 : (madeCells v.cells (n * z.length)).toList.toArray = (Array.range (n * P.cellsOf el)).map (v.cells[· % v.cells.size]!) := by
          simp only [Array.toArray_toList, madeCells, hzl, hsz]
        have hp := pushed_alloc w (.cells us'.toArray el)
        refine ⟨.slice (some ⟨w.heap.size, 0, none⟩) n n, w.alloc (.cells us'.toArray el), φ, ?_, (h.pushed hp).pure hd ?_⟩
        · unfold execOp
          rw [ho]
          by_cases h0 : n * P.cellsOf el = 0
          · simp only [Instr.buildSlice, Sem.run_bind, run_underlying hu, Result.andThen_ok, run_sizeOf w hi, if_neg hgt, if_pos h0, Sem.run_pure]
            rw [hz0] at g1
            have g1' : Instr.fill (fun i => some (i * P.cellsOf el, P.cellsOf el)) ((Array.range (n * P.cellsOf el)).map fun x => (#[] : Array Value)[x % (#[] : Array Value).size]!) (ps.toList.map fun q => (q.1, a.eval q.2)) = some us'.toArray := by
              rw [← g1]; congr 1; simp [h0]
            rw [hmap, g1']
            simp only [newRow, Sem.run_bind, run_newObj, Result.andThen_ok, Sem.run_pure, World.alloc_eq]
          · simp only [Instr.buildSlice, Sem.run_bind, run_underlying hu, Result.andThen_ok, run_sizeOf w hi, if_neg hgt, if_neg h0, Sem.run_pure, run_zero hi hv]
            rw [hz0] at g1
            rw [hmap, g1]
            simp only [newRow, Sem.run_bind, run_newObj, Result.andThen_ok, Sem.run_pure, World.alloc_eq]
        · simp only [VR]
          exact ⟨_, n, us', rfl, Nat.le_refl _, by simp, fun _ ad ha => by injection ha with ha; subst ha; exact h.hs.size, hpc, g3, g2.evo (Evo.pushed hp), new_at h.hs hp (fun i hi => by simp [hi])⟩
      · cases he
    · cases he
  · cases he

theorem snd_bslR (h : RelC φ w0 N s a w) (hd : d < N) {op : Oper} {t el : TypeId} {n : Nat} {ps : Array (Nat × Operand)} (ho : op.op = .buildSlice t n ps) (hu : P.underlying t = some (.slice el)) {z : List IV} (hz : zeroL P el = some z) {qs : List (Nat × Nat × Opd)} (hq : copParts (fun i => some (i * P.cellsOf el, P.cellsOf el)) ps.toList = some qs)
    (hle : n * P.cellsOf el ≤ 2 ^ 24) {sz : Nat} (hsz : sz = P.cellsOf el) (he : neu s d (.bslR n sz z qs) = some e) : Snd P w0 N s a w d op e := by
  simp only [neu] at he
  split at he
  · rename_i rs hrs
    split at he
    · rename_i cs hcs
      split at he
      · rename_i hzl
        injection he with he; subst he
        obtain ⟨i, v, hi, hv, hl, h1, hpz⟩ := zeroL_VR hz (sx w s.h φ w0.heap.size)
        have hf := parts_run h _ hq hrs
        have hm := made_VRL hl n
        obtain ⟨us', g1, g2, g3⟩ := fill_run (fun i => some (i * P.cellsOf el, P.cellsOf el)) _ _ _ _ _ hcs hm (repl_all n h1) hf
        have hmap : (ps.map fun q => (q.1, a.eval q.2)).toList = ps.toList.map fun q => (q.1, a.eval q.2) := by simp
        have hgt : ¬ (n * P.cellsOf el > 2 ^ 24) := by omega
        have hz0 : (madeCells v.cells (n * z.length)).toList.toArray = (Array.range (n * P.cellsOf el)).map (v.cells[· % v.cells.size]!) := by
          simp only [Array.toArray_toList, madeCells, hzl, hsz]
        have hp := pushed_alloc w (.cells us'.toArray el)
        refine ⟨.slice (some ⟨w.heap.size, 0, none⟩) n n, w.alloc (.cells us'.toArray el), φ, ?_, (h.pushed hp).pure hd ?_⟩
        · unfold execOp
          rw [ho]
          by_cases h0 : n * P.cellsOf el = 0
          · simp only [Instr.buildSlice, Sem.run_bind, run_underlying hu, Result.andThen_ok, run_sizeOf w hi, if_neg hgt, if_pos h0, Sem.run_pure]
            rw [hz0] at g1
            have g1' : Instr.fill (fun i => some (i * P.cellsOf el, P.cellsOf el)) ((Array.range (n * P.cellsOf el)).map fun x => (#[] : Array Value)[x % (#[] : Array Value).size]!) (ps.toList.map fun q => (q.1, a.eval q.2)) = some us'.toArray := by
              rw [← g1]; congr 1; simp [h0]
            rw [hmap, g1']
            simp only [newRow, Sem.run_bind, run_newObj, Result.andThen_ok, Sem.run_pure, World.alloc_eq]
          · simp only [Instr.buildSlice, Sem.run_bind, run_underlying hu, Result.andThen_ok, run_sizeOf w hi, if_neg hgt, if_neg h0, Sem.run_pure, run_zero hi hv]
            rw [hz0] at g1
            rw [hmap, g1]
            simp only [newRow, Sem.run_bind, run_newObj, Result.andThen_ok, Sem.run_pure, World.alloc_eq]
        · simp only [VR]
          exact ⟨_, us', rfl, fun ad ha => by injection ha with ha; subst ha; exact h.hs.size, g3, g2.evo (Evo.pushed hp), new_at h.hs hp (fun i hi => by simp [hi])⟩
      · cases he
    · cases he
  · cases he

theorem snd_mk (h : RelC φ w0 N s a w) (hd : d < N) {op : Oper} {t el : TypeId} {l c : Operand} (ho : op.op = .makeSlice t l c) (hu : P.underlying t = some (.slice el)) {i : TypeInfo} (hi : P.info? el = some i) {z : List IV} (hz : zeroL P el = some z) {l' c' : Opd} (hl' : opd l = some l') (hc' : opd c = some c')
    {sz bytes : Nat} (hsz : sz = P.cellsOf el) (hby : bytes = i.bytes) (he : neu s d (.mk sz bytes z l' c') = some e) : Snd P w0 N s a w d op e := by
  subst hby
  simp only [neu] at he
  split at he
  · rename_i k1 lv k2 cv hg1 hg2
    split at he
    · rename_i hc
      obtain ⟨h0, hlc, hroom, hzl⟩ := hc
      subst hlc
      injection he with he; subst he
      have e1 := (get_VR h hl' hg1).int_
      have e2 := (get_VR h hc' hg2).int_
      obtain ⟨i', v, hi', hv, hl, h1, hpz⟩ := zeroL_VR hz (sx w s.h φ w0.heap.size)
      rw [hi] at hi'; injection hi' with hi'; subst hi'
      simp only [roomy, Bool.and_eq_true, decide_eq_true_eq] at hroom
      have hb : (i.bytes : Int) * lv ≤ 281474976710656 := by
        have : ((lv.toNat * i.bytes : Nat) : Int) ≤ 2 ^ 44 := by exact_mod_cast hroom.1
        rw [Int.natCast_mul, Int.toNat_of_nonneg h0, Int.mul_comm] at this
        omega
      have hrun := run_make (P := P) w t el i v hu hi hv k1 k2 lv lv h0 (Int.le_refl _) hb (by omega)
      have hsize : i.size = z.length := by rw [hzl, hsz]; simp [Program.cellsOf, hi]
      rw [hsize] at hrun
      have hp := pushed_alloc w (.cells (madeCells v.cells (lv.toNat * z.length)) el)
      refine ⟨_, _, _, ?_, h.newRow hd hp (repl_all _ h1) (repl_pur _ hpz) (made_VRL hl lv.toNat) (fun i hi => by simp at hi ⊢) (n := lv.toNat) (sz := sz) (k := lv.toNat) (by rw [repl_length, hzl]; exact Nat.le_refl _) (Nat.le_refl _) (by rw [size_madeCells, hzl]; exact Nat.le_refl _) (by simp)⟩
      unfold execOp
      rw [ho]
      simp only [e1, e2, Sem.run_bind, hrun, Result.andThen_ok, Sem.run_pure]
    · cases he
  · cases he
end
end Go.Proofs.YtmblapgoimegkaaDoor
