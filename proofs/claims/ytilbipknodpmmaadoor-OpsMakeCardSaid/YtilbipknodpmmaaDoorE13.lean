/- Operations that write. -/
import Derived.Test.YtilbipknodpmmaaDoorE11
set_option linter.unusedSectionVars false
set_option linter.unusedVariables false
set_option linter.unusedSimpArgs false
namespace Go.Proofs.YtilbipknodpmmaaDoor
open Go.RowKit

section
variable [Off] [Gh] [Old] {P : Program} {φ : Nat → Option (Nat × Nat)} {w0 : World} {N : Nat} {s s' : St} {a : Act} {w w' : World} {o : Obj}

structure Wrote (w w' : World) (b lo : Nat) (vs : List Value) : Prop where
  ex : ∃ (cs : Array Value) (T : TypeId), w.heap[b]? = some (.cells cs T (0, 0)) ∧ lo + vs.length ≤ cs.size ∧ w' = w.setRow b (cs.toList.take lo ++ vs ++ cs.toList.drop (lo + vs.length)).toArray

theorem Wrote.old {b lo : Nat} {vs : List Value} (h : Wrote w w' b lo vs) {c : Nat} (hc : c ≠ b) : w'.heap[c]? = w.heap[c]? := by
  obtain ⟨cs, T, _, _, rfl⟩ := h.ex
  exact setRow_other w b c _ hc
theorem Wrote.size {b lo : Nat} {vs : List Value} (h : Wrote w w' b lo vs) : w'.heap.size = w.heap.size := by
  obtain ⟨cs, T, _, _, rfl⟩ := h.ex
  simp
theorem Wrote.bsize {b lo : Nat} {vs : List Value} (h : Wrote w w' b lo vs) (c : Nat) : bsize w' c = bsize w c := by
  by_cases hc : c = b
  · subst hc
    obtain ⟨cs, T, h1, h2, rfl⟩ := h.ex
    simp only [Go.Proofs.YtilbipknodpmmaaDoor.bsize, setRow_heap w c cs _ T (0, 0) h1, h1]
    simp; omega
  · simp only [Go.Proofs.YtilbipknodpmmaaDoor.bsize, h.old hc]
theorem Wrote.below {b lo : Nat} {vs : List Value} (h : Wrote w w' b lo vs) {B : Nat} (hb : Below B w0 w) (hB : B ≤ b) : Below B w0 w' := by
  refine hb.trans ⟨?_, ?_, ?_, by rw [h.size]; exact Nat.le_refl _, fun c hc => h.old (by omega)⟩ <;> (obtain ⟨cs, T, _, _, rfl⟩ := h.ex; rfl)
theorem Wrote.bel [Gh] {b lo : Nat} {vs : List Value} (h : Wrote w w' b lo vs) (hb : Bel w0 w) (hB : w0.heap.size ≤ b) : Bel w0 w' := by
  refine ⟨h.below hb.lo hB, fun p hp => ⟨(hb.pin p hp).1, ?_⟩⟩
  obtain ⟨cs, T, h1, _, _⟩ := h.ex
  have h2 := hb.pin p hp
  have hne : p.1 ≠ b := by
    intro e
    rw [e, h1] at h2
    exact h2.1 _ _ _ (Option.some.inj h2.2).symm
  exact (h.old hne).trans h2.2
theorem Wrote.cell {b lo : Nat} {vs : List Value} (h : Wrote w w' b lo vs) {c : Nat} (hc : c ≠ b) (i : Nat) : w'.cell? ⟨c, i, none⟩ = w.cell? ⟨c, i, none⟩ := by
  simp only [World.cell?, h.old hc]
theorem Wrote.get {b lo : Nat} {vs : List Value} (h : Wrote w w' b lo vs) : ∃ (cs cs' : Array Value) (T : TypeId), w.heap[b]? = some (.cells cs T (0, 0)) ∧ w'.heap[b]? = some (.cells cs' T (0, 0)) ∧ cs'.size = cs.size ∧ (∀ i, i < lo → cs'[i]? = cs[i]?) ∧ (∀ i (hi : i < vs.length), cs'[lo + i]? = some vs[i]) ∧ (∀ i, lo + vs.length ≤ i → cs'[i]? = cs[i]?) := by
  obtain ⟨cs, T, h1, h2, rfl⟩ := h.ex
  refine ⟨cs, _, T, h1, setRow_heap w b cs _ T (0, 0) h1, by simp; omega, fun i hi => ?_, fun i hi => ?_, fun i hi => ?_⟩
  · simp only [List.getElem?_toArray, List.append_assoc]
    rw [List.getElem?_append_left (by simp; omega), List.getElem?_take, if_pos hi]; simp
  · simp only [List.getElem?_toArray, List.append_assoc]
    rw [List.getElem?_append_right (by simp; omega), List.getElem?_append_left (by simp; omega)]
    rw [show lo + i - (List.take lo cs.toList).length = i by simp; omega, List.getElem?_eq_getElem hi]
  · simp only [List.getElem?_toArray, List.append_assoc]
    rw [List.getElem?_append_right (by simp; omega), List.getElem?_append_right (by simp; omega), List.getElem?_drop]
    rw [show lo + vs.length + (i - (List.take lo cs.toList).length - vs.length) = i by simp; omega]; simp

theorem Evo.store {H : Nat → Blk} {base : Nat} {h b off lo : Nat} (hl : (H h).live = true) (hr : (H h).rw = true) (hφ : φ h = some (b, off)) {vs : List Value} (hw : Wrote w w' b lo vs) {cs : List IV} (hlen : cs.length = (H h).cells.length) : Evo (sx w H φ base) (sx w' (upd H h { H h with cells := cs }) φ base) where
  S c hc := ⟨by rw [hw.size]; exact hc.1, fun x hlx hrx p hp => by
    by_cases hx : x = h
    · subst hx; exact hc.2.1 x hl hr p hp
    · simp only [upd, if_neg hx] at hlx hrx
      exact hc.2.1 x hlx hrx p hp, hc.2.2⟩
  cell c hc i := hw.cell (fun e => hc.2.1 h hl hr _ hφ e.symm) i
  base := Nat.le_refl _
  ver x := by
    simp only [upd]
    split
    · rename_i hx; subst hx; exact Nat.le_refl _
    · exact Nat.le_refl _
  same x hlx _ := by
    by_cases hx : x = h
    · subst hx; simp only [upd, if_true] at hlx ⊢; exact ⟨hl, trivial, Nat.le_of_eq hlen.symm⟩
    · simp only [upd, if_neg hx] at hlx ⊢; exact ⟨hlx, trivial, Nat.le_refl _⟩
  size c := Nat.le_of_eq (hw.bsize c).symm

theorem HS.store {H : Nat → Blk} {base : Nat} (hs : HS (sx w H φ base)) {h b off i : Nat} (hl : (H h).live = true) (hr : (H h).rw = true) (hφ : φ h = some (b, off)) {vs : List Value} (hw : Wrote w w' b (off + i) vs) {ds : List IV} (hd : VRL (sx w H φ base) ds vs) (h1 : ds.all IV.one = true) (hp : (H h).isRow = true → IV.purL ds = true) (hle : i + ds.length ≤ (H h).cells.length) :
    HS (sx w' (upd H h { H h with cells := (H h).cells.take i ++ ds ++ (H h).cells.drop (i + ds.length) }) φ base) where
  home x hlx := by
    have hlen : ((H h).cells.take i ++ ds ++ (H h).cells.drop (i + ds.length)).length = (H h).cells.length := by simp; omega
    have he := Evo.store (base := base) (lo := off + i) hl hr hφ hw hlen
    by_cases hx : x = h
    · subst hx
      have hh := hs.home x hl
      refine ⟨?_, ?_, hh.low, ?_⟩
      · simp only [upd, if_true, List.all_append, Bool.and_eq_true]
        exact ⟨⟨all_take hh.one _, h1⟩, all_drop hh.one _⟩
      · simp only [upd, if_true]
        intro hrow
        exact purL_append (purL_append (purL_take (hh.row hrow) _) (hp hrow)) (purL_drop (hh.row hrow) _)
      · have hat := hh.at_
        simp only [hφ] at hat ⊢
        obtain ⟨cs, T, fr, us, e1, e2, e3, e4, e5⟩ := hat
        obtain ⟨cs1, cs', T', g1, g2, g3, g4, g5, g6⟩ := hw.get
        have e1' : w.heap[b]? = some (.cells cs T fr) := e1
        rw [g1] at e1'
        injection e1' with e1'; injection e1' with q1 q2 q3
        subst q1 q2 q3
        have hul : us.length = (H x).cells.length := e3.length
        have hvl := hd.length
        refine ⟨cs', T', (0, 0), us.take i ++ vs ++ us.drop (i + vs.length), g2, fun _ => ⟨rfl, (e2 hr).2⟩, ?_, fun j hj => ?_, by simp; omega⟩
        · simp only [upd, if_true]
          rw [hvl]
          exact (((e3.take i).append hd).append (e3.drop _)).evo he
        · simp only [List.length_append, List.length_take, List.length_drop] at hj
          by_cases hji : j < i
          · rw [g4 _ (by omega), e4 j (by omega)]
            rw [List.getElem_append_left (by simp; omega), List.getElem_append_left (by simp; omega), List.getElem_take]
          · by_cases hjv : j < i + vs.length
            · obtain ⟨q, rfl⟩ : ∃ q, j = i + q := ⟨j - i, by omega⟩
              rw [← Nat.add_assoc, g5 q (by omega)]
              rw [List.getElem_append_left (by simp; omega), List.getElem_append_right (by simp; omega)]
              congr 2
              simp; omega
            · rw [g6 _ (by omega), e4 j (by omega)]
              rw [List.getElem_append_right (by simp; omega), List.getElem_drop]
              congr 2
              simp; omega
    · have hlx' : (H x).live = true := by simpa only [upd, if_neg hx] using hlx
      refine (hs.home x hlx').evo he (by simp only [upd, if_neg hx]) rfl rfl (fun c oc hc => hw.old (fun e => ?_))
      subst e
      exact hs.excl h x (c, off) (c, oc) hl hr hlx' (fun e => hx e.symm) hφ hc rfl
  excl x y p q hlx hrx hly hne hpx hpy := by
    have f : ∀ z, (upd H h { H h with cells := (H h).cells.take i ++ ds ++ (H h).cells.drop (i + ds.length) } z).live = (H z).live ∧ (upd H h { H h with cells := (H h).cells.take i ++ ds ++ (H h).cells.drop (i + ds.length) } z).rw = (H z).rw := fun z => by
      by_cases hz : z = h
      · subst hz; simp [upd]
      · simp [upd, hz]
    simp only [(f x).1, (f x).2, (f y).1] at hlx hrx hly
    exact hs.excl x y p q hlx hrx hly hne hpx hpy
  size := by have := hs.size; show base ≤ w'.heap.size; rw [hw.size]; exact this

theorem RelC.put_ (h : RelC φ w0 N s a w) {φ' : Nat → Option (Nat × Nat)} {H' : Nat → Blk} {w' : World} (hs' : HS (sx w' H' φ' w0.heap.size)) (e : Evo (sx w s.h φ w0.heap.size) (sx w' H' φ' w0.heap.size)) (hb : Bel w0 w')
    {d : Option Nat} (hd : ∀ x, d = some x → x < N) {v : IV} {rv : Value} (hv : VR (sx w' H' φ' w0.heap.size) v rv) : RelC φ' w0 N (St.put { s with h := H' } d v) (a.put d rv) w' := by
  cases d with
  | none => exact h.putN hs' e hb
  | some d => exact h.put hs' e hb (hd d rfl) hv

def SndA (P : Program) (w0 : World) (N : Nat) (a : Act) (w : World) (o : Oper) (s' : St) : Prop :=
  ∃ rv w' φ', ((execOp a.eval o).run P w = .ok (.value rv) w' ∨ (rv = undef ∧ (execOp a.eval o).run P w = .ok .skip w')) ∧ RelC φ' w0 N s' (a.put o.dst rv) w'

theorem store_fits {H : Nat → Blk} {base : Nat} (hs : HS (sx w H φ base)) {h b off i m : Nat} (hl : (H h).live = true) (hr : (H h).rw = true) (hφ : φ h = some (b, off)) {vs : List Value} (h1 : ∀ v ∈ vs, v.oneCell' = true) (hle : i + vs.length ≤ (H h).cells.length) (hm : m = off + i) :
    ∃ w', (storeCells ⟨b, m, none⟩ vs).run P w = .ok () w' ∧ Wrote w w' b (off + i) vs := by
  subst hm
  have hat := (hs.home h hl).at_
  simp only [hφ] at hat
  obtain ⟨cs, T, fr, us, e1, e2, e3, _, e5⟩ := hat
  obtain ⟨rfl, _⟩ := e2 hr
  have hul : us.length = (H h).cells.length := e3.length
  have hfit : off + i + vs.length ≤ cs.size := by omega
  exact ⟨_, by have := run_storeCells_at P b (off + i) T vs 0 cs w e1 (by simpa using hfit) h1; simpa using this, ⟨cs, T, e1, hfit, rfl⟩⟩

theorem snd_store (h : RelC φ w0 N s a w) {op : Oper} (hd : ∀ x, op.dst = some x → x < N) {t : TypeId} {x y : Operand} (ho : op.op = .store t x y) {i : TypeInfo} (hi : P.info? t = some i) {x' y' : Opd} (hx : opd x = some x') (hy : opd y = some y') {n : Nat} (hn : n = P.cellsOf t) (he : act s op.dst (.store n x' y') = some s') : SndA P w0 N a w op s' := by
  subst hn
  simp only [act] at he
  split at he
  · rename_i hh off ver v hgx hgy
    split at he
    · rename_i hc
      obtain ⟨hok, hrw, hle, hvl⟩ := hc
      split at he
      · rename_i cs hcs
        split at he
        · rename_i hcc
          obtain ⟨hcl, hrowp⟩ := hcc
          injection he with he; subst he
          simp only [St.ok, Bool.and_eq_true, beq_iff_eq] at hok
          have hvx := get_VR h hx hgx
          have hvy := get_VR h hy hgy
          simp only [VR] at hvx
          have hp := hvx.2.2 hok.1 hok.2
          unfold ptrR at hp
          cases hφ : φ hh with
          | none => simp only [hφ] at hp
          | some p =>
            obtain ⟨b, ob⟩ := p
            simp only [hφ] at hp
            have hcells : ∃ us, (a.eval y).cells = us.toArray ∧ VRL (sx w s.h φ w0.heap.size) cs us ∧ cs.all IV.one = true := by
              by_cases hrow : (s.h hh).isRow = true
              · rw [if_pos hrow] at hcs
                obtain ⟨us, g1, g2, g3, _⟩ := nest_VR h hcs hvy (nest_notU hcs)
                exact ⟨us, g1, g2, g3⟩
              · rw [if_neg hrow] at hcs
                split at hcs
                · rename_i hbx
                  injection hcs with hcs; subst hcs
                  exact boxed hvy hbx
                · cases hcs
            obtain ⟨us, g1, g2, g3⟩ := hcells
            have hul := g2.length
            obtain ⟨w', hrun, hw⟩ := store_fits (P := P) h.hs (i := off) hok.1 hrw hφ (vs := us) (ones_cell g2 g3) (by omega) rfl
            have hlen : ((s.h hh).cells.take off ++ cs ++ (s.h hh).cells.drop (off + cs.length)).length = (s.h hh).cells.length := by simp; omega
            have hHS := h.hs.store (i := off) hok.1 hrw hφ hw g2 g3 hrowp (by omega)
            have hE := Evo.store (base := w0.heap.size) (lo := ob + off) hok.1 hrw hφ hw hlen
            have hbb : w0.heap.size ≤ b := by
              have hat := (h.hs.home hh hok.1).at_
              simp only [hφ] at hat
              obtain ⟨_, _, _, _, _, e2, _⟩ := hat
              exact (e2 hrw).2
            refine ⟨undef, w', φ, .inr ⟨rfl, ?_⟩, ?_⟩
            · unfold execOp
              rw [ho]
              have hsz : (a.eval y).cells.size = P.cellsOf t := by rw [g1]; simp; omega
              simp only [hp, Instr.storeAt, Instr.sureAddr, storeVar, Sem.run_bind, Sem.run_pure, Result.andThen_ok, run_sizeOf w hi, hsz, ne_eq, not_true_eq_false, if_false]
              rw [g1]
              simp only [hrun, Result.andThen_ok]
            · rw [← hcl]
              exact h.put_ hHS hE (hw.bel h.below hbb) hd (by simp only [VR]; exact ⟨[], rfl, rfl, by simp [VRL]⟩)
        · cases he
      · cases he
    · cases he
  · cases he

theorem run_copy {t el : TypeId} {i : TypeInfo} (ht : P.underlying t = some (.slice el)) (hi : P.info? el = some i) (ts : List TypeId) (ty : TypeId) {A : Option Addr} {n k m : Nat} {x : Value} (hlen : (Builtin.lenOf x).run P w = .ok m w) {news : List Value} (hf : (Builtin.firstCells (P.cellsOf el) (Nat.min m n) x).run P w = .ok news.toArray w) {w1 : World} (hst : ∀ ad, A = some ad → (storeCells ad news).run P w = .ok () w1) (hnone : A = none → w1 = w) :
    (Builtin.copy_ (t :: ts).toArray ty #[.slice A n k, x]).run P w = .ok (.int .i64 (Nat.min m n)) w1 := by
  unfold Builtin.copy_
  simp only [List.getElem?_toArray, List.getElem?_cons_zero, List.getElem?_cons_succ, Sem.run_bind, run_underlying ht, run_sizeOf w hi, Result.andThen_ok, Sem.run_pure, hlen, hf]
  cases A with
  | none => rw [hnone rfl]; rfl
  | some ad => simp only [hst ad rfl, Result.andThen_ok, Sem.run_pure, Sem.run_bind, goInt]

theorem snd_copy (h : RelC φ w0 N s a w) {op : Oper} (hd : ∀ x, op.dst = some x → x < N) {c : Call} (ho : op.op = .call c) (hc : c.callee = .builtin .copy) {x y : Operand} (hargs : c.args.toList = [x, y]) {t el : TypeId} {ts : List TypeId} (hts : c.argTypes.toList = t :: ts) (ht : P.underlying t = some (.slice el)) {i : TypeInfo} (hi : P.info? el = some i)
    {x' y' : Opd} (hx : opd x = some x') (hy : opd y = some y') {sz : Nat} (hsz : sz = P.cellsOf el) (he : act s op.dst (.copy sz x' y') = some s') : SndA P w0 N a w op s' := by
  subst hsz
  simp only [act] at he
  split at he
  · rename_i hh off n sz' ver v hgx hgy
    split at he
    · rename_i m ds hmore
      split at he
      · rename_i hcond
        obtain ⟨hok, hrw, rfl, hle⟩ := hcond
        injection he with he; subst he
        simp only [St.ok, Bool.and_eq_true, beq_iff_eq] at hok
        have hvx := get_VR h hx hgx
        have hvy := get_VR h hy hgy
        obtain ⟨us, g1, g2, g3, g4, g5, _, g7⟩ := more_run (P := P) h hmore hvy
        simp only [VR] at hvx
        obtain ⟨_, A, k, hax, hnk, hrow⟩ := hvx
        have hr := hrow hok.1 hok.2
        unfold rowR at hr
        have h1 : c.args = #[x, y] := by rw [← hargs]
        have h2 : c.argTypes = (t :: ts).toArray := by rw [← hts]
        have hexec : ∀ rv w1, (Builtin.copy_ (t :: ts).toArray op.type #[a.eval x, a.eval y]).run P w = .ok rv w1 → (execOp a.eval op).run P w = .ok (.value rv) w1 := fun rv w1 hr => by
          unfold execOp
          rw [ho]
          simp only [resolve, hc, h1, h2, Sem.run_bind, Sem.run_pure, Result.andThen_ok, invoke, builtin, List.map_toArray, List.map_cons, List.map_nil, hr]
        have hmin : Nat.min m n = min m n := rfl
        have hf := g7 (min m n) w (fun _ _ _ h => h) (Nat.min_le_left _ _)
        have hkn : min m n * P.cellsOf el ≤ n * P.cellsOf el := Nat.mul_le_mul_right _ (Nat.min_le_right _ _)
        have hkm : min m n * P.cellsOf el ≤ m * P.cellsOf el := Nat.mul_le_mul_right _ (Nat.min_le_left _ _)
        have hdl := g1.length
        by_cases hz : min m n * P.cellsOf el = 0
        · -- nothing is written
          have hst : ((s.h hh).cells.take off ++ ds.take (min m n * P.cellsOf el) ++ (s.h hh).cells.drop (off + min m n * P.cellsOf el)) = (s.h hh).cells := by rw [hz]; simp
          rw [hst]
          have hH : upd s.h hh { s.h hh with cells := (s.h hh).cells } = s.h := by funext z; simp only [upd]; split <;> rename_i hzz <;> first | (subst hzz; rfl) | rfl
          rw [hH]
          refine ⟨.int .i64 ((min m n : Nat) : Int), w, φ, .inl (hexec _ _ ?_), h.put_ h.hs (Evo.refl _) h.below hd VR.int_mk⟩
          rw [hax, ← hmin]
          refine run_copy ht hi ts op.type g5 (by rw [hmin]; exact hf) (fun ad _ => ?_) (fun _ => rfl)
          rw [hz]; rfl
        · cases hφ : φ hh with
          | none => simp only [hφ] at hr; exfalso; apply hz; have : n = 0 := by omega
                    subst this; simp
          | some p =>
            obtain ⟨b, ob⟩ := p
            simp only [hφ] at hr
            rcases hr.2.1 with hk0 | hA
            · exfalso; apply hz; have : n = 0 := by omega
              subst this; simp
            subst hA
            obtain ⟨w', hrun, hw⟩ := store_fits (P := P) h.hs (i := off) hok.1 hrw hφ (vs := us.take (min m n * P.cellsOf el)) (fun v hv => ones_cell g1 g4 v (List.mem_of_mem_take hv)) (by simp; omega) rfl
            have hdsl : (ds.take (min m n * P.cellsOf el)).length = min m n * P.cellsOf el := by simp; omega
            have hHS := h.hs.store (i := off) hok.1 hrw hφ hw (g1.take _) (all_take g4 _) (fun _ => purL_take g3 _) (by omega)
            have hlen : ((s.h hh).cells.take off ++ ds.take (min m n * P.cellsOf el) ++ (s.h hh).cells.drop (off + (ds.take (min m n * P.cellsOf el)).length)).length = (s.h hh).cells.length := by simp; omega
            have hE := Evo.store (base := w0.heap.size) (lo := ob + off) hok.1 hrw hφ hw hlen
            have hbb : w0.heap.size ≤ b := by
              have hat := (h.hs.home hh hok.1).at_
              simp only [hφ] at hat
              obtain ⟨_, _, _, _, _, e2, _⟩ := hat
              exact (e2 hrw).2
            rw [hdsl] at hHS hE
            refine ⟨.int .i64 ((min m n : Nat) : Int), w', φ, .inl (hexec _ _ ?_), h.put_ hHS hE (hw.bel h.below hbb) hd VR.int_mk⟩
            rw [hax, ← hmin]
            refine run_copy ht hi ts op.type g5 (by rw [hmin]; exact hf) (fun ad ha => ?_) (fun e => by cases e)
            injection ha with ha; subst ha
            exact hrun
      · cases he
    · cases he
  · cases he

/-! ### append to a row of one's own -/
theorem Evo.appIn {H : Nat → Blk} {base : Nat} {h d b ob off lo : Nat} (hl : (H h).live = true) (hr : (H h).rw = true) (hφ : φ h = some (b, ob)) {vs : List Value} (hw : Wrote w w' b lo vs) (blk : Blk) (hv : (upd H h { H h with ver := (H h).ver + 1, live := false } d).ver < blk.ver) :
    Evo (sx w H φ base) (sx w' (upd (upd H h { H h with ver := (H h).ver + 1, live := false }) d blk) (upd φ d (some (b, ob + off))) base) where
  S c hc := ⟨by rw [hw.size]; exact hc.1, fun x hlx hrx p hp => by
    by_cases hxd : x = d
    · subst hxd
      simp only [upd, if_true, Option.some.injEq] at hp
      subst hp
      exact hc.2.1 h hl hr (b, ob) hφ
    · by_cases hxh : x = h
      · subst hxh; simp only [upd, if_neg hxd, if_true, Bool.false_eq_true] at hlx
      · simp only [upd, if_neg hxd, if_neg hxh] at hlx hrx hp
        exact hc.2.1 x hlx hrx p hp, hc.2.2⟩
  cell c hc i := hw.cell (fun e => hc.2.1 h hl hr _ hφ e.symm) i
  base := Nat.le_refl _
  ver x := by
    by_cases hxd : x = d
    · subst hxd
      simp only [upd, if_true] at hv ⊢
      by_cases hxh : x = h
      · subst hxh; simp only [if_true] at hv; omega
      · simp only [if_neg hxh] at hv; omega
    · by_cases hxh : x = h
      · subst hxh; simp only [upd, if_neg hxd, if_true]; omega
      · simp only [upd, if_neg hxd, if_neg hxh]; exact Nat.le_refl _
  same x hlx hve := by
    by_cases hxd : x = d
    · subst hxd
      exfalso
      simp only [upd, if_true] at hv hve
      by_cases hxh : x = h
      · subst hxh; simp only [if_true] at hv; omega
      · simp only [if_neg hxh] at hv; omega
    · by_cases hxh : x = h
      · subst hxh; simp only [upd, if_neg hxd, if_true, Bool.false_eq_true] at hlx
      · simp only [upd, if_neg hxd, if_neg hxh] at hlx ⊢
        exact ⟨hlx, trivial, Nat.le_refl _⟩
  size c := Nat.le_of_eq (hw.bsize c).symm

theorem Evo.dead {H : Nat → Blk} {base h : Nat} : Evo (sx w H φ base) (sx w (upd H h { H h with ver := (H h).ver + 1, live := false }) φ base) where
  S c hc := ⟨hc.1, fun x hlx hrx p hp => by
    by_cases hxh : x = h
    · subst hxh; simp only [upd, if_true, Bool.false_eq_true] at hlx
    · simp only [upd, if_neg hxh] at hlx hrx
      exact hc.2.1 x hlx hrx p hp, hc.2.2⟩
  cell c hc i := rfl
  base := Nat.le_refl _
  ver x := by
    by_cases hxh : x = h
    · subst hxh; simp only [upd, if_true]; omega
    · simp only [upd, if_neg hxh]; exact Nat.le_refl _
  same x hlx hve := by
    by_cases hxh : x = h
    · subst hxh; simp only [upd, if_true, Bool.false_eq_true] at hlx
    · simp only [upd, if_neg hxh] at hlx ⊢; exact ⟨hlx, trivial, Nat.le_refl _⟩
  size c := Nat.le_refl _
theorem HS.dead {H : Nat → Blk} {base h : Nat} (hs : HS (sx w H φ base)) : HS (sx w (upd H h { H h with ver := (H h).ver + 1, live := false }) φ base) where
  home x hlx := by
    by_cases hxh : x = h
    · subst hxh; simp only [upd, if_true, Bool.false_eq_true] at hlx
    · have hlx' : (H x).live = true := by simpa only [upd, if_neg hxh] using hlx
      exact (hs.home x hlx').evo Evo.dead (by simp only [upd, if_neg hxh]) rfl rfl (fun _ _ _ => rfl)
  excl x y p q hlx hrx hly hne hpx hpy := by
    by_cases hxh : x = h
    · subst hxh; simp only [upd, if_true, Bool.false_eq_true] at hlx
    · by_cases hyh : y = h
      · subst hyh; simp only [upd, if_true, Bool.false_eq_true] at hly
      · simp only [upd, if_neg hxh] at hlx hrx
        simp only [upd, if_neg hyh] at hly
        exact hs.excl x y p q hlx hrx hly hne hpx hpy
  size := hs.size

theorem HS.appIn {H : Nat → Blk} {base : Nat} (hs : HS (sx w H φ base)) {h d b ob off : Nat} (hl : (H h).live = true) (hr : (H h).rw = true) (hrow : (H h).isRow = true) (hφ : φ h = some (b, ob)) {vs : List Value} (hw : Wrote w w' b (ob + (H h).cells.length) vs) {ds : List IV} (hd : VRL (sx w H φ base) ds vs) (h1 : ds.all IV.one = true) (hp : IV.purL ds = true) (hoff : off ≤ (H h).cells.length)
    (blk : Blk) (hv : (upd H h { H h with ver := (H h).ver + 1, live := false } d).ver < blk.ver) (hbc : blk.cells = (H h).cells.drop off ++ ds) :
    HS (sx w' (upd (upd H h { H h with ver := (H h).ver + 1, live := false }) d blk) (upd φ d (some (b, ob + off))) base) where
  home x hlx := by
    have he := Evo.appIn (φ := φ) (off := off) (base := base) hl hr hφ hw blk hv
    by_cases hxd : x = d
    · subst hxd
      have hh := hs.home h hl
      refine ⟨?_, ?_, ?_, ?_⟩
      · simp only [upd, if_true, hbc, List.all_append, Bool.and_eq_true]; exact ⟨all_drop hh.one _, h1⟩
      · simp only [upd, if_true, hbc]; intro _; exact purL_append (purL_drop (hh.row hrow) _) hp
      · simp only [upd, if_true, Option.some.injEq]; rintro p rfl; exact hh.low (b, ob) hφ
      · have hat := hh.at_
        simp only [hφ] at hat
        simp only [upd, if_true]
        obtain ⟨cs, T, fr, us, e1, e2, e3, e4, e5⟩ := hat
        obtain ⟨cs1, cs', T', g1, g2, g3, g4, g5, g6⟩ := hw.get
        have e1' : w.heap[b]? = some (.cells cs T fr) := e1
        rw [g1] at e1'
        injection e1' with e1'; injection e1' with q1 q2 q3
        subst q1 q2 q3
        have hul : us.length = (H h).cells.length := e3.length
        have hvl := hd.length
        have hfit : ob + (H h).cells.length + vs.length ≤ cs'.size := by
          obtain ⟨cs2, T2, f1, f2, _⟩ := hw.ex
          rw [g1] at f1
          injection f1 with f1; injection f1 with f1
          subst f1
          omega
        refine ⟨cs', T', (0, 0), us.drop off ++ vs, g2, fun _ => ⟨rfl, (e2 hr).2⟩, ?_, fun j hj => ?_, by simp; omega⟩
        · rw [hbc]; exact ((e3.drop off).append hd).evo he
        · simp only [List.length_append, List.length_drop] at hj
          by_cases hjv : j < us.length - off
          · rw [g4 _ (by omega), Nat.add_assoc, e4 (off + j) (by omega)]
            rw [List.getElem_append_left (by simp; omega), List.getElem_drop]
          · obtain ⟨q, rfl⟩ : ∃ q, j = (us.length - off) + q := ⟨j - (us.length - off), by omega⟩
            rw [show ob + off + (us.length - off + q) = ob + (H h).cells.length + q by omega, g5 q (by omega)]
            rw [List.getElem_append_right (by simp)]
            congr 2
            simp
    · by_cases hxh : x = h
      · subst hxh; simp only [upd, if_neg hxd, if_true, Bool.false_eq_true] at hlx
      · have hlx' : (H x).live = true := by simpa only [upd, if_neg hxd, if_neg hxh] using hlx
        refine (hs.home x hlx').evo he (by simp only [upd, if_neg hxd, if_neg hxh]) (by simp only [upd, if_neg hxd]) rfl (fun c oc hc => hw.old (fun e => ?_))
        subst e
        exact hs.excl h x (c, ob) (c, oc) hl hr hlx' (fun e => hxh e.symm) hφ hc rfl
  excl x y p q hlx hrx hly hne hpx hpy := by
    by_cases hxd : x = d
    · subst hxd
      have hyd : y ≠ x := fun e => hne e.symm
      by_cases hyh : y = h
      · subst hyh; simp only [upd, if_neg hyd, if_true, Bool.false_eq_true] at hly
      · simp only [upd, if_neg hyd, if_neg hyh] at hly hpy
        simp only [upd, if_true, Option.some.injEq] at hpx
        subst hpx
        exact hs.excl h y (b, ob) q hl hr hly (fun e => hyh e.symm) hφ hpy
    · by_cases hxh : x = h
      · subst hxh; simp only [upd, if_neg hxd, if_true, Bool.false_eq_true] at hlx
      · simp only [upd, if_neg hxd, if_neg hxh] at hlx hrx hpx
        by_cases hyd : y = d
        · subst hyd
          simp only [upd, if_true, Option.some.injEq] at hpy
          subst hpy
          exact fun e => hs.excl h x (b, ob) p hl hr hlx (fun e => hxh e.symm) hφ hpx e.symm
        · by_cases hyh : y = h
          · subst hyh; simp only [upd, if_neg hyd, if_true, Bool.false_eq_true] at hly
          · simp only [upd, if_neg hyd, if_neg hyh] at hly hpy
            exact hs.excl x y p q hlx hrx hly hne hpx hpy
  size := by have := hs.size; show base ≤ w'.heap.size; rw [hw.size]; exact this

theorem app_row (h : RelC φ w0 N s a w) {d hh off n sz ver m : Nat} (hdN : d < N) {v : Value} (hv : VR (sx w s.h φ w0.heap.size) (.row hh off n sz ver) v) (hok : s.ok hh ver = true) (hrw : (s.h hh).rw = true) (hrow : (s.h hh).isRow = true) (hoff : off + n * sz = (s.h hh).cells.length) (hsz : 0 < sz)
    {ds : List IV} {us : List Value} (g1 : VRL (sx w s.h φ w0.heap.size) ds us) (g2 : us.length = m * sz) (g3 : IV.purL ds = true) (g4 : ds.all IV.one = true) {run : Value → World → Prop} {T : TypeId} {zc : Array Value} (hzc : zc.size = sz)
    (hin : ∀ (A : Option Addr) (k : Nat) (w1 : World), v = .slice A n k → n + m ≤ k → (∀ ad, A = some ad → (storeCells (ad.add (n * sz)) us).run P w = .ok () w1) → (A = none → w1 = w) → run (.slice A (n + m) k) w1)
    (hnew : ∀ (A : Option Addr) (k : Nat) (olds : List Value), v = .slice A n k → k < n + m → (Builtin.firstCells sz n (.slice A n k)).run P w.drew = .ok olds.toArray w.drew → ∃ cap, n + m ≤ cap ∧ run (.slice (some ⟨w.heap.size, 0, none⟩) (n + m) cap) (w.drew.alloc (.cells (olds.toArray ++ us.toArray ++ Builtin.zeroCells zc (cap - (n + m))) T))) :
    ∃ rv w' φ', run rv w' ∧ RelC φ' w0 N { t := upd s.t d (.row (hom d) 0 (n + m) sz (((s.dead hh).h (hom d)).ver + 1)), h := upd (s.dead hh).h (hom d) (freshBlk (s.dead hh) (hom d) true true ((s.h hh).cells.drop off ++ ds)) } (a.put (some d) rv) w' := by
  have hok' := hok
  simp only [St.ok, Bool.and_eq_true, beq_iff_eq] at hok
  have hv0 := hv
  simp only [VR] at hv0
  obtain ⟨_, A, k, rfl, hnk, hr⟩ := hv0
  have hr' := hr hok.1 hok.2
  unfold rowR at hr'
  have hdl := g1.length
  have hone := (h.hs.home hh hok.1).one
  have hpur := (h.hs.home hh hok.1).row hrow
  have hvdead : (upd s.h hh { s.h hh with ver := (s.h hh).ver + 1, live := false } (hom d)).ver < (freshBlk (s.dead hh) (hom d) true true ((s.h hh).cells.drop off ++ ds)).ver := Nat.lt_succ_self _
  have hnsz : (n + m) * sz = n * sz + m * sz := Nat.add_mul _ _ _
  by_cases hle : n + m ≤ k
  · -- in place
    cases hφ : φ hh with
    | none =>
      simp only [hφ] at hr'
      have hn : n = 0 := by omega
      have hm : m = 0 := by omega
      have hk : k = 0 := by omega
      subst hn hm hk
      have hus : us = [] := List.eq_nil_of_length_eq_zero (by omega)
      have hds : ds = [] := List.eq_nil_of_length_eq_zero (by omega)
      subst hus hds
      have hcells : (s.h hh).cells = [] := by have := (h.hs.home hh hok.1).at_; simp only [hφ] at this; exact this
      refine ⟨_, w, upd φ (hom d) none, hin A 0 w rfl (Nat.le_refl _) (fun ad _ => rfl) (fun _ => rfl), ?_⟩
      refine h.put (HS.noHome (h.hs.dead (h := hh)) _ (by exact hvdead) (by simp [freshBlk, hcells])) (Evo.dead.trans (Evo.noHome _ (by exact hvdead))) h.below hdN ?_
      simp only [VR, upd, if_true]
      refine ⟨Nat.le_refl _, A, 0, rfl, Nat.le_refl _, fun _ _ => ?_⟩
      unfold rowR
      simp [freshBlk, hcells, upd]
    | some p =>
      obtain ⟨b, ob⟩ := p
      simp only [hφ] at hr'
      have hspare := hr'.2.2
      -- the block has room
      have hat := (h.hs.home hh hok.1).at_
      simp only [hφ] at hat
      obtain ⟨cs, T', fr, olds, e1, e2, e3, e4, e5⟩ := hat
      obtain ⟨rfl, hbb⟩ := e2 hrw
      have hbs : bsize w b = cs.size := by have e1' : w.heap[b]? = some (.cells cs T' (0, 0)) := e1; simp only [bsize, e1']
      have hnmk : (n + m) * sz ≤ k * sz := Nat.mul_le_mul_right _ hle
      have hfit : ob + (s.h hh).cells.length + us.length ≤ cs.size := by
        omega
      have hrunst : (storeCells ⟨b, ob + (s.h hh).cells.length, none⟩ us).run P w = .ok () (w.setRow b (cs.toList.take (ob + (s.h hh).cells.length) ++ us ++ cs.toList.drop (ob + (s.h hh).cells.length + us.length)).toArray) := by
        have := run_storeCells_at P b (ob + (s.h hh).cells.length) T' us 0 cs w e1 (by simpa using hfit) (ones_cell g1 g4)
        simpa using this
      have hw : Wrote w (w.setRow b (cs.toList.take (ob + (s.h hh).cells.length) ++ us ++ cs.toList.drop (ob + (s.h hh).cells.length + us.length)).toArray) b (ob + (s.h hh).cells.length) us := ⟨cs, T', e1, hfit, rfl⟩
      have hrunA : ∀ ad, A = some ad → (storeCells (ad.add (n * sz)) us).run P w = .ok () (w.setRow b (cs.toList.take (ob + (s.h hh).cells.length) ++ us ++ cs.toList.drop (ob + (s.h hh).cells.length + us.length)).toArray) := by
        rcases hr'.2.1 with hk0 | hA
        · -- nothing stands, nothing comes
          have hm : m = 0 := by omega
          subst hm
          have hus : us = [] := List.eq_nil_of_length_eq_zero (by omega)
          subst hus
          intro ad _
          simp only [List.append_nil, List.length_nil, Nat.add_zero, List.take_append_drop]
          rw [setRow_self w b _ T' (0, 0) (by simpa using e1)]
          rfl
        · subst hA
          intro ad ha
          injection ha with ha; subst ha
          rw [add_at, show ob + off + n * sz = ob + (s.h hh).cells.length by omega]
          exact hrunst
      have hnoneA : A = none → (w.setRow b (cs.toList.take (ob + (s.h hh).cells.length) ++ us ++ cs.toList.drop (ob + (s.h hh).cells.length + us.length)).toArray) = w := by
        intro hA
        rcases hr'.2.1 with hk0 | hA'
        · have hm : m = 0 := by omega
          subst hm
          have hus : us = [] := List.eq_nil_of_length_eq_zero (by omega)
          subst hus
          simp only [List.append_nil, List.length_nil, Nat.add_zero, List.take_append_drop]
          rw [setRow_self w b _ T' (0, 0) (by simpa using e1)]
        · rw [hA] at hA'; cases hA'
      refine ⟨_, _, upd φ (hom d) (some (b, ob + off)), hin A k _ rfl hle hrunA hnoneA, ?_⟩
      refine h.put (h.hs.appIn (off := off) hok.1 hrw hrow hφ hw g1 g4 g3 (by omega) _ (by exact hvdead) rfl) (Evo.appIn hok.1 hrw hφ hw _ (by exact hvdead)) (hw.bel h.below hbb) hdN ?_
      simp only [VR, upd, if_true]
      refine ⟨Nat.le_refl _, A, k, rfl, by omega, fun _ _ => ?_⟩
      unfold rowR
      simp only [upd, if_true, freshBlk, List.length_append, List.length_drop, Nat.zero_add, Nat.add_zero]
      refine ⟨by omega, ?_, ?_⟩
      · rcases hr'.2.1 with hk0 | hA
        · exact .inl hk0
        · exact .inr hA
      · rw [hw.bsize]; omega
  · -- anew
    obtain ⟨A', k', olds, q1, q2, q3, q4, q5⟩ := row_cells h.hs hv hok.1 hok.2 _ rfl
    injection q1 with q1 _ q1'
    subst q1 q1'
    have hol : (Builtin.firstCells sz n (.slice A n k)).run P w.drew = .ok olds.toArray w.drew := by
      by_cases hne : olds = []
      · subst hne
        have h0 : n * sz = 0 := by simp at q3; omega
        cases A with
        | none => simp [Builtin.firstCells]
        | some ad =>
          simp only [Builtin.firstCells, h0]
          exact run_loadCells_list (P := P) w.drew ad [] (by simp)
      · obtain ⟨b, ob, rfl, hrange⟩ := q5 hne
        refine run_firstCells_some (P := P) w.drew sz n _ n k olds q3 (fun q z hq => ?_)
        rw [add_at]
        exact hrange q z hq
    obtain ⟨cap, hcap, hrun⟩ := hnew A k olds rfl (by omega) hol
    have hp := pushed_drew w (.cells (olds.toArray ++ us.toArray ++ Builtin.zeroCells zc (cap - (n + m))) T)
    have hseg : ((s.h hh).cells.drop off).take (n * sz) = (s.h hh).cells.drop off := List.take_of_length_le (by simp; omega)
    have q2' : VRL (sx w s.h φ w0.heap.size) ((s.h hh).cells.drop off) olds := by
      have : VRL (sx w s.h φ w0.heap.size) (((s.h hh).cells.drop off).take (n * sz)) olds := q2
      rwa [hseg] at this
    refine ⟨_, _, upd φ (hom d) (some (w.heap.size, 0)), hrun, ?_⟩
    have hd0 := h.putN (h.hs.dead (h := hh)) Evo.dead h.below
    have := RelC.newRow (s := { t := s.t, h := (s.dead hh).h }) hd0 hdN hp (cs := (s.h hh).cells.drop off ++ ds) (us := olds ++ us) (by simp only [List.all_append, Bool.and_eq_true]; exact ⟨all_drop hone _, g4⟩) (purL_append (purL_drop hpur _) g3) ((q2'.append g1).evo Evo.dead) (fun j hj => ?_) (n := n + m) (sz := sz) (k := cap) (by simp only [List.length_append, List.length_drop]; omega) hcap ?_ ?_
    · exact this
    · simp only [List.append_toArray, List.getElem?_toArray, Array.getElem?_append, List.size_toArray, List.length_append] at hj ⊢
      rw [if_pos (by simpa using hj), List.getElem?_eq_getElem]
    · simp only [Array.size_append, List.size_toArray, size_zeroCells, hzc, q3, g2]
      rw [← Nat.add_mul, ← Nat.add_mul]
      exact Nat.mul_le_mul_right _ (by omega)
    · simp only [Array.size_append, List.size_toArray, List.length_append]; omega

theorem snd_appRow (h : RelC φ w0 N s a w) {op : Oper} (hd : ∀ x, op.dst = some x → x < N) {c : Call} (ho : op.op = .call c) (hc : c.callee = .builtin .append) {x y : Operand} (hargs : c.args.toList = [x, y]) {t u el : TypeId} (hts : c.argTypes.toList = [t, u]) {ud : TypeDesc} (ht : P.underlying t = some (.slice el)) (hu : P.underlying u = some ud) (hnot : ∀ k, ud ≠ .int k) {i : TypeInfo} (hi : P.info? el = some i) {z : List IV} (hz : zeroL P el = some z) (hzl : z.length = P.cellsOf el)
    {x' y' : Opd} (hx : opd x = some x') (hy : opd y = some y') {sz bytes : Nat} (hsz : sz = P.cellsOf el) (hby : bytes = i.bytes) (he : act s op.dst (.app sz bytes x' y') = some s') : SndA P w0 N a w op s' := by
  subst hsz hby
  simp only [act] at he
  split at he
  · rename_i d hh off n sz' ver v hdst hgx hgy
    split at he
    · rename_i m ds hmore
      split at he
      · rename_i hcond
        obtain ⟨hok, hrw, hrow, rfl, hoff, hroom, hpos⟩ := hcond
        injection he with he; subst he
        have hvx := get_VR h hx hgx
        have hvy := get_VR h hy hgy
        obtain ⟨i', zv, hi', hzv, hzz, _, _⟩ := zeroL_VR hz (sx w s.h φ w0.heap.size)
        rw [hi] at hi'; injection hi' with hi'; subst hi'
        obtain ⟨us, g1, g2, g3, g4, g5, g6, _⟩ := more_run (P := P) h hmore hvy
        simp only [roomy, Bool.and_eq_true, decide_eq_true_eq] at hroom
        have hzc : zv.cells.size = P.cellsOf el := by have := hzz.length; simp only [Array.length_toList] at this; omega
        obtain ⟨rv, w', φ', hrun, hrel⟩ := app_row (P := P) h (d := d) (hd d hdst) hvx hok hrw hrow hoff hpos g1 g2 g3 g4 (run := fun rv w1 => (Builtin.append_ #[t, u] op.type #[a.eval x, a.eval y]).run P w = .ok rv w1) (T := el) (zc := zv.cells) hzc
          (fun A k w1 hA hle hst hnone => by rw [hA]; exact run_append_in (P := P) ht hu hnot hi op.type g5 (g6 w (fun _ _ _ h => h)) hle hst hnone)
          (fun A k olds hA hgt hold => by rw [hA]; exact run_append_new (P := P) ht hu hnot hi hzv op.type g5 hold (g6 w.drew (cells_drew w)) hgt (by omega) (by omega))
        exact ⟨rv, w', φ', .inl (callb_run ho hc hargs hts hrun), by rw [hdst]; exact hrel⟩
      · cases he
    · cases he
  · cases he

theorem run_appendZ_in {t u el : TypeId} {k0 : IntKind} {i : TypeInfo} {z : Value} (ht : P.underlying t = some (.slice el)) (hu : P.underlying u = some (.int k0)) (hi : P.info? el = some i) (hzv : i.zero = some z) (hzs : z.cells.size = P.cellsOf el) (ty : TypeId)
    {A : Option Addr} {n k : Nat} {kk : IntKind} {l : Int} (h0 : 0 ≤ l) (hroom : l * i.bytes ≤ 2 ^ 44) (h63 : l ≤ 2 ^ 44) (hle : n + l.toNat ≤ k) {w1 : World} (hst : ∀ ad, A = some ad → (storeCells (ad.add (n * P.cellsOf el)) (madeCells z.cells (l.toNat * P.cellsOf el)).toList).run P w = .ok () w1) (hnone : A = none → w1 = w) :
    (Builtin.append_ #[t, u] ty #[.slice A n k, .int kk l]).run P w = .ok (.slice A (n + l.toNat) k) w1 := by
  have wl : IntKind.i64.wrap l = l := by rw [IntKind.wrap_i64]; omega
  have n1 : ¬ l < 0 := by omega
  have n2 : ¬ (l * i.bytes > 2 ^ 48) := by omega
  have hti : ∀ w, (typeInfo el).run P w = .ok i w := fun w => by simp [typeInfo, hi]
  unfold Builtin.append_
  simp only [List.getElem?_toArray, List.getElem?_cons_zero, List.getElem?_cons_succ, Sem.run_bind, run_underlying ht, run_underlying hu, run_sizeOf w hi, Result.andThen_ok, Sem.run_pure, asInt, asIntOf, wl, if_true, if_neg n1, hti, if_neg n2, if_pos hle, Bool.not_true, Bool.false_eq_true, if_false]
  by_cases hn : l.toNat * P.cellsOf el = 0
  · simp only [if_pos hn, Sem.run_pure, Result.andThen_ok]
    rw [hn] at hst
    cases A with
    | none => rw [hnone rfl]; rfl
    | some ad =>
      have := hst ad rfl
      simp only [madeCells, Array.range_zero', Array.map_empty] at this
      simp only [Sem.run_bind, this, Result.andThen_ok, Sem.run_pure]
  · simp only [if_neg hn, Sem.run_bind, run_zero hi hzv, Result.andThen_ok, Sem.run_pure]
    have hzm : Builtin.zeroCells z.cells l.toNat = madeCells z.cells (l.toNat * P.cellsOf el) := by unfold Builtin.zeroCells madeCells; rw [hzs]
    rw [hzm]
    cases A with
    | none => rw [hnone rfl]; rfl
    | some ad => simp only [Sem.run_bind, hst ad rfl, Result.andThen_ok, Sem.run_pure]

theorem run_appendZ_new {t u el : TypeId} {k0 : IntKind} {i : TypeInfo} {z : Value} (ht : P.underlying t = some (.slice el)) (hu : P.underlying u = some (.int k0)) (hi : P.info? el = some i) (hzv : i.zero = some z) (hzs : z.cells.size = P.cellsOf el) (ty : TypeId)
    {A : Option Addr} {n k : Nat} {kk : IntKind} {l : Int} (h0 : 0 ≤ l) (hroom1 : l * i.bytes ≤ 2 ^ 44) (h63 : l ≤ 2 ^ 44) {olds : List Value} (ho : (Builtin.firstCells (P.cellsOf el) n (.slice A n k)).run P w.drew = .ok olds.toArray w.drew) (hgt : k < n + l.toNat) (hroom : (n + l.toNat) * i.bytes ≤ 140737488355328) (h62 : n + l.toNat ≤ 2 ^ 62) :
    ∃ cap, n + l.toNat ≤ cap ∧ (Builtin.append_ #[t, u] ty #[.slice A n k, .int kk l]).run P w = .ok (.slice (some ⟨w.heap.size, 0, none⟩) (n + l.toNat) cap) (w.drew.alloc (.cells (olds.toArray ++ (madeCells z.cells (l.toNat * P.cellsOf el)).toList.toArray ++ Builtin.zeroCells z.cells (cap - (n + l.toNat))) el)) := by
  refine ⟨grownCap w (n + l.toNat) k el, grownCap_ge _ _ _ _, ?_⟩
  have wl : IntKind.i64.wrap l = l := by rw [IntKind.wrap_i64]; omega
  have n1 : ¬ l < 0 := by omega
  have n2 : ¬ (l * i.bytes > 2 ^ 48) := by omega
  have hti : ∀ w, (typeInfo el).run P w = .ok i w := fun w => by simp [typeInfo, hi]
  have hfit := growslice_fits hgt hroom
  have h1 : ¬ (((n + l.toNat : Nat) : Int) > IntKind.i64.max) := by
    simp only [IntKind.max, IntKind.signed, IntKind.bits, if_true]; omega
  have h2 : ¬ (Builtin.nextslicecap (n + l.toNat) k * i.bytes > 2 ^ 48) := by omega
  have hch : (choose (.appendCap (n + l.toNat) k el)).run P w = .ok (grownCap w (n + l.toNat) k el) w.drew := by
    rw [run_choose]
    simp [Question.forced, grownCap]
  have hzm : Builtin.zeroCells z.cells l.toNat = madeCells z.cells (l.toNat * P.cellsOf el) := by unfold Builtin.zeroCells madeCells; rw [hzs]
  unfold Builtin.append_
  simp only [List.getElem?_toArray, List.getElem?_cons_zero, List.getElem?_cons_succ, Sem.run_bind, run_underlying ht, run_underlying hu, run_sizeOf w hi, Result.andThen_ok, Sem.run_pure, asInt, asIntOf, wl, if_true, if_neg n1, hti, if_neg n2, if_neg (Nat.not_le.2 hgt), Bool.not_true, Bool.false_eq_true, if_false, Sem.run_ite, if_neg (show ¬ (((n + l.toNat : Nat) : Int) > IntKind.i64.max ∧ (True ∨ i.bytes = 0)) from fun h => h1 h.1), if_neg h2, hch, run_askRoom, ho]
  have happ : ∀ w1 : World, (if l.toNat * P.cellsOf el = 0 then (Pure.pure #[] : Sem (Array Value)) else do Pure.pure (Builtin.zeroCells (← zeroValue el).cells l.toNat)).run P w1 = .ok (madeCells z.cells (l.toNat * P.cellsOf el)) w1 := by
    intro w1
    by_cases hn : l.toNat * P.cellsOf el = 0
    · rw [if_pos hn, hn]; simp [madeCells]
    · rw [if_neg hn]; simp only [Sem.run_bind, run_zero hi hzv, Result.andThen_ok, Sem.run_pure, hzm]
  simp only [happ, Result.andThen_ok, run_zero hi hzv, newRow, Sem.run_bind, run_newObj, Sem.run_pure, World.alloc_eq, Array.toArray_toList]
  have hfin : (if l.toNat * P.cellsOf el = 0 then (Result.ok #[] w.drew : Result (Array Value)) else Result.ok (Builtin.zeroCells z.cells l.toNat) w.drew) = Result.ok (madeCells z.cells (l.toNat * P.cellsOf el)) w.drew := by
    by_cases hn : l.toNat * P.cellsOf el = 0
    · rw [if_pos hn, hn]; simp [madeCells]
    · rw [if_neg hn, hzm]
  rw [hfin]
  rfl

theorem snd_appZ (h : RelC φ w0 N s a w) {op : Oper} (hd : ∀ x, op.dst = some x → x < N) {c : Call} (ho : op.op = .call c) (hc : c.callee = .builtin .append) {x y : Operand} (hargs : c.args.toList = [x, y]) {t u el : TypeId} (hts : c.argTypes.toList = [t, u]) {k0 : IntKind} (ht : P.underlying t = some (.slice el)) (hu : P.underlying u = some (.int k0)) {i : TypeInfo} (hi : P.info? el = some i) {z : List IV} (hz : zeroL P el = some z)
    {x' y' : Opd} (hx : opd x = some x') (hy : opd y = some y') {sz bytes : Nat} (hsz : sz = P.cellsOf el) (hby : bytes = i.bytes) (he : act s op.dst (.appZ sz bytes z x' y') = some s') : SndA P w0 N a w op s' := by
  subst hsz hby
  simp only [act] at he
  split at he
  · rename_i d hh off n sz' ver k1 l hdst hgx hgy
    split at he
    · rename_i hcond
      obtain ⟨hok, hrw, hrow, rfl, hoff, h0, hroom, hpos, hzl⟩ := hcond
      injection he with he; subst he
      have hvx := get_VR h hx hgx
      have hvy := (get_VR h hy hgy).int_
      obtain ⟨i', zv, hi', hzv, hzz, h1z, hpz⟩ := zeroL_VR hz (sx w s.h φ w0.heap.size)
      rw [hi] at hi'; injection hi' with hi'; subst hi'
      simp only [roomy, Bool.and_eq_true, decide_eq_true_eq] at hroom
      have hzc : zv.cells.size = P.cellsOf el := by have := hzz.length; simp only [Array.length_toList] at this; omega
      have hle1 : l.toNat * i.bytes ≤ (n + l.toNat) * i.bytes := Nat.mul_le_mul_right _ (by omega)
      have hl1 : l * i.bytes ≤ 2 ^ 44 := by
        have : ((l.toNat * i.bytes : Nat) : Int) ≤ 2 ^ 44 := by omega
        rwa [Int.natCast_mul, Int.toNat_of_nonneg h0] at this
      have hmade := made_VRL hzz l.toNat
      rw [hzl] at hmade
      obtain ⟨rv, w', φ', hrun, hrel⟩ := app_row (P := P) h (d := d) (m := l.toNat) (hd d hdst) hvx hok hrw hrow hoff hpos hmade (by simp [size_madeCells]) (repl_pur _ hpz) (repl_all _ h1z) (run := fun rv w1 => (Builtin.append_ #[t, u] op.type #[a.eval x, a.eval y]).run P w = .ok rv w1) (T := el) (zc := zv.cells) hzc
        (fun A k w1 hA hle hst hnone => by rw [hA, hvy]; exact run_appendZ_in (P := P) ht hu hi hzv hzc op.type h0 hl1 (by omega) hle hst hnone)
        (fun A k olds hA hgt hold => by rw [hA, hvy]; exact run_appendZ_new (P := P) ht hu hi hzv hzc op.type h0 hl1 (by omega) hold hgt (by omega) (by omega))
      exact ⟨rv, w', φ', .inl (callb_run ho hc hargs hts hrun), by rw [hdst]; exact hrel⟩
    · cases he
  · rename_i d f n cs k1 l hdst hgx hgy
    split at he
    · rename_i hcond
      obtain ⟨hf, hlen, h0, hm0, hroom, hpos, hzl⟩ := hcond
      injection he with he; subst he
      have hvx := get_VR h hx hgx
      have hvy := (get_VR h hy hgy).int_
      obtain ⟨i', zv, hi', hzv, hzz, h1z, hpz⟩ := zeroL_VR hz (sx w s.h φ w0.heap.size)
      rw [hi] at hi'; injection hi' with hi'; subst hi'
      simp only [roomy, Bool.and_eq_true, decide_eq_true_eq] at hroom
      have hzc : zv.cells.size = P.cellsOf el := by have := hzz.length; simp only [Array.length_toList] at this; omega
      have hle1 : l.toNat * i.bytes ≤ (n + l.toNat) * i.bytes := Nat.mul_le_mul_right _ (by omega)
      have hl1 : l * i.bytes ≤ 2 ^ 44 := by
        have : ((l.toNat * i.bytes : Nat) : Int) ≤ 2 ^ 44 := by omega
        rwa [Int.natCast_mul, Int.toNat_of_nonneg h0] at this
      have hmade := made_VRL hzz l.toNat
      rw [hzl] at hmade
      simp only [VR] at hvx
      obtain ⟨A, k, olds, hax, hnk, hfull, _, hpo, h1o, hlo, hato⟩ := hvx
      have hk := hfull hf
      subst hk
      by_cases hm : l = 0
      · subst hm
        have hn0 : k = 0 := by omega
        subst hn0
        have hcs : cs = [] := List.eq_nil_of_length_eq_zero (by omega)
        subst hcs
        have hrow := h.emptyRow (d := d) (hd d hdst) (sz := P.cellsOf el) (A := A)
        refine ⟨.slice A 0 0, w, _, .inl (callb_run ho hc hargs hts ?_), by rw [hdst]; exact hrow⟩
        rw [hax, hvy]
        have := run_appendZ_in (P := P) (w := w) ht hu hi hzv hzc op.type (A := A) (n := 0) (k := 0) (kk := k1) (l := 0) (by omega) (by omega) (by omega) (Nat.le_refl _) (w1 := w) (fun ad _ => by simp [madeCells]; rfl) (fun _ => rfl)
        exact this
      · have hold := olds_run (P := P) (k := k) hlo hato hlen w.drew (cells_drew w)
        obtain ⟨cap, hcap, hrun⟩ := run_appendZ_new (P := P) ht hu hi hzv hzc op.type (A := A) (n := k) (k := k) (kk := k1) h0 hl1 (by omega) hold (by omega) (by omega) (by omega)
        have hlo' := hlo.length
        have hds' := hmade.length
        have hrl : (repl l.toNat z).length = l.toNat * P.cellsOf el := by rw [repl_length, hzl]
        have hrow := h.newRow (d := d) (hd d hdst) (pushed_drew w _) (cs := cs ++ repl l.toNat z) (us := olds ++ (madeCells zv.cells (l.toNat * P.cellsOf el)).toList) (cells := olds.toArray ++ (madeCells zv.cells (l.toNat * P.cellsOf el)).toList.toArray ++ Builtin.zeroCells zv.cells (cap - (k + l.toNat))) (T := el)
          (by simp only [List.all_append, h1o, repl_all _ h1z, Bool.and_self]) (purL_append hpo (repl_pur _ hpz)) (hlo.append hmade) (fun j hj => by
            simp only [List.append_toArray, List.getElem?_toArray, Array.getElem?_append, List.size_toArray, List.length_append] at hj ⊢
            rw [if_pos (by simpa using hj), List.getElem?_eq_getElem]) (n := k + l.toNat) (sz := P.cellsOf el) (by simp only [List.length_append, hrl]; rw [Nat.add_mul]; omega) hcap (by
            simp only [Array.size_append, List.size_toArray, size_zeroCells, hzc, hlo', hlen, hds', hrl]
            rw [← Nat.add_mul, ← Nat.add_mul]
            exact Nat.mul_le_mul_right _ (by omega)) (by simp only [Array.size_append, List.size_toArray, List.length_append]; omega)
        exact ⟨_, _, _, .inl (callb_run ho hc hargs hts (by rw [hax, hvy]; exact hrun)), by rw [hdst]; exact hrow⟩
    · cases he
  · cases he
end
end Go.Proofs.YtilbipknodpmmaaDoor

/-! All operations at once. -/
set_option linter.unusedSectionVars false
set_option linter.unusedVariables false
set_option linter.unusedSimpArgs false
namespace Go.Proofs.YtilbipknodpmmaaDoor
open Go.RowKit

section
variable [Off] [Gh] [Old] {P : Program} {φ : Nat → Option (Nat × Nat)} {w0 : World} {N : Nat} {s s' : St} {a : Act} {w w' : World} {d : Nat} {e : Eff}

theorem opds_nil {l : List Operand} (h : opds l = some []) : l = [] := by
  cases l with
  | nil => rfl
  | cons x l =>
    simp only [opds] at h
    split at h
    · simp at h
    · cases h
theorem opds_cons {l : List Operand} {y' : Opd} {ys : List Opd} (h : opds l = some (y' :: ys)) : ∃ x xs, l = x :: xs ∧ opd x = some y' ∧ opds xs = some ys := by
  cases l with
  | nil => simp [opds] at h
  | cons x l =>
    simp only [opds] at h
    split at h
    · rename_i p q hp hq
      simp only [Option.some.injEq, List.cons.injEq] at h
      obtain ⟨rfl, rfl⟩ := h
      exact ⟨x, l, rfl, hp, hq⟩
    · cases h
theorem opds_two {l : List Operand} {x' y' : Opd} (h : opds l = some [x', y']) : ∃ x y, l = [x, y] ∧ opd x = some x' ∧ opd y = some y' := by
  obtain ⟨x, l1, rfl, hx, h⟩ := opds_cons h
  obtain ⟨y, l2, rfl, hy, h⟩ := opds_cons h
  have := opds_nil h
  subst this
  exact ⟨x, y, rfl, hx, hy⟩

theorem neu_snd (h : RelC φ w0 N s a w) (hd : d < N) {o : Oper} {hint m : MOp} (hm : cop P o hint = some m) (he : neu s d m = some e) : Snd P w0 N s a w d o e := by
  unfold cop at hm
  split at hm
  · rename_i x ho
    split at hm
    · rename_i y hy; injection hm with hm; subst hm; exact snd_mov h hd (.inl ho) hy he
    · cases hm
  · rename_i x ho
    split at hm
    · rename_i y hy; injection hm with hm; subst hm; exact snd_mov h hd (.inr ho) hy he
    · cases hm
  · rename_i c x y ho
    split at hm
    · rename_i c' x' y' hc hx hy; injection hm with hm; subst hm; exact snd_pick h hd ho hc hx hy he
    · cases hm
  · rename_i t ho
    split at hm
    · rename_i z hz; injection hm with hm; subst hm; exact snd_alloc h hd ho hz he
    · cases hm
  · rename_i t x ho
    split at hm
    · rename_i y hy; injection hm with hm; subst hm; exact snd_box h hd ho hy he
    · cases hm
  · rename_i t ps ho
    split at hm
    · rename_i fs z hu hz
      split at hm
      · rename_i hall
        split at hm
        · rename_i qs hq; injection hm with hm; subst hm; exact snd_build h hd ho hz hq (.inl ⟨fs, hu, hall, rfl⟩) he
        · cases hm
      · cases hm
    · rename_i n el z hu hz
      split at hm
      · rename_i hi
        split at hm
        · rename_i qs hq; injection hm with hm; subst hm; exact snd_build h hd ho hz hq (.inr ⟨n, el, hu, hi, rfl⟩) he
        · cases hm
      · cases hm
    · cases hm
  · rename_i t n ps ho
    split at hm
    · rename_i el hu
      split at hm
      · rename_i i z qs hi hz hq
        split at hm
        · rename_i hle
          split at hm
          · injection hm with hm; subst hm; exact snd_bslR h hd ho hu hz hq hle rfl he
          · injection hm with hm; subst hm; exact snd_bsl h hd ho hu hz hq hle rfl he
        · cases hm
      · cases hm
    · cases hm
  · rename_i t x ho
    split at hm
    · rename_i u i y hu hi hy; injection hm with hm; subst hm; exact snd_load h hd ho hu hi hy rfl rfl he
    · cases hm
  · -- store
    split at hm
    · injection hm with hm; subst hm; simp [neu] at he
    · cases hm
  · rename_i x ho
    split at hm
    · rename_i y hy; injection hm with hm; subst hm; exact snd_chk h hd ho hy he
    · cases hm
  · rename_i op t x y yt ho
    split at hm
    · rename_i x' y' hx hy
      split at hm
      · rename_i hg
        split at hm
        · rename_i neg rl x1 y1
          split at hm
          · rename_i hc; injection hm with hm; subst hm; exact snd_eqv h hd ho hg hc.1 hc.2.1 hc.2.2 hx hy he
          · cases hm
        · cases hm
      · split at hm
        · rename_i hs
          split at hm
          · rename_i hc; injection hm with hm; subst hm; exact snd_nilS h hd ho hs hc.1 hx hy hc.2 he
          · cases hm
        · split at hm
          · rename_i hs'
            split at hm
            · rename_i hc; injection hm with hm; subst hm; exact snd_nilP h hd ho hs' hc.1 hx hy hc.2 he
            · cases hm
          split at hm
          · rename_i hp; injection hm with hm; subst hm; exact snd_bin h hd ho hp hx hy he
          · split at hm
            · rename_i hp; injection hm with hm; subst hm; exact snd_binB h hd ho hp hx hy he
            · cases hm
    · cases hm
  · rename_i op t x ho
    split at hm
    · rename_i y hy; injection hm with hm; subst hm; exact snd_un h hd ho hy he
    · cases hm
  · rename_i src dst x ho
    split at hm
    · rename_i u k y hu hk hy; injection hm with hm; subst hm; exact snd_toInt h hd ho hu hk hy he
    · rename_i y hu hk hy; injection hm with hm; subst hm; exact snd_movS h hd ho hu hk hy he
    · rename_i el y hu hk hy
      split at hm
      · rename_i hel; injection hm with hm; subst hm; exact snd_toStr h hd ho hu hk hel hy he
      · cases hm
    · rename_i el' el y hu hk hy
      split at hm
      · rename_i hel
        split at hm
        · rename_i hsd; subst hsd; injection hm with hm; subst hm; exact snd_mark h hd ho hk hel hy he
        · cases hm
      · cases hm
    · cases hm
  · rename_i t x ho
    split at hm
    · rename_i n el y hu hy; injection hm with hm; subst hm; exact snd_arrOf h hd ho hu hy he
    · cases hm
  · rename_i t l c ho
    split at hm
    · rename_i el l' c' hu hl hc
      split at hm
      · rename_i i z hi hz; injection hm with hm; subst hm; exact snd_mk h hd ho hu hi hz hl hc rfl rfl he
      · cases hm
    · cases hm
  · rename_i t x lo hi mx ho
    split at hm
    · rename_i n el y lo' hi' mx' hu hy h1 h2 h3
      split at hm
      · rename_i hinf; injection hm with hm; subst hm
        split at he
        · exact snd_slArrF h hd ho hu hinf hy h1 h2 h3 rfl he
        · exact snd_slArr h hd ho hu hinf hy h1 h2 h3 rfl he
      · cases hm
    · rename_i el y lo' hi' mx' hu hy h1 h2 h3
      split at hm
      · rename_i hinf; injection hm with hm; subst hm; exact snd_slSl h hd ho hu hinf hy h1 h2 h3 rfl he
      · cases hm
    · rename_i y lo' hi' hu hy h1 h2 h3
      injection hm with hm; subst hm
      have hmx : mx = none := by
        cases mx with
        | none => rfl
        | some z => simp only [opdO] at h3; split at h3 <;> simp at h3
      subst hmx
      exact snd_slStr h hd ho hu hy h1 h2 he
    · cases hm
  · rename_i t x fi ho
    split at hm
    · rename_i fs y hu hy
      split at hm
      · rename_i f hf
        split at hm
        · rename_i hc; injection hm with hm; subst hm; exact snd_fa h hd ho hu hf hc.1 hc.2 hy he
        · cases hm
      · cases hm
    · cases hm
  · rename_i t x fi ho
    split at hm
    · rename_i fs y hu hy
      split at hm
      · rename_i f hf
        split at hm
        · rename_i hc; injection hm with hm; subst hm; exact snd_fld h hd ho hu hf hc.1 hc.2 hy rfl rfl rfl he
        · cases hm
      · cases hm
    · cases hm
  · rename_i t x i ho
    split at hm
    · rename_i n el x' i' hu hx hy
      split at hm
      · rename_i hc; injection hm with hm; subst hm; exact snd_ixArr h hd ho hu hc hx hy he
      · cases hm
    · rename_i el x' i' hu hx hy
      split at hm
      · rename_i hc; injection hm with hm; subst hm; exact snd_ixSl h hd ho hu hc hx hy he
      · cases hm
    · cases hm
  · rename_i t x i ho
    split at hm
    · rename_i n el x' i' hu hx hy
      split at hm
      · rename_i hc; injection hm with hm; subst hm; exact snd_idx h hd ho hu hc.1 hc.2.1 hc.2.2 hx hy rfl rfl he
      · cases hm
    · rename_i x' i' hu hx hy; injection hm with hm; subst hm; exact snd_idxStr h hd ho hu hx hy he
    · cases hm
  · rename_i x i ho
    split at hm
    · rename_i y hy; injection hm with hm; subst hm; exact snd_ext h hd ho hy he
    · cases hm
  · rename_i f first caps ho
    split at hm
    · rename_i hf
      split at hm
      · rename_i cs hc; injection hm with hm; subst hm; exact snd_mkf h hd ho hf hc he
      · cases hm
    · cases hm
  · rename_i c ho
    split at hm
    · -- a call
      split at hm
      · split at hm
        · injection hm with hm; subst hm; cases hint <;> simp [neu] at he
        · cases hm
      · cases hm
    · split at hm
      · injection hm with hm; subst hm; simp [neu] at he
      · cases hm
    · rename_i hc
      split at hm
      · rename_i t x ht hx0
        split at hm
        · rename_i n el o1 hu; injection hm with hm; subst hm; exact snd_lenC h hd ho hc ht hx0 hu he
        · rename_i y hu hy; injection hm with hm; subst hm; exact snd_lenS h hd ho hc ht hx0 hy hu he
        · rename_i el y hu hy; injection hm with hm; subst hm; exact snd_len h hd ho hc ht hx0 hy hu he
        · cases hm
      · cases hm
    · rename_i hc
      split at hm
      · rename_i t u x' y' hts hargs
        obtain ⟨x, y, hl, hx, hy⟩ := opds_two hargs
        split at hm
        · rename_i el ht
          split at hm
          · rename_i i z k hi hz hu
            split at hm
            · injection hm with hm; subst hm; simp [neu] at he
            · cases hm
          · rename_i i z ud hnot hi hz hu
            split at hm
            · rename_i hzl
              injection hm with hm
              have hn' : ∀ k, ud ≠ .int k := fun k e => hnot k e
              have : m = .appP (P.cellsOf el) i.bytes x' y' ∨ m = .app (P.cellsOf el) i.bytes x' y' := by
                subst hm; cases hint <;> first | exact .inl rfl | exact .inr rfl
              rcases this with rfl | rfl
              · exact snd_appP h hd ho hc hl hts ht hu hn' hi hz hx hy rfl rfl he
              · exact snd_app h hd ho hc hl hts ht hu hn' hi hz hzl hx hy rfl rfl he
            · cases hm
          · cases hm
        · cases hm
      · cases hm
    · split at hm
      · split at hm
        · split at hm
          · injection hm with hm; subst hm; simp [neu] at he
          · cases hm
        · cases hm
      · cases hm
    · rename_i hc
      split at hm
      · rename_i t x ht hx0
        split at hm
        · rename_i el y hu hy; injection hm with hm; subst hm; exact snd_cap h hd ho hc ht hx0 hy hu he
        · cases hm
      · cases hm
    · rename_i hc
      split at hm
      · rename_i x' y' hargs
        obtain ⟨x, y, hl, hx, hy⟩ := opds_two hargs
        injection hm with hm; subst hm; exact snd_mnx h hd ho (isMin := true) hc hl hx hy he
      · cases hm
    · rename_i hc
      split at hm
      · rename_i x' y' hargs
        obtain ⟨x, y, hl, hx, hy⟩ := opds_two hargs
        injection hm with hm; subst hm; exact snd_mnx h hd ho (isMin := false) hc hl hx hy he
      · cases hm
    · cases hm
  · injection hm with hm; subst hm; simp [neu] at he
  · injection hm with hm; subst hm; simp [neu] at he
  · cases hm

theorem act_snd (h : RelC φ w0 N s a w) {o : Oper} (hd : ∀ x, o.dst = some x → x < N) {hint m : MOp} (hm : cop P o hint = some m) (he : act s o.dst m = some s') : SndA P w0 N a w o s' := by
  unfold cop at hm
  split at hm
  case h_9 t x y ho =>
    split at hm
    · rename_i i x' y' hi hx hy; injection hm with hm; subst hm; exact snd_store h hd ho hi hx hy rfl he
    · cases hm
  case h_23 c ho =>
    split at hm
    · split at hm
      · split at hm
        · injection hm with hm; subst hm; cases hint <;> simp [act] at he
        · cases hm
      · cases hm
    · split at hm
      · injection hm with hm; subst hm; simp [act] at he
      · cases hm
    · split at hm
      · split at hm <;> first | (injection hm with hm; subst hm; simp [act] at he; done) | (cases hm; done)
      · cases hm
    · rename_i hc
      split at hm
      · rename_i t u x' y' hts hargs
        obtain ⟨x, y, hl, hx, hy⟩ := opds_two hargs
        split at hm
        · rename_i el ht
          split at hm
          · rename_i i z k hi hz hu
            split at hm
            · injection hm with hm; subst hm; exact snd_appZ h hd ho hc hl hts ht hu hi hz hx hy rfl rfl he
            · cases hm
          · rename_i i z ud hnot hi hz hu
            split at hm
            · rename_i hzl
              injection hm with hm
              have hn' : ∀ k, ud ≠ .int k := fun k e => hnot k e
              have : m = .appP (P.cellsOf el) i.bytes x' y' ∨ m = .app (P.cellsOf el) i.bytes x' y' := by
                subst hm; cases hint <;> first | exact .inl rfl | exact .inr rfl
              rcases this with rfl | rfl
              · simp [act] at he
              · exact snd_appRow h hd ho hc hl hts ht hu hn' hi hz hzl hx hy rfl rfl he
            · cases hm
          · cases hm
        · cases hm
      · cases hm
    · rename_i hc
      split at hm
      · rename_i t ts x' y' hts hargs
        obtain ⟨x, y, hl, hx, hy⟩ := opds_two hargs
        split at hm
        · rename_i el ht
          split at hm
          · rename_i i hi; injection hm with hm; subst hm; exact snd_copy h hd ho hc hl hts ht hi hx hy rfl he
          · cases hm
        · cases hm
      · cases hm
    · split at hm
      · split at hm <;> first | (injection hm with hm; subst hm; simp [act] at he; done) | (cases hm; done)
      · cases hm
    · split at hm <;> first | (injection hm with hm; subst hm; simp [act] at he; done) | (cases hm; done)
    · split at hm <;> first | (injection hm with hm; subst hm; simp [act] at he; done) | (cases hm; done)
    · cases hm
  all_goals
    exfalso
    repeat' split at hm
    all_goals first
      | (injection hm with hm; subst hm; simp [act] at he; done)
      | (cases hm; done)
end
end Go.Proofs.YtilbipknodpmmaaDoor
