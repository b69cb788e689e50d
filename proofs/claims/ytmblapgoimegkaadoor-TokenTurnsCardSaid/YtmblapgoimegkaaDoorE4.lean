/- Operations that read and reckon. -/
import Derived.Test.YtmblapgoimegkaaDoorE3
import Derived.Deep.MidRow
set_option linter.unusedSectionVars false
set_option linter.unusedVariables false
set_option linter.unusedSimpArgs false
namespace Go.Proofs.YtmblapgoimegkaaDoor
open Go.RowKit

theorem add_at (b o j : Nat) : (⟨b, o, none⟩ : Addr).add j = ⟨b, o + j, none⟩ := Addr.add_mid b o j
theorem addr_eta {a : Addr} (h : a.spot = none) : a = ⟨a.block, a.off, none⟩ := by cases a; simp at h; subst h; rfl

theorem CellsAt.range {c : Sx} {a : Addr} {us : List Value} (h : CellsAt c (some a) us) : c.w.rangeAt a.block a.off us := by
  intro j v hv
  obtain ⟨hj, rfl⟩ := List.getElem?_eq_some_iff.1 hv
  obtain ⟨a', ha, _, _, hc⟩ := h j hj
  injection ha with ha; subst ha
  exact hc

theorem rangeAt_take {w : World} {b o : Nat} {us : List Value} (h : w.rangeAt b o us) (n : Nat) : w.rangeAt b o (us.take n) := by
  intro j v hv
  rw [List.getElem?_take] at hv
  split at hv
  · exact h j v hv
  · cases hv
theorem rangeAt_drop {w : World} {b o : Nat} {us : List Value} (h : w.rangeAt b o us) (n : Nat) : w.rangeAt b (o + n) (us.drop n) := by
  intro j v hv
  rw [List.getElem?_drop] at hv
  have := h (n + j) v hv
  rwa [Nat.add_assoc]

/-- a home's cells in memory -/
theorem HS.cells {c : Sx} (h : HS c) {x : Nat} (hl : (c.H x).live = true) {b o : Nat} (hp : c.φ x = some (b, o)) : ∃ us, VRL c (c.H x).cells us ∧ c.w.rangeAt b o us := by
  have := (h.home x hl).at_
  rw [hp] at this
  obtain ⟨cs, T, fr, us, h1, _, h3, h4, _⟩ := this
  refine ⟨us, h3, fun j v hv => ?_⟩
  obtain ⟨hj, rfl⟩ := List.getElem?_eq_some_iff.1 hv
  rw [cell_of_row c.w b (o + j) cs T fr h1]
  exact h4 j hj

theorem all_take {l : List IV} {p : IV → Bool} (h : l.all p = true) (n : Nat) : (l.take n).all p = true := by
  rw [List.all_eq_true] at *
  exact fun x hx => h x (List.mem_of_mem_take hx)
theorem all_drop {l : List IV} {p : IV → Bool} (h : l.all p = true) (n : Nat) : (l.drop n).all p = true := by
  rw [List.all_eq_true] at *
  exact fun x hx => h x (List.mem_of_mem_drop hx)
theorem purL_all (l : List IV) : IV.purL l = l.all IV.pur := by
  induction l with
  | nil => rfl
  | cons x xs ih => simp [IV.purL, ih]
theorem purL_take {l : List IV} (h : IV.purL l = true) (n : Nat) : IV.purL (l.take n) = true := by rw [purL_all] at *; exact all_take h n
theorem purL_drop {l : List IV} (h : IV.purL l = true) (n : Nat) : IV.purL (l.drop n) = true := by rw [purL_all] at *; exact all_drop h n
theorem purL_append {l m : List IV} (h : IV.purL l = true) (h' : IV.purL m = true) : IV.purL (l ++ m) = true := by rw [purL_all] at *; simp [h, h']

/-- what a pointer shows: the cells behind it, and where they lie -/
theorem ptr_cells {c : Sx} (hs : HS c) {h off ver : Nat} {u : Value} (hv : VR c (.ptr h off ver) u) (hl : (c.H h).live = true) (he : (c.H h).ver = ver) :
    (∃ b o us, u = .pointer (some ⟨b, o, none⟩) ∧ VRL c ((c.H h).cells.drop off) us ∧ c.w.rangeAt b o us) := by
  simp only [VR] at hv
  obtain ⟨_, _, h3⟩ := hv
  have hp := h3 hl he
  unfold ptrR at hp
  cases hφ : c.φ h with
  | none => rw [hφ] at hp; exact hp.elim
  | some p =>
    obtain ⟨b, o⟩ := p
    rw [hφ] at hp
    obtain ⟨us, h1, h2⟩ := hs.cells hl hφ
    exact ⟨b, o + off, us.drop off, hp, h1.drop off, rangeAt_drop h2 off⟩

theorem row_cells {c : Sx} (hs : HS c) {h off n sz ver : Nat} {u : Value} (hv : VR c (.row h off n sz ver) u) (hl : (c.H h).live = true) (he : (c.H h).ver = ver) (m : Nat) (hm : m = n * sz) :
    ∃ A k us, u = .slice A n k ∧ VRL c (((c.H h).cells.drop off).take m) us ∧ us.length = m ∧ n ≤ k ∧ (us ≠ [] → ∃ b o, A = some ⟨b, o, none⟩ ∧ c.w.rangeAt b o us) := by
  subst hm
  simp only [VR] at hv
  obtain ⟨_, A, k, rfl, h3, h4⟩ := hv
  have hr := h4 hl he
  unfold rowR at hr
  cases hφ : c.φ h with
  | none =>
    rw [hφ] at hr
    have h0 := (hs.home h hl).at_
    rw [hφ] at h0
    have hk : n = 0 := by omega
    subst hk
    exact ⟨A, k, [], rfl, by simp [VRL], by simp, h3, fun h => (h rfl).elim⟩
  | some p =>
    obtain ⟨b, o⟩ := p
    rw [hφ] at hr
    obtain ⟨us, h1, h2⟩ := hs.cells hl hφ
    have hlen := h1.length
    refine ⟨A, k, (us.drop off).take (n * sz), rfl, (h1.drop off).take _, by simp [hlen]; have := hr.1; omega, h3, fun hne => ⟨b, o + off, ?_, rangeAt_take (rangeAt_drop h2 off) _⟩⟩
    rcases hr.2.1 with hk | hA
    · exfalso
      have hn : n = 0 := by omega
      subst hn
      simp at hne
    · exact hA

/-- the elements of a slice, as memory shows them -/
theorem elems_cells {c : Sx} (hs : HS c) {s : St} (hH : s.h = c.H) {sz : Nat} {v : IV} {n : Nat} {cs : List IV} (he : s.elems sz v = some (n, cs)) {u : Value} (hv : VR c v u) :
    ∃ A k us, u = .slice A n k ∧ VRL c cs us ∧ us.length = n * sz ∧ IV.purL cs = true ∧ cs.all IV.one = true ∧ (us ≠ [] → ∃ b o, A = some ⟨b, o, none⟩ ∧ c.w.rangeAt b o us) := by
  cases v <;> simp only [St.elems] at he <;> try (cases he; done)
  · rename_i f m ds
    split at he
    · rename_i hl
      simp only [Option.some.injEq, Prod.mk.injEq] at he
      obtain ⟨rfl, rfl⟩ := he
      simp only [VR] at hv
      obtain ⟨A, k, us, rfl, h2, h3, h4, h5, h6, h7, h8⟩ := hv
      have hlen := h7.length
      refine ⟨A, k, us, rfl, h7, by omega, h5, h6, fun hne => ?_⟩
      obtain ⟨a, rfl, hsp, _, _⟩ := h8 0 (List.length_pos_iff.2 hne)
      refine ⟨a.block, a.off, by rw [addr_eta hsp], h8.range⟩
    · cases he
  · rename_i h off m sz' ver
    split at he
    · rename_i hc
      obtain ⟨h1, rfl, h3⟩ := hc
      simp only [Option.some.injEq, Prod.mk.injEq] at he
      obtain ⟨rfl, rfl⟩ := he
      simp only [St.ok, Bool.and_eq_true, beq_iff_eq] at h1
      rw [hH] at h1
      obtain ⟨A, k, us, rfl, g2, g3, g4, g5⟩ := row_cells hs hv h1.1 h1.2 _ rfl
      have hseg : s.seg h off (m * sz') = ((c.H h).cells.drop off).take (m * sz') := by simp only [St.seg, hH]
      have hone := (hs.home h h1.1).one
      refine ⟨A, k, us, rfl, by rw [hseg]; exact g2, g3, ?_, by rw [hseg]; exact all_take (all_drop hone _) _, g5⟩
      rcases h3 with h3 | h3
      · rw [hseg]; rw [hH] at h3; exact purL_take (purL_drop ((hs.home h h1.1).row h3) _) _
      · exact h3
    · cases he

/-- 'load t' of cells that lie there -/
theorem run_load_at {P : Program} {w : World} {b o : Nat} {us : List Value} (hr : w.rangeAt b o us) {t : TypeId} {d : TypeDesc} (hu : P.underlying t = some d) {i : TypeInfo} (hi : P.info? t = some i)
    (hl : us.length = if aggT P t then P.cellsOf t else 1) :
    ∃ rv, (Instr.loadAt t (.pointer (some ⟨b, o, none⟩))).run P w = .ok rv w ∧ (aggT P t = true → rv = .agg us.toArray) ∧ (aggT P t = false → us = [rv]) := by
  by_cases hg : aggT P t = true
  · refine ⟨.agg us.toArray, run_loadAt_mid w b o t us d hr hu ?_ ?_, fun _ => rfl, fun h => by simp [hg] at h⟩
    · unfold aggT at hg; rw [hu] at hg; cases d <;> simp_all
    · rw [hi]; rw [if_pos hg] at hl; simp [Program.cellsOf, hi] at hl; simp [hl]
  · have hg' : aggT P t = false := by simpa using hg
    rw [if_neg hg] at hl
    obtain ⟨u, rfl⟩ := List.length_eq_one_iff.1 hl
    refine ⟨u, ?_, fun h => absurd h hg, fun _ => rfl⟩
    have hagg : (isAgg t).run P w = .ok false w := by
      unfold isAgg
      rw [Sem.run_bind, run_underlying hu w]
      unfold aggT at hg'; rw [hu] at hg'
      cases d <;> simp_all
    have hc := hr 0 u (by simp)
    simp only [Instr.loadAt, Instr.sureAddr, Sem.run_bind, Sem.run_pure, Result.andThen_ok, loadVar, hagg, Bool.false_eq_true, if_false, run_load]
    simp only [Nat.add_zero] at hc
    rw [hc]

theorem asV_VR {c : Sx} {ag : Bool} {cs : List IV} {v : IV} (h : asV ag cs = some v) {us : List Value} (hl : VRL c cs us) (h1 : cs.all IV.one = true) {rv : Value} (ha : ag = true → rv = .agg us.toArray) (hb : ag = false → us = [rv]) : VR c v rv := by
  cases ag with
  | true =>
    simp only [asV, if_true, Option.some.injEq] at h
    subst h
    rw [ha rfl]
    simp only [VR]
    exact ⟨us, rfl, h1, hl⟩
  | false =>
    simp only [asV, Bool.false_eq_true, if_false] at h
    split at h
    · injection h with h; subst h
      rw [hb rfl] at hl
      simp only [VRL] at hl
      obtain ⟨u, us', e, h2, _⟩ := hl
      injection e with e1 _
      rw [e1]; exact h2
    · cases h

section
variable [Off] [Gh] [Old] {P : Program} {φ : Nat → Option (Nat × Nat)} {w0 : World} {N : Nat} {s : St} {a : Act} {w : World} {d : Nat} {e : Eff}

/-- what is to be shown of an operation -/
def Snd (P : Program) (w0 : World) (N : Nat) (s : St) (a : Act) (w : World) (d : Nat) (o : Oper) (e : Eff) : Prop :=
  ∃ rv w' φ', (execOp a.eval o).run P w = .ok (.value rv) w' ∧ RelC φ' w0 N (s.eff d e) (a.put (some d) rv) w'

theorem Snd.pure (h : RelC φ w0 N s a w) (hd : d < N) {o : Oper} {v : IV} {rv : Value} (hr : (execOp a.eval o).run P w = .ok (.value rv) w) (hv : VR (sx w s.h φ w0.heap.size) v rv) : Snd P w0 N s a w d o ⟨v, none⟩ :=
  ⟨rv, w, φ, hr, h.pure hd hv⟩

theorem snd_mov (h : RelC φ w0 N s a w) (hd : d < N) {o : Oper} {x : Operand} (ho : o.op = .move x ∨ o.op = .assign x) {y : Opd} (hx : opd x = some y) (he : neu s d (.mov y) = some e) : Snd P w0 N s a w d o e := by
  simp only [neu] at he
  split at he
  · rename_i v hv
    injection he with he; subst he
    refine Snd.pure h hd (rv := a.eval x) ?_ (get_VR h hx hv)
    unfold execOp
    rcases ho with ho | ho <;> rw [ho] <;> rfl
  · cases he

theorem snd_pick (h : RelC φ w0 N s a w) (hd : d < N) {o : Oper} {c x y : Operand} (ho : o.op = .pick c x y) {c' x' y' : Opd} (hc : opd c = some c') (hx : opd x = some x') (hy : opd y = some y') (he : neu s d (.pick c' x' y') = some e) : Snd P w0 N s a w d o e := by
  simp only [neu] at he
  split at he
  · rename_i t ht
    split at he
    · rename_i v hv
      injection he with he; subst he
      have hb := (get_VR h hc ht).bool_
      refine Snd.pure h hd (rv := if t then a.eval x else a.eval y) ?_ ?_
      · unfold execOp
        rw [ho]
        simp only [hb, asBool, Sem.run_bind, Sem.run_pure, Result.andThen_ok]
      · cases t
        · exact get_VR h hy hv
        · exact get_VR h hx hv
    · cases he
  · cases he

theorem snd_toInt (h : RelC φ w0 N s a w) (hd : d < N) {o : Oper} {src dst : TypeId} {x : Operand} (ho : o.op = .convert src dst x) {k : IntKind} {u : TypeDesc} (hs : P.underlying src = some u) (hk : P.underlying dst = some (.int k)) {x' : Opd} (hx : opd x = some x') (he : neu s d (.toInt k x') = some e) : Snd P w0 N s a w d o e := by
  simp only [neu] at he
  split at he
  · rename_i k' n hv
    injection he with he; subst he
    have hb := (get_VR h hx hv).int_
    refine Snd.pure h hd (rv := .int k (k.wrap n)) ?_ VR.int_mk
    unfold execOp
    rw [ho]
    simp only [hb, convert, Sem.run_bind, run_underlying hs, run_underlying hk, Result.andThen_ok, Conv.intToInt, Sem.run_pure]
  · cases he

theorem snd_movS (h : RelC φ w0 N s a w) (hd : d < N) {o : Oper} {src dst : TypeId} {x : Operand} (ho : o.op = .convert src dst x) (hs : P.underlying src = some .string) (hk : P.underlying dst = some .string) {x' : Opd} (hx : opd x = some x') (he : neu s d (.movS x') = some e) : Snd P w0 N s a w d o e := by
  simp only [neu] at he
  split at he
  · rename_i l hv
    injection he with he; subst he
    have hb := (get_VR h hx hv).str_
    refine Snd.pure h hd (rv := a.eval x) ?_ (get_VR h hx hv)
    unfold execOp
    rw [ho]
    simp only [hb, convert, Sem.run_bind, run_underlying hs, run_underlying hk, Result.andThen_ok, Sem.run_pure]
  · cases he

theorem snd_chk (h : RelC φ w0 N s a w) (hd : d < N) {o : Oper} {x : Operand} (ho : o.op = .nilCheck x) {x' : Opd} (hx : opd x = some x') (he : neu s d (.chk x') = some e) : Snd P w0 N s a w d o e := by
  simp only [neu] at he
  split at he
  · rename_i hh off ver hv
    split at he
    · rename_i hok
      injection he with he; subst he
      have hvr := get_VR h hx hv
      simp only [St.ok, Bool.and_eq_true, beq_iff_eq] at hok
      obtain ⟨b, o', us, hb, _, _⟩ := ptr_cells h.hs hvr hok.1 hok.2
      refine Snd.pure h hd (rv := a.eval x) ?_ hvr
      unfold execOp
      rw [ho]
      simp only [hb, Sem.run_pure]
    · cases he
  · rename_i cs hv
    injection he with he; subst he
    have hvr := get_VR h hx hv
    have h0 := hvr
    simp only [VR] at h0
    obtain ⟨ad, us, hb, _⟩ := h0
    refine Snd.pure h hd (rv := a.eval x) ?_ hvr
    unfold execOp
    rw [ho]
    simp only [hb, Sem.run_pure]
  · cases he

theorem snd_ext (h : RelC φ w0 N s a w) (hd : d < N) {o : Oper} {x : Operand} {i : Nat} (ho : o.op = .extract x i) {x' : Opd} (hx : opd x = some x') (he : neu s d (.ext x' i) = some e) : Snd P w0 N s a w d o e := by
  simp only [neu] at he
  split at he
  · rename_i vs hv
    split at he
    · rename_i v hvi
      split at he
      · cases he
      injection he with he; subst he
      have hvr := get_VR h hx hv
      simp only [VR] at hvr
      obtain ⟨us, hb, _, hl⟩ := hvr
      obtain ⟨hi, rfl⟩ := List.getElem?_eq_some_iff.1 hvi
      have hlen := hl.length
      refine Snd.pure h hd (rv := us[i]'(by omega)) ?_ (hl.get i hi (by omega))
      unfold execOp
      rw [ho]
      simp only [hb, Instr.extract, Sem.run_bind]
      rw [show (us.toArray)[i]? = some (us[i]'(by omega)) by simp]
      simp only [Sem.run_pure, Result.andThen_ok]
    · cases he
  · cases he

theorem snd_lenC (h : RelC φ w0 N s a w) (hd : d < N) {o : Oper} {c : Call} (ho : o.op = .call c) (hc : c.callee = .builtin .len) {t : TypeId} {x : Operand} (ht : c.argTypes[0]? = some t) (hx0 : c.args[0]? = some x) {n : Nat} {el : TypeId} (hu : P.underlying t = some (.array n el)) (he : neu s d (.lenC n) = some e) : Snd P w0 N s a w d o e := by
  simp only [neu, Option.some.injEq] at he
  subst he
  refine Snd.pure h hd (rv := .int .i64 n) ?_ VR.int_mk
  have hargs : (c.args.map a.eval)[0]? = some (a.eval x) := by simp [hx0]
  unfold execOp
  rw [ho]
  simp only [resolve, hc, Sem.run_bind, Sem.run_pure, Result.andThen_ok, invoke, builtin, Builtin.len_, ht, hargs, run_underlying hu, goInt]

theorem snd_len (h : RelC φ w0 N s a w) (hd : d < N) {o : Oper} {c : Call} (ho : o.op = .call c) (hc : c.callee = .builtin .len) {t : TypeId} {x : Operand} (ht : c.argTypes[0]? = some t) (hx0 : c.args[0]? = some x) {x' : Opd} (hx : opd x = some x')
    {el : TypeId} (hu : P.underlying t = some (.slice el)) (he : neu s d (.len x') = some e) : Snd P w0 N s a w d o e := by
  have hargs : (c.args.map a.eval)[0]? = some (a.eval x) := by simp [hx0]
  have key : ∀ (n : Nat) A k, a.eval x = .slice A n k → (execOp a.eval o).run P w = .ok (.value (.int .i64 n)) w := by
    intro n A k hb
    unfold execOp
    rw [ho]
    simp only [resolve, hc, Sem.run_bind, Sem.run_pure, Result.andThen_ok, invoke, builtin, Builtin.len_, ht, hargs, run_underlying hu, goInt, hb]
  simp only [neu] at he
  split at he
  · rename_i f n cs hv
    injection he with he; subst he
    have hvr := get_VR h hx hv
    simp only [VR] at hvr
    obtain ⟨A, k, us, hb, _⟩ := hvr
    exact Snd.pure h hd (key n A k hb) VR.int_mk
  · rename_i hh off n sz ver hv
    split at he
    · injection he with he; subst he
      have hvr := get_VR h hx hv
      simp only [VR] at hvr
      obtain ⟨_, A, k, hb, _⟩ := hvr
      exact Snd.pure h hd (key n A k hb) VR.int_mk
    · cases he
  · cases he

theorem snd_lenS (h : RelC φ w0 N s a w) (hd : d < N) {o : Oper} {c : Call} (ho : o.op = .call c) (hc : c.callee = .builtin .len) {t : TypeId} {x : Operand} (ht : c.argTypes[0]? = some t) (hx0 : c.args[0]? = some x) {x' : Opd} (hx : opd x = some x')
    (hu : P.underlying t = some .string) (he : neu s d (.lenS x') = some e) : Snd P w0 N s a w d o e := by
  have hargs : (c.args.map a.eval)[0]? = some (a.eval x) := by simp [hx0]
  simp only [neu] at he
  split at he
  · rename_i l hv
    injection he with he; subst he
    have hb := (get_VR h hx hv).str_
    refine Snd.pure h hd (rv := .int .i64 l.length) ?_ VR.int_mk
    unfold execOp
    rw [ho]
    simp only [resolve, hc, Sem.run_bind, Sem.run_pure, Result.andThen_ok, invoke, builtin, Builtin.len_, ht, hargs, run_underlying hu, goInt, hb]
    rfl
  · cases he

theorem snd_load (h : RelC φ w0 N s a w) (hd : d < N) {o : Oper} {t : TypeId} {x : Operand} (ho : o.op = .load t x) {u : TypeDesc} (hu : P.underlying t = some u) {i : TypeInfo} (hi : P.info? t = some i) {x' : Opd} (hx : opd x = some x')
    {ag : Bool} {n : Nat} (hag : ag = aggT P t) (hn : n = if aggT P t then P.cellsOf t else 1) (he : neu s d (.load ag n x') = some e) : Snd P w0 N s a w d o e := by
  have key : ∀ b o' us (cs : List IV) v, a.eval x = .pointer (some ⟨b, o', none⟩) → w.rangeAt b o' us → VRL (sx w s.h φ w0.heap.size) cs us → cs.all IV.one = true → us.length = n → asV ag cs = some v →
      Snd P w0 N s a w d o ⟨v, none⟩ := by
    intro b o' us cs v hb hr hl h1 hlen hv
    obtain ⟨rv, hrun, ha, hb'⟩ := run_load_at (P := P) hr hu hi (hlen.trans hn)
    rw [← hag] at ha hb'
    refine Snd.pure h hd (rv := rv) ?_ (asV_VR hv hl h1 ha hb')
    unfold execOp
    rw [ho]
    simp only [hb, Sem.run_bind, hrun, Result.andThen_ok, Sem.run_pure]
  simp only [neu] at he
  split at he
  · rename_i hh off ver hv
    split at he
    · rename_i hc
      split at he
      · rename_i v hasv
        injection he with he; subst he
        obtain ⟨hok, hle⟩ := hc
        simp only [St.ok, Bool.and_eq_true, beq_iff_eq] at hok
        obtain ⟨b, o', us, hb, hl, hr⟩ := ptr_cells h.hs (get_VR h hx hv) hok.1 hok.2
        have hlen := hl.length
        simp only [List.length_drop] at hlen
        exact key b o' _ _ v hb (rangeAt_take hr _) (hl.take _) (all_take (all_drop (h.hs.home hh hok.1).one _) _) (by simp only [List.length_take]; omega) hasv
      · cases he
    · cases he
  · rename_i cs hv
    split at he
    · rename_i hle
      split at he
      · rename_i v hasv
        injection he with he; subst he
        have hvr := get_VR h hx hv
        simp only [VR] at hvr
        obtain ⟨ad, us, hb, hsp, _, h1, hl, hat⟩ := hvr
        have hlen := hl.length
        exact key ad.block ad.off _ _ v (by rw [hb, addr_eta hsp]) (rangeAt_take hat.range _) (hl.take _) (all_take h1 _) (by simp only [List.length_take]; omega) hasv
      · cases he
    · cases he
  · cases he

theorem snd_fa (h : RelC φ w0 N s a w) (hd : d < N) {o : Oper} {t : TypeId} {x : Operand} {fi : Nat} (ho : o.op = .fieldAddr t x fi) {fs : Array Field} (hu : P.underlying t = some (.struct fs)) {f : Field} (hf : fs[fi]? = some f) (hi : (P.info? f.type).isSome = true) (hz : P.cellsOf f.type ≠ 0) {x' : Opd} (hx : opd x = some x')
    (he : neu s d (.fa f.offset x') = some e) : Snd P w0 N s a w d o e := by
  obtain ⟨i, hi⟩ := Option.isSome_iff_exists.1 hi
  have run : ∀ b o', a.eval x = .pointer (some ⟨b, o', none⟩) → (execOp a.eval o).run P w = .ok (.value (.pointer (some ⟨b, o' + f.offset, none⟩))) w := by
    intro b o' hb
    unfold execOp
    rw [ho]
    simp only [hb, Instr.fieldAt, Sem.run_bind, run_underlying hu, Result.andThen_ok, hf, Instr.sureAddr, Sem.run_pure, fieldPlace, run_sizeOf w hi, if_neg hz, add_at]
  simp only [neu] at he
  split at he
  · rename_i hh off ver hv
    split at he
    · rename_i hok
      injection he with he; subst he
      have hvr := get_VR h hx hv
      simp only [St.ok, Bool.and_eq_true, beq_iff_eq] at hok
      have h0 := hvr
      simp only [VR] at h0
      have hp := h0.2.2 hok.1 hok.2
      unfold ptrR at hp
      cases hφ : φ hh with
      | none => simp only [hφ] at hp
      | some p =>
        obtain ⟨b, o'⟩ := p
        simp only [hφ] at hp
        refine Snd.pure h hd (run b _ hp) ?_
        simp only [VR]
        refine ⟨h0.1, rfl, fun _ _ => ?_⟩
        simp only [ptrR, hφ, Nat.add_assoc]
    · cases he
  · rename_i cs hv
    injection he with he; subst he
    have hvr := get_VR h hx hv
    simp only [VR] at hvr
    obtain ⟨ad, us, hb, hsp, hp, h1, hl, hat⟩ := hvr
    refine Snd.pure h hd (run ad.block ad.off (by rw [hb, addr_eta hsp])) ?_
    simp only [VR]
    refine ⟨_, us.drop f.offset, rfl, rfl, purL_drop hp _, all_drop h1 _, hl.drop _, fun j hj => ?_⟩
    simp only [List.length_drop] at hj
    obtain ⟨a', ha', hs', hb', hc'⟩ := hat (f.offset + j) (by omega)
    injection ha' with ha'; subst ha'
    refine ⟨_, rfl, rfl, hb', ?_⟩
    rw [List.getElem_drop, ← hc', Nat.add_assoc]
  · cases he

theorem CellsAt.drop_ {c : Sx} {ad : Addr} {us : List Value} (h : CellsAt c (some ad) us) (m : Nat) : CellsAt c (some ⟨ad.block, ad.off + m, none⟩) (us.drop m) := by
  intro j hj
  simp only [List.length_drop] at hj
  obtain ⟨a', ha', hs', hb', hc'⟩ := h (m + j) (by omega)
  injection ha' with ha'; subst ha'
  refine ⟨_, rfl, rfl, hb', ?_⟩
  rw [List.getElem_drop, ← hc', Nat.add_assoc]
theorem CellsAt.take_ {c : Sx} {A : Option Addr} {us : List Value} (h : CellsAt c A us) (m : Nat) : CellsAt c A (us.take m) := by
  intro j hj
  simp only [List.length_take] at hj
  obtain ⟨a', ha', hs', hb', hc'⟩ := h j (by omega)
  exact ⟨a', ha', hs', hb', by rw [List.getElem_take]; exact hc'⟩

theorem idxI_get {y : Option IV} {i : Int} (h : idxI y = some i) : ∃ k, y = some (.int k i) := by
  unfold idxI at h
  split at h
  · injection h with h; subst h; exact ⟨_, rfl⟩
  · cases h

theorem snd_ixArr (h : RelC φ w0 N s a w) (hd : d < N) {o : Oper} {t : TypeId} {x y : Operand} (ho : o.op = .indexAddr t x y) {n : Nat} {el : TypeId} (hu : P.underlying t = some (.array n el)) (hi : (P.info? el).isSome = true) {x' y' : Opd} (hx : opd x = some x') (hy : opd y = some y')
    (he : neu s d (.ixArr n (P.cellsOf el) x' y') = some e) : Snd P w0 N s a w d o e := by
  obtain ⟨inf, hi⟩ := Option.isSome_iff_exists.1 hi
  have run : ∀ b o' k (i : Int), a.eval x = .pointer (some ⟨b, o', none⟩) → a.eval y = .int k i → 0 ≤ i → i < n → (execOp a.eval o).run P w = .ok (.value (.pointer (some ⟨b, o' + i.toNat * P.cellsOf el, none⟩))) w := by
    intro b o' k i hb hk h0 h1
    unfold execOp
    rw [ho]
    simp only [hb, hk, Instr.indexAt, asIntOf, Sem.run_bind, run_underlying hu, Result.andThen_ok, Instr.sureAddr, Sem.run_pure, run_sizeOf w hi, if_pos (And.intro h0 h1), add_at]
  simp only [neu] at he
  split at he
  · rename_i hh off ver i hv hiv
    split at he
    · rename_i hok
      injection he with he; subst he
      obtain ⟨hok, h0i, hin⟩ := hok
      obtain ⟨k, hiv⟩ := idxI_get hiv
      have hk := (get_VR h hy hiv).int_
      have h0 := get_VR h hx hv
      simp only [St.ok, Bool.and_eq_true, beq_iff_eq] at hok
      simp only [VR] at h0
      have hp := h0.2.2 hok.1 hok.2
      unfold ptrR at hp
      cases hφ : φ hh with
      | none => simp only [hφ] at hp
      | some p =>
        obtain ⟨b, o'⟩ := p
        simp only [hφ] at hp
        refine Snd.pure h hd (run b _ k i hp hk h0i hin) ?_
        simp only [VR]
        refine ⟨h0.1, rfl, fun _ _ => ?_⟩
        simp only [ptrR, hφ, Nat.add_assoc]
    · cases he
  · rename_i cs i hv hiv
    split at he
    · rename_i hok
      injection he with he; subst he
      obtain ⟨h0i, hin⟩ := hok
      obtain ⟨k, hiv⟩ := idxI_get hiv
      have hk := (get_VR h hy hiv).int_
      have hvr := get_VR h hx hv
      simp only [VR] at hvr
      obtain ⟨ad, us, hb, hsp, hp, h1, hl, hat⟩ := hvr
      refine Snd.pure h hd (run ad.block ad.off k i (by rw [hb, addr_eta hsp]) hk h0i hin) ?_
      simp only [VR]
      exact ⟨_, us.drop (i.toNat * P.cellsOf el), rfl, rfl, purL_drop hp _, all_drop h1 _, hl.drop _, hat.drop_ _⟩
    · cases he
  · cases he

theorem snd_ixSl (h : RelC φ w0 N s a w) (hd : d < N) {o : Oper} {t : TypeId} {x y : Operand} (ho : o.op = .indexAddr t x y) {el : TypeId} (hu : P.underlying t = some (.slice el)) (hi : (P.info? el).isSome = true) {x' y' : Opd} (hx : opd x = some x') (hy : opd y = some y')
    (he : neu s d (.ixSl (P.cellsOf el) x' y') = some e) : Snd P w0 N s a w d o e := by
  obtain ⟨inf, hi⟩ := Option.isSome_iff_exists.1 hi
  have run : ∀ b o' k (i : Int) (n c : Nat), a.eval x = .slice (some ⟨b, o', none⟩) n c → a.eval y = .int k i → 0 ≤ i → i < n → (execOp a.eval o).run P w = .ok (.value (.pointer (some ⟨b, o' + i.toNat * P.cellsOf el, none⟩))) w := by
    intro b o' k i n c hb hk h0 h1
    unfold execOp
    rw [ho]
    simp only [hb, hk, Instr.indexAt, asIntOf, Sem.run_bind, run_underlying hu, Result.andThen_ok, Sem.run_pure, run_sizeOf w hi, if_pos (And.intro h0 h1), add_at]
  simp only [neu] at he
  split at he
  · rename_i hh off n sz' ver i hv hiv
    split at he
    · rename_i hok
      injection he with he; subst he
      obtain ⟨hok, h0i, hin, rfl, hpos⟩ := hok
      obtain ⟨k, hiv⟩ := idxI_get hiv
      have hk := (get_VR h hy hiv).int_
      have h0 := get_VR h hx hv
      simp only [St.ok, Bool.and_eq_true, beq_iff_eq] at hok
      simp only [VR] at h0
      obtain ⟨hver, A, c, hb, hnc, hrow⟩ := h0
      have hr := hrow hok.1 hok.2
      unfold rowR at hr
      cases hφ : φ hh with
      | none => simp only [hφ] at hr; omega
      | some p =>
        obtain ⟨b, o'⟩ := p
        simp only [hφ] at hr
        rcases hr.2.1 with hc0 | hA
        · omega
        subst hA
        refine Snd.pure h hd (run b _ k i n c hb hk h0i hin) ?_
        simp only [VR]
        refine ⟨hver, rfl, fun _ _ => ?_⟩
        simp only [ptrR, hφ, Nat.add_assoc]
    · cases he
  · rename_i f n cs i hv hiv
    split at he
    · rename_i hok
      injection he with he; subst he
      obtain ⟨h0i, hin, hlen, hpos⟩ := hok
      obtain ⟨k, hiv⟩ := idxI_get hiv
      have hk := (get_VR h hy hiv).int_
      have hvr := get_VR h hx hv
      simp only [VR] at hvr
      obtain ⟨A, c, us, hb, hnc, _, _, hp, h1, hl, hat⟩ := hvr
      have hl' := hl.length
      have hus : 0 < us.length := by rw [hl', hlen]; exact Nat.mul_pos (by omega) hpos
      obtain ⟨ad, rfl, hsp, _, _⟩ := hat 0 hus
      refine Snd.pure h hd (run ad.block ad.off k i n c (by rw [hb]; congr 1; rw [← addr_eta hsp]) hk h0i hin) ?_
      simp only [VR]
      exact ⟨_, us.drop (i.toNat * P.cellsOf el), rfl, rfl, purL_drop hp _, all_drop h1 _, hl.drop _, hat.drop_ _⟩
    · cases he
  · cases he
end
end Go.Proofs.YtmblapgoimegkaaDoor
