/- Operations that read and reckon. -/
import Derived.Test.YtilbipknodpmmaaDoorE3
import Derived.Deep.MidRow
import Derived.Laws.StructEq
import Derived.Laws.BytesString
set_option linter.unusedSectionVars false
set_option linter.unusedVariables false
set_option linter.unusedSimpArgs false
namespace Go.Proofs.YtilbipknodpmmaaDoor
open Go.RowKit

theorem add_at (b o j : Nat) : (⟨b, o, none⟩ : Addr).add j = ⟨b, o + j, none⟩ := Addr.add_mid b o j
theorem addr_eta {a : Addr} (h : a.spot = none) : a = ⟨a.block, a.off, none⟩ := by cases a; simp at h; subst h; rfl

theorem CellsAt.range {c : Sx} {a : Addr} {us : List Value} (h : CellsAt c (some a) us) : c.w.rangeAt a.block a.off us := by
  intro j v hv
  obtain ⟨hj, rfl⟩ := List.getElem?_eq_some_iff.1 hv
  obtain ⟨a', ha, _, _, hc⟩ := h j hj
  injection ha with ha; subst ha
  exact hc

theorem rangeAt_take {w : World} {b o : Nat} {us : List Value} (h : w.rangeAt b o us) (n : Nat) : w.rangeAt b o (us.take n) := by
  intro j v hv
  rw [List.getElem?_take] at hv
  split at hv
  · exact h j v hv
  · cases hv
theorem rangeAt_drop {w : World} {b o : Nat} {us : List Value} (h : w.rangeAt b o us) (n : Nat) : w.rangeAt b (o + n) (us.drop n) := by
  intro j v hv
  rw [List.getElem?_drop] at hv
  have := h (n + j) v hv
  rwa [Nat.add_assoc]

theorem HS.cells {c : Sx} (h : HS c) {x : Nat} (hl : (c.H x).live = true) {b o : Nat} (hp : c.φ x = some (b, o)) : ∃ us, VRL c (c.H x).cells us ∧ c.w.rangeAt b o us := by
  have := (h.home x hl).at_
  rw [hp] at this
  obtain ⟨cs, T, fr, us, h1, _, h3, h4, _⟩ := this
  refine ⟨us, h3, fun j v hv => ?_⟩
  obtain ⟨hj, rfl⟩ := List.getElem?_eq_some_iff.1 hv
  rw [cell_of_row c.w b (o + j) cs T fr h1]
  exact h4 j hj

theorem all_take {l : List IV} {p : IV → Bool} (h : l.all p = true) (n : Nat) : (l.take n).all p = true := by
  rw [List.all_eq_true] at *
  exact fun x hx => h x (List.mem_of_mem_take hx)
theorem all_drop {l : List IV} {p : IV → Bool} (h : l.all p = true) (n : Nat) : (l.drop n).all p = true := by
  rw [List.all_eq_true] at *
  exact fun x hx => h x (List.mem_of_mem_drop hx)
theorem purL_all (l : List IV) : IV.purL l = l.all IV.pur := by
  induction l with
  | nil => rfl
  | cons x xs ih => simp [IV.purL, ih]
theorem purL_take {l : List IV} (h : IV.purL l = true) (n : Nat) : IV.purL (l.take n) = true := by rw [purL_all] at *; exact all_take h n
theorem purL_drop {l : List IV} (h : IV.purL l = true) (n : Nat) : IV.purL (l.drop n) = true := by rw [purL_all] at *; exact all_drop h n
theorem purL_append {l m : List IV} (h : IV.purL l = true) (h' : IV.purL m = true) : IV.purL (l ++ m) = true := by rw [purL_all] at *; simp [h, h']

theorem ptr_cells {c : Sx} (hs : HS c) {h off ver : Nat} {u : Value} (hv : VR c (.ptr h off ver) u) (hl : (c.H h).live = true) (he : (c.H h).ver = ver) :
    (∃ b o us, u = .pointer (some ⟨b, o, none⟩) ∧ VRL c ((c.H h).cells.drop off) us ∧ c.w.rangeAt b o us) := by
  simp only [VR] at hv
  obtain ⟨_, _, h3⟩ := hv
  have hp := h3 hl he
  unfold ptrR at hp
  cases hφ : c.φ h with
  | none => rw [hφ] at hp; exact hp.elim
  | some p =>
    obtain ⟨b, o⟩ := p
    rw [hφ] at hp
    obtain ⟨us, h1, h2⟩ := hs.cells hl hφ
    exact ⟨b, o + off, us.drop off, hp, h1.drop off, rangeAt_drop h2 off⟩

theorem row_cells {c : Sx} (hs : HS c) {h off n sz ver : Nat} {u : Value} (hv : VR c (.row h off n sz ver) u) (hl : (c.H h).live = true) (he : (c.H h).ver = ver) (m : Nat) (hm : m = n * sz) :
    ∃ A k us, u = .slice A n k ∧ VRL c (((c.H h).cells.drop off).take m) us ∧ us.length = m ∧ n ≤ k ∧ (us ≠ [] → ∃ b o, A = some ⟨b, o, none⟩ ∧ c.w.rangeAt b o us) := by
  subst hm
  simp only [VR] at hv
  obtain ⟨_, A, k, rfl, h3, h4⟩ := hv
  have hr := h4 hl he
  unfold rowR at hr
  cases hφ : c.φ h with
  | none =>
    rw [hφ] at hr
    have h0 := (hs.home h hl).at_
    rw [hφ] at h0
    have hk : n = 0 := by omega
    subst hk
    exact ⟨A, k, [], rfl, by simp [VRL], by simp, h3, fun h => (h rfl).elim⟩
  | some p =>
    obtain ⟨b, o⟩ := p
    rw [hφ] at hr
    obtain ⟨us, h1, h2⟩ := hs.cells hl hφ
    have hlen := h1.length
    refine ⟨A, k, (us.drop off).take (n * sz), rfl, (h1.drop off).take _, by simp [hlen]; have := hr.1; omega, h3, fun hne => ⟨b, o + off, ?_, rangeAt_take (rangeAt_drop h2 off) _⟩⟩
    rcases hr.2.1 with hk | hA
    · exfalso
      have hn : n = 0 := by omega
      subst hn
      simp at hne
    · exact hA

theorem elems_cells {c : Sx} (hs : HS c) {s : St} (hH : s.h = c.H) {sz : Nat} {v : IV} {n : Nat} {cs : List IV} (he : s.elems sz v = some (n, cs)) {u : Value} (hv : VR c v u) :
    ∃ A k us, u = .slice A n k ∧ VRL c cs us ∧ us.length = n * sz ∧ IV.purL cs = true ∧ cs.all IV.one = true ∧ (us ≠ [] → ∃ b o, A = some ⟨b, o, none⟩ ∧ c.w.rangeAt b o us) := by
  cases v <;> simp only [St.elems] at he <;> try (cases he; done)
  · rename_i f m ds
    split at he
    · rename_i hl
      simp only [Option.some.injEq, Prod.mk.injEq] at he
      obtain ⟨rfl, rfl⟩ := he
      simp only [VR] at hv
      obtain ⟨A, k, us, rfl, h2, h3, h4, h5, h6, h7, h8⟩ := hv
      have hlen := h7.length
      refine ⟨A, k, us, rfl, h7, by omega, h5, h6, fun hne => ?_⟩
      obtain ⟨a, rfl, hsp, _, _⟩ := h8 0 (List.length_pos_iff.2 hne)
      refine ⟨a.block, a.off, by rw [addr_eta hsp], h8.range⟩
    · cases he
  · rename_i h off m sz' ver
    split at he
    · rename_i hc
      obtain ⟨h1, rfl, h3⟩ := hc
      simp only [Option.some.injEq, Prod.mk.injEq] at he
      obtain ⟨rfl, rfl⟩ := he
      simp only [St.ok, Bool.and_eq_true, beq_iff_eq] at h1
      rw [hH] at h1
      obtain ⟨A, k, us, rfl, g2, g3, g4, g5⟩ := row_cells hs hv h1.1 h1.2 _ rfl
      have hseg : s.seg h off (m * sz') = ((c.H h).cells.drop off).take (m * sz') := by simp only [St.seg, hH]
      have hone := (hs.home h h1.1).one
      refine ⟨A, k, us, rfl, by rw [hseg]; exact g2, g3, ?_, by rw [hseg]; exact all_take (all_drop hone _) _, g5⟩
      rcases h3 with h3 | h3
      · rw [hseg]; rw [hH] at h3; exact purL_take (purL_drop ((hs.home h h1.1).row h3) _) _
      · exact h3
    · cases he

theorem run_load_at {P : Program} {w : World} {b o : Nat} {us : List Value} (hr : w.rangeAt b o us) {t : TypeId} {d : TypeDesc} (hu : P.underlying t = some d) {i : TypeInfo} (hi : P.info? t = some i)
    (hl : us.length = if aggT P t then P.cellsOf t else 1) :
    ∃ rv, (Instr.loadAt t (.pointer (some ⟨b, o, none⟩))).run P w = .ok rv w ∧ (aggT P t = true → rv = .agg us.toArray) ∧ (aggT P t = false → us = [rv]) := by
  by_cases hg : aggT P t = true
  · refine ⟨.agg us.toArray, run_loadAt_mid w b o t us d hr hu ?_ ?_, fun _ => rfl, fun h => by simp [hg] at h⟩
    · unfold aggT at hg; rw [hu] at hg; cases d <;> simp_all
    · rw [hi]; rw [if_pos hg] at hl; simp [Program.cellsOf, hi] at hl; simp [hl]
  · have hg' : aggT P t = false := by simpa using hg
    rw [if_neg hg] at hl
    obtain ⟨u, rfl⟩ := List.length_eq_one_iff.1 hl
    refine ⟨u, ?_, fun h => absurd h hg, fun _ => rfl⟩
    have hagg : (isAgg t).run P w = .ok false w := by
      unfold isAgg
      rw [Sem.run_bind, run_underlying hu w]
      unfold aggT at hg'; rw [hu] at hg'
      cases d <;> simp_all
    have hc := hr 0 u (by simp)
    simp only [Instr.loadAt, Instr.sureAddr, Sem.run_bind, Sem.run_pure, Result.andThen_ok, loadVar, hagg, Bool.false_eq_true, if_false, run_load]
    simp only [Nat.add_zero] at hc
    rw [hc]

theorem asV_VR {c : Sx} {ag : Bool} {cs : List IV} {v : IV} (h : asV ag cs = some v) {us : List Value} (hl : VRL c cs us) (h1 : cs.all IV.one = true) {rv : Value} (ha : ag = true → rv = .agg us.toArray) (hb : ag = false → us = [rv]) : VR c v rv := by
  cases ag with
  | true =>
    simp only [asV, if_true, Option.some.injEq] at h
    subst h
    rw [ha rfl]
    simp only [VR]
    exact ⟨us, rfl, h1, hl⟩
  | false =>
    simp only [asV, Bool.false_eq_true, if_false] at h
    split at h
    · injection h with h; subst h
      rw [hb rfl] at hl
      simp only [VRL] at hl
      obtain ⟨u, us', e, h2, _⟩ := hl
      injection e with e1 _
      rw [e1]; exact h2
    · cases h

section
variable [Off] [Gh] [Old] {P : Program} {φ : Nat → Option (Nat × Nat)} {w0 : World} {N : Nat} {s : St} {a : Act} {w : World} {d : Nat} {e : Eff}

def Snd (P : Program) (w0 : World) (N : Nat) (s : St) (a : Act) (w : World) (d : Nat) (o : Oper) (e : Eff) : Prop :=
  ∃ rv w' φ', (execOp a.eval o).run P w = .ok (.value rv) w' ∧ RelC φ' w0 N (s.eff d e) (a.put (some d) rv) w'

theorem Snd.pure (h : RelC φ w0 N s a w) (hd : d < N) {o : Oper} {v : IV} {rv : Value} (hr : (execOp a.eval o).run P w = .ok (.value rv) w) (hv : VR (sx w s.h φ w0.heap.size) v rv) : Snd P w0 N s a w d o ⟨v, none⟩ :=
  ⟨rv, w, φ, hr, h.pure hd hv⟩

theorem snd_mov (h : RelC φ w0 N s a w) (hd : d < N) {o : Oper} {x : Operand} (ho : o.op = .move x ∨ o.op = .assign x) {y : Opd} (hx : opd x = some y) (he : neu s d (.mov y) = some e) : Snd P w0 N s a w d o e := by
  simp only [neu] at he
  split at he
  · rename_i v hv
    injection he with he; subst he
    refine Snd.pure h hd (rv := a.eval x) ?_ (get_VR h hx hv)
    unfold execOp
    rcases ho with ho | ho <;> rw [ho] <;> rfl
  · cases he

theorem snd_pick (h : RelC φ w0 N s a w) (hd : d < N) {o : Oper} {c x y : Operand} (ho : o.op = .pick c x y) {c' x' y' : Opd} (hc : opd c = some c') (hx : opd x = some x') (hy : opd y = some y') (he : neu s d (.pick c' x' y') = some e) : Snd P w0 N s a w d o e := by
  simp only [neu] at he
  split at he
  · rename_i t ht
    split at he
    · rename_i v hv
      injection he with he; subst he
      have hb := (get_VR h hc ht).bool_
      refine Snd.pure h hd (rv := if t then a.eval x else a.eval y) ?_ ?_
      · unfold execOp
        rw [ho]
        simp only [hb, asBool, Sem.run_bind, Sem.run_pure, Result.andThen_ok]
      · cases t
        · exact get_VR h hy hv
        · exact get_VR h hx hv
    · cases he
  · cases he

theorem snd_toInt (h : RelC φ w0 N s a w) (hd : d < N) {o : Oper} {src dst : TypeId} {x : Operand} (ho : o.op = .convert src dst x) {k : IntKind} {u : TypeDesc} (hs : P.underlying src = some u) (hk : P.underlying dst = some (.int k)) {x' : Opd} (hx : opd x = some x') (he : neu s d (.toInt k x') = some e) : Snd P w0 N s a w d o e := by
  simp only [neu] at he
  split at he
  · rename_i k' n hv
    injection he with he; subst he
    have hb := (get_VR h hx hv).int_
    refine Snd.pure h hd (rv := .int k (k.wrap n)) ?_ VR.int_mk
    unfold execOp
    rw [ho]
    simp only [hb, convert, Sem.run_bind, run_underlying hs, run_underlying hk, Result.andThen_ok, Conv.intToInt, Sem.run_pure]
  · cases he

theorem snd_movS (h : RelC φ w0 N s a w) (hd : d < N) {o : Oper} {src dst : TypeId} {x : Operand} (ho : o.op = .convert src dst x) (hs : P.underlying src = some .string) (hk : P.underlying dst = some .string) {x' : Opd} (hx : opd x = some x') (he : neu s d (.movS x') = some e) : Snd P w0 N s a w d o e := by
  simp only [neu] at he
  split at he
  · rename_i l hv
    injection he with he; subst he
    have hb := (get_VR h hx hv).str_
    refine Snd.pure h hd (rv := a.eval x) ?_ (get_VR h hx hv)
    unfold execOp
    rw [ho]
    simp only [hb, convert, Sem.run_bind, run_underlying hs, run_underlying hk, Result.andThen_ok, Sem.run_pure]
  · cases he

theorem snd_chk (h : RelC φ w0 N s a w) (hd : d < N) {o : Oper} {x : Operand} (ho : o.op = .nilCheck x) {x' : Opd} (hx : opd x = some x') (he : neu s d (.chk x') = some e) : Snd P w0 N s a w d o e := by
  simp only [neu] at he
  split at he
  · rename_i hh off ver hv
    split at he
    · rename_i hok
      injection he with he; subst he
      have hvr := get_VR h hx hv
      simp only [St.ok, Bool.and_eq_true, beq_iff_eq] at hok
      obtain ⟨b, o', us, hb, _, _⟩ := ptr_cells h.hs hvr hok.1 hok.2
      refine Snd.pure h hd (rv := a.eval x) ?_ hvr
      unfold execOp
      rw [ho]
      simp only [hb, Sem.run_pure]
    · cases he
  · rename_i cs hv
    injection he with he; subst he
    have hvr := get_VR h hx hv
    have h0 := hvr
    simp only [VR] at h0
    obtain ⟨ad, us, hb, _⟩ := h0
    refine Snd.pure h hd (rv := a.eval x) ?_ hvr
    unfold execOp
    rw [ho]
    simp only [hb, Sem.run_pure]
  · cases he

theorem snd_ext (h : RelC φ w0 N s a w) (hd : d < N) {o : Oper} {x : Operand} {i : Nat} (ho : o.op = .extract x i) {x' : Opd} (hx : opd x = some x') (he : neu s d (.ext x' i) = some e) : Snd P w0 N s a w d o e := by
  simp only [neu] at he
  split at he
  · rename_i vs hv
    split at he
    · rename_i v hvi
      split at he
      · cases he
      injection he with he; subst he
      have hvr := get_VR h hx hv
      simp only [VR] at hvr
      obtain ⟨us, hb, _, hl⟩ := hvr
      obtain ⟨hi, rfl⟩ := List.getElem?_eq_some_iff.1 hvi
      have hlen := hl.length
      refine Snd.pure h hd (rv := us[i]'(by omega)) ?_ (hl.get i hi (by omega))
      unfold execOp
      rw [ho]
      simp only [hb, Instr.extract, Sem.run_bind]
      rw [show (us.toArray)[i]? = some (us[i]'(by omega)) by simp]
      simp only [Sem.run_pure, Result.andThen_ok]
    · cases he
  · cases he

theorem snd_lenC (h : RelC φ w0 N s a w) (hd : d < N) {o : Oper} {c : Call} (ho : o.op = .call c) (hc : c.callee = .builtin .len) {t : TypeId} {x : Operand} (ht : c.argTypes[0]? = some t) (hx0 : c.args[0]? = some x) {n : Nat} {el : TypeId} (hu : P.underlying t = some (.array n el)) (he : neu s d (.lenC n) = some e) : Snd P w0 N s a w d o e := by
  simp only [neu, Option.some.injEq] at he
  subst he
  refine Snd.pure h hd (rv := .int .i64 n) ?_ VR.int_mk
  have hargs : (c.args.map a.eval)[0]? = some (a.eval x) := by simp [hx0]
  unfold execOp
  rw [ho]
  simp only [resolve, hc, Sem.run_bind, Sem.run_pure, Result.andThen_ok, invoke, builtin, Builtin.len_, ht, hargs, run_underlying hu, goInt]

theorem snd_len (h : RelC φ w0 N s a w) (hd : d < N) {o : Oper} {c : Call} (ho : o.op = .call c) (hc : c.callee = .builtin .len) {t : TypeId} {x : Operand} (ht : c.argTypes[0]? = some t) (hx0 : c.args[0]? = some x) {x' : Opd} (hx : opd x = some x')
    {el : TypeId} (hu : P.underlying t = some (.slice el)) (he : neu s d (.len x') = some e) : Snd P w0 N s a w d o e := by
  have hargs : (c.args.map a.eval)[0]? = some (a.eval x) := by simp [hx0]
  have key : ∀ (n : Nat) A k, a.eval x = .slice A n k → (execOp a.eval o).run P w = .ok (.value (.int .i64 n)) w := by
    intro n A k hb
    unfold execOp
    rw [ho]
    simp only [resolve, hc, Sem.run_bind, Sem.run_pure, Result.andThen_ok, invoke, builtin, Builtin.len_, ht, hargs, run_underlying hu, goInt, hb]
  simp only [neu] at he
  split at he
  · rename_i f n cs hv
    injection he with he; subst he
    have hvr := get_VR h hx hv
    simp only [VR] at hvr
    obtain ⟨A, k, us, hb, _⟩ := hvr
    exact Snd.pure h hd (key n A k hb) VR.int_mk
  · rename_i hh off n sz ver hv
    split at he
    · injection he with he; subst he
      have hvr := get_VR h hx hv
      simp only [VR] at hvr
      obtain ⟨_, A, k, hb, _⟩ := hvr
      exact Snd.pure h hd (key n A k hb) VR.int_mk
    · cases he
  · cases he

theorem snd_lenS (h : RelC φ w0 N s a w) (hd : d < N) {o : Oper} {c : Call} (ho : o.op = .call c) (hc : c.callee = .builtin .len) {t : TypeId} {x : Operand} (ht : c.argTypes[0]? = some t) (hx0 : c.args[0]? = some x) {x' : Opd} (hx : opd x = some x')
    (hu : P.underlying t = some .string) (he : neu s d (.lenS x') = some e) : Snd P w0 N s a w d o e := by
  have hargs : (c.args.map a.eval)[0]? = some (a.eval x) := by simp [hx0]
  simp only [neu] at he
  split at he
  · rename_i l hv
    injection he with he; subst he
    have hb := (get_VR h hx hv).str_
    refine Snd.pure h hd (rv := .int .i64 l.length) ?_ VR.int_mk
    unfold execOp
    rw [ho]
    simp only [resolve, hc, Sem.run_bind, Sem.run_pure, Result.andThen_ok, invoke, builtin, Builtin.len_, ht, hargs, run_underlying hu, goInt, hb]
    rfl
  · cases he

theorem snd_load (h : RelC φ w0 N s a w) (hd : d < N) {o : Oper} {t : TypeId} {x : Operand} (ho : o.op = .load t x) {u : TypeDesc} (hu : P.underlying t = some u) {i : TypeInfo} (hi : P.info? t = some i) {x' : Opd} (hx : opd x = some x')
    {ag : Bool} {n : Nat} (hag : ag = aggT P t) (hn : n = if aggT P t then P.cellsOf t else 1) (he : neu s d (.load ag n x') = some e) : Snd P w0 N s a w d o e := by
  have key : ∀ b o' us (cs : List IV) v, a.eval x = .pointer (some ⟨b, o', none⟩) → w.rangeAt b o' us → VRL (sx w s.h φ w0.heap.size) cs us → cs.all IV.one = true → us.length = n → asV ag cs = some v →
      Snd P w0 N s a w d o ⟨v, none⟩ := by
    intro b o' us cs v hb hr hl h1 hlen hv
    obtain ⟨rv, hrun, ha, hb'⟩ := run_load_at (P := P) hr hu hi (hlen.trans hn)
    rw [← hag] at ha hb'
    refine Snd.pure h hd (rv := rv) ?_ (asV_VR hv hl h1 ha hb')
    unfold execOp
    rw [ho]
    simp only [hb, Sem.run_bind, hrun, Result.andThen_ok, Sem.run_pure]
  simp only [neu] at he
  split at he
  · rename_i hh off ver hv
    split at he
    · rename_i hc
      split at he
      · rename_i v hasv
        injection he with he; subst he
        obtain ⟨hok, hle⟩ := hc
        simp only [St.ok, Bool.and_eq_true, beq_iff_eq] at hok
        obtain ⟨b, o', us, hb, hl, hr⟩ := ptr_cells h.hs (get_VR h hx hv) hok.1 hok.2
        have hlen := hl.length
        simp only [List.length_drop] at hlen
        exact key b o' _ _ v hb (rangeAt_take hr _) (hl.take _) (all_take (all_drop (h.hs.home hh hok.1).one _) _) (by simp only [List.length_take]; omega) hasv
      · cases he
    · cases he
  · rename_i cs hv
    split at he
    · rename_i hle
      split at he
      · rename_i v hasv
        injection he with he; subst he
        have hvr := get_VR h hx hv
        simp only [VR] at hvr
        obtain ⟨ad, us, hb, hsp, _, h1, hl, hat⟩ := hvr
        have hlen := hl.length
        exact key ad.block ad.off _ _ v (by rw [hb, addr_eta hsp]) (rangeAt_take hat.range _) (hl.take _) (all_take h1 _) (by simp only [List.length_take]; omega) hasv
      · cases he
    · cases he
  · cases he

theorem snd_fa (h : RelC φ w0 N s a w) (hd : d < N) {o : Oper} {t : TypeId} {x : Operand} {fi : Nat} (ho : o.op = .fieldAddr t x fi) {fs : Array Field} (hu : P.underlying t = some (.struct fs)) {f : Field} (hf : fs[fi]? = some f) (hi : (P.info? f.type).isSome = true) (hz : P.cellsOf f.type ≠ 0) {x' : Opd} (hx : opd x = some x')
    (he : neu s d (.fa f.offset x') = some e) : Snd P w0 N s a w d o e := by
  obtain ⟨i, hi⟩ := Option.isSome_iff_exists.1 hi
  have run : ∀ b o', a.eval x = .pointer (some ⟨b, o', none⟩) → (execOp a.eval o).run P w = .ok (.value (.pointer (some ⟨b, o' + f.offset, none⟩))) w := by
    intro b o' hb
    unfold execOp
    rw [ho]
    simp only [hb, Instr.fieldAt, Sem.run_bind, run_underlying hu, Result.andThen_ok, hf, Instr.sureAddr, Sem.run_pure, fieldPlace, run_sizeOf w hi, if_neg hz, add_at]
  simp only [neu] at he
  split at he
  · rename_i hh off ver hv
    split at he
    · rename_i hok
      injection he with he; subst he
      have hvr := get_VR h hx hv
      simp only [St.ok, Bool.and_eq_true, beq_iff_eq] at hok
      have h0 := hvr
      simp only [VR] at h0
      have hp := h0.2.2 hok.1 hok.2
      unfold ptrR at hp
      cases hφ : φ hh with
      | none => simp only [hφ] at hp
      | some p =>
        obtain ⟨b, o'⟩ := p
        simp only [hφ] at hp
        refine Snd.pure h hd (run b _ hp) ?_
        simp only [VR]
        refine ⟨h0.1, rfl, fun _ _ => ?_⟩
        simp only [ptrR, hφ, Nat.add_assoc]
    · cases he
  · rename_i cs hv
    injection he with he; subst he
    have hvr := get_VR h hx hv
    simp only [VR] at hvr
    obtain ⟨ad, us, hb, hsp, hp, h1, hl, hat⟩ := hvr
    refine Snd.pure h hd (run ad.block ad.off (by rw [hb, addr_eta hsp])) ?_
    simp only [VR]
    refine ⟨_, us.drop f.offset, rfl, rfl, purL_drop hp _, all_drop h1 _, hl.drop _, fun j hj => ?_⟩
    simp only [List.length_drop] at hj
    obtain ⟨a', ha', hs', hb', hc'⟩ := hat (f.offset + j) (by omega)
    injection ha' with ha'; subst ha'
    refine ⟨_, rfl, rfl, hb', ?_⟩
    rw [List.getElem_drop, ← hc', Nat.add_assoc]
  · cases he

theorem CellsAt.drop_ {c : Sx} {ad : Addr} {us : List Value} (h : CellsAt c (some ad) us) (m : Nat) : CellsAt c (some ⟨ad.block, ad.off + m, none⟩) (us.drop m) := by
  intro j hj
  simp only [List.length_drop] at hj
  obtain ⟨a', ha', hs', hb', hc'⟩ := h (m + j) (by omega)
  injection ha' with ha'; subst ha'
  refine ⟨_, rfl, rfl, hb', ?_⟩
  rw [List.getElem_drop, ← hc', Nat.add_assoc]
theorem idxI_get {y : Option IV} {i : Int} (h : idxI y = some i) : ∃ k, y = some (.int k i) := by
  unfold idxI at h
  split at h
  · injection h with h; subst h; exact ⟨_, rfl⟩
  · cases h

theorem snd_ixArr (h : RelC φ w0 N s a w) (hd : d < N) {o : Oper} {t : TypeId} {x y : Operand} (ho : o.op = .indexAddr t x y) {n : Nat} {el : TypeId} (hu : P.underlying t = some (.array n el)) (hi : (P.info? el).isSome = true) {x' y' : Opd} (hx : opd x = some x') (hy : opd y = some y')
    (he : neu s d (.ixArr n (P.cellsOf el) x' y') = some e) : Snd P w0 N s a w d o e := by
  obtain ⟨inf, hi⟩ := Option.isSome_iff_exists.1 hi
  have run : ∀ b o' k (i : Int), a.eval x = .pointer (some ⟨b, o', none⟩) → a.eval y = .int k i → 0 ≤ i → i < n → (execOp a.eval o).run P w = .ok (.value (.pointer (some ⟨b, o' + i.toNat * P.cellsOf el, none⟩))) w := by
    intro b o' k i hb hk h0 h1
    unfold execOp
    rw [ho]
    simp only [hb, hk, Instr.indexAt, asIntOf, Sem.run_bind, run_underlying hu, Result.andThen_ok, Instr.sureAddr, Sem.run_pure, run_sizeOf w hi, if_pos (And.intro h0 h1), add_at]
  simp only [neu] at he
  split at he
  · rename_i hh off ver i hv hiv
    split at he
    · rename_i hok
      injection he with he; subst he
      obtain ⟨hok, h0i, hin⟩ := hok
      obtain ⟨k, hiv⟩ := idxI_get hiv
      have hk := (get_VR h hy hiv).int_
      have h0 := get_VR h hx hv
      simp only [St.ok, Bool.and_eq_true, beq_iff_eq] at hok
      simp only [VR] at h0
      have hp := h0.2.2 hok.1 hok.2
      unfold ptrR at hp
      cases hφ : φ hh with
      | none => simp only [hφ] at hp
      | some p =>
        obtain ⟨b, o'⟩ := p
        simp only [hφ] at hp
        refine Snd.pure h hd (run b _ k i hp hk h0i hin) ?_
        simp only [VR]
        refine ⟨h0.1, rfl, fun _ _ => ?_⟩
        simp only [ptrR, hφ, Nat.add_assoc]
    · cases he
  · rename_i cs i hv hiv
    split at he
    · rename_i hok
      injection he with he; subst he
      obtain ⟨h0i, hin⟩ := hok
      obtain ⟨k, hiv⟩ := idxI_get hiv
      have hk := (get_VR h hy hiv).int_
      have hvr := get_VR h hx hv
      simp only [VR] at hvr
      obtain ⟨ad, us, hb, hsp, hp, h1, hl, hat⟩ := hvr
      refine Snd.pure h hd (run ad.block ad.off k i (by rw [hb, addr_eta hsp]) hk h0i hin) ?_
      simp only [VR]
      exact ⟨_, us.drop (i.toNat * P.cellsOf el), rfl, rfl, purL_drop hp _, all_drop h1 _, hl.drop _, hat.drop_ _⟩
    · cases he
  · cases he

theorem snd_ixSl (h : RelC φ w0 N s a w) (hd : d < N) {o : Oper} {t : TypeId} {x y : Operand} (ho : o.op = .indexAddr t x y) {el : TypeId} (hu : P.underlying t = some (.slice el)) (hi : (P.info? el).isSome = true) {x' y' : Opd} (hx : opd x = some x') (hy : opd y = some y')
    (he : neu s d (.ixSl (P.cellsOf el) x' y') = some e) : Snd P w0 N s a w d o e := by
  obtain ⟨inf, hi⟩ := Option.isSome_iff_exists.1 hi
  have run : ∀ b o' k (i : Int) (n c : Nat), a.eval x = .slice (some ⟨b, o', none⟩) n c → a.eval y = .int k i → 0 ≤ i → i < n → (execOp a.eval o).run P w = .ok (.value (.pointer (some ⟨b, o' + i.toNat * P.cellsOf el, none⟩))) w := by
    intro b o' k i n c hb hk h0 h1
    unfold execOp
    rw [ho]
    simp only [hb, hk, Instr.indexAt, asIntOf, Sem.run_bind, run_underlying hu, Result.andThen_ok, Sem.run_pure, run_sizeOf w hi, if_pos (And.intro h0 h1), add_at]
  simp only [neu] at he
  split at he
  · rename_i hh off n sz' ver i hv hiv
    split at he
    · rename_i hok
      injection he with he; subst he
      obtain ⟨hok, h0i, hin, rfl, hpos⟩ := hok
      obtain ⟨k, hiv⟩ := idxI_get hiv
      have hk := (get_VR h hy hiv).int_
      have h0 := get_VR h hx hv
      simp only [St.ok, Bool.and_eq_true, beq_iff_eq] at hok
      simp only [VR] at h0
      obtain ⟨hver, A, c, hb, hnc, hrow⟩ := h0
      have hr := hrow hok.1 hok.2
      unfold rowR at hr
      cases hφ : φ hh with
      | none => simp only [hφ] at hr; omega
      | some p =>
        obtain ⟨b, o'⟩ := p
        simp only [hφ] at hr
        rcases hr.2.1 with hc0 | hA
        · omega
        subst hA
        refine Snd.pure h hd (run b _ k i n c hb hk h0i hin) ?_
        simp only [VR]
        refine ⟨hver, rfl, fun _ _ => ?_⟩
        simp only [ptrR, hφ, Nat.add_assoc]
    · cases he
  · rename_i f n cs i hv hiv
    split at he
    · rename_i hok
      injection he with he; subst he
      obtain ⟨h0i, hin, hlen, hpos⟩ := hok
      obtain ⟨k, hiv⟩ := idxI_get hiv
      have hk := (get_VR h hy hiv).int_
      have hvr := get_VR h hx hv
      simp only [VR] at hvr
      obtain ⟨A, c, us, hb, hnc, _, _, hp, h1, hl, hat⟩ := hvr
      have hl' := hl.length
      have hus : 0 < us.length := by rw [hl', hlen]; exact Nat.mul_pos (by omega) hpos
      obtain ⟨ad, rfl, hsp, _, _⟩ := hat 0 hus
      refine Snd.pure h hd (run ad.block ad.off k i n c (by rw [hb]; congr 1; rw [← addr_eta hsp]) hk h0i hin) ?_
      simp only [VR]
      exact ⟨_, us.drop (i.toNat * P.cellsOf el), rfl, rfl, purL_drop hp _, all_drop h1 _, hl.drop _, hat.drop_ _⟩
    · cases he
  · cases he
end
end Go.Proofs.YtilbipknodpmmaaDoor

/-! Operations that read and reckon, more. -/
set_option linter.unusedSectionVars false
set_option linter.unusedVariables false
set_option linter.unusedSimpArgs false
namespace Go.Proofs.YtilbipknodpmmaaDoor
open Go.RowKit

/-! ### '==' of arrays and structs -/
def cellOf (P : Program) (t : TypeId) (us : List Value) : Value := if aggT P t then .agg us.toArray else us.getD 0 undef

inductive CkFit : CK → Value → Prop where
  | b (x : Bool) : CkFit .b (.bool x)
  | i (k : IntKind) (n : Int) : CkFit .i (.int k n)
  | s (x : ByteArray) : CkFit .s (.string x)

def cmpV : Value → Value → Option Bool
  | .bool a, .bool b => some (a == b)
  | .int k a, .int k' b => if k = k' then some (decide (a = b)) else none
  | .string a, .string b => some (decide (a.data.toList = b.data.toList))
  | _, _ => none
def cmpL : List Value → List Value → Option Bool
  | [], [] => some true
  | a :: as, b :: bs => match cmpV a b, cmpL as bs with
    | some x, some y => some (x && y)
    | _, _ => none
  | _, _ => none

theorem cmpL_length : ∀ {xs ys : List Value} {r : Bool}, cmpL xs ys = some r → xs.length = ys.length
  | [], [], _, _ => rfl
  | [], _ :: _, _, h => by simp [cmpL] at h
  | _ :: _, [], _, h => by simp [cmpL] at h
  | x :: xs, y :: ys, r, h => by
    simp only [cmpL] at h
    split at h
    · rename_i hh; simp [cmpL_length hh]
    · cases h

theorem cmpL_split : ∀ {xs ys : List Value} {r : Bool}, cmpL xs ys = some r → ∀ n, ∃ a b, cmpL (xs.take n) (ys.take n) = some a ∧ cmpL (xs.drop n) (ys.drop n) = some b ∧ r = (a && b)
  | xs, ys, r, h, 0 => ⟨true, r, by simp [cmpL], by simpa using h, by simp⟩
  | [], [], r, h, n + 1 => ⟨true, true, by simp [cmpL], by simp [cmpL], by simpa [cmpL] using h.symm⟩
  | [], _ :: _, _, h, _ => by simp [cmpL] at h
  | _ :: _, [], _, h, _ => by simp [cmpL] at h
  | x :: xs, y :: ys, r, h, n + 1 => by
    simp only [cmpL] at h
    split at h
    · rename_i p q hp hq
      injection h with h; subst h
      obtain ⟨a, b, h1, h2, h3⟩ := cmpL_split hq n
      refine ⟨p && a, b, ?_, by simpa using h2, by rw [h3, Bool.and_assoc]⟩
      simp only [List.take_succ_cons, cmpL, hp, h1]
    · cases h

section
variable {P : Program} (w : World)

theorem run_part_cell {t : TypeId} {us : List Value} {off : Nat} {u : TypeDesc} (hu : P.underlying t = some u) {i : TypeInfo} (hi : P.info? t = some i) (hl : off + P.cellsOf t ≤ us.length) (h1 : aggT P t = false → P.cellsOf t = 1) :
    (part t us.toArray off).run P w = .ok (cellOf P t ((us.drop off).take (P.cellsOf t))) w := by
  by_cases hg : aggT P t = true
  · have hagg : (isAgg t).run P w = .ok true w := by
      unfold isAgg
      rw [Sem.run_bind, run_underlying hu w]
      unfold aggT at hg; rw [hu] at hg
      cases u <;> simp_all
    simp only [part, Sem.run_bind, hagg, Result.andThen_ok, if_true, run_sizeOf w hi, Sem.run_pure, cellOf, hg]
    congr 2
    rw [List.extract_toArray, List.extract_eq_take_drop]
    congr 2
    omega
  · have hg' : aggT P t = false := by simpa using hg
    have hagg : (isAgg t).run P w = .ok false w := by
      unfold isAgg
      rw [Sem.run_bind, run_underlying hu w]
      unfold aggT at hg'; rw [hu] at hg'
      cases u <;> simp_all
    have := h1 hg'
    have hlt : off < us.length := by omega
    simp only [part, Sem.run_bind, hagg, Result.andThen_ok, Bool.false_eq_true, if_false, cellOf, hg', this]
    rw [show us.toArray[off]? = some us[off] by simp [hlt]]
    simp [List.getElem?_drop, hlt]

theorem eq_kinds : ∀ (d : Nat) {t : TypeId} {ks : List CK}, kindsT P d t = some ks → ∀ (D : Nat) (_hD : d ≤ D) {xs ys : List Value} {r : Bool}, xs.length = ks.length → (∀ j (hj : j < xs.length) (hj' : j < ks.length), CkFit ks[j] xs[j]) → cmpL xs ys = some r →
    (aggT P t = false → xs.length = 1) ∧ (Op.equalIn D t (cellOf P t xs) (cellOf P t ys)).run P w = .ok r w
  | 0, t, ks, h, _, _, _, _, _, _, _, _ => by simp [kindsT] at h
  | d + 1, t, ks, h, D, hD, xs, ys, r, hl, hf, hr => by
    obtain ⟨D, rfl⟩ : ∃ D', D = D' + 1 := ⟨D - 1, by omega⟩
    simp only [kindsT] at h
    cases hu : P.underlying t with
    | none => rw [hu] at h; cases h
    | some u =>
      rw [hu] at h
      have scal : ∀ k, ks = [k] → aggT P t = false → ((aggT P t = false → xs.length = 1) ∧ ∃ x y, xs = [x] ∧ ys = [y] ∧ cmpV x y = some r ∧ CkFit k x ∧ cellOf P t xs = x ∧ cellOf P t ys = y) := by
        rintro k rfl hg
        simp only [List.length_singleton] at hl
        obtain ⟨x, rfl⟩ := List.length_eq_one_iff.1 hl
        have hly := cmpL_length hr
        obtain ⟨y, rfl⟩ := List.length_eq_one_iff.1 hly.symm
        refine ⟨fun _ => rfl, x, y, rfl, rfl, ?_, hf 0 (by simp) (by simp), by simp [cellOf, hg], by simp [cellOf, hg]⟩
        simp only [cmpL] at hr
        cases hc : cmpV x y with
        | none => rw [hc] at hr; cases hr
        | some z => rw [hc] at hr; simpa using hr
      cases u with
      | bool =>
        simp only [Option.some.injEq] at h
        obtain ⟨h1, x, y, rfl, rfl, hc, hk, e1, e2⟩ := scal .b h.symm (by simp [aggT, hu])
        refine ⟨h1, ?_⟩
        rw [e1, e2]
        cases hk
        cases y <;> simp only [cmpV] at hc <;> try (cases hc; done)
        injection hc with hc; subst hc
        exact run_equalIn_bool w D t _ _ hu
      | int k =>
        simp only [Option.some.injEq] at h
        obtain ⟨h1, x, y, rfl, rfl, hc, hk, e1, e2⟩ := scal .i h.symm (by simp [aggT, hu])
        refine ⟨h1, ?_⟩
        rw [e1, e2]
        cases hk
        cases y <;> simp only [cmpV] at hc <;> try (cases hc; done)
        split at hc
        · rename_i hkk
          subst hkk
          injection hc with hc; subst hc
          exact run_equalIn_int w D t _ _ _ _ hu
        · cases hc
      | string =>
        simp only [Option.some.injEq] at h
        obtain ⟨h1, x, y, rfl, rfl, hc, hk, e1, e2⟩ := scal .s h.symm (by simp [aggT, hu])
        refine ⟨h1, ?_⟩
        rw [e1, e2]
        cases hk
        cases y <;> simp only [cmpV] at hc <;> try (cases hc; done)
        injection hc with hc; subst hc
        rw [run_equalIn_string w D t _ _ hu]
        congr 1
        rw [ByteArray.toList_eq, ByteArray.toList_eq]
        exact Bool.beq_eq_decide_eq _ _
      | array n e =>
        simp only at h
        cases hk : kindsT P d e with
        | none => rw [hk] at h; cases h
        | some ke =>
          rw [hk] at h
          simp only at h
          split at h
          · rename_i hc
            obtain ⟨hke, hi⟩ := hc
            obtain ⟨i, hi⟩ := Option.isSome_iff_exists.1 hi
            injection h with h; subst h
            have hg : aggT P t = true := by simp [aggT, hu]
            refine ⟨fun hx => (by rw [hg] at hx; cases hx), ?_⟩
            have hue : ∃ u, P.underlying e = some u := by
              cases d with
              | zero => simp [kindsT] at hk
              | succ d => simp only [kindsT] at hk; cases hue : P.underlying e with
                | none => rw [hue] at hk; cases hk
                | some u => exact ⟨u, rfl⟩
            obtain ⟨u, hue⟩ := hue
            simp only [cellOf, hg, if_true]
            rw [run_equalIn_array w D _ _ hu hi]
            have items : ∀ (m j : Nat) (xs' ys' : List Value) (r : Bool), xs' = xs.drop (j * P.cellsOf e) → ys' = ys.drop (j * P.cellsOf e) → m + j = n → cmpL xs' ys' = some r → (Op.eqItems D e (P.cellsOf e) xs.toArray ys.toArray (List.range' j m)).run P w = .ok r w := by
              intro m
              induction m with
              | zero =>
                intro j xs' ys' r hx hy hj hr'
                have hlen : xs'.length = 0 := by rw [hx, List.length_drop, hl]; simp [hke]; have : j = n := by omega
                                                 subst this; omega
                have hx0 := List.eq_nil_of_length_eq_zero hlen
                have hy0 : ys' = [] := List.eq_nil_of_length_eq_zero (by have := cmpL_length hr'; omega)
                rw [hx0, hy0] at hr'
                simp only [cmpL, Option.some.injEq] at hr'
                subst hr'
                simp [Op.eqItems]
              | succ m ih =>
                intro j xs' ys' r hx hy hj hr'
                obtain ⟨p, q, h1, h2, h3⟩ := cmpL_split hr' (P.cellsOf e)
                have hxl : xs.length = n * P.cellsOf e := by rw [hl]; simp [hke]
                have hyl : ys.length = n * P.cellsOf e := by rw [← cmpL_length hr]; exact hxl
                have hfit : (j + 1) * P.cellsOf e ≤ n * P.cellsOf e := Nat.mul_le_mul_right _ (by omega)
                rw [Nat.add_mul, Nat.one_mul] at hfit
                have ihk := eq_kinds d hk D (by omega) (xs := (xs.drop (j * P.cellsOf e)).take (P.cellsOf e)) (ys := (ys.drop (j * P.cellsOf e)).take (P.cellsOf e)) (r := p) (by simp [hke, hxl]; omega) (fun q hq hq' => by
                  simp only [List.getElem_take, List.getElem_drop]
                  simp only [List.length_take, List.length_drop] at hq
                  have hkk := hf (j * P.cellsOf e + q) (by omega) (by rw [← hl]; omega)
                  have e1 : (List.replicate n ke).flatten[j * P.cellsOf e + q]'(by rw [← hl]; omega) = ke[q] := by
                    have hjn : j < n := by omega
                    have := List.getElem?_eq_some_iff.1 (show (List.replicate n ke).flatten[j * P.cellsOf e + q]? = some ke[q] from ?_)
                    · exact this.2
                    · obtain ⟨z, rfl⟩ : ∃ z, n = j + (z + 1) := ⟨n - j - 1, by omega⟩
                      rw [← List.replicate_append_replicate, List.flatten_append, List.getElem?_append_right (by simp [hke])]
                      rw [List.replicate_succ, List.flatten_cons]
                      rw [show j * P.cellsOf e + q - (List.replicate j ke).flatten.length = q by simp [hke]]
                      rw [List.getElem?_append_left hq', List.getElem?_eq_getElem hq']
                  rw [e1] at hkk
                  exact hkk) (by rw [← hx, ← hy]; exact h1)
                have h1c : aggT P e = false → P.cellsOf e = 1 := fun hx => by
                  have := ihk.1 hx
                  simp only [List.length_take, List.length_drop] at this
                  omega
                rw [List.range'_succ, Op.eqItems]
                simp only [Sem.run_bind, run_part_cell w hue hi (us := xs) (off := j * P.cellsOf e) (by omega) h1c, run_part_cell w hue hi (us := ys) (off := j * P.cellsOf e) (by omega) h1c, Result.andThen_ok, ihk.2]
                cases p with
                | false => simp only [Bool.not_false, if_true, Sem.run_pure]; rw [h3]; rfl
                | true =>
                  simp only [Bool.not_true, Bool.false_eq_true, if_false]
                  rw [h3, Bool.true_and]
                  exact ih (j + 1) _ _ q (by rw [hx, List.drop_drop]; congr 1; rw [Nat.add_mul]; omega) (by rw [hy, List.drop_drop]; congr 1; rw [Nat.add_mul]; omega) (by omega) h2
            rw [List.range_eq_range']
            exact items n 0 xs ys r (by simp) (by simp) (by omega) hr
          · cases h
      | struct fs =>
        simp only at h
        split at h
        · rename_i hp
          have hg : aggT P t = true := by simp [aggT, hu]
          refine ⟨fun hx => (by rw [hg] at hx; cases hx), ?_⟩
          simp only [cellOf, hg, if_true]
          have hff : P.fieldsOf t = fs := by simp [Program.fieldsOf, hu]
          rw [run_equalIn_struct (P := P) w D t _ _ (by rw [hff]; exact hu) hp, hff]
          have flds : ∀ (l : List Field) (off : Nat) (kl : List CK) (r : Bool), fieldsK P (kindsT P d) off l = some kl → off + kl.length = xs.length → off + kl.length = ks.length → kl = ks.drop off → cmpL (xs.drop off) (ys.drop off) = some r → (Op.eqFields D xs.toArray ys.toArray l).run P w = .ok r w := by
            intro l
            induction l with
            | nil =>
              intro off kl r hk hx _ _ hr'
              simp only [fieldsK, Option.some.injEq] at hk
              subst hk
              have hx0 : xs.drop off = [] := List.drop_eq_nil_of_le (by simpa using Nat.le_of_eq hx.symm)
              have hy0 : ys.drop off = [] := List.eq_nil_of_length_eq_zero (by have := cmpL_length hr'; rw [hx0] at this; simpa using this.symm)
              rw [hx0, hy0] at hr'
              simp only [cmpL, Option.some.injEq] at hr'
              subst hr'
              simp [Op.eqFields]
            | cons f l ih =>
              intro off kl r hk hx hx2 hdr hr'
              simp only [fieldsK] at hk
              split at hk
              · rename_i hc
                obtain ⟨hn, hoff, hi, hue⟩ := hc
                obtain ⟨i, hi⟩ := Option.isSome_iff_exists.1 hi
                obtain ⟨u, hue⟩ := Option.isSome_iff_exists.1 hue
                subst hoff
                split at hk
                · rename_i ka kb hka hkb
                  split at hk
                  · rename_i hkl
                    injection hk with hk; subst hk
                    simp only [List.length_append] at hx hx2
                    obtain ⟨p, q, h1, h2, h3⟩ := cmpL_split hr' (P.cellsOf f.type)
                    have hxy := cmpL_length hr
                    have ihk := eq_kinds d hka D (by omega) (xs := (xs.drop f.offset).take (P.cellsOf f.type)) (ys := (ys.drop f.offset).take (P.cellsOf f.type)) (r := p) (by simp [hkl]; omega) (fun q hq hq' => by
                      simp only [List.getElem_take, List.getElem_drop]
                      have hkk := hf (f.offset + q) (by omega) (by omega)
                      have e1 : ks[f.offset + q]'(by omega) = ka[q] := by
                        have e2 : (ks.drop f.offset)[q]'(by simp; omega) = ka[q] := by
                          have : (ks.drop f.offset)[q]? = some ka[q] := by rw [← hdr, List.getElem?_append_left hq', List.getElem?_eq_getElem hq']
                          exact (List.getElem?_eq_some_iff.1 this).2
                        rw [← e2, List.getElem_drop]
                      rw [e1] at hkk
                      exact hkk) h1
                    have h1c : aggT P f.type = false → P.cellsOf f.type = 1 := fun hx' => by
                      have := ihk.1 hx'
                      simp only [List.length_take, List.length_drop] at this
                      omega
                    rw [Op.eqFields]
                    simp only [if_pos hn, Sem.run_bind, run_part_cell w hue hi (us := xs) (off := f.offset) (by omega) h1c, run_part_cell w hue hi (us := ys) (off := f.offset) (by omega) h1c, Result.andThen_ok, ihk.2]
                    cases p with
                    | false => simp only [Bool.not_false, if_true, Sem.run_pure]; rw [h3]; rfl
                    | true =>
                      simp only [Bool.not_true, Bool.false_eq_true, if_false]
                      rw [h3, Bool.true_and]
                      refine ih (f.offset + P.cellsOf f.type) kb q hkb (by omega) (by omega) ?_ (by simpa [List.drop_drop] using h2)
                      rw [← List.drop_drop, ← hdr, ← hkl, List.drop_left]
                  · cases hk
                · cases hk
              · cases hk
          exact flds fs.toList 0 ks r h (by omega) (by omega) (by simp) (by simpa using hr)
        · cases h
      | _ => simp at h
end
end Go.Proofs.YtilbipknodpmmaaDoor

/-! Operations that read and reckon: the rest. -/
set_option linter.unusedSectionVars false
set_option linter.unusedVariables false
set_option linter.unusedSimpArgs false
namespace Go.Proofs.YtilbipknodpmmaaDoor
open Go.RowKit

section
variable [Off] [Gh] [Old] {P : Program} {φ : Nat → Option (Nat × Nat)} {w0 : World} {N : Nat} {s : St} {a : Act} {w : World} {d : Nat} {e : Eff}

theorem eqGuard_int (op : BinOp) (t : TypeId) (x y : Operand) (k k' : IntKind) (m n : Int) (w : World) : (eqGuard op t x y (.int k m) (.int k' n)).run P w = .ok () w := by
  unfold eqGuard; cases op <;> rfl
theorem eqGuard_bool (op : BinOp) (t : TypeId) (x y : Operand) (m n : Bool) (w : World) : (eqGuard op t x y (.bool m) (.bool n)).run P w = .ok () w := by
  unfold eqGuard; cases op <;> rfl
theorem eqGuard_str (op : BinOp) (t : TypeId) (x y : Operand) (m n : ByteArray) (w : World) : (eqGuard op t x y (.string m) (.string n)).run P w = .ok () w := by
  unfold eqGuard; cases op <;> rfl

theorem binI_run {op : BinOp} {k : IntKind} {x y : Int} {v : IV} (h : binI op k x y = some v) (hs : isShift op = false) (t : TypeId) (c : Sx) (w : World) : ∃ rv, (binOp op t (.int k x) (.int k y)).run P w = .ok rv w ∧ VR c v rv := by
  cases op with
  | add =>
    simp only [binI, bitsI, Option.some.injEq] at h; subst h
    exact ⟨.int k (k.wrap (x + y)), by simp [binOp, Op.intArith, Op.intCmp, Op.intBits, bne], by simp only [VR]⟩
  | sub =>
    simp only [binI, bitsI, Option.some.injEq] at h; subst h
    exact ⟨.int k (k.wrap (x - y)), by simp [binOp, Op.intArith, Op.intCmp, Op.intBits, bne], by simp only [VR]⟩
  | mul =>
    simp only [binI, bitsI, Option.some.injEq] at h; subst h
    exact ⟨.int k (k.wrap (x * y)), by simp [binOp, Op.intArith, Op.intCmp, Op.intBits, bne], by simp only [VR]⟩
  | quo =>
    simp only [binI] at h
    split at h
    · cases h
    · rename_i hy
      simp only [Option.some.injEq] at h; subst h
      exact ⟨.int k (k.wrap (x.tdiv y)), by simp [binOp, Op.intDiv, hy], by simp only [VR]⟩
  | rem =>
    simp only [binI] at h
    split at h
    · cases h
    · rename_i hy
      simp only [Option.some.injEq] at h; subst h
      exact ⟨.int k (x.tmod y), by simp [binOp, Op.intDiv, hy], by simp only [VR]⟩
  | and =>
    simp only [binI, bitsI, Option.some.injEq] at h; subst h
    exact ⟨.int k (k.wrap (BitVec.ofInt k.bits x &&& BitVec.ofInt k.bits y).toNat), by simp [binOp, Op.intArith, Op.intCmp, Op.intBits, bne], by simp only [VR]⟩
  | or =>
    simp only [binI, bitsI, Option.some.injEq] at h; subst h
    exact ⟨.int k (k.wrap (BitVec.ofInt k.bits x ||| BitVec.ofInt k.bits y).toNat), by simp [binOp, Op.intArith, Op.intCmp, Op.intBits, bne], by simp only [VR]⟩
  | xor =>
    simp only [binI, bitsI, Option.some.injEq] at h; subst h
    exact ⟨.int k (k.wrap (BitVec.ofInt k.bits x ^^^ BitVec.ofInt k.bits y).toNat), by simp [binOp, Op.intArith, Op.intCmp, Op.intBits, bne], by simp only [VR]⟩
  | andNot =>
    simp only [binI, bitsI, Option.some.injEq] at h; subst h
    exact ⟨.int k (k.wrap (BitVec.ofInt k.bits x &&& ~~~BitVec.ofInt k.bits y).toNat), by simp [binOp, Op.intArith, Op.intCmp, Op.intBits, bne], by simp only [VR]⟩
  | shl => simp [isShift] at hs
  | shr => simp [isShift] at hs
  | eql =>
    simp only [binI, bitsI, Option.some.injEq] at h; subst h
    exact ⟨.bool (decide (x = y)), by simp [binOp, Op.intArith, Op.intCmp, Op.intBits, bne]; rfl, by simp only [VR]⟩
  | neq =>
    simp only [binI, bitsI, Option.some.injEq] at h; subst h
    exact ⟨.bool (!decide (x = y)), by simp [binOp, Op.intArith, Op.intCmp, Op.intBits, bne]; rfl, by simp only [VR]⟩
  | lss =>
    simp only [binI, bitsI, Option.some.injEq] at h; subst h
    exact ⟨.bool (decide (x < y)), by simp [binOp, Op.intArith, Op.intCmp, Op.intBits, bne], by simp only [VR]⟩
  | leq =>
    simp only [binI, bitsI, Option.some.injEq] at h; subst h
    exact ⟨.bool (decide (x ≤ y)), by simp [binOp, Op.intArith, Op.intCmp, Op.intBits, bne], by simp only [VR]⟩
  | gtr =>
    simp only [binI, bitsI, Option.some.injEq] at h; subst h
    exact ⟨.bool (decide (y < x)), by simp [binOp, Op.intArith, Op.intCmp, Op.intBits, bne], by simp only [VR]⟩
  | geq =>
    simp only [binI, bitsI, Option.some.injEq] at h; subst h
    exact ⟨.bool (decide (y ≤ x)), by simp [binOp, Op.intArith, Op.intCmp, Op.intBits, bne], by simp only [VR]⟩

theorem shI_run {op : BinOp} {k k' : IntKind} {x y : Int} {v : IV} (h : shI op k x y = some v) (hs : isShift op = true) (t : TypeId) (c : Sx) (w : World) : ∃ rv, (binOp op t (.int k x) (.int k' y)).run P w = .ok rv w ∧ VR c v rv := by
  unfold shI at h
  split at h
  · cases h
  · rename_i hy
    cases op <;> simp [isShift] at hs <;> simp only at h
    all_goals
      injection h with h; subst h
      exact ⟨_, by simp only [binOp, Op.shift, if_neg hy]; rfl, by simp only [VR]⟩

theorem str_toList (l : List UInt8) : (⟨l.toArray⟩ : ByteArray).toList = l := by rw [ByteArray.toList_eq]

theorem snd_binB (h : RelC φ w0 N s a w) (hd : d < N) {o : Oper} {op : BinOp} {t yt : TypeId} {x y : Operand} (ho : o.op = .binOp op t x y yt) (ht : boolT P t = true) {x' y' : Opd} (hx : opd x = some x') (hy : opd y = some y') (he : neu s d (.binB op x' y') = some e) : Snd P w0 N s a w d o e := by
  have hu : P.underlying t = some .bool := by
    unfold boolT at ht
    split at ht
    · assumption
    · cases ht
  simp only [neu] at he
  split at he
  · rename_i m n hp hq
    have e1 := (get_VR h hx hp).bool_
    have e2 := (get_VR h hy hq).bool_
    have heq := run_equal_bool w t m n hu
    cases op <;> simp only at he <;> try (cases he; done)
    · injection he with he; subst he
      refine Snd.pure h hd (rv := .bool (m == n)) ?_ VR.bool_mk
      unfold execOp
      rw [ho]
      simp only [e1, e2, Sem.run_bind, eqGuard_bool, Result.andThen_ok, binOp, heq, Sem.run_pure]
    · injection he with he; subst he
      refine Snd.pure h hd (rv := .bool (!(m == n))) ?_ VR.bool_mk
      unfold execOp
      rw [ho]
      simp only [e1, e2, Sem.run_bind, eqGuard_bool, Result.andThen_ok, binOp, heq, Sem.run_pure]
  · cases he

theorem snd_bin (h : RelC φ w0 N s a w) (hd : d < N) {o : Oper} {op : BinOp} {t yt : TypeId} {x y : Operand} (ho : o.op = .binOp op t x y yt) (ht : plainT P t = true) {x' y' : Opd} (hx : opd x = some x') (hy : opd y = some y') (he : neu s d (.bin op x' y') = some e) : Snd P w0 N s a w d o e := by
  simp only [neu] at he
  split at he
  · rename_i p q hp hq
    split at he
    · rename_i v hv
      injection he with he; subst he
      have hxv := get_VR h hx hp
      have hyv := get_VR h hy hq
      cases p <;> cases q <;> simp only [binV] at hv <;> try (cases hv; done)
      · rename_i k m k' n
        have e1 := hxv.int_
        have e2 := hyv.int_
        have fin : ∀ rv, (binOp op t (.int k m) (.int k' n)).run P w = .ok rv w → VR (sx w s.h φ w0.heap.size) v rv → Snd P w0 N s a w d o ⟨v, none⟩ := by
          intro rv hr hvr
          refine Snd.pure h hd (rv := rv) ?_ hvr
          unfold execOp
          rw [ho]
          simp only [e1, e2, Sem.run_bind, eqGuard_int, Result.andThen_ok, hr, Sem.run_pure]
        split at hv
        · rename_i hsh
          obtain ⟨rv, hr, hvr⟩ := shI_run (P := P) (k' := k') hv hsh t (sx w s.h φ w0.heap.size) w
          exact fin rv hr hvr
        · rename_i hsh
          split at hv
          · rename_i hk
            subst hk
            obtain ⟨rv, hr, hvr⟩ := binI_run (P := P) hv (by simpa using hsh) t (sx w s.h φ w0.heap.size) w
            exact fin rv hr hvr
          · cases hv
      · rename_i l m
        have e1 := hxv.str_
        have e2 := hyv.str_
        have fin : ∀ rv, (Op.stringOp op ⟨l.toArray⟩ ⟨m.toArray⟩).run P w = .ok rv w → VR (sx w s.h φ w0.heap.size) v rv → Snd P w0 N s a w d o ⟨v, none⟩ := by
          intro rv hr hvr
          refine Snd.pure h hd (rv := rv) ?_ hvr
          unfold execOp
          rw [ho]
          simp only [e1, e2, Sem.run_bind, eqGuard_str, Result.andThen_ok]
          cases op <;> simp only [reduceCtorEq] at hv
          all_goals simp only [binOp, hr, Result.andThen_ok, Sem.run_pure]
        cases op <;> simp only at hv <;> try (cases hv; done)
        · split at hv
          · rename_i hle
            injection hv with hv; subst hv
            refine fin (.string ⟨(l ++ m).toArray⟩) ?_ (by simp only [VR])
            have hsz : ¬ ((((⟨l.toArray⟩ : ByteArray).size + (⟨m.toArray⟩ : ByteArray).size : Nat) : Int) > IntKind.i64.max) := by
              have : ((⟨l.toArray⟩ : ByteArray).size + (⟨m.toArray⟩ : ByteArray).size) = l.length + m.length := rfl
              rw [this]
              simp only [IntKind.max, IntKind.signed, IntKind.bits, if_true]
              omega
            simp only [Op.stringOp, if_neg hsz, Sem.run_pure]
            congr 2
          · cases hv
        · injection hv with hv; subst hv
          refine fin (.bool (decide (l = m))) ?_ (by simp only [VR])
          simp only [Op.stringOp, str_toList, Sem.run_pure]
          congr 2
          exact Bool.beq_eq_decide_eq _ _
        · injection hv with hv; subst hv
          refine fin (.bool (!decide (l = m))) ?_ (by simp only [VR])
          simp only [Op.stringOp, str_toList, Sem.run_pure]
          congr 3
          exact Bool.beq_eq_decide_eq _ _
    · cases he
  · cases he

theorem unV_run {op : UnOp} {p v : IV} (h : unV op p = some v) {u : Value} {c : Sx} (hp : VR c p u) (w : World) : ∃ rv, (Op.unary op u).run P w = .ok rv w ∧ VR c v rv := by
  cases p <;> simp only [unV] at h <;> try (cases h; done)
  · rename_i k n
    have e1 := hp.int_
    subst e1
    cases op <;> simp only [reduceCtorEq] at h
    · simp only [Option.some.injEq] at h; subst h
      exact ⟨.int k (k.wrap (0 - n)), by simp [Op.unary, Op.intArith], by simp only [VR]⟩
    · simp only [bitsI, Option.some.injEq] at h; subst h
      exact ⟨_, by simp only [Op.unary, Op.intBits]; rfl, by simp only [VR]⟩
  · rename_i b
    have e1 := hp.bool_
    subst e1
    cases op <;> simp only [reduceCtorEq] at h
    simp only [Option.some.injEq] at h; subst h
    exact ⟨.bool !b, by simp [Op.unary], by simp only [VR]⟩

theorem snd_un (h : RelC φ w0 N s a w) (hd : d < N) {o : Oper} {op : UnOp} {t : TypeId} {x : Operand} (ho : o.op = .unOp op t x) {x' : Opd} (hx : opd x = some x') (he : neu s d (.un op x') = some e) : Snd P w0 N s a w d o e := by
  simp only [neu] at he
  split at he
  · rename_i p hp
    split at he
    · rename_i v hv
      injection he with he; subst he
      obtain ⟨rv, hr, hvr⟩ := unV_run (P := P) hv (get_VR h hx hp) w
      refine Snd.pure h hd (rv := rv) ?_ hvr
      unfold execOp
      rw [ho]
      simp only [Sem.run_bind, hr, Result.andThen_ok, Sem.run_pure]
    · cases he
  · cases he

theorem eqC_cmp {c : Sx} {x y : IV} {r : Bool} (h : eqC x y = some r) {u v : Value} (hu : VR c x u) (hv : VR c y v) : cmpV u v = some r := by
  cases x <;> cases y <;> simp only [eqC] at h <;> try (cases h; done)
  · have e1 := hu.int_; have e2 := hv.int_; subst e1; subst e2; simpa only [cmpV] using h
  · have e1 := hu.bool_; have e2 := hv.bool_; subst e1; subst e2; simpa only [cmpV] using h
  · have e1 := hu.str_; have e2 := hv.str_; subst e1; subst e2; simpa only [cmpV] using h
theorem eqL_cmp {c : Sx} : ∀ {xs ys : List IV} {r : Bool}, eqL xs ys = some r → ∀ {us vs : List Value}, VRL c xs us → VRL c ys vs → cmpL us vs = some r
  | [], [], r, h, us, vs, hu, hv => by simp only [VRL] at hu hv; subst hu; subst hv; simpa [eqL, cmpL] using h
  | [], _ :: _, _, h, _, _, _, _ => by simp [eqL] at h
  | _ :: _, [], _, h, _, _, _, _ => by simp [eqL] at h
  | x :: xs, y :: ys, r, h, us, vs, hu, hv => by
    simp only [VRL] at hu hv
    obtain ⟨u, us', rfl, hu1, hu2⟩ := hu
    obtain ⟨v, vs', rfl, hv1, hv2⟩ := hv
    simp only [eqL] at h
    split at h
    · rename_i p q hp hq
      simp only [cmpL, eqC_cmp hp hu1 hv1, eqL_cmp hq hu2 hv2]
      exact h
    · cases h
theorem fitR_all : ∀ {rl : List (Nat × CK)} {cs : List IV}, fitR rl cs = true → cs.length = (expand rl).length ∧ ∀ j (hj : j < cs.length) (hj' : j < (expand rl).length), (expand rl)[j].fit cs[j] = true
  | [], cs, h => by
    simp only [fitR, List.isEmpty_iff] at h
    subst h
    exact ⟨rfl, fun j hj => by simp at hj⟩
  | (n, k) :: r, cs, h => by
    simp only [fitR, Bool.and_eq_true, decide_eq_true_eq] at h
    obtain ⟨⟨h1, h2⟩, h3⟩ := h
    obtain ⟨g1, g2⟩ := fitR_all h3
    simp only [List.length_drop] at g1
    refine ⟨by simp [expand]; omega, fun j hj hj' => ?_⟩
    simp only [expand]
    by_cases hjn : j < n
    · rw [List.getElem_append_left (by simpa using hjn), List.getElem_replicate]
      have := List.all_eq_true.1 h2 cs[j] (by rw [List.mem_take_iff_getElem]; exact ⟨j, by omega, rfl⟩)
      exact this
    · rw [List.getElem_append_right (by simpa using hjn)]
      have := g2 (j - n) (by simp; omega) (by simp [expand] at hj'; omega)
      simp only [List.getElem_drop] at this
      simpa [show n + (j - n) = j by omega] using this
theorem fit_ck {c : Sx} {k : CK} {x : IV} (h : k.fit x = true) {u : Value} (hu : VR c x u) : CkFit k u := by
  cases k <;> cases x <;> simp [CK.fit] at h
  · rw [hu.bool_]; exact .b _
  · rw [hu.int_]; exact .i _ _
  · rw [hu.str_]; exact .s _

theorem snd_eqv (h : RelC φ w0 N s a w) (hd : d < N) {o : Oper} {op : BinOp} {t yt : TypeId} {x y : Operand} (ho : o.op = .binOp op t x y yt) (hg : aggT P t = true) {rl : List (Nat × CK)} (hop : op = .eql ∨ op = .neq) (hk : kindsT P 20 t = some (expand rl)) (hgu : P.eqGuardType P.depth t = false)
    {x' y' : Opd} (hx : opd x = some x') (hy : opd y = some y') (he : neu s d (.eqv (op == .neq) rl x' y') = some e) : Snd P w0 N s a w d o e := by
  simp only [neu] at he
  split at he
  · rename_i p q hp hq
    split at he
    · rename_i hf
      split at he
      · rename_i r hr
        injection he with he; subst he
        have hxv := get_VR h hx hp
        have hyv := get_VR h hy hq
        simp only [VR] at hxv hyv
        obtain ⟨us, e1, _, hl1⟩ := hxv
        obtain ⟨vs, e2, _, hl2⟩ := hyv
        obtain ⟨f1, f2⟩ := fitR_all hf
        have hc := eqL_cmp hr hl1 hl2
        have hlen := hl1.length
        have heq := (eq_kinds w 20 hk 10000 (by omega) (xs := us) (ys := vs) (r := r) (by omega) (fun j hj hj' => fit_ck (f2 j (by omega) hj') (hl1.get j (by omega) hj)) hc).2
        simp only [cellOf, hg, if_true] at heq
        have hguard : (eqGuard op t x y (.agg us.toArray) (.agg vs.toArray)).run P w = .ok () w := by
          unfold eqGuard
          rcases hop with rfl | rfl <;> simp [hgu]
        have heq' : (Op.equal t (.agg us.toArray) (.agg vs.toArray)).run P w = .ok r w := heq
        refine Snd.pure h hd (rv := .bool (if (op == .neq) = true then !r else r)) ?_ VR.bool_mk
        unfold execOp
        rw [ho]
        simp only [e1, e2, Sem.run_bind, hguard, Result.andThen_ok]
        rcases hop with rfl | rfl
        · simp [binOp, heq']
        · simp [binOp, heq']
      · cases he
    · cases he
  · cases he

theorem snd_fld (h : RelC φ w0 N s a w) (hd : d < N) {o : Oper} {t : TypeId} {x : Operand} {fi : Nat} (ho : o.op = .field t x fi) {fs : Array Field} (hu : P.underlying t = some (.struct fs)) {f : Field} (hf : fs[fi]? = some f) (hi : (P.info? f.type).isSome = true) (hfu : (P.underlying f.type).isSome = true) {x' : Opd} (hx : opd x = some x')
    {ag : Bool} {off n : Nat} (hag : ag = aggT P f.type) (hoff : off = f.offset) (hn : n = if aggT P f.type then P.cellsOf f.type else 1) (he : neu s d (.fld ag off n x') = some e) : Snd P w0 N s a w d o e := by
  subst hoff
  obtain ⟨i, hi⟩ := Option.isSome_iff_exists.1 hi
  obtain ⟨u, hfu⟩ := Option.isSome_iff_exists.1 hfu
  simp only [neu] at he
  split at he
  · rename_i cs hv
    split at he
    · rename_i hle
      split at he
      · rename_i v hasv
        injection he with he; subst he
        have hvr := get_VR h hx hv
        simp only [VR] at hvr
        obtain ⟨us, hb, h1, hl⟩ := hvr
        have hlen := hl.length
        have hpart : ∃ rv, (part f.type us.toArray f.offset).run P w = .ok rv w ∧ (ag = true → rv = .agg ((us.drop f.offset).take n).toArray) ∧ (ag = false → (us.drop f.offset).take n = [rv]) := by
          by_cases hg : aggT P f.type = true
          · have := run_part_cell (P := P) w (t := f.type) (us := us) (off := f.offset) hfu hi (by rw [hn, if_pos hg] at hle; omega) (fun hx => by rw [hg] at hx; cases hx)
            rw [hn, if_pos hg]
            exact ⟨_, this, fun _ => (by simp [cellOf, hg]), fun hx => (by rw [hag, hg] at hx; cases hx)⟩
          · have hg' : aggT P f.type = false := by simpa using hg
            rw [hn, if_neg hg]
            rw [hn, if_neg hg] at hle
            have hagg : (isAgg f.type).run P w = .ok false w := by
              unfold isAgg
              rw [Sem.run_bind, run_underlying hfu w]
              unfold aggT at hg'; rw [hfu] at hg'
              cases u <;> simp_all
            have hlt : f.offset < us.length := by omega
            refine ⟨us[f.offset], ?_, fun hx => (by rw [hag, hg'] at hx; cases hx), fun _ => ?_⟩
            · simp only [part, Sem.run_bind, hagg, Result.andThen_ok, Bool.false_eq_true, if_false]
              rw [show us.toArray[f.offset]? = some us[f.offset] by simp [hlt]]
              rfl
            · rw [List.drop_eq_getElem_cons hlt]; rfl
        obtain ⟨rv, hrun, ha, hb'⟩ := hpart
        refine Snd.pure h hd (rv := rv) ?_ (asV_VR hasv ((hl.drop _).take _) (all_take (all_drop h1 _) _) ha hb')
        unfold execOp
        rw [ho]
        simp only [hb, Instr.field, Sem.run_bind, run_underlying hu, Result.andThen_ok, hf, asAgg, Sem.run_pure, hrun]
      · cases he
    · cases he
  · cases he

theorem snd_idx (h : RelC φ w0 N s a w) (hd : d < N) {o : Oper} {t : TypeId} {x y : Operand} (ho : o.op = .index t x y) {n : Nat} {el : TypeId} (hu : P.underlying t = some (.array n el)) (hi : (P.info? el).isSome = true) (hfu : (P.underlying el).isSome = true) (h1c : aggT P el = true ∨ P.cellsOf el = 1)
    {x' y' : Opd} (hx : opd x = some x') (hy : opd y = some y') {ag : Bool} (hag : ag = aggT P el) {sz : Nat} (hsz : sz = P.cellsOf el) (he : neu s d (.idx n sz ag x' y') = some e) : Snd P w0 N s a w d o e := by
  subst hsz
  obtain ⟨inf, hi⟩ := Option.isSome_iff_exists.1 hi
  obtain ⟨u, hfu⟩ := Option.isSome_iff_exists.1 hfu
  simp only [neu] at he
  split at he
  · rename_i cs i hv hiv
    split at he
    · rename_i hc
      obtain ⟨h0, hin, hle⟩ := hc
      split at he
      · rename_i v hasv
        injection he with he; subst he
        obtain ⟨k, hiv⟩ := idxI_get hiv
        have hk := (get_VR h hy hiv).int_
        have hvr := get_VR h hx hv
        simp only [VR] at hvr
        obtain ⟨us, hb, h1, hl⟩ := hvr
        have hlen := hl.length
        have hb2 : i.toNat * P.cellsOf el + P.cellsOf el ≤ us.length := by
          have : (i.toNat + 1) * P.cellsOf el ≤ n * P.cellsOf el := Nat.mul_le_mul_right _ (by omega)
          rw [Nat.add_mul, Nat.one_mul] at this
          omega
        have hrun := run_part_cell (P := P) w (t := el) (us := us) (off := i.toNat * P.cellsOf el) hfu hi hb2 (fun hx => by
          rcases h1c with hc | hc
          · rw [hc] at hx; cases hx
          · exact hc)
        refine Snd.pure h hd (rv := cellOf P el ((us.drop (i.toNat * P.cellsOf el)).take (P.cellsOf el))) ?_ (asV_VR hasv ((hl.drop _).take _) (all_take (all_drop h1 _) _) (fun hx => by simp [cellOf, ← hag, hx]) (fun hx => ?_))
        · unfold execOp
          rw [ho]
          simp only [hb, hk, Instr.index, asIntOf, Sem.run_bind, run_underlying hu, Result.andThen_ok, Sem.run_pure, if_pos (And.intro h0 hin), run_sizeOf w hi, hrun]
        · rw [hag] at hx
          rcases h1c with hc | hc
          · rw [hc] at hx; cases hx
          · simp only [cellOf, hx, Bool.false_eq_true, if_false, hc]
            rw [hc] at hb2
            rw [List.drop_eq_getElem_cons (by omega)]
            rfl
      · cases he
    · cases he
  · cases he

theorem snd_idxStr (h : RelC φ w0 N s a w) (hd : d < N) {o : Oper} {t : TypeId} {x y : Operand} (ho : o.op = .index t x y) (hu : P.underlying t = some .string) {x' y' : Opd} (hx : opd x = some x') (hy : opd y = some y') (he : neu s d (.idxStr x' y') = some e) : Snd P w0 N s a w d o e := by
  simp only [neu] at he
  split at he
  · rename_i l i hv hiv
    split at he
    · rename_i hc
      obtain ⟨h0, hin⟩ := hc
      injection he with he; subst he
      obtain ⟨k, hiv⟩ := idxI_get hiv
      have hk := (get_VR h hy hiv).int_
      have hb := (get_VR h hx hv).str_
      have hlt : i.toNat < l.length := by omega
      refine Snd.pure h hd (rv := .int .u8 ((l.getD i.toNat 0).toNat)) ?_ VR.int_mk
      unfold execOp
      rw [ho]
      have hget : (⟨l.toArray⟩ : ByteArray)[i.toNat]? = some (l.getD i.toNat 0) := by
        have hsz : (⟨l.toArray⟩ : ByteArray).size = l.length := rfl
        rw [getElem?_pos (⟨l.toArray⟩ : ByteArray) i.toNat (by rw [hsz]; exact hlt)]
        simp [List.getD, List.getElem?_eq_getElem hlt]
        rfl
      simp only [hb, hk, Instr.index, asIntOf, Sem.run_bind, run_underlying hu, Result.andThen_ok, Sem.run_pure, if_pos h0, hget]
    · cases he
  · cases he

theorem snd_mnx (h : RelC φ w0 N s a w) (hd : d < N) {o : Oper} {c : Call} (ho : o.op = .call c) {isMin : Bool} (hc : c.callee = .builtin (if isMin then .min else .max)) {x y : Operand} (hargs : c.args.toList = [x, y]) {x' y' : Opd} (hx : opd x = some x') (hy : opd y = some y') (he : neu s d (.mnx isMin x' y') = some e) : Snd P w0 N s a w d o e := by
  have hargs' : c.args = #[x, y] := by rw [← hargs]
  simp only [neu] at he
  split at he
  · rename_i k m k' n hp hq
    split at he
    · rename_i hk
      subst hk
      injection he with he; subst he
      have e1 := (get_VR h hx hp).int_
      have e2 := (get_VR h hy hq).int_
      refine Snd.pure h hd (rv := .int k (if isMin then (if n < m then n else m) else (if m < n then n else m))) ?_ VR.int_mk
      unfold execOp
      rw [ho]
      cases isMin
      · simp only [Bool.false_eq_true, if_false] at hc
        simp [resolve, hc, hargs', e1, e2, invoke, builtin, Builtin.max_, Builtin.max2]
      · simp only [if_true] at hc
        simp [resolve, hc, hargs', e1, e2, invoke, builtin, Builtin.min_, Builtin.min2]
    · cases he
  · cases he

theorem snd_toStr (h : RelC φ w0 N s a w) (hd : d < N) {o : Oper} {src dst el : TypeId} {x : Operand} (ho : o.op = .convert src dst x) (hs : P.underlying src = some (.slice el)) (hk : P.underlying dst = some .string) (hel : P.underlying el = some (.int .u8)) {x' : Opd} (hx : opd x = some x') (he : neu s d (.toStr x') = some e) : Snd P w0 N s a w d o e := by
  simp only [neu] at he
  split at he
  · rename_i v hv
    split at he
    · rename_i n cs hcs
      split at he
      · rename_i l hl
        injection he with he; subst he
        obtain ⟨A, k, us, hb, hvl, hlen, _, _, hat⟩ := elems_cells h.hs rfl hcs (get_VR h hx hv)
        have conv : ∀ (cs : List IV) (us : List Value) (l : List UInt8), VRL (sx w s.h φ w0.heap.size) cs us → cs.mapM (fun c => match c with | IV.int .u8 n => some (UInt8.ofNat n.toNat) | _ => none) = some l →
            ∃ ns : List Int, us = ns.map (Value.int .u8) ∧ ∀ acc : ByteArray, ns.foldl (fun r n => r.push (UInt8.ofNat n.toNat)) acc = ⟨(acc.data.toList ++ l).toArray⟩ := by
          intro cs
          induction cs with
          | nil => intro us l hu hm; simp only [VRL] at hu; subst hu; simp at hm; subst hm; exact ⟨[], rfl, fun acc => by simp⟩
          | cons c cs ih =>
            intro us l hu hm
            simp only [VRL] at hu
            obtain ⟨u, us', rfl, hu1, hu2⟩ := hu
            rw [List.mapM_cons] at hm
            simp only [bind, Option.bind_eq_some_iff, pure, Option.some.injEq] at hm
            obtain ⟨b, hb, l', hl', rfl⟩ := hm
            split at hb
            · rename_i n
              injection hb with hb; subst hb
              obtain ⟨ns, rfl, hf⟩ := ih us' l' hu2 hl'
              refine ⟨n :: ns, by rw [hu1.int_]; rfl, fun acc => ?_⟩
              rw [List.foldl_cons, hf]
              simp [ByteArray.push]
            · cases hb
        obtain ⟨ns, rfl, hf⟩ := conv cs us l hvl hl
        refine Snd.pure h hd (rv := .string ⟨l.toArray⟩) ?_ (by simp only [VR])
        unfold execOp
        rw [ho]
        have hn : n = (ns.map (Value.int .u8)).length := by omega
        have hrun : (Conv.bytesToString (.slice A n k)).run P w = .ok (.string ⟨l.toArray⟩) w := by
          have hres : ns.foldl (fun r n => r.push (UInt8.ofNat n.toNat)) ByteArray.empty = ⟨l.toArray⟩ := by rw [hf]; rfl
          cases A with
          | none =>
            have hnil : ns = [] := by
              cases ns with
              | nil => rfl
              | cons x xs => obtain ⟨b, o', hA, _⟩ := hat (by simp); cases hA
            subst hnil
            simp only [Conv.bytesToString, Sem.run_pure]
            rw [← hres]; rfl
          | some ad =>
            have hload : (loadCells ad n).run P w = .ok (ns.map (Value.int .u8)).toArray w := by
              rw [hn]
              refine run_loadCells_list (P := P) w ad _ (fun j v hv => ?_)
              obtain ⟨b, o', hA, hr⟩ := hat (by intro e; rw [e] at hv; simp at hv)
              injection hA with hA; subst hA
              rw [add_at]; exact hr j v hv
            rw [run_bytesToString w ad n k ns hload, hres]
        simp only [hb, convert, Sem.run_bind, run_underlying hs, run_underlying hk, run_underlying hel, Result.andThen_ok, hrun, Sem.run_pure]
      · cases he
    · cases he
  · cases he
end
end Go.Proofs.YtilbipknodpmmaaDoor

/-! Slices, arrays, what is built. -/
set_option linter.unusedSectionVars false
set_option linter.unusedVariables false
set_option linter.unusedSimpArgs false
namespace Go.Proofs.YtilbipknodpmmaaDoor
open Go.RowKit

section
variable [Off] [Gh] [Old] {P : Program} {φ : Nat → Option (Nat × Nat)} {w0 : World} {N : Nat} {s : St} {a : Act} {w : World} {d : Nat} {e : Eff}

theorem bnd_run (h : RelC φ w0 N s a w) {x : Option Operand} {x' : Option Opd} (hx : opdO x = some x') {dflt l : Nat} (hb : bnd s x' dflt = some l) :
    (x = none ∧ x' = none ∧ l = dflt) ∨ (∃ y y' k i, x = some y ∧ x' = some y' ∧ a.eval y = .int k i ∧ 0 ≤ i ∧ i.toNat = l) := by
  cases x with
  | none => simp only [opdO, Option.some.injEq] at hx; subst hx; simp only [bnd, Option.some.injEq] at hb; exact .inl ⟨rfl, rfl, hb.symm⟩
  | some y =>
    simp only [opdO] at hx
    split at hx
    · rename_i y' hy
      injection hx with hx; subst hx
      simp only [bnd] at hb
      split at hb
      · rename_i k i hg
        split at hb
        · rename_i h0
          injection hb with hb
          exact .inr ⟨y, y', k, i, rfl, rfl, (get_VR h hy hg).int_, h0, hb⟩
        · cases hb
      · cases hb
    · cases hx

theorem run_sliceBound {k : IntKind} {i : Int} {y : Nat} {code : BoundsCode} (h0 : 0 ≤ i) (h1 : i.toNat ≤ y) : (Instr.sliceBound (.int k i) y code).run P w = .ok i.toNat w := by
  simp only [Instr.sliceBound, asIntOf, Sem.run_bind, Sem.run_pure, Result.andThen_ok, if_pos (show 0 ≤ i ∧ i ≤ (y : Int) by omega)]

theorem bnds_run (h : RelC φ w0 N s a w) {lo hi mx : Option Operand} {lo' hi' mx' : Option Opd} (h1 : opdO lo = some lo') (h2 : opdO hi = some hi') (h3 : opdO mx = some mx') {n x y : Nat} {e : Bool} (hb : bnds s n lo' hi' mx' = some (x, y, e)) (isSl : Bool) (cap : Nat) (hn : n ≤ cap) :
    ∃ m, (Instr.sliceBounds isSl n cap (lo.map a.eval) (hi.map a.eval) (mx.map a.eval)).run P w = .ok (x, y, m) w ∧ x ≤ y ∧ y ≤ n ∧ y ≤ m ∧ m ≤ cap ∧ (e = true → m = y) ∧ (e = false → mx = none → m = cap) := by
  unfold bnds at hb
  split at hb
  · rename_i l hh m hl hhh hm
    split at hb
    · rename_i hc
      obtain ⟨c1, c2, c3, c4⟩ := hc
      simp only [Option.some.injEq, Prod.mk.injEq] at hb
      obtain ⟨rfl, rfl, rfl⟩ := hb
      rcases bnd_run h h3 hm with ⟨rfl, rfl, rfl⟩ | ⟨z, z', k3, i3, rfl, rfl, ez, z0, z1⟩
      · rcases bnd_run h h2 hhh with ⟨rfl, rfl, rfl⟩ | ⟨y, y', k2, i2, rfl, rfl, ey, y0, y1⟩
        · rcases bnd_run h h1 hl with ⟨rfl, rfl, rfl⟩ | ⟨x, x', k1, i1, rfl, rfl, ex, x0, x1⟩
          · exact ⟨cap, by simp [Instr.sliceBounds], by omega, by omega, by omega, by omega, by simp, by simp⟩
          · refine ⟨cap, ?_, by omega, by omega, by omega, by omega, by simp, by simp⟩
            simp only [Instr.sliceBounds, Option.map_some, Option.map_none, Sem.run_bind, Sem.run_pure, Result.andThen_ok, Option.isSome_none, Bool.false_eq_true, if_false, ex, run_sliceBound (P := P) (w := w) (k := k1) x0 (show i1.toNat ≤ hh by omega), x1]
        · subst y1
          rcases bnd_run h h1 hl with ⟨rfl, rfl, rfl⟩ | ⟨x, x', k1, i1, rfl, rfl, ex, x0, x1⟩
          · refine ⟨cap, ?_, by omega, by omega, by omega, by omega, by simp, by simp⟩
            simp only [Instr.sliceBounds, Option.map_some, Option.map_none, Sem.run_bind, Sem.run_pure, Result.andThen_ok, ey, run_sliceBound (P := P) (w := w) (k := k2) y0 (show i2.toNat ≤ cap by omega)]
          · subst x1
            refine ⟨cap, ?_, by omega, by omega, by omega, by omega, by simp, by simp⟩
            simp only [Instr.sliceBounds, Option.map_some, Option.map_none, Sem.run_bind, Sem.run_pure, Result.andThen_ok, ey, run_sliceBound (P := P) (w := w) (k := k2) y0 (show i2.toNat ≤ cap by omega), Option.isSome_none, Bool.false_eq_true, if_false, ex, run_sliceBound (P := P) (w := w) (k := k1) x0 (show i1.toNat ≤ i2.toNat by omega)]
      · subst z1
        rcases bnd_run h h2 hhh with ⟨rfl, rfl, rfl⟩ | ⟨y, y', k2, i2, rfl, rfl, ey, y0, y1⟩
        · simp at c4
        · subst y1
          have he : ((some z').isSome && (i2.toNat == i3.toNat)) = true → i3.toNat = i2.toNat := by simp; omega
          have he2 : (some z : Option Operand) = none → i3.toNat = cap := by simp
          rcases bnd_run h h1 hl with ⟨rfl, rfl, rfl⟩ | ⟨x, x', k1, i1, rfl, rfl, ex, x0, x1⟩
          · refine ⟨i3.toNat, ?_, by omega, by omega, by omega, by omega, he, fun _ => he2⟩
            simp only [Instr.sliceBounds, Option.map_some, Option.map_none, Sem.run_bind, Sem.run_pure, Result.andThen_ok, ez, run_sliceBound (P := P) (w := w) (k := k3) z0 (show i3.toNat ≤ cap by omega), ey, run_sliceBound (P := P) (w := w) (k := k2) y0 (show i2.toNat ≤ i3.toNat by omega)]
          · subst x1
            refine ⟨i3.toNat, ?_, by omega, by omega, by omega, by omega, he, fun _ => he2⟩
            simp only [Instr.sliceBounds, Option.map_some, Sem.run_bind, Sem.run_pure, Result.andThen_ok, ez, run_sliceBound (P := P) (w := w) (k := k3) z0 (show i3.toNat ≤ cap by omega), ey, run_sliceBound (P := P) (w := w) (k := k2) y0 (show i2.toNat ≤ i3.toNat by omega), Option.isSome_some, if_true, ex, run_sliceBound (P := P) (w := w) (k := k1) x0 (show i1.toNat ≤ i2.toNat by omega)]
    · cases hb
  · cases hb

theorem snd_slStr (h : RelC φ w0 N s a w) (hd : d < N) {o : Oper} {t : TypeId} {x : Operand} {lo hi : Option Operand} (ho : o.op = .slice t x lo hi none) (hu : P.underlying t = some .string) {x' : Opd} (hx : opd x = some x') {lo' hi' : Option Opd} (h1 : opdO lo = some lo') (h2 : opdO hi = some hi') (he : neu s d (.slStr x' lo' hi') = some e) : Snd P w0 N s a w d o e := by
  simp only [neu] at he
  split at he
  · rename_i l hv
    split at he
    · rename_i p q z hbn
      injection he with he; subst he
      have hb := (get_VR h hx hv).str_
      obtain ⟨m, hr, g1, g2, g3, g4, _⟩ := bnds_run (P := P) h h1 h2 (mx := none) rfl hbn false l.length (Nat.le_refl _)
      refine Snd.pure h hd (rv := .string ⟨((l.take q).drop p).toArray⟩) ?_ (by simp only [VR])
      have hsz : (⟨l.toArray⟩ : ByteArray).size = l.length := rfl
      have hext : (⟨l.toArray⟩ : ByteArray).extract p q = ⟨((l.take q).drop p).toArray⟩ := by
        apply ByteArray.ext
        rw [ByteArray.data_extract]
        show l.toArray.extract p q = _
        rw [List.extract_toArray, List.extract_eq_take_drop, List.drop_take]
      unfold execOp
      rw [ho]
      simp only [hb, Instr.sliceAt, Sem.run_bind, run_underlying hu, Result.andThen_ok, Instr.slice, Option.map_none, Option.isSome_none, Bool.false_eq_true, if_false, hsz]
      rw [show (none : Option Value) = (none : Option Operand).map a.eval from rfl]
      simp only [hr, Result.andThen_ok, Sem.run_pure, hext]
    · cases he
  · cases he

theorem cut_at {c : Sx} {A : Option Addr} {us : List Value} (h : CellsAt c A us) (p q m : Nat) (hpq : m = p → p = q) : CellsAt c (if m = p then A else A.map (·.add p)) ((us.take q).drop p) := by
  intro j hj
  simp only [List.length_drop, List.length_take] at hj
  obtain ⟨ad, rfl, hs, hb, hc⟩ := h (p + j) (by omega)
  rw [if_neg (by omega)]
  refine ⟨⟨ad.block, ad.off + p, none⟩, ?_, rfl, hb, ?_⟩
  · rw [Option.map_some, addr_eta hs, add_at]
  · rw [List.getElem_drop, List.getElem_take, ← hc, Nat.add_assoc]

theorem snd_slSl (h : RelC φ w0 N s a w) (hd : d < N) {o : Oper} {t : TypeId} {x : Operand} {lo hi mx : Option Operand} (ho : o.op = .slice t x lo hi mx) {el : TypeId} (hu : P.underlying t = some (.slice el)) (hi0 : (P.info? el).isSome = true) {x' : Opd} (hx : opd x = some x') {lo' hi' mx' : Option Opd} (h1 : opdO lo = some lo') (h2 : opdO hi = some hi') (h3 : opdO mx = some mx')
    {sz : Nat} (hsz : sz = P.cellsOf el) (he : neu s d (.slSl sz x' lo' hi' mx') = some e) : Snd P w0 N s a w d o e := by
  subst hsz
  obtain ⟨inf, hi0⟩ := Option.isSome_iff_exists.1 hi0
  have run : ∀ A n k p q m, a.eval x = .slice A n k → (Instr.sliceBounds true n k (lo.map a.eval) (hi.map a.eval) (mx.map a.eval)).run P w = .ok (p, q, m) w →
      (execOp a.eval o).run P w = .ok (.value (.slice (if m = p then A else A.map (·.add (p * P.cellsOf el))) (q - p) (m - p))) w := by
    intro A n k p q m hb hr
    unfold execOp
    rw [ho]
    simp only [hb, Instr.sliceAt, Sem.run_bind, run_underlying hu, Result.andThen_ok, Instr.slice, hr, run_sizeOf w hi0, Sem.run_pure]
  simp only [neu] at he
  split at he
  · rename_i hh off n sz' ver hv
    split at he
    · rename_i p q z hbn
      split at he
      · rename_i hsz
        subst hsz
        injection he with he; subst he
        have h0 := get_VR h hx hv
        simp only [VR] at h0
        obtain ⟨hver, A, k, hb, hnk, hrow⟩ := h0
        obtain ⟨m, hr, g1, g2, g3, g4, _⟩ := bnds_run (P := P) h h1 h2 h3 hbn true k hnk
        refine Snd.pure h hd (run A n k p q m hb hr) ?_
        simp only [VR]
        refine ⟨hver, _, m - p, rfl, by omega, fun hl hve => ?_⟩
        have hr' := hrow hl hve
        unfold rowR at hr' ⊢
        have hmul : p * P.cellsOf el + (q - p) * P.cellsOf el ≤ n * P.cellsOf el := by rw [← Nat.add_mul]; exact Nat.mul_le_mul_right _ (by omega)
        have hmul2 : p * P.cellsOf el + (m - p) * P.cellsOf el ≤ k * P.cellsOf el := by rw [← Nat.add_mul]; exact Nat.mul_le_mul_right _ (by omega)
        refine ⟨by have := hr'.1; omega, ?_⟩
        cases hφ : φ hh with
        | none =>
          simp only [hφ] at hr' ⊢
          have : p = 0 := by omega
          subst this
          exact ⟨by omega, by simp [hr'.2.2]⟩
        | some pp =>
          obtain ⟨b, o'⟩ := pp
          simp only [hφ] at hr' ⊢
          refine ⟨?_, by have := hr'.2.2; omega⟩
          by_cases hmp : m = p
          · left; omega
          · right
            rw [if_neg hmp]
            rcases hr'.2.1 with hk0 | hA
            · omega
            · rw [hA, Option.map_some, add_at, Nat.add_assoc]
      · cases he
    · cases he
  · rename_i f n cs hv
    split at he
    · rename_i p q z hbn
      split at he
      · rename_i hlen
        injection he with he; subst he
        have h0 := get_VR h hx hv
        simp only [VR] at h0
        obtain ⟨A, k, us, hb, hnk, hfull, hlit, hp, h1', hl, hat⟩ := h0
        obtain ⟨m, hr, g1, g2, g3, g4, g5, g6⟩ := bnds_run (P := P) h h1 h2 h3 hbn true k hnk
        refine Snd.pure h hd (run A n k p q m hb hr) ?_
        simp only [VR]
        refine ⟨_, m - p, (us.take (q * P.cellsOf el)).drop (p * P.cellsOf el), rfl, by omega, fun hf => ?_, fun hf => ?_, purL_drop (purL_take hp _) _, all_drop (all_take h1' _) _, (hl.take _).drop _, ?_⟩
        · cases z with
          | true => rw [g5 rfl]
          | false =>
            simp only [Bool.false_eq_true, if_false] at hf
            split at hf
            · rename_i hc
              obtain ⟨rfl, hne⟩ := hc
              have hk := hfull hne
              have : m = q := by omega
              omega
            · exact (hf rfl).elim
        · cases z <;> simp only [Bool.false_eq_true, if_false, if_true, reduceCtorEq] at hf
          split at hf <;> cases hf
        · by_cases hz : P.cellsOf el = 0
          · intro j hj
            simp [hz] at hj
          · by_cases hmp : m = p
            · have hpq : p = q := by omega
              subst hpq
              intro j hj
              simp at hj
            · have := cut_at hat (p * P.cellsOf el) (q * P.cellsOf el) (p * P.cellsOf el + 1) (by omega)
              rw [if_neg (by omega)] at this
              rw [if_neg hmp]
              exact this
      · cases he
    · cases he
  · cases he

theorem snd_slArr (h : RelC φ w0 N s a w) (hd : d < N) {o : Oper} {t : TypeId} {x : Operand} {lo hi mx : Option Operand} (ho : o.op = .slice t x lo hi mx) {el : TypeId} {n : Nat} (hu : P.underlying t = some (.array n el)) (hi0 : (P.info? el).isSome = true) {x' : Opd} (hx : opd x = some x') {lo' hi' mx' : Option Opd} (h1 : opdO lo = some lo') (h2 : opdO hi = some hi') (h3 : opdO mx = some mx')
    {sz : Nat} (hsz : sz = P.cellsOf el) (he : neu s d (.slArr n sz x' lo' hi' mx') = some e) : Snd P w0 N s a w d o e := by
  subst hsz
  obtain ⟨inf, hi0⟩ := Option.isSome_iff_exists.1 hi0
  have run : ∀ b o' p q m, a.eval x = .pointer (some ⟨b, o', none⟩) → (Instr.sliceBounds false n n (lo.map a.eval) (hi.map a.eval) (mx.map a.eval)).run P w = .ok (p, q, m) w →
      (execOp a.eval o).run P w = .ok (.value (.slice (some (if m = p then ⟨b, o', none⟩ else ⟨b, o' + p * P.cellsOf el, none⟩)) (q - p) (m - p))) w := by
    intro b o' p q m hb hr
    unfold execOp
    rw [ho]
    simp only [hb, Instr.sliceAt, Sem.run_bind, run_underlying hu, Result.andThen_ok, Instr.sureAddr, hr, run_sizeOf w hi0, Sem.run_pure, add_at]
  simp only [neu] at he
  split at he
  · rename_i hh off ver hv
    split at he
    · rename_i p q z hbn
      split at he
      · rename_i hc
        obtain ⟨hok, hle⟩ := hc
        injection he with he; subst he
        have h0 := get_VR h hx hv
        simp only [VR] at h0
        simp only [St.ok, Bool.and_eq_true, beq_iff_eq] at hok
        have hp := h0.2.2 hok.1 hok.2
        unfold ptrR at hp
        obtain ⟨m, hr, g1, g2, g3, g4, _⟩ := bnds_run (P := P) h h1 h2 h3 hbn false n (Nat.le_refl _)
        have hmul : p * P.cellsOf el + (q - p) * P.cellsOf el ≤ n * P.cellsOf el := by rw [← Nat.add_mul]; exact Nat.mul_le_mul_right _ (by omega)
        have hmul2 : p * P.cellsOf el + (m - p) * P.cellsOf el ≤ n * P.cellsOf el := by rw [← Nat.add_mul]; exact Nat.mul_le_mul_right _ (by omega)
        cases hφ : φ hh with
        | none => simp only [hφ] at hp
        | some pp =>
          obtain ⟨b, o'⟩ := pp
          simp only [hφ] at hp
          refine Snd.pure h hd (run b _ p q m hp hr) ?_
          simp only [VR]
          refine ⟨h0.1, _, m - p, rfl, by omega, fun hl hve => ?_⟩
          unfold rowR
          refine ⟨by show off + p * P.cellsOf el + (q - p) * P.cellsOf el ≤ (s.h hh).cells.length; omega, ?_⟩
          simp only [hφ]
          have hbs : o' + (s.h hh).cells.length ≤ bsize w b := by
            have hat := (h.hs.home hh hok.1).at_
            simp only [hφ] at hat
            obtain ⟨cs, T, fr, us, e1, _, e3, _, e5⟩ := hat
            have hlen : us.length = (s.h hh).cells.length := e3.length
            simp only [bsize, e1]
            omega
          refine ⟨?_, by omega⟩
          by_cases hmp : m = p
          · left; omega
          · right; rw [if_neg hmp, Nat.add_assoc]
      · cases he
    · cases he
  · rename_i cs hv
    split at he
    · rename_i p q z hbn
      split at he
      · rename_i hle
        injection he with he; subst he
        have h0 := get_VR h hx hv
        simp only [VR] at h0
        obtain ⟨ad, us, hb, hsp, hp, h1', hl, hat⟩ := h0
        obtain ⟨m, hr, g1, g2, g3, g4, g5, g6⟩ := bnds_run (P := P) h h1 h2 h3 hbn false n (Nat.le_refl _)
        refine Snd.pure h hd (run ad.block ad.off p q m (by rw [hb, addr_eta hsp]) hr) ?_
        simp only [VR]
        refine ⟨_, m - p, (us.take (q * P.cellsOf el)).drop (p * P.cellsOf el), rfl, by omega, by simp, by simp, purL_drop (purL_take hp _) _, all_drop (all_take h1' _) _, (hl.take _).drop _, ?_⟩
        by_cases hz : P.cellsOf el = 0
        · intro j hj
          simp [hz] at hj
        · by_cases hmp : m = p
          · have hpq : p = q := by omega
            subst hpq
            intro j hj
            simp at hj
          · have := cut_at hat (p * P.cellsOf el) (q * P.cellsOf el) (p * P.cellsOf el + 1) (by omega)
            rw [if_neg (by omega), Option.map_some, addr_eta hsp, add_at] at this
            rw [if_neg hmp]
            exact this
      · cases he
    · cases he
  · cases he
theorem toIV_nil {v : Value} (h : toIV v = some (.sl .full 0 [])) : v = .slice none 0 0 := by
  unfold toIV at h
  split at h
  · split at h <;> cases h
  · unfold toIV1 at h
    split at h
    all_goals first
      | rfl
      | (cases h; done)
      | (split at h <;> cases h)

theorem run_nilS {t el : TypeId} (hu : P.underlying t = some (.slice el)) (A : Option Addr) (n k : Nat) (w : World) : (Op.equal t (.slice A n k) (.slice none 0 0)).run P w = .ok A.isNone w := by
  unfold Op.equal Op.maxDepth Op.equalIn
  rw [Sem.run_bind, run_underlying hu]
  cases A <;> rfl

theorem snd_nilS (h : RelC φ w0 N s a w) (hd : d < N) {o : Oper} {op : BinOp} {t yt : TypeId} {x y : Operand} (ho : o.op = .binOp op t x y yt) (ht : sliceT P t = true) (hop : op = .eql ∨ op = .neq) {x' y' : Opd} (hx : opd x = some x') (hy : opd y = some y') (hn : nilC y' = true) (he : neu s d (.nilS (op == .neq) x') = some e) : Snd P w0 N s a w d o e := by
  obtain ⟨el, hu⟩ : ∃ el, P.underlying t = some (.slice el) := by
    unfold sliceT at ht
    split at ht
    · rename_i el hu; exact ⟨el, hu⟩
    · cases ht
  have hyv : a.eval y = .slice none 0 0 := by
    unfold nilC at hn
    split at hn
    · cases y with
      | const v =>
        simp only [opd] at hy
        split at hy
        · rename_i z hz
          injection hy with hy; injection hy with hy; subst hy
          show v = _
          exact toIV_nil hz
        · cases hy
      | tmp t => simp [opd] at hy
      | func f => simp [opd] at hy
      | global g => simp [opd] at hy
    · cases hn
  have key : ∀ A n k, a.eval x = .slice A n k → ∀ v : IV, VR (sx w s.h φ w0.heap.size) v (.bool (if (op == .neq) = true then !A.isNone else A.isNone)) → Snd P w0 N s a w d o ⟨v, none⟩ := by
    intro A n k hxa v hv
    refine Snd.pure h hd (rv := .bool (if (op == .neq) = true then !A.isNone else A.isNone)) ?_ hv
    have hguard : (eqGuard op t x y (.slice A n k) (.slice none 0 0)).run P w = .ok () w := by
      unfold eqGuard; cases op <;> rfl
    unfold execOp
    rw [ho]
    simp only [hxa, hyv, Sem.run_bind, hguard, Result.andThen_ok]
    rcases hop with rfl | rfl
    · simp [binOp, run_nilS hu]
    · simp [binOp, run_nilS hu]
  simp only [neu] at he
  split at he
  · rename_i f n cs hv
    injection he with he; subst he
    have hxv := get_VR h hx hv
    simp only [VR] at hxv
    obtain ⟨A, k, us, hxa, _, _, _, _, _, hl, hat⟩ := hxv
    refine key A n k hxa _ ?_
    split
    · rename_i hpos
      obtain ⟨ad, rfl, _⟩ := hat 0 (by have := hl.length; omega)
      rcases hop with rfl | rfl <;> simp only [VR] <;> rfl
    · simp only [VR]; exact ⟨_, rfl⟩
  · rename_i hh off n sz ver hv
    split at he
    · rename_i hok
      injection he with he; subst he
      have hxv := get_VR h hx hv
      simp only [VR] at hxv
      obtain ⟨_, A, k, hxa, hnk, hrow⟩ := hxv
      simp only [St.ok, Bool.and_eq_true, beq_iff_eq] at hok
      have hr := hrow hok.1 hok.2
      refine key A n k hxa _ ?_
      split
      · rename_i hpos
        unfold rowR at hr
        cases hφ : φ hh with
        | none => simp only [hφ] at hr; omega
        | some p =>
          obtain ⟨b, o'⟩ := p
          simp only [hφ] at hr
          rcases hr.2.1 with hk | hA
          · omega
          · subst hA
            rcases hop with rfl | rfl <;> simp only [VR] <;> rfl
      · simp only [VR]; exact ⟨_, rfl⟩
    · cases he
  · cases he

theorem toIV_nilp {v : Value} (h : toIV v = some .nilp) : v = .pointer none := by
  unfold toIV at h
  split at h
  · split at h <;> cases h
  · unfold toIV1 at h
    split at h
    all_goals first
      | rfl
      | (cases h; done)
      | (split at h <;> cases h)
theorem run_nilP {t el : TypeId} (hu : P.underlying t = some (.pointer el)) (A : Option Addr) (w : World) : (Op.equal t (.pointer A) (.pointer none)).run P w = .ok A.isNone w := by
  unfold Op.equal Op.maxDepth Op.equalIn
  rw [Sem.run_bind, run_underlying hu]
  cases A <;> rfl
theorem snd_nilP (h : RelC φ w0 N s a w) (hd : d < N) {o : Oper} {op : BinOp} {t yt : TypeId} {x y : Operand} (ho : o.op = .binOp op t x y yt) (ht : ptrT P t = true) (hop : op = .eql ∨ op = .neq) {x' y' : Opd} (hx : opd x = some x') (hy : opd y = some y') (hn : nilQ y' = true) (he : neu s d (.nilP (op == .neq) x') = some e) : Snd P w0 N s a w d o e := by
  obtain ⟨el, hu⟩ : ∃ el, P.underlying t = some (.pointer el) := by
    unfold ptrT at ht
    split at ht
    · rename_i el hu; exact ⟨el, hu⟩
    · cases ht
  have hyv : a.eval y = .pointer none := by
    unfold nilQ at hn
    split at hn
    · cases y with
      | const v =>
        simp only [opd] at hy
        split at hy
        · rename_i z hz
          injection hy with hy; injection hy with hy; subst hy
          show v = _
          exact toIV_nilp hz
        · cases hy
      | tmp t => simp [opd] at hy
      | func f => simp [opd] at hy
      | global g => simp [opd] at hy
    · cases hn
  have key : ∀ A, a.eval x = .pointer A → ∀ v : IV, VR (sx w s.h φ w0.heap.size) v (.bool (if (op == .neq) = true then !A.isNone else A.isNone)) → Snd P w0 N s a w d o ⟨v, none⟩ := by
    intro A hxa v hv
    refine Snd.pure h hd (rv := .bool (if (op == .neq) = true then !A.isNone else A.isNone)) ?_ hv
    have hguard : (eqGuard op t x y (.pointer A) (.pointer none)).run P w = .ok () w := by
      unfold eqGuard; cases op <;> rfl
    unfold execOp
    rw [ho]
    simp only [hxa, hyv, Sem.run_bind, hguard, Result.andThen_ok]
    rcases hop with rfl | rfl
    · simp [binOp, run_nilP hu]
    · simp [binOp, run_nilP hu]
  simp only [neu] at he
  split at he
  · rename_i hv
    injection he with he; subst he
    have hxv := get_VR h hx hv
    simp only [VR] at hxv
    refine key none hxv _ ?_
    rcases hop with rfl | rfl <;> simp only [VR] <;> rfl
  · rename_i hh off ver hv
    split at he
    · rename_i hok
      injection he with he; subst he
      have hxv := get_VR h hx hv
      simp only [VR] at hxv
      obtain ⟨_, _, hp⟩ := hxv
      simp only [St.ok, Bool.and_eq_true, beq_iff_eq] at hok
      have hr := hp hok.1 hok.2
      unfold ptrR at hr
      cases hφ : φ hh with
      | none => simp only [hφ] at hr
      | some p =>
        obtain ⟨b, o'⟩ := p
        simp only [hφ] at hr
        refine key _ hr _ ?_
        rcases hop with rfl | rfl <;> simp only [VR] <;> rfl
    · cases he
  · rename_i cs hv
    injection he with he; subst he
    have hxv := get_VR h hx hv
    simp only [VR] at hxv
    obtain ⟨ad, us, hxa, _⟩ := hxv
    refine key _ hxa _ ?_
    rcases hop with rfl | rfl <;> simp only [VR] <;> rfl
  · cases he

theorem snd_cap (h : RelC φ w0 N s a w) (hd : d < N) {o : Oper} {c : Call} (ho : o.op = .call c) (hc : c.callee = .builtin .cap) {t : TypeId} {x : Operand} (ht : c.argTypes[0]? = some t) (hx0 : c.args[0]? = some x) {x' : Opd} (hx : opd x = some x')
    {el : TypeId} (hu : P.underlying t = some (.slice el)) (he : neu s d (.cap x') = some e) : Snd P w0 N s a w d o e := by
  simp only [neu] at he
  split at he
  · rename_i f n cs hv
    split at he
    · rename_i hf
      injection he with he; subst he
      have hxv := get_VR h hx hv
      simp only [VR] at hxv
      obtain ⟨A, k, us, hxa, _, hfull, _⟩ := hxv
      have hk := hfull hf
      subst hk
      refine Snd.pure h hd (rv := .int .i64 k) ?_ VR.int_mk
      have hax : (c.args.map a.eval)[0]? = some (.slice A k k) := by rw [Array.getElem?_map, hx0]; simp [hxa]
      unfold execOp
      rw [ho]
      simp only [resolve, hc, Sem.run_bind, Sem.run_pure, Result.andThen_ok, invoke, builtin, Builtin.cap_, ht, hax, run_underlying hu, goInt]
    · cases he
  · cases he
end
end Go.Proofs.YtilbipknodpmmaaDoor
