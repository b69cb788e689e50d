/- Operations that read and reckon: the rest. -/
import Derived.Test.YtmblapgoimegkaaDoorE5
import Derived.Laws.BytesString
set_option linter.unusedSectionVars false
set_option linter.unusedVariables false
set_option linter.unusedSimpArgs false
namespace Go.Proofs.YtmblapgoimegkaaDoor
open Go.RowKit

section
variable [Off] [Gh] [Old] {P : Program} {φ : Nat → Option (Nat × Nat)} {w0 : World} {N : Nat} {s : St} {a : Act} {w : World} {d : Nat} {e : Eff}

theorem eqGuard_int (op : BinOp) (t : TypeId) (x y : Operand) (k k' : IntKind) (m n : Int) (w : World) : (eqGuard op t x y (.int k m) (.int k' n)).run P w = .ok () w := by
  unfold eqGuard; cases op <;> rfl
theorem eqGuard_bool (op : BinOp) (t : TypeId) (x y : Operand) (m n : Bool) (w : World) : (eqGuard op t x y (.bool m) (.bool n)).run P w = .ok () w := by
  unfold eqGuard; cases op <;> rfl
theorem eqGuard_str (op : BinOp) (t : TypeId) (x y : Operand) (m n : ByteArray) (w : World) : (eqGuard op t x y (.string m) (.string n)).run P w = .ok () w := by
  unfold eqGuard; cases op <;> rfl

theorem binI_run {op : BinOp} {k : IntKind} {x y : Int} {v : IV} (h : binI op k x y = some v) (hs : isShift op = false) (t : TypeId) (c : Sx) (w : World) : ∃ rv, (binOp op t (.int k x) (.int k y)).run P w = .ok rv w ∧ VR c v rv := by
  cases op with
  | add =>
    simp only [binI, bitsI, Option.some.injEq] at h; subst h
    exact ⟨.int k (k.wrap (x + y)), by simp [binOp, Op.intArith, Op.intCmp, Op.intBits, bne], by simp only [VR]⟩
  | sub =>
    simp only [binI, bitsI, Option.some.injEq] at h; subst h
    exact ⟨.int k (k.wrap (x - y)), by simp [binOp, Op.intArith, Op.intCmp, Op.intBits, bne], by simp only [VR]⟩
  | mul =>
    simp only [binI, bitsI, Option.some.injEq] at h; subst h
    exact ⟨.int k (k.wrap (x * y)), by simp [binOp, Op.intArith, Op.intCmp, Op.intBits, bne], by simp only [VR]⟩
  | quo =>
    simp only [binI] at h
    split at h
    · cases h
    · rename_i hy
      simp only [Option.some.injEq] at h; subst h
      exact ⟨.int k (k.wrap (x.tdiv y)), by simp [binOp, Op.intDiv, hy], by simp only [VR]⟩
  | rem =>
    simp only [binI] at h
    split at h
    · cases h
    · rename_i hy
      simp only [Option.some.injEq] at h; subst h
      exact ⟨.int k (x.tmod y), by simp [binOp, Op.intDiv, hy], by simp only [VR]⟩
  | and =>
    simp only [binI, bitsI, Option.some.injEq] at h; subst h
    exact ⟨.int k (k.wrap (BitVec.ofInt k.bits x &&& BitVec.ofInt k.bits y).toNat), by simp [binOp, Op.intArith, Op.intCmp, Op.intBits, bne], by simp only [VR]⟩
  | or =>
    simp only [binI, bitsI, Option.some.injEq] at h; subst h
    exact ⟨.int k (k.wrap (BitVec.ofInt k.bits x ||| BitVec.ofInt k.bits y).toNat), by simp [binOp, Op.intArith, Op.intCmp, Op.intBits, bne], by simp only [VR]⟩
  | xor =>
    simp only [binI, bitsI, Option.some.injEq] at h; subst h
    exact ⟨.int k (k.wrap (BitVec.ofInt k.bits x ^^^ BitVec.ofInt k.bits y).toNat), by simp [binOp, Op.intArith, Op.intCmp, Op.intBits, bne], by simp only [VR]⟩
  | andNot =>
    simp only [binI, bitsI, Option.some.injEq] at h; subst h
    exact ⟨.int k (k.wrap (BitVec.ofInt k.bits x &&& ~~~BitVec.ofInt k.bits y).toNat), by simp [binOp, Op.intArith, Op.intCmp, Op.intBits, bne], by simp only [VR]⟩
  | shl => simp [isShift] at hs
  | shr => simp [isShift] at hs
  | eql =>
    simp only [binI, bitsI, Option.some.injEq] at h; subst h
    exact ⟨.bool (decide (x = y)), by simp [binOp, Op.intArith, Op.intCmp, Op.intBits, bne]; rfl, by simp only [VR]⟩
  | neq =>
    simp only [binI, bitsI, Option.some.injEq] at h; subst h
    exact ⟨.bool (!decide (x = y)), by simp [binOp, Op.intArith, Op.intCmp, Op.intBits, bne]; rfl, by simp only [VR]⟩
  | lss =>
    simp only [binI, bitsI, Option.some.injEq] at h; subst h
    exact ⟨.bool (decide (x < y)), by simp [binOp, Op.intArith, Op.intCmp, Op.intBits, bne], by simp only [VR]⟩
  | leq =>
    simp only [binI, bitsI, Option.some.injEq] at h; subst h
    exact ⟨.bool (decide (x ≤ y)), by simp [binOp, Op.intArith, Op.intCmp, Op.intBits, bne], by simp only [VR]⟩
  | gtr =>
    simp only [binI, bitsI, Option.some.injEq] at h; subst h
    exact ⟨.bool (decide (y < x)), by simp [binOp, Op.intArith, Op.intCmp, Op.intBits, bne], by simp only [VR]⟩
  | geq =>
    simp only [binI, bitsI, Option.some.injEq] at h; subst h
    exact ⟨.bool (decide (y ≤ x)), by simp [binOp, Op.intArith, Op.intCmp, Op.intBits, bne], by simp only [VR]⟩

theorem shI_run {op : BinOp} {k k' : IntKind} {x y : Int} {v : IV} (h : shI op k x y = some v) (hs : isShift op = true) (t : TypeId) (c : Sx) (w : World) : ∃ rv, (binOp op t (.int k x) (.int k' y)).run P w = .ok rv w ∧ VR c v rv := by
  unfold shI at h
  split at h
  · cases h
  · rename_i hy
    cases op <;> simp [isShift] at hs <;> simp only at h
    all_goals
      injection h with h; subst h
      exact ⟨_, by simp only [binOp, Op.shift, if_neg hy]; rfl, by simp only [VR]⟩

theorem str_toList (l : List UInt8) : (⟨l.toArray⟩ : ByteArray).toList = l := by rw [ByteArray.toList_eq]

theorem snd_binB (h : RelC φ w0 N s a w) (hd : d < N) {o : Oper} {op : BinOp} {t yt : TypeId} {x y : Operand} (ho : o.op = .binOp op t x y yt) (ht : boolT P t = true) {x' y' : Opd} (hx : opd x = some x') (hy : opd y = some y') (he : neu s d (.binB op x' y') = some e) : Snd P w0 N s a w d o e := by
  have hu : P.underlying t = some .bool := by
    unfold boolT at ht
    split at ht
    · assumption
    · cases ht
  simp only [neu] at he
  split at he
  · rename_i m n hp hq
    have e1 := (get_VR h hx hp).bool_
    have e2 := (get_VR h hy hq).bool_
    have heq := run_equal_bool w t m n hu
    cases op <;> simp only at he <;> try (cases he; done)
    · injection he with he; subst he
      refine Snd.pure h hd (rv := .bool (m == n)) ?_ VR.bool_mk
      unfold execOp
      rw [ho]
      simp only [e1, e2, Sem.run_bind, eqGuard_bool, Result.andThen_ok, binOp, heq, Sem.run_pure]
    · injection he with he; subst he
      refine Snd.pure h hd (rv := .bool (!(m == n))) ?_ VR.bool_mk
      unfold execOp
      rw [ho]
      simp only [e1, e2, Sem.run_bind, eqGuard_bool, Result.andThen_ok, binOp, heq, Sem.run_pure]
  · cases he

theorem snd_bin (h : RelC φ w0 N s a w) (hd : d < N) {o : Oper} {op : BinOp} {t yt : TypeId} {x y : Operand} (ho : o.op = .binOp op t x y yt) (ht : plainT P t = true) {x' y' : Opd} (hx : opd x = some x') (hy : opd y = some y') (he : neu s d (.bin op x' y') = some e) : Snd P w0 N s a w d o e := by
  simp only [neu] at he
  split at he
  · rename_i p q hp hq
    split at he
    · rename_i v hv
      injection he with he; subst he
      have hxv := get_VR h hx hp
      have hyv := get_VR h hy hq
      cases p <;> cases q <;> simp only [binV] at hv <;> try (cases hv; done)
      · rename_i k m k' n
        have e1 := hxv.int_
        have e2 := hyv.int_
        have fin : ∀ rv, (binOp op t (.int k m) (.int k' n)).run P w = .ok rv w → VR (sx w s.h φ w0.heap.size) v rv → Snd P w0 N s a w d o ⟨v, none⟩ := by
          intro rv hr hvr
          refine Snd.pure h hd (rv := rv) ?_ hvr
          unfold execOp
          rw [ho]
          simp only [e1, e2, Sem.run_bind, eqGuard_int, Result.andThen_ok, hr, Sem.run_pure]
        split at hv
        · rename_i hsh
          obtain ⟨rv, hr, hvr⟩ := shI_run (P := P) (k' := k') hv hsh t (sx w s.h φ w0.heap.size) w
          exact fin rv hr hvr
        · rename_i hsh
          split at hv
          · rename_i hk
            subst hk
            obtain ⟨rv, hr, hvr⟩ := binI_run (P := P) hv (by simpa using hsh) t (sx w s.h φ w0.heap.size) w
            exact fin rv hr hvr
          · cases hv
      · rename_i l m
        have e1 := hxv.str_
        have e2 := hyv.str_
        have fin : ∀ rv, (Op.stringOp op ⟨l.toArray⟩ ⟨m.toArray⟩).run P w = .ok rv w → VR (sx w s.h φ w0.heap.size) v rv → Snd P w0 N s a w d o ⟨v, none⟩ := by
          intro rv hr hvr
          refine Snd.pure h hd (rv := rv) ?_ hvr
          unfold execOp
          rw [ho]
          simp only [e1, e2, Sem.run_bind, eqGuard_str, Result.andThen_ok]
          cases op <;> simp only [reduceCtorEq] at hv
          all_goals simp only [binOp, hr, Result.andThen_ok, Sem.run_pure]
        cases op <;> simp only at hv <;> try (cases hv; done)
        · split at hv
          · rename_i hle
            injection hv with hv; subst hv
            refine fin (.string ⟨(l ++ m).toArray⟩) ?_ (by simp only [VR])
            have hsz : ¬ ((((⟨l.toArray⟩ : ByteArray).size + (⟨m.toArray⟩ : ByteArray).size : Nat) : Int) > IntKind.i64.max) := by
              have : ((⟨l.toArray⟩ : ByteArray).size + (⟨m.toArray⟩ : ByteArray).size) = l.length + m.length := rfl
              rw [this]
              simp only [IntKind.max, IntKind.signed, IntKind.bits, if_true]
              omega
            simp only [Op.stringOp, if_neg hsz, Sem.run_pure]
            congr 2
          · cases hv
        · injection hv with hv; subst hv
          refine fin (.bool (decide (l = m))) ?_ (by simp only [VR])
          simp only [Op.stringOp, str_toList, Sem.run_pure]
          congr 2
          exact Bool.beq_eq_decide_eq _ _
        · injection hv with hv; subst hv
          refine fin (.bool (!decide (l = m))) ?_ (by simp only [VR])
          simp only [Op.stringOp, str_toList, Sem.run_pure]
          congr 3
          exact Bool.beq_eq_decide_eq _ _
    · cases he
  · cases he

theorem unV_run {op : UnOp} {p v : IV} (h : unV op p = some v) {u : Value} {c : Sx} (hp : VR c p u) (w : World) : ∃ rv, (Op.unary op u).run P w = .ok rv w ∧ VR c v rv := by
  cases p <;> simp only [unV] at h <;> try (cases h; done)
  · rename_i k n
    have e1 := hp.int_
    subst e1
    cases op <;> simp only [reduceCtorEq] at h
    · simp only [Option.some.injEq] at h; subst h
      exact ⟨.int k (k.wrap (0 - n)), by simp [Op.unary, Op.intArith], by simp only [VR]⟩
    · simp only [bitsI, Option.some.injEq] at h; subst h
      exact ⟨_, by simp only [Op.unary, Op.intBits]; rfl, by simp only [VR]⟩
  · rename_i b
    have e1 := hp.bool_
    subst e1
    cases op <;> simp only [reduceCtorEq] at h
    simp only [Option.some.injEq] at h; subst h
    exact ⟨.bool !b, by simp [Op.unary], by simp only [VR]⟩

theorem snd_un (h : RelC φ w0 N s a w) (hd : d < N) {o : Oper} {op : UnOp} {t : TypeId} {x : Operand} (ho : o.op = .unOp op t x) {x' : Opd} (hx : opd x = some x') (he : neu s d (.un op x') = some e) : Snd P w0 N s a w d o e := by
  simp only [neu] at he
  split at he
  · rename_i p hp
    split at he
    · rename_i v hv
      injection he with he; subst he
      obtain ⟨rv, hr, hvr⟩ := unV_run (P := P) hv (get_VR h hx hp) w
      refine Snd.pure h hd (rv := rv) ?_ hvr
      unfold execOp
      rw [ho]
      simp only [Sem.run_bind, hr, Result.andThen_ok, Sem.run_pure]
    · cases he
  · cases he

theorem eqC_cmp {c : Sx} {x y : IV} {r : Bool} (h : eqC x y = some r) {u v : Value} (hu : VR c x u) (hv : VR c y v) : cmpV u v = some r := by
  cases x <;> cases y <;> simp only [eqC] at h <;> try (cases h; done)
  · have e1 := hu.int_; have e2 := hv.int_; subst e1; subst e2; simpa only [cmpV] using h
  · have e1 := hu.bool_; have e2 := hv.bool_; subst e1; subst e2; simpa only [cmpV] using h
  · have e1 := hu.str_; have e2 := hv.str_; subst e1; subst e2; simpa only [cmpV] using h
theorem eqL_cmp {c : Sx} : ∀ {xs ys : List IV} {r : Bool}, eqL xs ys = some r → ∀ {us vs : List Value}, VRL c xs us → VRL c ys vs → cmpL us vs = some r
  | [], [], r, h, us, vs, hu, hv => by simp only [VRL] at hu hv; subst hu; subst hv; simpa [eqL, cmpL] using h
  | [], _ :: _, _, h, _, _, _, _ => by simp [eqL] at h
  | _ :: _, [], _, h, _, _, _, _ => by simp [eqL] at h
  | x :: xs, y :: ys, r, h, us, vs, hu, hv => by
    simp only [VRL] at hu hv
    obtain ⟨u, us', rfl, hu1, hu2⟩ := hu
    obtain ⟨v, vs', rfl, hv1, hv2⟩ := hv
    simp only [eqL] at h
    split at h
    · rename_i p q hp hq
      simp only [cmpL, eqC_cmp hp hu1 hv1, eqL_cmp hq hu2 hv2]
      exact h
    · cases h
theorem fitR_all : ∀ {rl : List (Nat × CK)} {cs : List IV}, fitR rl cs = true → cs.length = (expand rl).length ∧ ∀ j (hj : j < cs.length) (hj' : j < (expand rl).length), (expand rl)[j].fit cs[j] = true
  | [], cs, h => by
    simp only [fitR, List.isEmpty_iff] at h
    subst h
    exact ⟨rfl, fun j hj => by simp at hj⟩
  | (n, k) :: r, cs, h => by
    simp only [fitR, Bool.and_eq_true, decide_eq_true_eq] at h
    obtain ⟨⟨h1, h2⟩, h3⟩ := h
    obtain ⟨g1, g2⟩ := fitR_all h3
    simp only [List.length_drop] at g1
    refine ⟨by simp [expand]; omega, fun j hj hj' => ?_⟩
    simp only [expand]
    by_cases hjn : j < n
    · rw [List.getElem_append_left (by simpa using hjn), List.getElem_replicate]
      have := List.all_eq_true.1 h2 cs[j] (by rw [List.mem_take_iff_getElem]; exact ⟨j, by omega, rfl⟩)
      exact this
    · rw [List.getElem_append_right (by simpa using hjn)]
      have := g2 (j - n) (by simp; omega) (by simp [expand] at hj'; omega)
      simp only [List.getElem_drop] at this
      simpa [show n + (j - n) = j by omega] using this
theorem fit_ck {c : Sx} {k : CK} {x : IV} (h : k.fit x = true) {u : Value} (hu : VR c x u) : CkFit k u := by
  cases k <;> cases x <;> simp [CK.fit] at h
  · rw [hu.bool_]; exact .b _
  · rw [hu.int_]; exact .i _ _
  · rw [hu.str_]; exact .s _

theorem snd_eqv (h : RelC φ w0 N s a w) (hd : d < N) {o : Oper} {op : BinOp} {t yt : TypeId} {x y : Operand} (ho : o.op = .binOp op t x y yt) (hg : aggT P t = true) {rl : List (Nat × CK)} (hop : op = .eql ∨ op = .neq) (hk : kindsT P 20 t = some (expand rl)) (hgu : P.eqGuardType P.depth t = false)
    {x' y' : Opd} (hx : opd x = some x') (hy : opd y = some y') (he : neu s d (.eqv (op == .neq) rl x' y') = some e) : Snd P w0 N s a w d o e := by
  simp only [neu] at he
  split at he
  · rename_i p q hp hq
    split at he
    · rename_i hf
      split at he
      · rename_i r hr
        injection he with he; subst he
        have hxv := get_VR h hx hp
        have hyv := get_VR h hy hq
        simp only [VR] at hxv hyv
        obtain ⟨us, e1, _, hl1⟩ := hxv
        obtain ⟨vs, e2, _, hl2⟩ := hyv
        obtain ⟨f1, f2⟩ := fitR_all hf
        have hc := eqL_cmp hr hl1 hl2
        have hlen := hl1.length
        have heq := (eq_kinds w 20 hk 10000 (by omega) (xs := us) (ys := vs) (r := r) (by omega) (fun j hj hj' => fit_ck (f2 j (by omega) hj') (hl1.get j (by omega) hj)) hc).2
        simp only [cellOf, hg, if_true] at heq
        have hguard : (eqGuard op t x y (.agg us.toArray) (.agg vs.toArray)).run P w = .ok () w := by
          unfold eqGuard
          rcases hop with rfl | rfl <;> simp [hgu]
        have heq' : (Op.equal t (.agg us.toArray) (.agg vs.toArray)).run P w = .ok r w := heq
        refine Snd.pure h hd (rv := .bool (if (op == .neq) = true then !r else r)) ?_ VR.bool_mk
        unfold execOp
        rw [ho]
        simp only [e1, e2, Sem.run_bind, hguard, Result.andThen_ok]
        rcases hop with rfl | rfl
        · simp [binOp, heq']
        · simp [binOp, heq']
      · cases he
    · cases he
  · cases he

theorem snd_fld (h : RelC φ w0 N s a w) (hd : d < N) {o : Oper} {t : TypeId} {x : Operand} {fi : Nat} (ho : o.op = .field t x fi) {fs : Array Field} (hu : P.underlying t = some (.struct fs)) {f : Field} (hf : fs[fi]? = some f) (hi : (P.info? f.type).isSome = true) (hfu : (P.underlying f.type).isSome = true) {x' : Opd} (hx : opd x = some x')
    {ag : Bool} {off n : Nat} (hag : ag = aggT P f.type) (hoff : off = f.offset) (hn : n = if aggT P f.type then P.cellsOf f.type else 1) (he : neu s d (.fld ag off n x') = some e) : Snd P w0 N s a w d o e := by
  subst hoff
  obtain ⟨i, hi⟩ := Option.isSome_iff_exists.1 hi
  obtain ⟨u, hfu⟩ := Option.isSome_iff_exists.1 hfu
  simp only [neu] at he
  split at he
  · rename_i cs hv
    split at he
    · rename_i hle
      split at he
      · rename_i v hasv
        injection he with he; subst he
        have hvr := get_VR h hx hv
        simp only [VR] at hvr
        obtain ⟨us, hb, h1, hl⟩ := hvr
        have hlen := hl.length
        have hpart : ∃ rv, (part f.type us.toArray f.offset).run P w = .ok rv w ∧ (ag = true → rv = .agg ((us.drop f.offset).take n).toArray) ∧ (ag = false → (us.drop f.offset).take n = [rv]) := by
          by_cases hg : aggT P f.type = true
          · have := run_part_cell (P := P) w (t := f.type) (us := us) (off := f.offset) hfu hi (by rw [hn, if_pos hg] at hle; omega) (fun hx => by rw [hg] at hx; cases hx)
            rw [hn, if_pos hg]
            exact ⟨_, this, fun _ => (by simp [cellOf, hg]), fun hx => (by rw [hag, hg] at hx; cases hx)⟩
          · have hg' : aggT P f.type = false := by simpa using hg
            rw [hn, if_neg hg]
            rw [hn, if_neg hg] at hle
            have hagg : (isAgg f.type).run P w = .ok false w := by
              unfold isAgg
              rw [Sem.run_bind, run_underlying hfu w]
              unfold aggT at hg'; rw [hfu] at hg'
              cases u <;> simp_all
            have hlt : f.offset < us.length := by omega
            refine ⟨us[f.offset], ?_, fun hx => (by rw [hag, hg'] at hx; cases hx), fun _ => ?_⟩
            · simp only [part, Sem.run_bind, hagg, Result.andThen_ok, Bool.false_eq_true, if_false]
              rw [show us.toArray[f.offset]? = some us[f.offset] by simp [hlt]]
              rfl
            · rw [List.drop_eq_getElem_cons hlt]; rfl
        obtain ⟨rv, hrun, ha, hb'⟩ := hpart
        refine Snd.pure h hd (rv := rv) ?_ (asV_VR hasv ((hl.drop _).take _) (all_take (all_drop h1 _) _) ha hb')
        unfold execOp
        rw [ho]
        simp only [hb, Instr.field, Sem.run_bind, run_underlying hu, Result.andThen_ok, hf, asAgg, Sem.run_pure, hrun]
      · cases he
    · cases he
  · cases he

theorem snd_idx (h : RelC φ w0 N s a w) (hd : d < N) {o : Oper} {t : TypeId} {x y : Operand} (ho : o.op = .index t x y) {n : Nat} {el : TypeId} (hu : P.underlying t = some (.array n el)) (hi : (P.info? el).isSome = true) (hfu : (P.underlying el).isSome = true) (h1c : aggT P el = true ∨ P.cellsOf el = 1)
    {x' y' : Opd} (hx : opd x = some x') (hy : opd y = some y') {ag : Bool} (hag : ag = aggT P el) {sz : Nat} (hsz : sz = P.cellsOf el) (he : neu s d (.idx n sz ag x' y') = some e) : Snd P w0 N s a w d o e := by
  subst hsz
  obtain ⟨inf, hi⟩ := Option.isSome_iff_exists.1 hi
  obtain ⟨u, hfu⟩ := Option.isSome_iff_exists.1 hfu
  simp only [neu] at he
  split at he
  · rename_i cs i hv hiv
    split at he
    · rename_i hc
      obtain ⟨h0, hin, hle⟩ := hc
      split at he
      · rename_i v hasv
        injection he with he; subst he
        obtain ⟨k, hiv⟩ := idxI_get hiv
        have hk := (get_VR h hy hiv).int_
        have hvr := get_VR h hx hv
        simp only [VR] at hvr
        obtain ⟨us, hb, h1, hl⟩ := hvr
        have hlen := hl.length
        have hb2 : i.toNat * P.cellsOf el + P.cellsOf el ≤ us.length := by
          have : (i.toNat + 1) * P.cellsOf el ≤ n * P.cellsOf el := Nat.mul_le_mul_right _ (by omega)
          rw [Nat.add_mul, Nat.one_mul] at this
          omega
        have hrun := run_part_cell (P := P) w (t := el) (us := us) (off := i.toNat * P.cellsOf el) hfu hi hb2 (fun hx => by
          rcases h1c with hc | hc
          · rw [hc] at hx; cases hx
          · exact hc)
        refine Snd.pure h hd (rv := cellOf P el ((us.drop (i.toNat * P.cellsOf el)).take (P.cellsOf el))) ?_ (asV_VR hasv ((hl.drop _).take _) (all_take (all_drop h1 _) _) (fun hx => by simp [cellOf, ← hag, hx]) (fun hx => ?_))
        · unfold execOp
          rw [ho]
          simp only [hb, hk, Instr.index, asIntOf, Sem.run_bind, run_underlying hu, Result.andThen_ok, Sem.run_pure, if_pos (And.intro h0 hin), run_sizeOf w hi, hrun]
        · rw [hag] at hx
          rcases h1c with hc | hc
          · rw [hc] at hx; cases hx
          · simp only [cellOf, hx, Bool.false_eq_true, if_false, hc]
            rw [hc] at hb2
            rw [List.drop_eq_getElem_cons (by omega)]
            rfl
      · cases he
    · cases he
  · cases he

theorem snd_idxStr (h : RelC φ w0 N s a w) (hd : d < N) {o : Oper} {t : TypeId} {x y : Operand} (ho : o.op = .index t x y) (hu : P.underlying t = some .string) {x' y' : Opd} (hx : opd x = some x') (hy : opd y = some y') (he : neu s d (.idxStr x' y') = some e) : Snd P w0 N s a w d o e := by
  simp only [neu] at he
  split at he
  · rename_i l i hv hiv
    split at he
    · rename_i hc
      obtain ⟨h0, hin⟩ := hc
      injection he with he; subst he
      obtain ⟨k, hiv⟩ := idxI_get hiv
      have hk := (get_VR h hy hiv).int_
      have hb := (get_VR h hx hv).str_
      have hlt : i.toNat < l.length := by omega
      refine Snd.pure h hd (rv := .int .u8 ((l.getD i.toNat 0).toNat)) ?_ VR.int_mk
      unfold execOp
      rw [ho]
      have hget : (⟨l.toArray⟩ : ByteArray)[i.toNat]? = some (l.getD i.toNat 0) := by
        have hsz : (⟨l.toArray⟩ : ByteArray).size = l.length := rfl
        rw [getElem?_pos (⟨l.toArray⟩ : ByteArray) i.toNat (by rw [hsz]; exact hlt)]
        simp [List.getD, List.getElem?_eq_getElem hlt]
        rfl
      simp only [hb, hk, Instr.index, asIntOf, Sem.run_bind, run_underlying hu, Result.andThen_ok, Sem.run_pure, if_pos h0, hget]
    · cases he
  · cases he

theorem snd_mnx (h : RelC φ w0 N s a w) (hd : d < N) {o : Oper} {c : Call} (ho : o.op = .call c) {isMin : Bool} (hc : c.callee = .builtin (if isMin then .min else .max)) {x y : Operand} (hargs : c.args.toList = [x, y]) {x' y' : Opd} (hx : opd x = some x') (hy : opd y = some y') (he : neu s d (.mnx isMin x' y') = some e) : Snd P w0 N s a w d o e := by
  have hargs' : c.args = #[x, y] := by rw [← hargs]
  simp only [neu] at he
  split at he
  · rename_i k m k' n hp hq
    split at he
    · rename_i hk
      subst hk
      injection he with he; subst he
      have e1 := (get_VR h hx hp).int_
      have e2 := (get_VR h hy hq).int_
      refine Snd.pure h hd (rv := .int k (if isMin then (if n < m then n else m) else (if m < n then n else m))) ?_ VR.int_mk
      unfold execOp
      rw [ho]
      cases isMin
      · simp only [Bool.false_eq_true, if_false] at hc
        simp [resolve, hc, hargs', e1, e2, invoke, builtin, Builtin.max_, Builtin.max2]
      · simp only [if_true] at hc
        simp [resolve, hc, hargs', e1, e2, invoke, builtin, Builtin.min_, Builtin.min2]
    · cases he
  · cases he

theorem snd_toStr (h : RelC φ w0 N s a w) (hd : d < N) {o : Oper} {src dst el : TypeId} {x : Operand} (ho : o.op = .convert src dst x) (hs : P.underlying src = some (.slice el)) (hk : P.underlying dst = some .string) (hel : P.underlying el = some (.int .u8)) {x' : Opd} (hx : opd x = some x') (he : neu s d (.toStr x') = some e) : Snd P w0 N s a w d o e := by
  simp only [neu] at he
  split at he
  · rename_i v hv
    split at he
    · rename_i n cs hcs
      split at he
      · rename_i l hl
        injection he with he; subst he
        obtain ⟨A, k, us, hb, hvl, hlen, _, _, hat⟩ := elems_cells h.hs rfl hcs (get_VR h hx hv)
        have conv : ∀ (cs : List IV) (us : List Value) (l : List UInt8), VRL (sx w s.h φ w0.heap.size) cs us → cs.mapM (fun c => match c with | IV.int .u8 n => some (UInt8.ofNat n.toNat) | _ => none) = some l →
            ∃ ns : List Int, us = ns.map (Value.int .u8) ∧ ∀ acc : ByteArray, ns.foldl (fun r n => r.push (UInt8.ofNat n.toNat)) acc = ⟨(acc.data.toList ++ l).toArray⟩ := by
          intro cs
          induction cs with
          | nil => intro us l hu hm; simp only [VRL] at hu; subst hu; simp at hm; subst hm; exact ⟨[], rfl, fun acc => by simp⟩
          | cons c cs ih =>
            intro us l hu hm
            simp only [VRL] at hu
            obtain ⟨u, us', rfl, hu1, hu2⟩ := hu
            rw [List.mapM_cons] at hm
            simp only [bind, Option.bind_eq_some_iff, pure, Option.some.injEq] at hm
            obtain ⟨b, hb, l', hl', rfl⟩ := hm
            split at hb
            · rename_i n
              injection hb with hb; subst hb
              obtain ⟨ns, rfl, hf⟩ := ih us' l' hu2 hl'
              refine ⟨n :: ns, by rw [hu1.int_]; rfl, fun acc => ?_⟩
              rw [List.foldl_cons, hf]
              simp [ByteArray.push]
            · cases hb
        obtain ⟨ns, rfl, hf⟩ := conv cs us l hvl hl
        refine Snd.pure h hd (rv := .string ⟨l.toArray⟩) ?_ (by simp only [VR])
        unfold execOp
        rw [ho]
        have hn : n = (ns.map (Value.int .u8)).length := by omega
        have hrun : (Conv.bytesToString (.slice A n k)).run P w = .ok (.string ⟨l.toArray⟩) w := by
          have hres : ns.foldl (fun r n => r.push (UInt8.ofNat n.toNat)) ByteArray.empty = ⟨l.toArray⟩ := by rw [hf]; rfl
          cases A with
          | none =>
            have hnil : ns = [] := by
              cases ns with
              | nil => rfl
              | cons x xs => obtain ⟨b, o', hA, _⟩ := hat (by simp); cases hA
            subst hnil
            simp only [Conv.bytesToString, Sem.run_pure]
            rw [← hres]; rfl
          | some ad =>
            have hload : (loadCells ad n).run P w = .ok (ns.map (Value.int .u8)).toArray w := by
              rw [hn]
              refine run_loadCells_list (P := P) w ad _ (fun j v hv => ?_)
              obtain ⟨b, o', hA, hr⟩ := hat (by intro e; rw [e] at hv; simp at hv)
              injection hA with hA; subst hA
              rw [add_at]; exact hr j v hv
            rw [run_bytesToString w ad n k ns hload, hres]
        simp only [hb, convert, Sem.run_bind, run_underlying hs, run_underlying hk, run_underlying hel, Result.andThen_ok, hrun, Sem.run_pure]
      · cases he
    · cases he
  · cases he
end
end Go.Proofs.YtmblapgoimegkaaDoor
