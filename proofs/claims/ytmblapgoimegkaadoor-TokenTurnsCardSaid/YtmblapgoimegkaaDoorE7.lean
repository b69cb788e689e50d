/- Slices, arrays, what is built. -/
import Derived.Test.YtmblapgoimegkaaDoorE6
set_option linter.unusedSectionVars false
set_option linter.unusedVariables false
set_option linter.unusedSimpArgs false
namespace Go.Proofs.YtmblapgoimegkaaDoor
open Go.RowKit

section
variable [Off] [Gh] [Old] {P : Program} {φ : Nat → Option (Nat × Nat)} {w0 : World} {N : Nat} {s : St} {a : Act} {w : World} {d : Nat} {e : Eff}

theorem bnd_run (h : RelC φ w0 N s a w) {x : Option Operand} {x' : Option Opd} (hx : opdO x = some x') {dflt l : Nat} (hb : bnd s x' dflt = some l) :
    (x = none ∧ x' = none ∧ l = dflt) ∨ (∃ y y' k i, x = some y ∧ x' = some y' ∧ a.eval y = .int k i ∧ 0 ≤ i ∧ i.toNat = l) := by
  cases x with
  | none => simp only [opdO, Option.some.injEq] at hx; subst hx; simp only [bnd, Option.some.injEq] at hb; exact .inl ⟨rfl, rfl, hb.symm⟩
  | some y =>
    simp only [opdO] at hx
    split at hx
    · rename_i y' hy
      injection hx with hx; subst hx
      simp only [bnd] at hb
      split at hb
      · rename_i k i hg
        split at hb
        · rename_i h0
          injection hb with hb
          exact .inr ⟨y, y', k, i, rfl, rfl, (get_VR h hy hg).int_, h0, hb⟩
        · cases hb
      · cases hb
    · cases hx

theorem run_sliceBound {k : IntKind} {i : Int} {y : Nat} {code : BoundsCode} (h0 : 0 ≤ i) (h1 : i.toNat ≤ y) : (Instr.sliceBound (.int k i) y code).run P w = .ok i.toNat w := by
  simp only [Instr.sliceBound, asIntOf, Sem.run_bind, Sem.run_pure, Result.andThen_ok, if_pos (show 0 ≤ i ∧ i ≤ (y : Int) by omega)]

/-- the bounds of a slice expression, as the machine reckons them -/
theorem bnds_run (h : RelC φ w0 N s a w) {lo hi mx : Option Operand} {lo' hi' mx' : Option Opd} (h1 : opdO lo = some lo') (h2 : opdO hi = some hi') (h3 : opdO mx = some mx') {n x y : Nat} {e : Bool} (hb : bnds s n lo' hi' mx' = some (x, y, e)) (isSl : Bool) (cap : Nat) (hn : n ≤ cap) :
    ∃ m, (Instr.sliceBounds isSl n cap (lo.map a.eval) (hi.map a.eval) (mx.map a.eval)).run P w = .ok (x, y, m) w ∧ x ≤ y ∧ y ≤ n ∧ y ≤ m ∧ m ≤ cap ∧ (e = true → m = y) ∧ (e = false → mx = none → m = cap) := by
  unfold bnds at hb
  split at hb
  · rename_i l hh m hl hhh hm
    split at hb
    · rename_i hc
      obtain ⟨c1, c2, c3, c4⟩ := hc
      simp only [Option.some.injEq, Prod.mk.injEq] at hb
      obtain ⟨rfl, rfl, rfl⟩ := hb
      rcases bnd_run h h3 hm with ⟨rfl, rfl, rfl⟩ | ⟨z, z', k3, i3, rfl, rfl, ez, z0, z1⟩
      · rcases bnd_run h h2 hhh with ⟨rfl, rfl, rfl⟩ | ⟨y, y', k2, i2, rfl, rfl, ey, y0, y1⟩
        · rcases bnd_run h h1 hl with ⟨rfl, rfl, rfl⟩ | ⟨x, x', k1, i1, rfl, rfl, ex, x0, x1⟩
          · exact ⟨cap, by simp [Instr.sliceBounds], by omega, by omega, by omega, by omega, by simp, by simp⟩
          · refine ⟨cap, ?_, by omega, by omega, by omega, by omega, by simp, by simp⟩
            simp only [Instr.sliceBounds, Option.map_some, Option.map_none, Sem.run_bind, Sem.run_pure, Result.andThen_ok, Option.isSome_none, Bool.false_eq_true, if_false, ex, run_sliceBound (P := P) (w := w) (k := k1) x0 (show i1.toNat ≤ hh by omega), x1]
        · subst y1
          rcases bnd_run h h1 hl with ⟨rfl, rfl, rfl⟩ | ⟨x, x', k1, i1, rfl, rfl, ex, x0, x1⟩
          · refine ⟨cap, ?_, by omega, by omega, by omega, by omega, by simp, by simp⟩
            simp only [Instr.sliceBounds, Option.map_some, Option.map_none, Sem.run_bind, Sem.run_pure, Result.andThen_ok, ey, run_sliceBound (P := P) (w := w) (k := k2) y0 (show i2.toNat ≤ cap by omega)]
          · subst x1
            refine ⟨cap, ?_, by omega, by omega, by omega, by omega, by simp, by simp⟩
            simp only [Instr.sliceBounds, Option.map_some, Option.map_none, Sem.run_bind, Sem.run_pure, Result.andThen_ok, ey, run_sliceBound (P := P) (w := w) (k := k2) y0 (show i2.toNat ≤ cap by omega), Option.isSome_none, Bool.false_eq_true, if_false, ex, run_sliceBound (P := P) (w := w) (k := k1) x0 (show i1.toNat ≤ i2.toNat by omega)]
      · subst z1
        rcases bnd_run h h2 hhh with ⟨rfl, rfl, rfl⟩ | ⟨y, y', k2, i2, rfl, rfl, ey, y0, y1⟩
        · simp at c4
        · subst y1
          have he : ((some z').isSome && (i2.toNat == i3.toNat)) = true → i3.toNat = i2.toNat := by simp; omega
          have he2 : (some z : Option Operand) = none → i3.toNat = cap := by simp
          rcases bnd_run h h1 hl with ⟨rfl, rfl, rfl⟩ | ⟨x, x', k1, i1, rfl, rfl, ex, x0, x1⟩
          · refine ⟨i3.toNat, ?_, by omega, by omega, by omega, by omega, he, fun _ => he2⟩
            simp only [Instr.sliceBounds, Option.map_some, Option.map_none, Sem.run_bind, Sem.run_pure, Result.andThen_ok, ez, run_sliceBound (P := P) (w := w) (k := k3) z0 (show i3.toNat ≤ cap by omega), ey, run_sliceBound (P := P) (w := w) (k := k2) y0 (show i2.toNat ≤ i3.toNat by omega)]
          · subst x1
            refine ⟨i3.toNat, ?_, by omega, by omega, by omega, by omega, he, fun _ => he2⟩
            simp only [Instr.sliceBounds, Option.map_some, Sem.run_bind, Sem.run_pure, Result.andThen_ok, ez, run_sliceBound (P := P) (w := w) (k := k3) z0 (show i3.toNat ≤ cap by omega), ey, run_sliceBound (P := P) (w := w) (k := k2) y0 (show i2.toNat ≤ i3.toNat by omega), Option.isSome_some, if_true, ex, run_sliceBound (P := P) (w := w) (k := k1) x0 (show i1.toNat ≤ i2.toNat by omega)]
    · cases hb
  · cases hb

theorem snd_slStr (h : RelC φ w0 N s a w) (hd : d < N) {o : Oper} {t : TypeId} {x : Operand} {lo hi : Option Operand} (ho : o.op = .slice t x lo hi none) (hu : P.underlying t = some .string) {x' : Opd} (hx : opd x = some x') {lo' hi' : Option Opd} (h1 : opdO lo = some lo') (h2 : opdO hi = some hi') (he : neu s d (.slStr x' lo' hi') = some e) : Snd P w0 N s a w d o e := by
  simp only [neu] at he
  split at he
  · rename_i l hv
    split at he
    · rename_i p q z hbn
      injection he with he; subst he
      have hb := (get_VR h hx hv).str_
      obtain ⟨m, hr, g1, g2, g3, g4, _⟩ := bnds_run (P := P) h h1 h2 (mx := none) rfl hbn false l.length (Nat.le_refl _)
      refine Snd.pure h hd (rv := .string ⟨((l.take q).drop p).toArray⟩) ?_ (by simp only [VR])
      have hsz : (⟨l.toArray⟩ : ByteArray).size = l.length := rfl
      have hext : (⟨l.toArray⟩ : ByteArray).extract p q = ⟨((l.take q).drop p).toArray⟩ := by
        apply ByteArray.ext
        rw [ByteArray.data_extract]
        show l.toArray.extract p q = _
        rw [List.extract_toArray, List.extract_eq_take_drop, List.drop_take]
      unfold execOp
      rw [ho]
      simp only [hb, Instr.sliceAt, Sem.run_bind, run_underlying hu, Result.andThen_ok, Instr.slice, Option.map_none, Option.isSome_none, Bool.false_eq_true, if_false, hsz]
      rw [show (none : Option Value) = (none : Option Operand).map a.eval from rfl]
      simp only [hr, Result.andThen_ok, Sem.run_pure, hext]
    · cases he
  · cases he

/-- the cells of a cut of a slice -/
theorem cut_at {c : Sx} {A : Option Addr} {us : List Value} (h : CellsAt c A us) (p q m : Nat) (hpq : m = p → p = q) : CellsAt c (if m = p then A else A.map (·.add p)) ((us.take q).drop p) := by
  intro j hj
  simp only [List.length_drop, List.length_take] at hj
  obtain ⟨ad, rfl, hs, hb, hc⟩ := h (p + j) (by omega)
  rw [if_neg (by omega)]
  refine ⟨⟨ad.block, ad.off + p, none⟩, ?_, rfl, hb, ?_⟩
  · rw [Option.map_some, addr_eta hs, add_at]
  · rw [List.getElem_drop, List.getElem_take, ← hc, Nat.add_assoc]

theorem snd_slSl (h : RelC φ w0 N s a w) (hd : d < N) {o : Oper} {t : TypeId} {x : Operand} {lo hi mx : Option Operand} (ho : o.op = .slice t x lo hi mx) {el : TypeId} (hu : P.underlying t = some (.slice el)) (hi0 : (P.info? el).isSome = true) {x' : Opd} (hx : opd x = some x') {lo' hi' mx' : Option Opd} (h1 : opdO lo = some lo') (h2 : opdO hi = some hi') (h3 : opdO mx = some mx')
    {sz : Nat} (hsz : sz = P.cellsOf el) (he : neu s d (.slSl sz x' lo' hi' mx') = some e) : Snd P w0 N s a w d o e := by
  subst hsz
  obtain ⟨inf, hi0⟩ := Option.isSome_iff_exists.1 hi0
  have run : ∀ A n k p q m, a.eval x = .slice A n k → (Instr.sliceBounds true n k (lo.map a.eval) (hi.map a.eval) (mx.map a.eval)).run P w = .ok (p, q, m) w →
      (execOp a.eval o).run P w = .ok (.value (.slice (if m = p then A else A.map (·.add (p * P.cellsOf el))) (q - p) (m - p))) w := by
    intro A n k p q m hb hr
    unfold execOp
    rw [ho]
    simp only [hb, Instr.sliceAt, Sem.run_bind, run_underlying hu, Result.andThen_ok, Instr.slice, hr, run_sizeOf w hi0, Sem.run_pure]
  simp only [neu] at he
  split at he
  · rename_i hh off n sz' ver hv
    split at he
    · rename_i p q z hbn
      split at he
      · rename_i hsz
        subst hsz
        injection he with he; subst he
        have h0 := get_VR h hx hv
        simp only [VR] at h0
        obtain ⟨hver, A, k, hb, hnk, hrow⟩ := h0
        obtain ⟨m, hr, g1, g2, g3, g4, _⟩ := bnds_run (P := P) h h1 h2 h3 hbn true k hnk
        refine Snd.pure h hd (run A n k p q m hb hr) ?_
        simp only [VR]
        refine ⟨hver, _, m - p, rfl, by omega, fun hl hve => ?_⟩
        have hr' := hrow hl hve
        unfold rowR at hr' ⊢
        have hmul : p * P.cellsOf el + (q - p) * P.cellsOf el ≤ n * P.cellsOf el := by rw [← Nat.add_mul]; exact Nat.mul_le_mul_right _ (by omega)
        have hmul2 : p * P.cellsOf el + (m - p) * P.cellsOf el ≤ k * P.cellsOf el := by rw [← Nat.add_mul]; exact Nat.mul_le_mul_right _ (by omega)
        refine ⟨by have := hr'.1; omega, ?_⟩
        cases hφ : φ hh with
        | none =>
          simp only [hφ] at hr' ⊢
          have : p = 0 := by omega
          subst this
          exact ⟨by omega, by simp [hr'.2.2]⟩
        | some pp =>
          obtain ⟨b, o'⟩ := pp
          simp only [hφ] at hr' ⊢
          refine ⟨?_, by have := hr'.2.2; omega⟩
          by_cases hmp : m = p
          · left; omega
          · right
            rw [if_neg hmp]
            rcases hr'.2.1 with hk0 | hA
            · omega
            · rw [hA, Option.map_some, add_at, Nat.add_assoc]
      · cases he
    · cases he
  · rename_i f n cs hv
    split at he
    · rename_i p q z hbn
      split at he
      · rename_i hlen
        injection he with he; subst he
        have h0 := get_VR h hx hv
        simp only [VR] at h0
        obtain ⟨A, k, us, hb, hnk, hfull, hlit, hp, h1', hl, hat⟩ := h0
        obtain ⟨m, hr, g1, g2, g3, g4, g5, g6⟩ := bnds_run (P := P) h h1 h2 h3 hbn true k hnk
        refine Snd.pure h hd (run A n k p q m hb hr) ?_
        simp only [VR]
        refine ⟨_, m - p, (us.take (q * P.cellsOf el)).drop (p * P.cellsOf el), rfl, by omega, fun hf => ?_, fun hf => ?_, purL_drop (purL_take hp _) _, all_drop (all_take h1' _) _, (hl.take _).drop _, ?_⟩
        · cases z with
          | true => rw [g5 rfl]
          | false =>
            simp only [Bool.false_eq_true, if_false] at hf
            split at hf
            · rename_i hc
              obtain ⟨rfl, hne⟩ := hc
              have hk := hfull hne
              have : m = q := by omega
              omega
            · exact (hf rfl).elim
        · cases z <;> simp only [Bool.false_eq_true, if_false, if_true, reduceCtorEq] at hf
          split at hf <;> cases hf
        · by_cases hz : P.cellsOf el = 0
          · intro j hj
            simp [hz] at hj
          · by_cases hmp : m = p
            · have hpq : p = q := by omega
              subst hpq
              intro j hj
              simp at hj
            · have := cut_at hat (p * P.cellsOf el) (q * P.cellsOf el) (p * P.cellsOf el + 1) (by omega)
              rw [if_neg (by omega)] at this
              rw [if_neg hmp]
              exact this
      · cases he
    · cases he
  · cases he

theorem snd_slArr (h : RelC φ w0 N s a w) (hd : d < N) {o : Oper} {t : TypeId} {x : Operand} {lo hi mx : Option Operand} (ho : o.op = .slice t x lo hi mx) {el : TypeId} {n : Nat} (hu : P.underlying t = some (.array n el)) (hi0 : (P.info? el).isSome = true) {x' : Opd} (hx : opd x = some x') {lo' hi' mx' : Option Opd} (h1 : opdO lo = some lo') (h2 : opdO hi = some hi') (h3 : opdO mx = some mx')
    {sz : Nat} (hsz : sz = P.cellsOf el) (he : neu s d (.slArr n sz x' lo' hi' mx') = some e) : Snd P w0 N s a w d o e := by
  subst hsz
  obtain ⟨inf, hi0⟩ := Option.isSome_iff_exists.1 hi0
  have run : ∀ b o' p q m, a.eval x = .pointer (some ⟨b, o', none⟩) → (Instr.sliceBounds false n n (lo.map a.eval) (hi.map a.eval) (mx.map a.eval)).run P w = .ok (p, q, m) w →
      (execOp a.eval o).run P w = .ok (.value (.slice (some (if m = p then ⟨b, o', none⟩ else ⟨b, o' + p * P.cellsOf el, none⟩)) (q - p) (m - p))) w := by
    intro b o' p q m hb hr
    unfold execOp
    rw [ho]
    simp only [hb, Instr.sliceAt, Sem.run_bind, run_underlying hu, Result.andThen_ok, Instr.sureAddr, hr, run_sizeOf w hi0, Sem.run_pure, add_at]
  simp only [neu] at he
  split at he
  · rename_i hh off ver hv
    split at he
    · rename_i p q z hbn
      split at he
      · rename_i hc
        obtain ⟨hok, hle⟩ := hc
        injection he with he; subst he
        have h0 := get_VR h hx hv
        simp only [VR] at h0
        simp only [St.ok, Bool.and_eq_true, beq_iff_eq] at hok
        have hp := h0.2.2 hok.1 hok.2
        unfold ptrR at hp
        obtain ⟨m, hr, g1, g2, g3, g4, _⟩ := bnds_run (P := P) h h1 h2 h3 hbn false n (Nat.le_refl _)
        have hmul : p * P.cellsOf el + (q - p) * P.cellsOf el ≤ n * P.cellsOf el := by rw [← Nat.add_mul]; exact Nat.mul_le_mul_right _ (by omega)
        have hmul2 : p * P.cellsOf el + (m - p) * P.cellsOf el ≤ n * P.cellsOf el := by rw [← Nat.add_mul]; exact Nat.mul_le_mul_right _ (by omega)
        cases hφ : φ hh with
        | none => simp only [hφ] at hp
        | some pp =>
          obtain ⟨b, o'⟩ := pp
          simp only [hφ] at hp
          refine Snd.pure h hd (run b _ p q m hp hr) ?_
          simp only [VR]
          refine ⟨h0.1, _, m - p, rfl, by omega, fun hl hve => ?_⟩
          unfold rowR
          refine ⟨by show off + p * P.cellsOf el + (q - p) * P.cellsOf el ≤ (s.h hh).cells.length; omega, ?_⟩
          simp only [hφ]
          have hbs : o' + (s.h hh).cells.length ≤ bsize w b := by
            have hat := (h.hs.home hh hok.1).at_
            simp only [hφ] at hat
            obtain ⟨cs, T, fr, us, e1, _, e3, _, e5⟩ := hat
            have hlen : us.length = (s.h hh).cells.length := e3.length
            simp only [bsize, e1]
            omega
          refine ⟨?_, by omega⟩
          by_cases hmp : m = p
          · left; omega
          · right; rw [if_neg hmp, Nat.add_assoc]
      · cases he
    · cases he
  · rename_i cs hv
    split at he
    · rename_i p q z hbn
      split at he
      · rename_i hle
        injection he with he; subst he
        have h0 := get_VR h hx hv
        simp only [VR] at h0
        obtain ⟨ad, us, hb, hsp, hp, h1', hl, hat⟩ := h0
        obtain ⟨m, hr, g1, g2, g3, g4, g5, g6⟩ := bnds_run (P := P) h h1 h2 h3 hbn false n (Nat.le_refl _)
        refine Snd.pure h hd (run ad.block ad.off p q m (by rw [hb, addr_eta hsp]) hr) ?_
        simp only [VR]
        refine ⟨_, m - p, (us.take (q * P.cellsOf el)).drop (p * P.cellsOf el), rfl, by omega, by simp, by simp, purL_drop (purL_take hp _) _, all_drop (all_take h1' _) _, (hl.take _).drop _, ?_⟩
        by_cases hz : P.cellsOf el = 0
        · intro j hj
          simp [hz] at hj
        · by_cases hmp : m = p
          · have hpq : p = q := by omega
            subst hpq
            intro j hj
            simp at hj
          · have := cut_at hat (p * P.cellsOf el) (q * P.cellsOf el) (p * P.cellsOf el + 1) (by omega)
            rw [if_neg (by omega), Option.map_some, addr_eta hsp, add_at] at this
            rw [if_neg hmp]
            exact this
      · cases he
    · cases he
  · cases he
theorem toIV_nil {v : Value} (h : toIV v = some (.sl .full 0 [])) : v = .slice none 0 0 := by
  unfold toIV at h
  split at h
  · split at h <;> cases h
  · unfold toIV1 at h
    split at h
    all_goals first
      | rfl
      | (cases h; done)
      | (split at h <;> cases h)

theorem run_nilS {t el : TypeId} (hu : P.underlying t = some (.slice el)) (A : Option Addr) (n k : Nat) (w : World) : (Op.equal t (.slice A n k) (.slice none 0 0)).run P w = .ok A.isNone w := by
  unfold Op.equal Op.maxDepth Op.equalIn
  rw [Sem.run_bind, run_underlying hu]
  cases A <;> rfl

theorem snd_nilS (h : RelC φ w0 N s a w) (hd : d < N) {o : Oper} {op : BinOp} {t yt : TypeId} {x y : Operand} (ho : o.op = .binOp op t x y yt) (ht : sliceT P t = true) (hop : op = .eql ∨ op = .neq) {x' y' : Opd} (hx : opd x = some x') (hy : opd y = some y') (hn : nilC y' = true) (he : neu s d (.nilS (op == .neq) x') = some e) : Snd P w0 N s a w d o e := by
  obtain ⟨el, hu⟩ : ∃ el, P.underlying t = some (.slice el) := by
    unfold sliceT at ht
    split at ht
    · rename_i el hu; exact ⟨el, hu⟩
    · cases ht
  have hyv : a.eval y = .slice none 0 0 := by
    unfold nilC at hn
    split at hn
    · cases y with
      | const v =>
        simp only [opd] at hy
        split at hy
        · rename_i z hz
          injection hy with hy; injection hy with hy; subst hy
          show v = _
          exact toIV_nil hz
        · cases hy
      | tmp t => simp [opd] at hy
      | func f => simp [opd] at hy
      | global g => simp [opd] at hy
    · cases hn
  have key : ∀ A n k, a.eval x = .slice A n k → ∀ v : IV, VR (sx w s.h φ w0.heap.size) v (.bool (if (op == .neq) = true then !A.isNone else A.isNone)) → Snd P w0 N s a w d o ⟨v, none⟩ := by
    intro A n k hxa v hv
    refine Snd.pure h hd (rv := .bool (if (op == .neq) = true then !A.isNone else A.isNone)) ?_ hv
    have hguard : (eqGuard op t x y (.slice A n k) (.slice none 0 0)).run P w = .ok () w := by
      unfold eqGuard; cases op <;> rfl
    unfold execOp
    rw [ho]
    simp only [hxa, hyv, Sem.run_bind, hguard, Result.andThen_ok]
    rcases hop with rfl | rfl
    · simp [binOp, run_nilS hu]
    · simp [binOp, run_nilS hu]
  simp only [neu] at he
  split at he
  · rename_i f n cs hv
    injection he with he; subst he
    have hxv := get_VR h hx hv
    simp only [VR] at hxv
    obtain ⟨A, k, us, hxa, _, _, _, _, _, hl, hat⟩ := hxv
    refine key A n k hxa _ ?_
    split
    · rename_i hpos
      obtain ⟨ad, rfl, _⟩ := hat 0 (by have := hl.length; omega)
      rcases hop with rfl | rfl <;> simp only [VR] <;> rfl
    · simp only [VR]; exact ⟨_, rfl⟩
  · rename_i hh off n sz ver hv
    split at he
    · rename_i hok
      injection he with he; subst he
      have hxv := get_VR h hx hv
      simp only [VR] at hxv
      obtain ⟨_, A, k, hxa, hnk, hrow⟩ := hxv
      simp only [St.ok, Bool.and_eq_true, beq_iff_eq] at hok
      have hr := hrow hok.1 hok.2
      refine key A n k hxa _ ?_
      split
      · rename_i hpos
        unfold rowR at hr
        cases hφ : φ hh with
        | none => simp only [hφ] at hr; omega
        | some p =>
          obtain ⟨b, o'⟩ := p
          simp only [hφ] at hr
          rcases hr.2.1 with hk | hA
          · omega
          · subst hA
            rcases hop with rfl | rfl <;> simp only [VR] <;> rfl
      · simp only [VR]; exact ⟨_, rfl⟩
    · cases he
  · cases he

theorem toIV_nilp {v : Value} (h : toIV v = some .nilp) : v = .pointer none := by
  unfold toIV at h
  split at h
  · split at h <;> cases h
  · unfold toIV1 at h
    split at h
    all_goals first
      | rfl
      | (cases h; done)
      | (split at h <;> cases h)
theorem run_nilP {t el : TypeId} (hu : P.underlying t = some (.pointer el)) (A : Option Addr) (w : World) : (Op.equal t (.pointer A) (.pointer none)).run P w = .ok A.isNone w := by
  unfold Op.equal Op.maxDepth Op.equalIn
  rw [Sem.run_bind, run_underlying hu]
  cases A <;> rfl
theorem snd_nilP (h : RelC φ w0 N s a w) (hd : d < N) {o : Oper} {op : BinOp} {t yt : TypeId} {x y : Operand} (ho : o.op = .binOp op t x y yt) (ht : ptrT P t = true) (hop : op = .eql ∨ op = .neq) {x' y' : Opd} (hx : opd x = some x') (hy : opd y = some y') (hn : nilQ y' = true) (he : neu s d (.nilP (op == .neq) x') = some e) : Snd P w0 N s a w d o e := by
  obtain ⟨el, hu⟩ : ∃ el, P.underlying t = some (.pointer el) := by
    unfold ptrT at ht
    split at ht
    · rename_i el hu; exact ⟨el, hu⟩
    · cases ht
  have hyv : a.eval y = .pointer none := by
    unfold nilQ at hn
    split at hn
    · cases y with
      | const v =>
        simp only [opd] at hy
        split at hy
        · rename_i z hz
          injection hy with hy; injection hy with hy; subst hy
          show v = _
          exact toIV_nilp hz
        · cases hy
      | tmp t => simp [opd] at hy
      | func f => simp [opd] at hy
      | global g => simp [opd] at hy
    · cases hn
  have key : ∀ A, a.eval x = .pointer A → ∀ v : IV, VR (sx w s.h φ w0.heap.size) v (.bool (if (op == .neq) = true then !A.isNone else A.isNone)) → Snd P w0 N s a w d o ⟨v, none⟩ := by
    intro A hxa v hv
    refine Snd.pure h hd (rv := .bool (if (op == .neq) = true then !A.isNone else A.isNone)) ?_ hv
    have hguard : (eqGuard op t x y (.pointer A) (.pointer none)).run P w = .ok () w := by
      unfold eqGuard; cases op <;> rfl
    unfold execOp
    rw [ho]
    simp only [hxa, hyv, Sem.run_bind, hguard, Result.andThen_ok]
    rcases hop with rfl | rfl
    · simp [binOp, run_nilP hu]
    · simp [binOp, run_nilP hu]
  simp only [neu] at he
  split at he
  · rename_i hv
    injection he with he; subst he
    have hxv := get_VR h hx hv
    simp only [VR] at hxv
    refine key none hxv _ ?_
    rcases hop with rfl | rfl <;> simp only [VR] <;> rfl
  · rename_i hh off ver hv
    split at he
    · rename_i hok
      injection he with he; subst he
      have hxv := get_VR h hx hv
      simp only [VR] at hxv
      obtain ⟨_, _, hp⟩ := hxv
      simp only [St.ok, Bool.and_eq_true, beq_iff_eq] at hok
      have hr := hp hok.1 hok.2
      unfold ptrR at hr
      cases hφ : φ hh with
      | none => simp only [hφ] at hr
      | some p =>
        obtain ⟨b, o'⟩ := p
        simp only [hφ] at hr
        refine key _ hr _ ?_
        rcases hop with rfl | rfl <;> simp only [VR] <;> rfl
    · cases he
  · rename_i cs hv
    injection he with he; subst he
    have hxv := get_VR h hx hv
    simp only [VR] at hxv
    obtain ⟨ad, us, hxa, _⟩ := hxv
    refine key _ hxa _ ?_
    rcases hop with rfl | rfl <;> simp only [VR] <;> rfl
  · cases he

theorem snd_cap (h : RelC φ w0 N s a w) (hd : d < N) {o : Oper} {c : Call} (ho : o.op = .call c) (hc : c.callee = .builtin .cap) {t : TypeId} {x : Operand} (ht : c.argTypes[0]? = some t) (hx0 : c.args[0]? = some x) {x' : Opd} (hx : opd x = some x')
    {el : TypeId} (hu : P.underlying t = some (.slice el)) (he : neu s d (.cap x') = some e) : Snd P w0 N s a w d o e := by
  simp only [neu] at he
  split at he
  · rename_i f n cs hv
    split at he
    · rename_i hf
      injection he with he; subst he
      have hxv := get_VR h hx hv
      simp only [VR] at hxv
      obtain ⟨A, k, us, hxa, _, hfull, _⟩ := hxv
      have hk := hfull hf
      subst hk
      refine Snd.pure h hd (rv := .int .i64 k) ?_ VR.int_mk
      have hax : (c.args.map a.eval)[0]? = some (.slice A k k) := by rw [Array.getElem?_map, hx0]; simp [hxa]
      unfold execOp
      rw [ho]
      simp only [resolve, hc, Sem.run_bind, Sem.run_pure, Result.andThen_ok, invoke, builtin, Builtin.cap_, ht, hax, run_underlying hu, goInt]
    · cases he
  · cases he
end
end Go.Proofs.YtmblapgoimegkaaDoor
