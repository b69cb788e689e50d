/- What is built, made, appended. -/
import Derived.Test.YtmblapgoimegkaaDoorE8
import Derived.Laws.MakeOwn
set_option linter.unusedSectionVars false
set_option linter.unusedVariables false
set_option linter.unusedSimpArgs false
namespace Go.Proofs.YtmblapgoimegkaaDoor
open Go.RowKit

theorem setRun_get (us : List Value) : ∀ (j off : Nat) (cs : Array Value), off + j + us.length ≤ cs.size → ∀ m, ((us.zipIdx j).foldl (fun cs p => cs.setIfInBounds (off + p.2) p.1) cs)[m]? = if off + j ≤ m ∧ m < off + j + us.length then us[m - (off + j)]? else cs[m]? := by
  induction us with
  | nil => intro j off cs _ m; simp only [List.zipIdx_nil, List.foldl_nil, List.length_nil]; rw [if_neg (by omega)]
  | cons u us ih =>
    intro j off cs h m
    simp only [List.length_cons] at h
    rw [List.zipIdx_cons, List.foldl_cons, ih (j + 1) off _ (by simp; omega)]
    simp only [List.length_cons, Array.getElem?_setIfInBounds]
    by_cases h1 : m = off + j
    · subst h1
      rw [if_neg (by omega), if_pos (by omega), if_pos (by omega), if_pos (by omega)]
      simp
    · by_cases h2 : off + (j + 1) ≤ m ∧ m < off + (j + 1) + us.length
      · rw [if_pos h2, if_pos (by omega)]
        rw [show m - (off + j) = (m - (off + (j + 1))) + 1 by omega, List.getElem?_cons_succ]
      · rw [if_neg h2, if_neg (by omega), if_neg (by omega)]

theorem setRun (us : List Value) (off : Nat) (cs : Array Value) (h : off + us.length ≤ cs.size) : (us.toArray.zipIdx).foldl (fun cs p => cs.setIfInBounds (off + p.2) p.1) cs = (cs.toList.take off ++ us ++ cs.toList.drop (off + us.length)).toArray := by
  apply Array.ext_getElem?
  intro m
  rw [← Array.foldl_toList, Array.toList_zipIdx, setRun_get us 0 off cs (by simpa using h) m]
  simp only [Nat.add_zero, List.getElem?_toArray, List.append_assoc]
  by_cases h1 : m < off
  · rw [if_neg (by omega), List.getElem?_append_left (by simp; omega), List.getElem?_take, if_pos h1]; simp
  · rw [List.getElem?_append_right (by simp; omega)]
    rw [show (List.take off cs.toList).length = off by simp; omega]
    by_cases h2 : m < off + us.length
    · rw [if_pos (by omega), List.getElem?_append_left (by omega)]
    · rw [if_neg (by omega), List.getElem?_append_right (by omega), List.getElem?_drop]
      rw [show off + us.length + (m - off - us.length) = m by omega]; simp

theorem placed_length : ∀ {ps : List (Nat × List IV)} {acc cs : List IV}, placed acc ps = some cs → cs.length = acc.length
  | [], acc, cs, h => by simp only [placed, Option.some.injEq] at h; subst h; rfl
  | (off, p) :: ps, acc, cs, h => by
    simp only [placed] at h
    split at h
    · rename_i hle
      rw [placed_length h]
      simp; omega
    · cases h

inductive F2 {α β : Type} (R : α → β → Prop) : List α → List β → Prop where
  | nil : F2 R [] []
  | cons {a : α} {b : β} {as : List α} {bs : List β} : R a b → F2 R as bs → F2 R (a :: as) (b :: bs)

/-- parts laid into cells, in both machines -/
theorem fill_run {c : Sx} (place : Nat → Option (Nat × Nat)) : ∀ (vals : List (Nat × Value)) (ps : List (Nat × List IV)) (acc cs : List IV) (us : List Value), placed acc ps = some cs → VRL c acc us → acc.all IV.one = true →
    F2 (fun (v : Nat × Value) (p : Nat × List IV) => ∃ n, place v.1 = some (p.1, n) ∧ p.2.length = n ∧ ∃ ws, v.2.cells = ws.toArray ∧ VRL c p.2 ws ∧ p.2.all IV.one = true) vals ps →
    ∃ us', Instr.fill place us.toArray vals = some us'.toArray ∧ VRL c cs us' ∧ cs.all IV.one = true
  | _, [], acc, cs, us, h, hl, h1, hf => by
    simp only [placed, Option.some.injEq] at h
    subst h
    cases hf
    exact ⟨us, rfl, hl, h1⟩
  | _, (off, p) :: ps, acc, cs, us, h, hl, h1, hf => by
    cases hf with
    | cons hv hrest =>
      rename_i v vals
      obtain ⟨i, x⟩ := v
      obtain ⟨n, hp, hn, ws, hw, hwl, hw1⟩ := hv
      simp only at hp hn hw hwl hw1
      simp only [placed] at h
      split at h
      · rename_i hle
        have hlen := hl.length
        have hwlen : ws.length = p.length := hwl.length
        have hl' : VRL c (acc.take off ++ p ++ acc.drop (off + p.length)) (us.take off ++ ws ++ us.drop (off + ws.length)) := by
          rw [hwlen]
          exact ((hl.take off).append hwl).append (hl.drop _)
        obtain ⟨us', g1, g2, g3⟩ := fill_run place vals ps _ cs _ h hl' (by simp only [List.all_append, Bool.and_eq_true]; exact ⟨⟨all_take h1 _, hw1⟩, all_drop h1 _⟩) hrest
        refine ⟨us', ?_, g2, g3⟩
        simp only [Instr.fill, hp]
        have hc : ¬ ((decide (x.cells.size ≠ n) || decide (off + x.cells.size > us.toArray.size)) = true) := by
          rw [hw]
          simp
          omega
        rw [if_neg hc]
        rw [← g1]
        congr 1
        rw [hw]
        exact setRun ws off us.toArray (by simp; omega)
      · cases h

section
variable [Off] [Gh] [Old] {P : Program} {φ : Nat → Option (Nat × Nat)} {w0 : World} {N : Nat} {s : St} {a : Act} {w w' : World} {d : Nat} {e : Eff} {o : Obj}

theorem parts_run (h : RelC φ w0 N s a w) (place : Nat → Option (Nat × Nat)) : ∀ {l : List (Nat × Operand)} {qs : List (Nat × Nat × Opd)} {ps : List (Nat × List IV)}, copParts place l = some qs → s.parts qs = some ps →
    F2 (fun (v : Nat × Value) (p : Nat × List IV) => ∃ n, place v.1 = some (p.1, n) ∧ p.2.length = n ∧ ∃ ws, v.2.cells = ws.toArray ∧ VRL (sx w s.h φ w0.heap.size) p.2 ws ∧ p.2.all IV.one = true) (l.map fun q => (q.1, a.eval q.2)) ps
  | [], qs, ps, h1, h2 => by
    simp only [copParts, Option.some.injEq] at h1; subst h1
    simp only [St.parts, Option.some.injEq] at h2; subst h2
    exact .nil
  | (i, x) :: l, qs, ps, h1, h2 => by
    simp only [copParts] at h1
    split at h1
    · rename_i off n y qs' hp hy hqs
      injection h1 with h1; subst h1
      simp only [St.parts] at h2
      split at h2
      · rename_i v ps' hv hps
        split at h2
        · rename_i hc
          injection h2 with h2; subst h2
          refine .cons ?_ (parts_run h place hqs hps)
          obtain ⟨ws, g1, g2, g3⟩ := boxed (get_VR h hy hv) hc.2
          exact ⟨n, hp, hc.1, ws, g1, g2, g3⟩
        · cases h2
      · cases h2
    · cases h1

theorem snd_build (h : RelC φ w0 N s a w) (hd : d < N) {op : Oper} {t : TypeId} {ps : Array (Nat × Operand)} (ho : op.op = .build t ps) {z : List IV} (hz : zeroL P t = some z) {place : Nat → Option (Nat × Nat)} {qs : List (Nat × Nat × Opd)} (hq : copParts place ps.toList = some qs)
    (hkind : (∃ fs, P.underlying t = some (.struct fs) ∧ fs.toList.all (fun f => (P.info? f.type).isSome) = true ∧ place = fun i => (fs[i]?).map fun f => (f.offset, P.cellsOf f.type)) ∨ (∃ n el, P.underlying t = some (.array n el) ∧ (P.info? el).isSome = true ∧ place = fun i => some (i * P.cellsOf el, P.cellsOf el)))
    (he : neu s d (.build z qs) = some e) : Snd P w0 N s a w d op e := by
  simp only [neu] at he
  split at he
  · rename_i rs hrs
    split at he
    · rename_i cs hcs
      injection he with he; subst he
      obtain ⟨i, v, hi, hv, hl, h1, _⟩ := zeroL_VR hz (sx w s.h φ w0.heap.size)
      obtain ⟨us', g1, g2, g3⟩ := fill_run place _ _ _ _ _ hcs hl h1 (parts_run h place hq hrs)
      have hmap : (ps.map fun q => (q.1, a.eval q.2)).toList = ps.toList.map fun q => (q.1, a.eval q.2) := by simp
      refine Snd.pure h hd (rv := .agg us'.toArray) ?_ (by simp only [VR]; exact ⟨us', rfl, g3, g2⟩)
      unfold execOp
      rw [ho]
      have gz : v.cells.toList.toArray = v.cells := by simp
      rw [gz] at g1
      rcases hkind with ⟨fs, hu, hfs, rfl⟩ | ⟨n, el, hu, hel, rfl⟩
      · have hm : ∀ (l : List Field), l.all (fun f => (P.info? f.type).isSome) = true → (l.mapM (fun (f : Field) => do Pure.pure (f.offset, ← sizeOf f.type)) : Sem (List (Nat × Nat))).run P w = .ok (l.map fun (f : Field) => (f.offset, P.cellsOf f.type)) w := by
          intro l
          induction l with
          | nil => intro _; rfl
          | cons f l ih =>
            intro hall
            simp only [List.all_cons, Bool.and_eq_true] at hall
            obtain ⟨i', hi'⟩ := Option.isSome_iff_exists.1 hall.1
            simp only [List.mapM_cons, Sem.run_bind, run_sizeOf w hi', Result.andThen_ok, Sem.run_pure, ih hall.2, List.map_cons]
        have hma : (fs.mapM (fun (f : Field) => do Pure.pure (f.offset, ← sizeOf f.type)) : Sem (Array (Nat × Nat))).run P w = .ok (fs.map fun (f : Field) => (f.offset, P.cellsOf f.type)) w := by
          rw [Array.mapM_eq_mapM_toList]
          simp only [Sem.run_map, hm fs.toList hfs, Result.andThen_ok]
          congr 1
          rw [← Array.toList_map]
        simp only [Instr.build, Sem.run_bind, run_zero hi hv, Result.andThen_ok, run_underlying hu, hma]
        have hpl : (fun i : Nat => (fs.map fun (f : Field) => (f.offset, P.cellsOf f.type))[i]?) = fun i : Nat => (fs[i]?).map fun (f : Field) => (f.offset, P.cellsOf f.type) := by funext i; simp
        rw [hpl, hmap, g1]
        simp only [Sem.run_pure, Result.andThen_ok]
      · obtain ⟨i', hi'⟩ := Option.isSome_iff_exists.1 hel
        simp only [Instr.build, Sem.run_bind, run_zero hi hv, Result.andThen_ok, run_underlying hu, run_sizeOf w hi']
        rw [hmap, g1]
        simp only [Sem.run_pure, Result.andThen_ok]
    · cases he
  · cases he
end
end Go.Proofs.YtmblapgoimegkaaDoor
