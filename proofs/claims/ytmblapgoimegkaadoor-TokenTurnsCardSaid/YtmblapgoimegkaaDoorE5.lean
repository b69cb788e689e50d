/- Operations that read and reckon, more. -/
import Derived.Test.YtmblapgoimegkaaDoorE4
import Derived.Laws.StructEq
set_option linter.unusedSectionVars false
set_option linter.unusedVariables false
set_option linter.unusedSimpArgs false
namespace Go.Proofs.YtmblapgoimegkaaDoor
open Go.RowKit

/-! ### '==' of arrays and structs -/
def cellOf (P : Program) (t : TypeId) (us : List Value) : Value := if aggT P t then .agg us.toArray else us.getD 0 undef

inductive CkFit : CK → Value → Prop where
  | b (x : Bool) : CkFit .b (.bool x)
  | i (k : IntKind) (n : Int) : CkFit .i (.int k n)
  | s (x : ByteArray) : CkFit .s (.string x)

/-- two cells that can be held against each other -/
def cmpV : Value → Value → Option Bool
  | .bool a, .bool b => some (a == b)
  | .int k a, .int k' b => if k = k' then some (decide (a = b)) else none
  | .string a, .string b => some (decide (a.data.toList = b.data.toList))
  | _, _ => none
def cmpL : List Value → List Value → Option Bool
  | [], [] => some true
  | a :: as, b :: bs => match cmpV a b, cmpL as bs with
    | some x, some y => some (x && y)
    | _, _ => none
  | _, _ => none

theorem cmpL_length : ∀ {xs ys : List Value} {r : Bool}, cmpL xs ys = some r → xs.length = ys.length
  | [], [], _, _ => rfl
  | [], _ :: _, _, h => by simp [cmpL] at h
  | _ :: _, [], _, h => by simp [cmpL] at h
  | x :: xs, y :: ys, r, h => by
    simp only [cmpL] at h
    split at h
    · rename_i hh; simp [cmpL_length hh]
    · cases h

theorem cmpL_split : ∀ {xs ys : List Value} {r : Bool}, cmpL xs ys = some r → ∀ n, ∃ a b, cmpL (xs.take n) (ys.take n) = some a ∧ cmpL (xs.drop n) (ys.drop n) = some b ∧ r = (a && b)
  | xs, ys, r, h, 0 => ⟨true, r, by simp [cmpL], by simpa using h, by simp⟩
  | [], [], r, h, n + 1 => ⟨true, true, by simp [cmpL], by simp [cmpL], by simpa [cmpL] using h.symm⟩
  | [], _ :: _, _, h, _ => by simp [cmpL] at h
  | _ :: _, [], _, h, _ => by simp [cmpL] at h
  | x :: xs, y :: ys, r, h, n + 1 => by
    simp only [cmpL] at h
    split at h
    · rename_i p q hp hq
      injection h with h; subst h
      obtain ⟨a, b, h1, h2, h3⟩ := cmpL_split hq n
      refine ⟨p && a, b, ?_, by simpa using h2, by rw [h3, Bool.and_assoc]⟩
      simp only [List.take_succ_cons, cmpL, hp, h1]
    · cases h

section
variable {P : Program} (w : World)

theorem run_part_cell {t : TypeId} {us : List Value} {off : Nat} {u : TypeDesc} (hu : P.underlying t = some u) {i : TypeInfo} (hi : P.info? t = some i) (hl : off + P.cellsOf t ≤ us.length) (h1 : aggT P t = false → P.cellsOf t = 1) :
    (part t us.toArray off).run P w = .ok (cellOf P t ((us.drop off).take (P.cellsOf t))) w := by
  by_cases hg : aggT P t = true
  · have hagg : (isAgg t).run P w = .ok true w := by
      unfold isAgg
      rw [Sem.run_bind, run_underlying hu w]
      unfold aggT at hg; rw [hu] at hg
      cases u <;> simp_all
    simp only [part, Sem.run_bind, hagg, Result.andThen_ok, if_true, run_sizeOf w hi, Sem.run_pure, cellOf, hg]
    congr 2
    rw [List.extract_toArray, List.extract_eq_take_drop]
    congr 2
    omega
  · have hg' : aggT P t = false := by simpa using hg
    have hagg : (isAgg t).run P w = .ok false w := by
      unfold isAgg
      rw [Sem.run_bind, run_underlying hu w]
      unfold aggT at hg'; rw [hu] at hg'
      cases u <;> simp_all
    have := h1 hg'
    have hlt : off < us.length := by omega
    simp only [part, Sem.run_bind, hagg, Result.andThen_ok, Bool.false_eq_true, if_false, cellOf, hg', this]
    rw [show us.toArray[off]? = some us[off] by simp [hlt]]
    simp [List.getElem?_drop, hlt]

/-- the kinds of a type tell how many cells it has -/
theorem eq_kinds : ∀ (d : Nat) {t : TypeId} {ks : List CK}, kindsT P d t = some ks → ∀ (D : Nat) (_hD : d ≤ D) {xs ys : List Value} {r : Bool}, xs.length = ks.length → (∀ j (hj : j < xs.length) (hj' : j < ks.length), CkFit ks[j] xs[j]) → cmpL xs ys = some r →
    (aggT P t = false → xs.length = 1) ∧ (Op.equalIn D t (cellOf P t xs) (cellOf P t ys)).run P w = .ok r w
  | 0, t, ks, h, _, _, _, _, _, _, _, _ => by simp [kindsT] at h
  | d + 1, t, ks, h, D, hD, xs, ys, r, hl, hf, hr => by
    obtain ⟨D, rfl⟩ : ∃ D', D = D' + 1 := ⟨D - 1, by omega⟩
    simp only [kindsT] at h
    cases hu : P.underlying t with
    | none => rw [hu] at h; cases h
    | some u =>
      rw [hu] at h
      have scal : ∀ k, ks = [k] → aggT P t = false → ((aggT P t = false → xs.length = 1) ∧ ∃ x y, xs = [x] ∧ ys = [y] ∧ cmpV x y = some r ∧ CkFit k x ∧ cellOf P t xs = x ∧ cellOf P t ys = y) := by
        rintro k rfl hg
        simp only [List.length_singleton] at hl
        obtain ⟨x, rfl⟩ := List.length_eq_one_iff.1 hl
        have hly := cmpL_length hr
        obtain ⟨y, rfl⟩ := List.length_eq_one_iff.1 hly.symm
        refine ⟨fun _ => rfl, x, y, rfl, rfl, ?_, hf 0 (by simp) (by simp), by simp [cellOf, hg], by simp [cellOf, hg]⟩
        simp only [cmpL] at hr
        cases hc : cmpV x y with
        | none => rw [hc] at hr; cases hr
        | some z => rw [hc] at hr; simpa using hr
      cases u with
      | bool =>
        simp only [Option.some.injEq] at h
        obtain ⟨h1, x, y, rfl, rfl, hc, hk, e1, e2⟩ := scal .b h.symm (by simp [aggT, hu])
        refine ⟨h1, ?_⟩
        rw [e1, e2]
        cases hk
        cases y <;> simp only [cmpV] at hc <;> try (cases hc; done)
        injection hc with hc; subst hc
        exact run_equalIn_bool w D t _ _ hu
      | int k =>
        simp only [Option.some.injEq] at h
        obtain ⟨h1, x, y, rfl, rfl, hc, hk, e1, e2⟩ := scal .i h.symm (by simp [aggT, hu])
        refine ⟨h1, ?_⟩
        rw [e1, e2]
        cases hk
        cases y <;> simp only [cmpV] at hc <;> try (cases hc; done)
        split at hc
        · rename_i hkk
          subst hkk
          injection hc with hc; subst hc
          exact run_equalIn_int w D t _ _ _ _ hu
        · cases hc
      | string =>
        simp only [Option.some.injEq] at h
        obtain ⟨h1, x, y, rfl, rfl, hc, hk, e1, e2⟩ := scal .s h.symm (by simp [aggT, hu])
        refine ⟨h1, ?_⟩
        rw [e1, e2]
        cases hk
        cases y <;> simp only [cmpV] at hc <;> try (cases hc; done)
        injection hc with hc; subst hc
        rw [run_equalIn_string w D t _ _ hu]
        congr 1
        rw [ByteArray.toList_eq, ByteArray.toList_eq]
        exact Bool.beq_eq_decide_eq _ _
      | array n e =>
        simp only at h
        cases hk : kindsT P d e with
        | none => rw [hk] at h; cases h
        | some ke =>
          rw [hk] at h
          simp only at h
          split at h
          · rename_i hc
            obtain ⟨hke, hi⟩ := hc
            obtain ⟨i, hi⟩ := Option.isSome_iff_exists.1 hi
            injection h with h; subst h
            have hg : aggT P t = true := by simp [aggT, hu]
            refine ⟨fun hx => (by rw [hg] at hx; cases hx), ?_⟩
            have hue : ∃ u, P.underlying e = some u := by
              cases d with
              | zero => simp [kindsT] at hk
              | succ d => simp only [kindsT] at hk; cases hue : P.underlying e with
                | none => rw [hue] at hk; cases hk
                | some u => exact ⟨u, rfl⟩
            obtain ⟨u, hue⟩ := hue
            simp only [cellOf, hg, if_true]
            rw [run_equalIn_array w D _ _ hu hi]
            have items : ∀ (m j : Nat) (xs' ys' : List Value) (r : Bool), xs' = xs.drop (j * P.cellsOf e) → ys' = ys.drop (j * P.cellsOf e) → m + j = n → cmpL xs' ys' = some r → (Op.eqItems D e (P.cellsOf e) xs.toArray ys.toArray (List.range' j m)).run P w = .ok r w := by
              intro m
              induction m with
              | zero =>
                intro j xs' ys' r hx hy hj hr'
                have hlen : xs'.length = 0 := by rw [hx, List.length_drop, hl]; simp [hke]; have : j = n := by omega
                                                 subst this; omega
                have hx0 := List.eq_nil_of_length_eq_zero hlen
                have hy0 : ys' = [] := List.eq_nil_of_length_eq_zero (by have := cmpL_length hr'; omega)
                rw [hx0, hy0] at hr'
                simp only [cmpL, Option.some.injEq] at hr'
                subst hr'
                simp [Op.eqItems]
              | succ m ih =>
                intro j xs' ys' r hx hy hj hr'
                obtain ⟨p, q, h1, h2, h3⟩ := cmpL_split hr' (P.cellsOf e)
                have hxl : xs.length = n * P.cellsOf e := by rw [hl]; simp [hke]
                have hyl : ys.length = n * P.cellsOf e := by rw [← cmpL_length hr]; exact hxl
                have hfit : (j + 1) * P.cellsOf e ≤ n * P.cellsOf e := Nat.mul_le_mul_right _ (by omega)
                rw [Nat.add_mul, Nat.one_mul] at hfit
                have ihk := eq_kinds d hk D (by omega) (xs := (xs.drop (j * P.cellsOf e)).take (P.cellsOf e)) (ys := (ys.drop (j * P.cellsOf e)).take (P.cellsOf e)) (r := p) (by simp [hke, hxl]; omega) (fun q hq hq' => by
                  simp only [List.getElem_take, List.getElem_drop]
                  simp only [List.length_take, List.length_drop] at hq
                  have hkk := hf (j * P.cellsOf e + q) (by omega) (by rw [← hl]; omega)
                  have e1 : (List.replicate n ke).flatten[j * P.cellsOf e + q]'(by rw [← hl]; omega) = ke[q] := by
                    have hjn : j < n := by omega
                    have := List.getElem?_eq_some_iff.1 (show (List.replicate n ke).flatten[j * P.cellsOf e + q]? = some ke[q] from ?_)
                    · exact this.2
                    · obtain ⟨z, rfl⟩ : ∃ z, n = j + (z + 1) := ⟨n - j - 1, by omega⟩
                      rw [← List.replicate_append_replicate, List.flatten_append, List.getElem?_append_right (by simp [hke])]
                      rw [List.replicate_succ, List.flatten_cons]
                      rw [show j * P.cellsOf e + q - (List.replicate j ke).flatten.length = q by simp [hke]]
                      rw [List.getElem?_append_left hq', List.getElem?_eq_getElem hq']
                  rw [e1] at hkk
                  exact hkk) (by rw [← hx, ← hy]; exact h1)
                have h1c : aggT P e = false → P.cellsOf e = 1 := fun hx => by
                  have := ihk.1 hx
                  simp only [List.length_take, List.length_drop] at this
                  omega
                rw [List.range'_succ, Op.eqItems]
                simp only [Sem.run_bind, run_part_cell w hue hi (us := xs) (off := j * P.cellsOf e) (by omega) h1c, run_part_cell w hue hi (us := ys) (off := j * P.cellsOf e) (by omega) h1c, Result.andThen_ok, ihk.2]
                cases p with
                | false => simp only [Bool.not_false, if_true, Sem.run_pure]; rw [h3]; rfl
                | true =>
                  simp only [Bool.not_true, Bool.false_eq_true, if_false]
                  rw [h3, Bool.true_and]
                  exact ih (j + 1) _ _ q (by rw [hx, List.drop_drop]; congr 1; rw [Nat.add_mul]; omega) (by rw [hy, List.drop_drop]; congr 1; rw [Nat.add_mul]; omega) (by omega) h2
            rw [List.range_eq_range']
            exact items n 0 xs ys r (by simp) (by simp) (by omega) hr
          · cases h
      | struct fs =>
        simp only at h
        split at h
        · rename_i hp
          have hg : aggT P t = true := by simp [aggT, hu]
          refine ⟨fun hx => (by rw [hg] at hx; cases hx), ?_⟩
          simp only [cellOf, hg, if_true]
          have hff : P.fieldsOf t = fs := by simp [Program.fieldsOf, hu]
          rw [run_equalIn_struct (P := P) w D t _ _ (by rw [hff]; exact hu) hp, hff]
          have flds : ∀ (l : List Field) (off : Nat) (kl : List CK) (r : Bool), fieldsK P (kindsT P d) off l = some kl → off + kl.length = xs.length → off + kl.length = ks.length → kl = ks.drop off → cmpL (xs.drop off) (ys.drop off) = some r → (Op.eqFields D xs.toArray ys.toArray l).run P w = .ok r w := by
            intro l
            induction l with
            | nil =>
              intro off kl r hk hx _ _ hr'
              simp only [fieldsK, Option.some.injEq] at hk
              subst hk
              have hx0 : xs.drop off = [] := List.drop_eq_nil_of_le (by simpa using Nat.le_of_eq hx.symm)
              have hy0 : ys.drop off = [] := List.eq_nil_of_length_eq_zero (by have := cmpL_length hr'; rw [hx0] at this; simpa using this.symm)
              rw [hx0, hy0] at hr'
              simp only [cmpL, Option.some.injEq] at hr'
              subst hr'
              simp [Op.eqFields]
            | cons f l ih =>
              intro off kl r hk hx hx2 hdr hr'
              simp only [fieldsK] at hk
              split at hk
              · rename_i hc
                obtain ⟨hn, hoff, hi, hue⟩ := hc
                obtain ⟨i, hi⟩ := Option.isSome_iff_exists.1 hi
                obtain ⟨u, hue⟩ := Option.isSome_iff_exists.1 hue
                subst hoff
                split at hk
                · rename_i ka kb hka hkb
                  split at hk
                  · rename_i hkl
                    injection hk with hk; subst hk
                    simp only [List.length_append] at hx hx2
                    obtain ⟨p, q, h1, h2, h3⟩ := cmpL_split hr' (P.cellsOf f.type)
                    have hxy := cmpL_length hr
                    have ihk := eq_kinds d hka D (by omega) (xs := (xs.drop f.offset).take (P.cellsOf f.type)) (ys := (ys.drop f.offset).take (P.cellsOf f.type)) (r := p) (by simp [hkl]; omega) (fun q hq hq' => by
                      simp only [List.getElem_take, List.getElem_drop]
                      have hkk := hf (f.offset + q) (by omega) (by omega)
                      have e1 : ks[f.offset + q]'(by omega) = ka[q] := by
                        have e2 : (ks.drop f.offset)[q]'(by simp; omega) = ka[q] := by
                          have : (ks.drop f.offset)[q]? = some ka[q] := by rw [← hdr, List.getElem?_append_left hq', List.getElem?_eq_getElem hq']
                          exact (List.getElem?_eq_some_iff.1 this).2
                        rw [← e2, List.getElem_drop]
                      rw [e1] at hkk
                      exact hkk) h1
                    have h1c : aggT P f.type = false → P.cellsOf f.type = 1 := fun hx' => by
                      have := ihk.1 hx'
                      simp only [List.length_take, List.length_drop] at this
                      omega
                    rw [Op.eqFields]
                    simp only [if_pos hn, Sem.run_bind, run_part_cell w hue hi (us := xs) (off := f.offset) (by omega) h1c, run_part_cell w hue hi (us := ys) (off := f.offset) (by omega) h1c, Result.andThen_ok, ihk.2]
                    cases p with
                    | false => simp only [Bool.not_false, if_true, Sem.run_pure]; rw [h3]; rfl
                    | true =>
                      simp only [Bool.not_true, Bool.false_eq_true, if_false]
                      rw [h3, Bool.true_and]
                      refine ih (f.offset + P.cellsOf f.type) kb q hkb (by omega) (by omega) ?_ (by simpa [List.drop_drop] using h2)
                      rw [← List.drop_drop, ← hdr, ← hkl, List.drop_left]
                  · cases hk
                · cases hk
              · cases hk
          exact flds fs.toList 0 ks r h (by omega) (by omega) (by simp) (by simpa using hr)
        · cases h
      | _ => simp at h
end
end Go.Proofs.YtmblapgoimegkaaDoor
