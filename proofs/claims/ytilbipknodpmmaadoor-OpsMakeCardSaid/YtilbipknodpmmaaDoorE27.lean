/- From the reading of an argument as data to its pure value. -/
import Derived.Test.YtilbipknodpmmaaDoorE25
import Derived.ProofKit
import Derived.OpenShut
set_option linter.unusedSectionVars false
set_option linter.unusedVariables false
set_option linter.unusedSimpArgs false
namespace Go.Proofs.YtilbipknodpmmaaDoor
open Go.RowKit Go.ChangeShapes Go.WideShapes

inductive Ty where
  | int (k : IntKind)
  | bool
  | str
  | sl (ts : List Ty)

def flatFs (P : Program) (g : TypeId → Option (List Ty)) : Nat → List Field → Option (List Ty)
  | _, [] => some []
  | off, fd :: r => match g fd.type with
    | some ts => if fd.offset = off ∧ P.cellsOf fd.type = ts.length then (match flatFs P g (off + ts.length) r with | some us => some (ts ++ us) | none => none) else none
    | none => none

def flat (P : Program) : Nat → TypeId → Option (List Ty)
  | 0, _ => none
  | f + 1, t => match P.underlying t with
    | some .bool => some [.bool]
    | some (.int k) => some [.int k]
    | some .string => some [.str]
    | some (.slice e) => match flat P f e with
      | some ts => if P.cellsOf e = ts.length then some [.sl ts] else none
      | none => none
    | some (.struct fs) => match flatFs P (flat P f) 0 fs.toList with
      | some ts => if P.cellsOf t = ts.length then some ts else none
      | none => none
    | some (.array n e) => match flat P f e with
      | some ts => if P.cellsOf e = ts.length ∧ P.cellsOf t = n * ts.length then some (List.replicate n ts).flatten else none
      | none => none
    | _ => none

mutual
def okT : Ty → IV → Prop
  | .int k, v => ∃ n, v = .int k n ∧ (Lit.int k n).wf = true
  | .bool, v => ∃ b, v = .bool b
  | .str, v => ∃ l, v = .str l ∧ l.length < 2 ^ 63
  | .sl ts, v => ∃ gs : List (List IV), v = .sl .plain gs.length gs.flatten ∧ gs.length < 2 ^ 63 ∧ ∀ g ∈ gs, okL ts g
def okL : List Ty → List IV → Prop
  | [], vs => vs = []
  | t :: ts, vs => ∃ v vs', vs = v :: vs' ∧ okT t v ∧ okL ts vs'
end

theorem okL_append : ∀ {ts us : List Ty} {vs ws : List IV}, okL ts vs → okL us ws → okL (ts ++ us) (vs ++ ws)
  | [], us, vs, ws, h, h' => by simp only [okL] at h; subst h; exact h'
  | t :: ts, us, vs, ws, h, h' => by
    simp only [okL] at h
    obtain ⟨v, vs', rfl, hv, h⟩ := h
    simp only [List.cons_append, okL]
    exact ⟨v, vs' ++ ws, rfl, hv, okL_append h h'⟩

theorem flatten_purL : ∀ {gs : List (List IV)}, (∀ g ∈ gs, IV.purL g = true) → IV.purL gs.flatten = true
  | [], _ => rfl
  | g :: gs, h => by
    rw [List.flatten_cons]
    exact purL_append (h g (by simp)) (flatten_purL fun x hx => h x (by simp [hx]))
theorem flatten_one : ∀ {gs : List (List IV)}, (∀ g ∈ gs, g.all IV.one = true) → gs.flatten.all IV.one = true
  | [], _ => rfl
  | g :: gs, h => by
    rw [List.flatten_cons, List.all_append, h g (by simp), flatten_one fun x hx => h x (by simp [hx])]; rfl

mutual
theorem okT_pure : ∀ {t : Ty} {v : IV}, okT t v → v.one = true ∧ v.pur = true ∧ v.nlit = true
  | .int k, v, h => by simp only [okT] at h; obtain ⟨n, rfl, _⟩ := h; exact ⟨rfl, rfl, rfl⟩
  | .bool, v, h => by simp only [okT] at h; obtain ⟨b, rfl⟩ := h; exact ⟨rfl, rfl, rfl⟩
  | .str, v, h => by simp only [okT] at h; obtain ⟨l, rfl, _⟩ := h; exact ⟨rfl, rfl, rfl⟩
  | .sl ts, v, h => by
    simp only [okT] at h; obtain ⟨gs, rfl, _, hg⟩ := h
    refine ⟨rfl, ?_, rfl⟩
    simp only [IV.pur]
    exact flatten_purL fun g hx => (okL_pure (hg g hx)).2
theorem okL_pure : ∀ {ts : List Ty} {vs : List IV}, okL ts vs → vs.all IV.one = true ∧ IV.purL vs = true
  | [], vs, h => by simp only [okL] at h; subst h; exact ⟨rfl, rfl⟩
  | t :: ts, vs, h => by
    simp only [okL] at h
    obtain ⟨v, vs', rfl, hv, h⟩ := h
    have h1 := okT_pure hv
    have h2 := okL_pure h
    simp [IV.purL, h1.1, h1.2.1, h2.1, h2.2]
end

section
variable {H : Type} {enc : TypeId × Value → H} {P : Program} {w : World}

theorem cells_at {a : Addr} {n : Nat} {ci : List Value} (h : w.cells? 0 a n = some ci) : ci.length = n ∧ ∀ i (hi : i < ci.length), w.cell? (a.add i) = some ci[i] := by
  unfold World.cells? at h
  rw [if_pos (Nat.zero_le _)] at h
  have hl := mapM_some_length h
  rw [List.length_range] at hl
  refine ⟨hl, fun i hi => ?_⟩
  have := mapM_some_get h i i (by rw [List.getElem?_range (by omega)])
  rw [this]
  simp [hi]

theorem add_add (a : Addr) (i j : Nat) : (a.add i).add j = a.add (i + j) := by
  unfold Addr.add
  by_cases hi : i = 0
  · subst hi; simp
  · by_cases hj : j = 0
    · subst hj; simp
    · simp [hi, hj, Nat.add_assoc]

theorem sl_elems {a : Addr} {ce len : Nat} {ts : List Ty} (hce : ce = ts.length) (he : ∀ i, i < len → ∃ ci vs, w.cells? 0 (a.add (i * ce)) ce = some ci ∧ okL ts vs ∧ VRL (cAll w) vs ci) :
    ∃ (gs : List (List IV)) (us : List Value), gs.length = len ∧ (∀ g ∈ gs, okL ts g) ∧ VRL (cAll w) gs.flatten us ∧ us.length = len * ce ∧ ∀ i (hi : i < us.length), w.cell? (a.add i) = some us[i] := by
  induction len with
  | zero => exact ⟨[], [], rfl, by simp, by simpa using VRL.nil, by simp, by simp⟩
  | succ n ih =>
    obtain ⟨gs, us, h1, h2, h3, h4, h5⟩ := ih fun i hi => he i (by omega)
    obtain ⟨ci, vs, k1, k2, k3⟩ := he n (by omega)
    obtain ⟨l1, l2⟩ := cells_at k1
    refine ⟨gs ++ [vs], us ++ ci, by simp [h1], ?_, ?_, ?_, ?_⟩
    · intro g hg
      rcases List.mem_append.1 hg with hg | hg
      · exact h2 g hg
      · simp at hg; subst hg; exact k2
    · simp only [List.flatten_append, List.flatten_cons, List.flatten_nil, List.append_nil]
      exact VRL.append h3 k3
    · rw [List.length_append, h4, l1, Nat.succ_mul]
    · intro i hi
      by_cases hlt : i < us.length
      · rw [List.getElem_append_left hlt]; exact h5 i hlt
      · rw [List.getElem_append_right (by omega)]
        have hi' : i - us.length < ci.length := by simp at hi; omega
        have := l2 (i - us.length) hi'
        rw [← this, add_add]
        congr 2
        omega

theorem cellsAt_of {a : Addr} {us : List Value} (h : ∀ i (hi : i < us.length), w.cell? (a.add i) = some us[i]) : CellsAt (cAll w) (some a) us := by
  intro i hi
  have h0 := h 0 (by omega)
  have e0 : a.add 0 = a := by simp [Addr.add]
  rw [e0] at h0
  have hs : a.spot = none := World.cell?_spot h0
  obtain ⟨b, off, spot⟩ := a
  simp only at hs
  subst hs
  refine ⟨_, rfl, rfl, ?_, ?_⟩
  · show b < w.heap.size
    by_cases hb : b < w.heap.size
    · exact hb
    · simp [World.cell?, Array.getElem?_eq_none (by omega : w.heap.size ≤ b)] at h0
  · rw [← h i hi]
    by_cases hi0 : i = 0
    · subst hi0; simp [Addr.add]
    · simp [Addr.add, hi0]

theorem fields {spare : Nat → Bool} {held : Bool} {m : Nat} {g : TypeId → Option (List Ty)} {cs : List Value} (hg : ∀ t ts cs x, g t = some ts → DataW.trod enc P w 0 spare held m t cs = some x → ∃ vs, okL ts vs ∧ VRL (cAll w) vs cs) :
    ∀ (fs : List Field) (off : Nat) (ts : List Ty), flatFs P g off fs = some ts → off + ts.length ≤ cs.length → (∀ fd ∈ fs, ∃ y, DataW.trod enc P w 0 spare held m fd.type ((cs.drop fd.offset).take (P.cellsOf fd.type)) = some y) →
      ∃ vs, okL ts vs ∧ VRL (cAll w) vs ((cs.drop off).take ts.length)
  | [], off, ts, hf, hl, _ => by
    simp only [flatFs, Option.some.injEq] at hf
    subst hf
    exact ⟨[], by simp [okL], by simpa using VRL.nil⟩
  | fd :: r, off, ts, hf, hl, hy => by
    simp only [flatFs] at hf
    split at hf
    · rename_i us hus
      split at hf
      · rename_i ho
        split at hf
        · rename_i rs hrs
          simp only [Option.some.injEq] at hf
          subst hf
          obtain ⟨y, hy0⟩ := hy fd (by simp)
          obtain ⟨vs, k1, k2⟩ := hg _ _ _ _ hus hy0
          rw [ho.1, ho.2] at k2
          rw [List.length_append] at hl
          obtain ⟨vs', j1, j2⟩ := fields hg r (off + us.length) rs hrs (by omega) (fun x hx => hy x (by simp [hx]))
          refine ⟨vs ++ vs', okL_append k1 j1, ?_⟩
          have e : (cs.drop off).take (us.length + rs.length) = (cs.drop off).take us.length ++ (cs.drop (off + us.length)).take rs.length := by
            rw [List.take_add, List.drop_drop]
          rw [List.length_append, e]
          exact VRL.append k2 j2
        · exact absurd hf (by simp)
      · exact absurd hf (by simp)
    · exact absurd hf (by simp)

theorem elems {spare : Nat → Bool} {held : Bool} {m : Nat} {e : TypeId} {us : List Ty} {cs : List Value} (hg : ∀ cs x, DataW.trod enc P w 0 spare held m e cs = some x → ∃ vs, okL us vs ∧ VRL (cAll w) vs cs) :
    ∀ (n : Nat), n * us.length ≤ cs.length → (∀ i, i < n → ∃ y, DataW.trod enc P w 0 spare held m e ((cs.drop (i * us.length)).take us.length) = some y) →
      ∃ vs, okL (List.replicate n us).flatten vs ∧ VRL (cAll w) vs (cs.take (n * us.length))
  | 0, _, _ => ⟨[], by simp [okL], by simpa using VRL.nil⟩
  | n + 1, hl, hy => by
    rw [Nat.succ_mul] at hl
    obtain ⟨vs, j1, j2⟩ := elems hg n (by omega) (fun i hi => hy i (by omega))
    obtain ⟨y, hy0⟩ := hy n (by omega)
    obtain ⟨vs', k1, k2⟩ := hg _ _ hy0
    refine ⟨vs ++ vs', ?_, ?_⟩
    · rw [List.replicate_succ', List.flatten_append]
      simpa using okL_append j1 (by simpa using k1)
    · rw [Nat.succ_mul, List.take_add]
      exact VRL.append j2 k2

theorem opened {spare : Nat → Bool} {held : Bool} : ∀ (f : Nat) (t : TypeId) (ts : List Ty), flat P f t = some ts → ∀ (fuel : Nat) (cs : List Value) (x : DataW H × List MemPlace), DataW.trod enc P w 0 spare held fuel t cs = some x → ∃ vs, okL ts vs ∧ VRL (cAll w) vs cs
  | 0, t, ts, hf, fuel, cs, x, h => by simp [flat] at hf
  | f + 1, t, ts, hf, fuel, cs, x, h => by
    simp only [flat] at hf
    split at hf
    · rename_i hu
      obtain ⟨b, rfl, _⟩ := DataW.trod_bool hu h
      simp only [Option.some.injEq] at hf; subst hf
      exact ⟨[.bool b], by simp [okL, okT], VRL.cons (by simp [VR]) VRL.nil⟩
    · rename_i k hu
      obtain ⟨n, rfl, _, hw⟩ := DataW.trod_int hu h
      simp only [Option.some.injEq] at hf; subst hf
      exact ⟨[.int k n], by simp [okL, okT, hw], VRL.cons (by simp [VR]) VRL.nil⟩
    · rename_i hu
      obtain ⟨s, rfl, _, hs⟩ := DataW.trod_string hu h
      simp only [Option.some.injEq] at hf; subst hf
      refine ⟨[.str s.data.toList], ?_, VRL.cons (by simp [VR]) VRL.nil⟩
      have : s.data.toList.length < 2 ^ 63 := by
        have e : s.data.toList.length = s.size := by rw [Array.length_toList]; rfl
        have hm : maxLen = 2 ^ 63 - 1 := rfl
        rw [e]; omega
      simp only [okL, okT]
      exact ⟨_, _, rfl, ⟨_, rfl, this⟩, rfl⟩
    · rename_i e hu
      split at hf
      · rename_i us hus
        split at hf
        · rename_i hce
          simp only [Option.some.injEq] at hf; subst hf
          rcases DataW.trod_slice hu h with ⟨rfl, _⟩ | ⟨a, len, cap, els, rest, n, _, rfl, _, _, hlc, hcm, hel, hget, _⟩
          · refine ⟨[.sl .plain 0 []], ?_, VRL.cons ?_ VRL.nil⟩
            · simp only [okL, okT]
              exact ⟨_, _, rfl, ⟨[], rfl, by simp, by simp⟩, rfl⟩
            · simp only [VR]
              exact ⟨none, 0, [], rfl, Nat.le_refl _, by simp, by simp, rfl, rfl, VRL.nil, by intro i hi; simp at hi⟩
          · have hel' : ∀ i, i < len → ∃ ci vs, w.cells? 0 (a.add (i * P.cellsOf e)) (P.cellsOf e) = some ci ∧ okL us vs ∧ VRL (cAll w) vs ci := by
              intro i hi
              have hg := hget i hi
              have hle : els[i]? = some els[i] := by simp
              rw [hle] at hg
              cases hc : w.cells? 0 (a.add (i * P.cellsOf e)) (P.cellsOf e) with
              | none => rw [hc] at hg; simp at hg
              | some ci =>
                rw [hc] at hg
                obtain ⟨vs, k1, k2⟩ := opened f e us hus _ _ _ hg
                exact ⟨ci, vs, rfl, k1, k2⟩
            obtain ⟨gs, vs, g1, g2, g3, g4, g5⟩ := sl_elems hce hel'
            have hm : maxLen = 2 ^ 63 - 1 := rfl
            refine ⟨[.sl .plain gs.length gs.flatten], ?_, VRL.cons ?_ VRL.nil⟩
            · simp only [okL, okT]
              exact ⟨_, _, rfl, ⟨gs, rfl, by omega, g2⟩, rfl⟩
            · simp only [VR]
              refine ⟨some a, cap, vs, by rw [g1], by omega, by simp, by simp, ?_, ?_, g3, cellsAt_of g5⟩
              · exact flatten_purL fun g hg => (okL_pure (g2 g hg)).2
              · exact flatten_one fun g hg => (okL_pure (g2 g hg)).1
        · exact absurd hf (by simp)
      · exact absurd hf (by simp)
    · rename_i fs hu
      split at hf
      · rename_i us hus
        split at hf
        · rename_i hce
          simp only [Option.some.injEq] at hf; subst hf
          obtain ⟨xs, m, rfl, _, hl, hxl, hget⟩ := DataW.trod_struct hu h
          obtain ⟨vs, k1, k2⟩ := fields (cs := cs) (m := m) (enc := enc) (P := P) (w := w) (spare := spare) (held := held) (fun t ts cs x ht hx => opened f t ts ht m cs x hx) fs.toList 0 us hus (by omega) (by
            intro fd hfd
            obtain ⟨i, hi, rfl⟩ := List.mem_iff_getElem.1 hfd
            have hi' : i < fs.size := by simpa using hi
            have := hget i fs[i] (by simp [hi'])
            refine ⟨xs[i], ?_⟩
            have e : fs.toList[i] = fs[i] := by simp
            rw [e, this]; simp)
          refine ⟨vs, k1, ?_⟩
          rw [List.drop_zero, ← hce, ← hl, List.take_length] at k2
          exact k2
        · exact absurd hf (by simp)
      · exact absurd hf (by simp)
    · rename_i n e hu
      split at hf
      · rename_i us hus
        split at hf
        · rename_i hce
          simp only [Option.some.injEq] at hf; subst hf
          obtain ⟨xs, m, rfl, _, hl, hxl, hget⟩ := DataW.trod_array hu h
          obtain ⟨vs, k1, k2⟩ := elems (cs := cs) (enc := enc) (P := P) (w := w) (fun cs x hx => opened f e us hus m cs x hx) n (by omega) (by
            intro i hi
            have := hget i hi
            rw [hce.1] at this
            refine ⟨xs[i], ?_⟩
            rw [this]; simp)
          refine ⟨vs, k1, ?_⟩
          rw [← hce.2, ← hl, List.take_length] at k2
          exact k2
        · exact absurd hf (by simp)
      · exact absurd hf (by simp)
    · exact absurd hf (by simp)
end
end Go.Proofs.YtilbipknodpmmaaDoor

/-! From a contract to a row: arguments opened, the result shut, the arguments behind the call. -/
set_option linter.unusedSectionVars false
set_option linter.unusedVariables false
set_option linter.unusedSimpArgs false
namespace Go.Proofs.YtilbipknodpmmaaDoor
open Go.RowKit Go.ChangeShapes Go.WideShapes

def mkArg (P : Program) (t : TypeId) (vs : List IV) : IV := match P.underlying t with
  | some (.struct _) | some (.array _ _) => .agg vs
  | _ => vs.headD .undef
def okArg (P : Program) (t : TypeId) (v : IV) : Prop := ∃ ts vs, flat P 10 t = some ts ∧ okL ts vs ∧ v = mkArg P t vs
def okArgs (P : Program) : List TypeId → List IV → Prop
  | [], vs => vs = []
  | t :: ts, vs => ∃ v vs', vs = v :: vs' ∧ okArg P t v ∧ okArgs P ts vs'

section
variable {H : Type} {enc : TypeId × Value → H} {P : Program} {w : World}

theorem arg_opened {spare : Nat → Bool} {held : Bool} {r : Reach} {w' : World} {b : Nat} {t : TypeId} {v : Value} {d : DataW H} {ps : List MemPlace} {ts : List Ty} (hf : flat P 10 t = some ts)
    (hval : Value.okWide P w' r b t v) (h : DataW.Trod enc P w 0 spare held t v d ps) : ∃ iv, okArg P t iv ∧ VR (cAll w) iv v ∧ iv.pur = true ∧ iv.nlit = true := by
  obtain ⟨fuel, h⟩ := h
  obtain ⟨vs, k1, k2⟩ := opened 10 t ts hf fuel _ _ h
  refine ⟨mkArg P t vs, ⟨ts, vs, hf, k1, rfl⟩, ?_⟩
  have hp := okL_pure k1
  have single : ∀ ty, ts = [ty] → v.cells = #[v] → VR (cAll w) (vs.headD .undef) v ∧ (vs.headD .undef).pur = true ∧ (vs.headD .undef).nlit = true := by
    intro ty e hc
    subst e
    rw [hc] at k2
    simp only [okL] at k1
    obtain ⟨x, vs', rfl, hx, rfl⟩ := k1
    simp only [VRL] at k2
    obtain ⟨u, us', he, hu, _⟩ := k2
    simp at he
    obtain ⟨rfl, _⟩ := he
    exact ⟨hu, (okT_pure hx).2⟩
  have aggs : ∀ cs, v = .agg cs → VR (cAll w) (.agg vs) v ∧ (IV.agg vs).pur = true ∧ (IV.agg vs).nlit = true := by
    rintro cs rfl
    refine ⟨?_, by simpa only [IV.pur] using hp.2, rfl⟩
    simp only [VR]
    exact ⟨cs.toList, by simp, hp.1, k2⟩
  simp only [flat] at hf
  unfold mkArg
  split at hf
  · rename_i hu
    rw [hu]
    obtain ⟨b, rfl⟩ := okWide_bool hu hval
    simp only [Option.some.injEq] at hf
    exact single _ hf.symm rfl
  · rename_i k hu
    rw [hu]
    obtain ⟨b, rfl⟩ := okWide_int hu hval
    simp only [Option.some.injEq] at hf
    exact single _ hf.symm rfl
  · rename_i hu
    rw [hu]
    obtain ⟨b, rfl⟩ := okWide_string hu hval
    simp only [Option.some.injEq] at hf
    exact single _ hf.symm rfl
  · rename_i e hu
    rw [hu]
    obtain ⟨a, len, cap, rfl⟩ := okWide_slice hu hval
    split at hf
    · split at hf
      · simp only [Option.some.injEq] at hf
        exact single _ hf.symm rfl
      · exact absurd hf (by simp)
    · exact absurd hf (by simp)
  · rename_i fs hu
    rw [hu]
    simp only [Value.okWide, hu] at hval
    obtain ⟨cs, e, _⟩ := hval
    exact aggs cs e
  · rename_i n e hu
    rw [hu]
    simp only [Value.okWide, hu] at hval
    obtain ⟨cs, e, _⟩ := hval
    exact aggs cs e
  · exact absurd hf (by simp)

theorem args_opened {r : Reach} {w' : World} {b : Nat} : ∀ {ts : List TypeId} {vs : List Value} {ds : List (DataW H)} {ps : List MemPlace}, (∀ t ∈ ts, (flat P 10 t).isSome = true) →
    (∀ (j : Nat) t v, ts[j]? = some t → vs[j]? = some v → Value.okWide P w' r b t v) → DataW.TrodAll enc P w 0 (fun _ => true) true ts vs ds ps →
    ∃ ivs, okArgs P ts ivs ∧ VRL (cAll w) ivs vs ∧ IV.purL ivs = true ∧ ivs.all IV.nlit = true
  | [], [], [], _, _, _, _ => ⟨[], by simp [okArgs], VRL.nil, rfl, rfl⟩
  | t :: ts, v :: vs, d :: ds, ps, hf, hv, ⟨p, q, h1, h2, e⟩ => by
    obtain ⟨ty, hty⟩ := Option.isSome_iff_exists.1 (hf t (by simp))
    obtain ⟨iv, a1, a2, a3, a4⟩ := arg_opened hty (hv 0 t v rfl rfl) h1
    obtain ⟨ivs, b1, b2, b3, b4⟩ := args_opened (fun x hx => hf x (by simp [hx])) (fun j x y hx hy => hv (j + 1) x y (by simpa using hx) (by simpa using hy)) h2
    refine ⟨iv :: ivs, ?_, VRL.cons a2 b2, by simp [IV.purL, a3, b3], by simp [a4, b4]⟩
    simp only [okArgs]
    exact ⟨iv, ivs, rfl, a1, b1⟩
  | [], _ :: _, _, _, _, _, h => h.elim
  | [], [], _ :: _, _, _, _, h => h.elim
  | _ :: _, [], _, _, _, _, h => h.elim
  | _ :: _, _ :: _, [], _, _, _, h => h.elim

theorem args_stay (hl : laidOutB P = true) {W W' : World} (hb : Below W.heap.size W W') : ∀ {ts : List TypeId} {vs : List Value} {ds : List (DataW H)} {ps : List MemPlace}, (∀ t ∈ ts, P.readableRec t = true ∧ t < P.types.size) →
    DataW.TrodAll enc P W 0 (fun _ => true) true ts vs ds ps → (∀ x ∈ ps, x.block < W.heap.size) → DataW.TrodAll enc P W' 0 (fun b => decide (b < W.heap.size)) true ts vs ds ps
  | [], [], [], _, _, h, _ => h
  | t :: ts, v :: vs, d :: ds, ps, hr, ⟨p, q, h1, h2, e⟩, hlt => by
    subst e
    exact ⟨p, q, Below.trod hl (hr t (by simp)).1 (hr t (by simp)).2 h1 hb (fun x hx => hlt x (List.mem_append_left _ hx)), args_stay hl hb (fun x hx => hr x (by simp [hx])) h2 (fun x hx => hlt x (List.mem_append_right _ hx)), rfl⟩
  | [], _ :: _, _, _, _, h, _ => h.elim
  | [], [], _ :: _, _, _, h, _ => h.elim
  | _ :: _, [], _, _, _, h, _ => h.elim
  | _ :: _, _ :: _, [], _, _, h, _ => h.elim

theorem law_calls {f : FuncId} {ivs : List IV} {args : Array Value} (hc : RC P f ivs [.bool true]) (hv : VRL (cAll w) ivs args.toList) (hp : IV.purL ivs = true) (hn : ivs.all IV.nlit = true) :
    Calls P f args w fun e w' => e = .returned (.bool true) ∧ Below w.heap.size w w' := by
  have h := hc.2 w (fun b => b < w.heap.size) args.toList (fun _ h => h) hn hp hv
  have ea : args.toList.toArray = args := by simp
  rw [ea] at h
  refine h.mono fun e w' ⟨rv, he, hr, hb⟩ => ⟨?_, hb⟩
  obtain ⟨B, us, rfl, _, hF, _⟩ := hr
  cases hF with
  | cons h1 h2 =>
    cases h2
    simp only [resOne, VR] at h1
    rw [he, h1.2.2]
    rfl

end
end Go.Proofs.YtilbipknodpmmaaDoor
