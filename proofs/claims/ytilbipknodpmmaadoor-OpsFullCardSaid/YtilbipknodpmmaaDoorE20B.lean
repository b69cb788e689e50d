/- Regions whose order is open: the walk. -/
import Derived.Test.YtilbipknodpmmaaDoorE19
set_option linter.unusedSectionVars false
set_option linter.unusedVariables false
set_option linter.unusedSimpArgs false
namespace Go.Proofs.YtilbipknodpmmaaDoor
open Go.RowKit

section
variable [Off] [Gh] [Old] {P : Program} {w0 : World} {N : Nat} {ops : Array Oper} {Q : Exit → Act → World → Prop}

def AllD (pre : List MI) : Prop := ∀ m ∈ pre, ∃ d o g, m = MI.op (some d) o g

theorem dsts_get : ∀ {pre : List MI}, AllD pre → ∀ {i : Nat} {d : Nat} {o : MOp} {g : Option (Nat × Bool)}, pre[i]? = some (.op (some d) o g) → (dsts pre)[i]? = some d
  | [], _, i, d, o, g, h => by simp at h
  | m :: pre, ha, 0, d, o, g, h => by
    simp only [List.getElem?_cons_zero, Option.some.injEq] at h
    subst h
    simp [dsts]
  | m :: pre, ha, i + 1, d, o, g, h => by
    obtain ⟨d', o', g', rfl⟩ := ha m (by simp)
    simp only [dsts, List.getElem?_cons_succ] at h ⊢
    exact dsts_get (fun m hm => ha m (by simp [hm])) h
theorem dsts_take : ∀ {pre : List MI}, AllD pre → ∀ (i : Nat), dsts (pre.take i) = (dsts pre).take i
  | [], _, i => by simp [dsts]
  | m :: pre, ha, 0 => by simp [dsts]
  | m :: pre, ha, i + 1 => by
    obtain ⟨d', o', g', rfl⟩ := ha m (by simp)
    simp only [List.take_succ_cons, dsts]
    rw [dsts_take (fun m hm => ha m (by simp [hm])) i]

structure DI (pre : List MI) (t0 : Nat → IV) (h0 : Nat → Blk) (vs : Nat → IV) (bs : Nat → Option Blk) (listed : Array Bool) (s : St) : Prop where
  tL : ∀ i, i < pre.length → listed.getD i false = true → ∀ x, (dsts pre)[i]? = some x → s.t x = vs x ∧ s.h (hom x) = (bs (hom x)).getD (h0 (hom x))
  tU : ∀ x, (∀ i, i < pre.length → listed.getD i false = true → (dsts pre)[i]? ≠ some x) → s.t x = t0 x
  hU : ∀ y, (∀ i, i < pre.length → listed.getD i false = true → ∀ x, (dsts pre)[i]? = some x → hom x ≠ y) → s.h y = h0 y

theorem nodup_get {l : List Nat} (h : l.Nodup) {i j x : Nat} (hi : l[i]? = some x) (hj : l[j]? = some x) : i = j := by
  obtain ⟨hi', hi⟩ := List.getElem?_eq_some_iff.1 hi
  obtain ⟨hj', hj⟩ := List.getElem?_eq_some_iff.1 hj
  rcases Nat.lt_trichotomy i j with hlt | rfl | hlt
  · exact absurd (hi.trans hj.symm) (List.pairwise_iff_getElem.1 h i j hi' hj' hlt)
  · rfl
  · exact absurd (hj.trans hi.symm) (List.pairwise_iff_getElem.1 h j i hj' hi' hlt)

theorem least_of {p : Nat → Prop} : ∀ (n : Nat), p n → ∃ m, p m ∧ ∀ k, k < m → ¬ p k := by
  intro n
  induction n using Nat.strongRecOn with
  | _ n ih =>
    intro hp
    by_cases h : ∃ k, k < n ∧ p k
    · obtain ⟨k, hk, hpk⟩ := h; exact ih k hk hpk
    · exact ⟨n, hp, fun k hk hpk => h ⟨k, hk, hpk⟩⟩

theorem draw_pre {pre hp : List MI} (hc : compL P N ops (ops.toList.take pre.length) hp = some pre) (hop : hp.all MI.isOp = true) (hok : DrawOk ops pre) {t0 : Nat → IV} {h0 : Nat → Blk} {vs : Nat → IV} {bs : Nat → Option Blk} {s' : St}
    (hhid : ∀ y, (h0 y).live = true → y ∉ (dsts pre).map hom)
    (k2 : ∀ x, s'.t x = if x ∈ dsts pre then vs x else t0 x) (k3 : ∀ y, s'.h y = if y ∈ (dsts pre).map hom then (bs y).getD (h0 y) else h0 y)
    (k4 : ∀ i (hi : i < pre.length), ∃ d o gd, pre[i] = .op (some d) o gd ∧ OutP (RCs P) ⟨fun x => if x ∈ dsts (pre.take i) then vs x else t0 x, h0⟩ d o gd (vs d) (bs (hom d)))
    (hEnd : ∀ a w, Rel w0 N s' a w → wpOps P ops Q (List.range' pre.length (ops.size - pre.length)) a w) :
    ∀ (n : Nat) (rem : List Nat) (listed : Array Bool) (s : St) (a : Act) (w : World), rem.length = n → rem.Nodup → listed.size = ops.size → (∀ j, j < ops.size → (listed.getD j false = true ↔ j < pre.length ∧ j ∉ rem)) → (∀ j ∈ rem, j < pre.length) →
      Closed ops (fun j => listed.getD j false = true) → DI pre t0 h0 vs bs listed s → Rel w0 N s a w → wpAny P .any ops Q (n + (ops.size - pre.length)) listed a w := by
  obtain ⟨c1, c2, c3⟩ := compL_ops hp _ pre hc hop
  have hnp : pre.length ≤ ops.size := by rw [List.length_take] at c1; simp at c1; omega
  have allD : AllD pre := fun m hm => by
    obtain ⟨i, hi, rfl⟩ := List.mem_iff_getElem.1 hm
    obtain ⟨d, o, gd, h1, _⟩ := k4 i hi
    exact ⟨d, o, gd, h1⟩
  intro n
  induction n with
  | zero =>
    intro rem listed s a w hr hnd hs hl hlt hcl hdi hrel
    have hr0 : rem = [] := List.eq_nil_of_length_eq_zero hr
    subst hr0
    have hall : ∀ i, i < pre.length → listed.getD i false = true := fun i hi => (hl i (by omega)).2 ⟨hi, by simp⟩
    have hse : s = s' := by
      have ht : s.t = s'.t := by
        funext x
        rw [k2 x]
        split
        · rename_i hx
          obtain ⟨i, hi⟩ := List.mem_iff_getElem?.1 hx
          have hil : i < pre.length := by rw [← hok.len]; exact (List.getElem?_eq_some_iff.1 hi).1
          exact (hdi.tL i hil (hall i hil) x hi).1
        · rename_i hx
          exact hdi.tU x (fun i _ _ hi => hx (List.mem_of_getElem? hi))
      have hh : s.h = s'.h := by
        funext x
        rw [k3 x]
        split
        · rename_i hx
          obtain ⟨z, hz, rfl⟩ := List.mem_map.1 hx
          obtain ⟨i, hi⟩ := List.mem_iff_getElem?.1 hz
          have hil : i < pre.length := by rw [← hok.len]; exact (List.getElem?_eq_some_iff.1 hi).1
          exact (hdi.tL i hil (hall i hil) z hi).2
        · rename_i hx
          exact hdi.hU x (fun i _ _ z hi e => hx (List.mem_map.2 ⟨z, List.mem_of_getElem? hi, e⟩))
      cases s; cases s'
      simp only at ht hh
      subst ht; subst hh; rfl
    subst hse
    rw [Nat.zero_add]
    refine forced_wp hok _ pre.length listed a w (Nat.le_refl _) (by omega) hs (fun j hj => ?_) (hEnd a w hrel)
    have := hl j hj
    simp only [List.not_mem_nil, not_false_eq_true, and_true] at this
    by_cases hjp : j < pre.length
    · rw [this.2 hjp]; simp [hjp]
    · have : listed.getD j false = false := by
        cases hx : listed.getD j false with
        | false => rfl
        | true => exact absurd (this.1 hx) hjp
      rw [this]; simp [hjp]
  | succ n ih =>
    intro rem listed s a w hr hnd hs hl hlt hcl hdi hrel
    rw [show n + 1 + (ops.size - pre.length) = (n + (ops.size - pre.length)) + 1 by omega]
    obtain ⟨j0, hj0⟩ : ∃ j, j ∈ rem := by
      cases rem with
      | nil => simp at hr
      | cons j _ => exact ⟨j, by simp⟩
    have hne : Region.ready .any ops listed ≠ [] := by
      obtain ⟨m, hm, hleast⟩ := least_of (p := fun j => j ∈ rem) j0 hj0
      have hmp := hlt m hm
      have : m ∈ Region.ready .any ops listed := by
        refine mem_ready.2 ⟨?_, ops[m]'(by omega), by simp [show m < ops.size by omega], fun e he hb => ?_⟩
        · rw [getD_lt (by omega) true false]
          cases hx : listed.getD m false with
          | false => rfl
          | true => exact absurd hm ((hl m (by omega)).1 hx).2
        · have := hok.back m (ops[m]'(by omega)) (by simp [show m < ops.size by omega]) e (by simpa using he) hb
          exact (hl e.on (by omega)).2 ⟨by omega, hleast _ this⟩
      intro h0
      rw [h0] at this
      cases this
    refine ⟨fun h0 => absurd h0 hne, fun i hi => ?_⟩
    obtain ⟨hun, o, ho, hpre⟩ := mem_ready.1 hi
    have hil := (Array.getElem?_eq_some_iff.1 ho).1
    rw [getD_lt (by omega) true false] at hun
    have hanc : ∀ j, Anc ops i j → listed.getD j false = true := fun j hj => hj _ hcl o ho (fun e he hb => hpre e (by simpa using he) hb)
    have hip : i < pre.length := by
      rcases Nat.lt_or_ge i pre.length with h | h
      · exact h
      · exfalso
        have hj0p := hlt j0 hj0
        have := hanc j0 (hok.suf i h hil j0 (by omega))
        exact ((hl j0 (by omega)).1 this).2 hj0
    have hirem : i ∈ rem := by
      by_cases h : i ∈ rem
      · exact h
      · have := (hl i hil).2 ⟨hip, h⟩
        rw [hun] at this; cases this
    obtain ⟨d, mo, gd, q1, q2⟩ := k4 i hip
    obtain ⟨hint, m, g, e1, e2, e3, e4⟩ := c3 i (by omega) hip
    have hoi : (ops.toList.take pre.length)[i]'(by omega) = o := by
      have : ops.toList[i]? = some o := by rw [Array.getElem?_toList]; exact ho
      rw [List.getElem_take]
      obtain ⟨_, h2⟩ := List.getElem?_eq_some_iff.1 this
      exact h2
    rw [hoi] at e1 e2 e3 e4
    rw [q1] at e4
    injection e4 with e4a e4b e4c
    subst e4b; subst e4c
    have hdd : o.dst = some d := e4a.symm
    have hdN : d < N := by rw [hdd] at e3; simpa [dstOk] using e3
    have hdi_i : (dsts pre)[i]? = some d := dsts_get allD (by rw [List.getElem?_eq_getElem hip, q1])
    obtain ⟨φ, hrelC⟩ := hrel.open_
    have hread : ∀ x ∈ pre[i].reads, s.t x = if x ∈ dsts (pre.take i) then vs x else t0 x := by
      intro x hx
      rw [dsts_take allD]
      by_cases hxd : x ∈ dsts pre
      · obtain ⟨j, hj⟩ := List.mem_iff_getElem?.1 hxd
        obtain ⟨hji, hja⟩ := hok.reads i hip x hx j hj
        have : x ∈ (dsts pre).take i := List.mem_iff_getElem?.2 ⟨j, by rw [List.getElem?_take, if_pos hji]; exact hj⟩
        rw [if_pos this]
        exact (hdi.tL j (by omega) (hanc j hja) x hj).1
      · rw [if_neg (fun h => hxd (List.mem_of_mem_take h))]
        exact hdi.tU x (fun j _ _ hj => hxd (List.mem_of_getElem? hj))
    have hdnew : ∀ j, j < pre.length → listed.getD j false = true → (dsts pre)[j]? ≠ some d := fun j _ hlj hj => by
      have := nodup_get hok.nodup hj hdi_i
      subst this
      rw [hun] at hlj; cases hlj
    have hdnewh : ∀ j, j < pre.length → listed.getD j false = true → ∀ x, (dsts pre)[j]? = some x → hom x ≠ hom d := fun j hjp hlj x hj e => hdnew j hjp hlj (by rw [← hom_inj.1 e]; exact hj)
    refine outP_wp hrelC ho hdN hdd e1 e2 (s0 := ⟨fun x => if x ∈ dsts (pre.take i) then vs x else t0 x, h0⟩) ⟨fun q hq => ?_, fun x hx => ?_, ?_⟩ (fun t b hg => ?_) q2 (fun a' w' hrel' => ?_)
    · cases q with
      | tmp t =>
        have : s.t t = if t ∈ dsts (pre.take i) then vs t else t0 t := hread t (by
          rw [q1]
          simp only [MI.reads, List.mem_append, List.mem_filterMap]
          exact .inl ⟨.tmp t, hq, rfl⟩)
        simp only [St.get, this]
      | c v => rfl
    · exact hdi.hU x (fun j _ _ z hj e => hhid x hx (List.mem_map.2 ⟨z, List.mem_of_getElem? hj, e⟩))
    · show (s.h (hom d)).ver = (h0 (hom d)).ver
      rw [hdi.hU (hom d) hdnewh]
    · exact hread t (by
        rw [q1]
        simp only [MI.reads, List.mem_append]
        subst hg
        exact .inr (by simp))
    · refine ih (rem.erase i) _ _ a' w' (by rw [List.length_erase_of_mem hirem, hr]; rfl) (hnd.erase i) (by simpa using hs) (fun j hj => ?_) (fun j hj => hlt j (List.mem_of_mem_erase hj)) (fun j oj hoj hlj e he hb => ?_) ⟨fun j hj hlj x hx => ?_, fun x hx => ?_, fun y hy => ?_⟩ hrel'
      · by_cases hji : i = j
        · subst hji
          have : (listed.setIfInBounds i true).getD i false = true := by simp [show i < listed.size by omega]
          rw [this]
          simp only [true_iff]
          exact ⟨hip, fun h => (hnd.mem_erase_iff.1 h).1 rfl⟩
        · rw [getD_set_ne false hji, hl j hj, hnd.mem_erase_iff]
          constructor
          · rintro ⟨h1, h2⟩; exact ⟨h1, fun h => h2 h.2⟩
          · rintro ⟨h1, h2⟩; exact ⟨h1, fun h => h2 ⟨fun e => hji e.symm, h⟩⟩
      · show (listed.setIfInBounds i true).getD e.on false = true
        have hlj : (listed.setIfInBounds i true).getD j false = true := hlj
        refine getD_set_true ?_
        by_cases hji : i = j
        · subst hji
          rw [ho] at hoj
          injection hoj with hoj
          subst hoj
          exact hpre e (by simpa using he) hb
        · rw [getD_set_ne false hji] at hlj
          exact hcl j oj hoj hlj e he hb
      · by_cases hji : i = j
        · subst hji
          rw [hdi_i] at hx
          injection hx with hx
          subst hx
          refine ⟨by simp [upd], ?_⟩
          cases hb : bs (hom d) with
          | none => simp only [updO, Option.getD_none]; exact hdi.hU (hom d) hdnewh
          | some b => simp [updO, upd]
        · rw [getD_set_ne false hji] at hlj
          have hxd : x ≠ d := fun e => hji (by subst e; exact nodup_get hok.nodup hdi_i hx)
          obtain ⟨h1, h2⟩ := hdi.tL j hj hlj x hx
          refine ⟨by simpa [upd, hxd] using h1, ?_⟩
          rw [← h2]
          have hxh : hom x ≠ hom d := fun e => hxd (hom_inj.1 e)
          cases bs (hom d) <;> simp [updO, upd, hxh]
      · have hxd : x ≠ d := fun e => hx i hip (by simp [show i < listed.size by omega]) (by rw [e]; exact hdi_i)
        have h1 := hdi.tU x (fun j hj hlj => hx j hj (getD_set_true hlj))
        simpa [upd, hxd] using h1
      · have hxd : y ≠ hom d := fun e => hy i hip (by simp [show i < listed.size by omega]) d hdi_i e.symm
        have h2 := hdi.hU y (fun j hj hlj => hy j hj (getD_set_true hlj))
        rw [← h2]
        cases bs (hom d) <;> simp [updO, upd, hxd]

theorem draw_wp (hmix : P.follows .mixedOrders = true) {id : Nat} {pre hp hs suf : List MI} (hc : compL P N ops (ops.toList.take pre.length) hp = some pre) (hop : hp.all MI.isOp = true) (hc2 : compL P N ops (ops.toList.drop pre.length) hs = some suf) (hok : drawOk ops pre = true)
    {s : St} {a : Act} {w : World} {K : St → Prop} (hQ : ∀ s a w, K s → Rel w0 N s a w → Q .normal a w) (hr : Rel w0 N s a w)
    (hw : runP (RCs P) { s with h := hideH s.h ((dsts pre).map hom) } (hideH s.h ((dsts pre).map hom)) pre (fun s => runL (RCs P) s suf K)) : (Code.region id ops true).wp P Q a w := by
  have hok := drawOk_spec hok
  obtain ⟨vs, bs, s', k1, k2, k3, k4⟩ := runP_pts (hideH s.h ((dsts pre).map hom)) pre s.t (hideH s.h ((dsts pre).map hom)) _ hw hok.nodup
  obtain ⟨c1, c2, c3⟩ := compL_ops hp _ pre hc hop
  have hnp : pre.length ≤ ops.size := by rw [List.length_take] at c1; simp at c1; omega
  refine wp_region_any hmix ?_
  obtain ⟨φ, hrC⟩ := hr.open_
  have hrC' := hrC.called (w' := { w with drawn := w.drawn + 1 }) ⟨rfl, rfl, rfl, Nat.le_refl _, fun _ _ => rfl⟩
  have hrC2 := hrC'.weak (H' := hideH s.h ((dsts pre).map hom)) (fun x => by
    simp only [hideH]
    split
    · exact ⟨rfl, rfl, rfl, fun e => by simp at e, fun h => h⟩
    · exact ⟨rfl, rfl, rfl, fun h => h, fun h => h⟩)
  have := draw_pre (Q := Q) (w0 := w0) (N := N) hc hop hok (t0 := s.t) (h0 := hideH s.h ((dsts pre).map hom)) (vs := vs) (bs := bs) (s' := s') (fun x hx hxd => by simp only [hideH, hxd, if_true, Bool.false_eq_true] at hx) k2 k3 k4
    (fun a w hr' => by
      have := runL_wp (P := P) (ops := ops) (Q := Q) (K := K) (w0 := w0) (N := N) hQ hs _ pre.length suf s' a w hc2 rfl hr' k1
      rwa [List.length_drop, Array.length_toList] at this)
    pre.length (List.range pre.length) (Array.replicate ops.size false) ⟨s.t, hideH s.h ((dsts pre).map hom)⟩ a { w with drawn := w.drawn + 1 } (by simp) List.nodup_range (by simp)
    (fun j hj => by
      have : (Array.replicate ops.size false).getD j false = false := by simp [hj]
      rw [this]
      simp)
    (fun j hj => by simpa using hj)
    (fun j o hj hl => by
      have hl : (Array.replicate ops.size false).getD j false = true := hl
      simp [Array.getElem?_replicate] at hl
      split at hl <;> simp at hl)
    ⟨fun i hi hl => by
      simp [Array.getElem?_replicate] at hl
      split at hl <;> simp at hl, fun x _ => rfl, fun x _ => rfl⟩ hrC2.rel
  rwa [show pre.length + (ops.size - pre.length) = ops.size by omega] at this
end
end Go.Proofs.YtilbipknodpmmaaDoor

/-! What more is asked, more loosely. -/
set_option linter.unusedSectionVars false
set_option linter.unusedVariables false
set_option linter.unusedSimpArgs false
namespace Go.Proofs.YtilbipknodpmmaaDoor
open Go.RowKit

section
variable [Off] {R : Cs}

theorem runOp_mono {s : St} {d : Option Nat} {o : MOp} {K K' : St → Prop} (h : ∀ s, K s → K' s) : runOp R s d o K → runOp R s d o K' := by
  have gen : (if isAct s o then (match act s d o with | some s' => K s' | none => False)
    else match d with
      | some d => (match neu s d o with | some e => K (s.eff d e) | none => False)
      | none => False) → (if isAct s o then (match act s d o with | some s' => K' s' | none => False)
    else match d with
      | some d => (match neu s d o with | some e => K' (s.eff d e) | none => False)
      | none => False) := by
    intro hr
    split at hr
    · rename_i ha
      rw [if_pos ha]
      split at hr
      · exact h _ hr
      · exact hr
    · rename_i ha
      rw [if_neg ha]
      split at hr
      · split at hr
        · exact h _ hr
        · exact hr
      · exact hr
  intro hr
  cases o
  case call f xs =>
    simp only [runOp] at hr ⊢
    split at hr
    · obtain ⟨as, r, h1, h2, h3, h4⟩ := hr; exact ⟨as, r, h1, h2, h3, h _ h4⟩
    · exact hr
  case callp f xs =>
    simp only [runOp] at hr ⊢
    split at hr
    · obtain ⟨as, r, h1, h2, h3, h4⟩ := hr; exact ⟨as, r, h1, h2, h3, h _ h4⟩
    · exact hr
  case calln f xs =>
    simp only [runOp] at hr ⊢
    obtain ⟨vals, Q, h1, h2, h3⟩ := hr
    exact ⟨vals, Q, h1, h2, fun r h' hq => h _ (h3 r h' hq)⟩
  case calli x xs =>
    simp only [runOp] at hr ⊢
    split at hr
    · obtain ⟨g, as, r, h1, h2, h3, h4, h5⟩ := hr; exact ⟨g, as, r, h1, h2, h3, h4, h _ h5⟩
    · exact hr
  all_goals exact gen hr

theorem stepM_mono {s : St} {i : MI} {K K' : St → Prop} (h : ∀ s, K s → K' s) (hr : stepM R s i K) : stepM R s i K' := by
  cases i with
  | frz t => exact h _ hr
  | kill ts => exact h _ hr
  | op d o g =>
    simp only [stepM] at hr ⊢
    cases g with
    | none => exact runOp_mono h hr
    | some tb =>
      obtain ⟨t, b⟩ := tb
      simp only at hr ⊢
      split at hr
      · split at hr
        · rename_i hx; rw [if_pos hx]; exact runOp_mono h hr
        · rename_i hx; rw [if_neg hx]; exact h _ hr
      · exact h _ hr
      · exact hr

theorem runL_mono : ∀ {l : List MI} {s : St} {K K' : St → Prop}, (∀ s, K s → K' s) → runL R s l K → runL R s l K'
  | [], s, K, K', h, hr => h _ hr
  | i :: l, s, K, K', h, hr => stepM_mono (fun s hs => runL_mono h hs) hr

theorem runP_mono : ∀ {l : List MI} {s : St} {g : Nat → Blk} {K K' : St → Prop}, (∀ s, K s → K' s) → runP R s g l K → runP R s g l K'
  | [], s, g, K, K', h, hr => h _ hr
  | .frz _ :: _, _, _, _, _, _, hr => by simp [runP] at hr
  | .kill _ :: _, _, _, _, _, _, hr => by simp [runP] at hr
  | .op none _ _ :: _, _, _, _, _, _, hr => by simp [runP] at hr
  | .op (some d) o gd :: l, s, g, K, K', h, hr0 => by
    have ih : ∀ s g, runP R s g l K → runP R s g l K' := fun s g hh => runP_mono h hh
    revert hr0
    have body : (match o with
      | .call f args => ∃ as r, s.snaps args = some as ∧ R.C f as r ∧ (s.stabs args = true ∨ r.all IV.scalR = true) ∧
          runP R { s with t := upd s.t d (asRes (impV (hom d) ((s.h (hom d)).ver + 1) r).1) } (match (impV (hom d) ((s.h (hom d)).ver + 1) r).2 with | some cs => upd g (hom d) (freshBlk s (hom d) true true cs) | none => g) l K
      | .callp f args => ∃ as r, s.snaps args = some as ∧ R.C f as r ∧ (s.stabs args = true ∨ r.all IV.scalR = true) ∧ runP R { s with t := upd s.t d (asRes (plainL r)) } g l K
      | o => match neu s d o with
        | some e => runP R { s with t := upd s.t d e.v } (match e.b with | some b => upd g (hom d) b | none => g) l K
        | none => False) → (match o with
      | .call f args => ∃ as r, s.snaps args = some as ∧ R.C f as r ∧ (s.stabs args = true ∨ r.all IV.scalR = true) ∧
          runP R { s with t := upd s.t d (asRes (impV (hom d) ((s.h (hom d)).ver + 1) r).1) } (match (impV (hom d) ((s.h (hom d)).ver + 1) r).2 with | some cs => upd g (hom d) (freshBlk s (hom d) true true cs) | none => g) l K'
      | .callp f args => ∃ as r, s.snaps args = some as ∧ R.C f as r ∧ (s.stabs args = true ∨ r.all IV.scalR = true) ∧ runP R { s with t := upd s.t d (asRes (plainL r)) } g l K'
      | o => match neu s d o with
        | some e => runP R { s with t := upd s.t d e.v } (match e.b with | some b => upd g (hom d) b | none => g) l K'
        | none => False) := by
      intro hr
      split at hr
      · obtain ⟨as, r, h1, h2, h3, h4⟩ := hr; exact ⟨as, r, h1, h2, h3, ih _ _ h4⟩
      · obtain ⟨as, r, h1, h2, h3, h4⟩ := hr; exact ⟨as, r, h1, h2, h3, ih _ _ h4⟩
      · split at hr
        · exact ih _ _ hr
        · exact hr
    intro hr
    simp only [runP] at hr ⊢
    cases gd with
    | none => exact body hr
    | some tb =>
      obtain ⟨t, b⟩ := tb
      simp only at hr ⊢
      split at hr
      · split at hr
        · rename_i hx; rw [if_pos hx]; exact body hr
        · rename_i hx; rw [if_neg hx]; exact ih _ _ hr
      · exact ih _ _ hr
      · exact hr
end
end Go.Proofs.YtilbipknodpmmaaDoor

/-! Regions whose order is open with one call in place among their operations. -/
set_option linter.unusedSectionVars false
set_option linter.unusedVariables false
set_option linter.unusedSimpArgs false
namespace Go.Proofs.YtilbipknodpmmaaDoor
open Go.RowKit

def noHome : MOp → Bool
  | .mov _ | .pick .. | .build .. | .bsl .. | .bslR .. | .load .. | .chk _ | .bin .. | .binB .. | .eqv .. | .un .. | .toInt .. | .toStr _ | .slStr .. | .slSl .. | .slArr .. | .slArrF .. | .fa .. | .fld .. | .ixArr .. | .ixSl .. | .idx .. | .idxStr .. | .ext .. | .lenC _ | .len _ | .lenS _ | .nilS .. | .nilP .. | .cap _ | .movS _ | .mnx .. => true
  | _ => false
def MI.noHome : MI → Bool
  | .op _ o _ => Go.Proofs.YtilbipknodpmmaaDoor.noHome o
  | _ => false
def isCn : MI → Bool
  | .op (some _) (.calln _ _) none => true
  | .op (some _) (.app ..) none => true
  | _ => false
def drcOk (ops : Array Oper) (pa : List MI) (c : MI) (pb : List MI) : Bool :=
  let tbl := ancs ops.toList []
  (List.range pa.length).all (fun j => (tbl.getD pa.length 0).testBit j) && isCn c &&
  pb.all (fun m => m.noHome && m.reads.all (fun x => !decide (x ∈ dsts (pa ++ [c]))))

section
variable [Off] [Gh] [Old] {P : Program} {w0 : World} {N : Nat} {ops : Array Oper} {Q : Exit → Act → World → Prop}

theorem neu_noHome {s : St} {d : Nat} {o : MOp} {e : Eff} (h : neu s d o = some e) (hn : noHome o = true) : e.b = none := by
  cases o <;> simp only [noHome, Bool.false_eq_true] at hn <;> simp only [neu] at h <;> (repeat' split at h) <;> first
    | (cases h; done)
    | (injection h with h; subst h; rfl)

theorem outP_noHome {R : Cs} {s : St} {d : Nat} {o : MOp} {g : Option (Nat × Bool)} {v : IV} {b : Option Blk} (h : OutP R s d o g v b) (hn : noHome o = true) : b = none := by
  have key : OutO R s d o v b → b = none := by
    intro h
    cases o <;> simp only [noHome, Bool.false_eq_true] at hn <;>
      (obtain ⟨e, he, _, rfl⟩ := h; exact neu_noHome he rfl)
  cases g with
  | none => exact key h
  | some tb =>
    obtain ⟨t, x⟩ := tb
    rcases h with ⟨y, _, h1, h2⟩ | ⟨_, _, h⟩
    · by_cases hy : y = x
      · exact key (h1 hy)
      · exact (h2 hy).2
    · exact h

theorem vals_congr {s s' : St} : ∀ {l : List Opd}, (∀ x ∈ l.filterMap tmpOf, s.t x = s'.t x) → s.vals l = s'.vals l
  | [], _ => rfl
  | q :: l, h => by
    have h1 : s.get q = s'.get q := by
      cases q with
      | tmp t => simp only [St.get, h t (by simp [tmpOf])]
      | c v => rfl
    have h2 := vals_congr (s := s) (s' := s') (l := l) (fun x hx => h x (by
      rw [List.mem_filterMap] at hx ⊢
      obtain ⟨q', hq, he⟩ := hx
      exact ⟨q', by simp [hq], he⟩))
    simp only [St.vals, h1, h2]

structure DC (pre : List MI) (nA : Nat) (t0 : Nat → IV) (h0 : Nat → Blk) (vs : Nat → IV) (bs : Nat → Option Blk) (dc : Nat) (C : List IV → (Nat → Blk) → Prop) (listed : Array Bool) (s : St) : Prop where
  tL : ∀ i, i < pre.length → i ≠ nA → listed.getD i false = true → ∀ x, (dsts pre)[i]? = some x → s.t x = vs x
  tU : ∀ x, (∀ i, i < pre.length → listed.getD i false = true → (dsts pre)[i]? ≠ some x) → s.t x = t0 x
  ph0 : listed.getD nA false = false → (∀ i, i < nA → listed.getD i false = true → ∀ x, (dsts pre)[i]? = some x → s.h (hom x) = (bs (hom x)).getD (h0 (hom x))) ∧
    ∀ y, (∀ i, i < nA → listed.getD i false = true → ∀ x, (dsts pre)[i]? = some x → hom x ≠ y) → s.h y = h0 y
  ph1 : listed.getD nA false = true → ∃ r, C r s.h ∧ s.t dc = asRes r

theorem draw_prc {pa pb hp : List MI} {dc : Nat} {co : MOp} {pre : List MI} (hpre_ : pre = pa ++ MI.op (some dc) co none :: pb) (hc : compL P N ops (ops.toList.take pre.length) hp = some pre) (hop : hp.all MI.isOp = true) (hok : DrawOk ops pre)
    (hca : ∀ j, j < pa.length → Anc ops pa.length j) (hpb : ∀ m ∈ pb, m.noHome = true ∧ ∀ x ∈ m.reads, x ∉ dsts (pa ++ [MI.op (some dc) co none]))
    {t0 : Nat → IV} {h0 hF : Nat → Blk} {vsA vsB : Nat → IV} {bsA bsB : Nat → Option Blk} {s1 sB : St} {C : List IV → (Nat → Blk) → Prop} {F : List Nat}
    (hhid : ∀ y, (h0 y).live = true → y ∉ (dsts pa).map hom)
    (k2 : ∀ x, s1.t x = if x ∈ dsts pa then vsA x else t0 x) (k3 : ∀ y, s1.h y = if y ∈ (dsts pa).map hom then (bsA y).getD (h0 y) else h0 y)
    (k4 : ∀ i (hi : i < pa.length), ∃ d o gd, pa[i] = .op (some d) o gd ∧ OutP (RCs P) ⟨fun x => if x ∈ dsts (pa.take i) then vsA x else t0 x, h0⟩ d o gd (vsA d) (bsA (hom d)))
    (q2 : ∀ x, sB.t x = if x ∈ dsts pb then vsB x else t0 x)
    (q4 : ∀ i (hi : i < pb.length), ∃ d o gd, pb[i] = .op (some d) o gd ∧ OutP (RCs P) ⟨fun x => if x ∈ dsts (pb.take i) then vsB x else t0 x, hF⟩ d o gd (vsB d) (bsB (hom d)))
    (hFl : ∀ y, (hF y).live = true → y ∈ F) (hFe : ∀ y ∈ F, hF y = h0 y) (hFA : ∀ y ∈ F, y ∉ (dsts pa).map hom) (hFv : ∀ y, (hF y).ver = (h0 y).ver)
    (hrun : ∀ s : St, (∀ x ∈ co.opds.filterMap tmpOf, s.t x = s1.t x) → s.h = s1.h → runOp (RCs P) s (some dc) co (fun s' => ∃ r h', C r h' ∧ s' = ⟨upd s.t dc (asRes r), h'⟩)) (hC : ∀ r h', C r h' → (∀ y ∈ F, h' y = h0 y) ∧ ∀ x ∈ dsts pb, (h' (hom x)).ver = (h0 (hom x)).ver)
    (hEnd : ∀ r h' a w, C r h' → Rel w0 N ⟨fun x => if x ∈ dsts pb then sB.t x else upd s1.t dc (asRes r) x, h'⟩ a w → wpOps P ops Q (List.range' pre.length (ops.size - pre.length)) a w) :
    ∀ (n : Nat) (rem : List Nat) (listed : Array Bool) (s : St) (a : Act) (w : World), rem.length = n → rem.Nodup → listed.size = ops.size → (∀ j, j < ops.size → (listed.getD j false = true ↔ j < pre.length ∧ j ∉ rem)) → (∀ j ∈ rem, j < pre.length) →
      Closed ops (fun j => listed.getD j false = true) → DC pre pa.length t0 h0 (fun x => if x ∈ dsts pb then vsB x else vsA x) bsA dc C listed s → Rel w0 N s a w → wpAny P .any ops Q (n + (ops.size - pre.length)) listed a w := by
  obtain ⟨c1, c2, c3⟩ := compL_ops hp _ pre hc hop
  have hnp : pre.length ≤ ops.size := by rw [List.length_take] at c1; simp at c1; omega
  have hplen : pre.length = pa.length + 1 + pb.length := by rw [hpre_]; simp; omega
  have allDa : AllD pa := fun m hm => by
    obtain ⟨i, hi, rfl⟩ := List.mem_iff_getElem.1 hm
    obtain ⟨d, o, gd, h1, _⟩ := k4 i hi
    exact ⟨d, o, gd, h1⟩
  have allDb : AllD pb := fun m hm => by
    obtain ⟨i, hi, rfl⟩ := List.mem_iff_getElem.1 hm
    obtain ⟨d, o, gd, h1, _⟩ := q4 i hi
    exact ⟨d, o, gd, h1⟩
  have dapp : ∀ l m : List MI, dsts (l ++ m) = dsts l ++ dsts m := by
    intro l m
    induction l with
    | nil => rfl
    | cons x l ih =>
      cases x with
      | op d o g => cases d <;> simp [dsts, ih]
      | frz t => simp [dsts, ih]
      | kill ts => simp [dsts, ih]
  have hda : (dsts pa).length = pa.length := by
    have : ∀ l : List MI, AllD l → (dsts l).length = l.length := by
      intro l
      induction l with
      | nil => intro _; rfl
      | cons x l ih =>
        intro ha
        obtain ⟨d, o, g, rfl⟩ := ha x (by simp)
        simp [dsts, ih (fun m hm => ha m (by simp [hm]))]
    exact this pa allDa
  have hdpre : dsts pre = dsts pa ++ dc :: dsts pb := by rw [hpre_, dapp]; rfl
  have hnd' := hok.nodup
  rw [hdpre] at hnd'
  have hdcA : dc ∉ dsts pa := fun h => by
    rw [List.nodup_append] at hnd'
    exact hnd'.2.2 dc h dc (by simp) rfl
  have hdcB : dc ∉ dsts pb := by
    rw [List.nodup_append] at hnd'
    exact (List.nodup_cons.1 hnd'.2.1).1
  have hAB : ∀ x ∈ dsts pa, x ∉ dsts pb := fun x hx hx' => by
    rw [List.nodup_append] at hnd'
    exact hnd'.2.2 x hx x (by simp [hx']) rfl
  have getA : ∀ i, i < pa.length → (dsts pre)[i]? = (dsts pa)[i]? := fun i hi => by rw [hdpre, List.getElem?_append_left (by omega)]
  have getC : (dsts pre)[pa.length]? = some dc := by rw [hdpre, List.getElem?_append_right (by omega), hda]; simp
  have getB : ∀ i, (dsts pre)[pa.length + 1 + i]? = (dsts pb)[i]? := fun i => by
    rw [hdpre, List.getElem?_append_right (by omega), hda, show pa.length + 1 + i - pa.length = i + 1 by omega]; simp
  intro n
  induction n with
  | zero =>
    intro rem listed s a w hr hnd hs hl hlt hcl hdi hrel
    have hr0 : rem = [] := List.eq_nil_of_length_eq_zero hr
    subst hr0
    have hall : ∀ i, i < pre.length → listed.getD i false = true := fun i hi => (hl i (by omega)).2 ⟨hi, by simp⟩
    obtain ⟨r, hCr, hdcr⟩ := hdi.ph1 (hall _ (by omega))
    have hse : s = ⟨fun x => if x ∈ dsts pb then sB.t x else upd s1.t dc (asRes r) x, s.h⟩ := by
      have ht : s.t = fun x => if x ∈ dsts pb then sB.t x else upd s1.t dc (asRes r) x := by
        funext x
        by_cases hxb : x ∈ dsts pb
        · obtain ⟨i, hi⟩ := List.mem_iff_getElem?.1 hxb
          have hil : pa.length + 1 + i < pre.length := by
            have := (List.getElem?_eq_some_iff.1 ((getB i).trans hi)).1
            rw [hok.len] at this; exact this
          have := hdi.tL _ hil (by omega) (hall _ hil) x ((getB i).trans hi)
          rw [if_pos hxb] at this
          rw [if_pos hxb, this, q2 x, if_pos hxb]
        · rw [if_neg hxb]
          by_cases hxc : x = dc
          · subst hxc; simp only [upd, if_true]; exact hdcr
          · simp only [upd, if_neg hxc]
            rw [k2 x]
            by_cases hxa : x ∈ dsts pa
            · obtain ⟨i, hi⟩ := List.mem_iff_getElem?.1 hxa
              have hil : i < pa.length := by rw [← hda]; exact (List.getElem?_eq_some_iff.1 hi).1
              have := hdi.tL i (by omega) (by omega) (hall _ (by omega)) x ((getA i hil).trans hi)
              rw [if_neg hxb] at this
              rw [if_pos hxa, this]
            · rw [if_neg hxa]
              refine hdi.tU x (fun i _ _ hi => ?_)
              have hm := List.mem_of_getElem? hi
              rw [hdpre] at hm
              simp [hxa, hxc, hxb] at hm
      cases s
      simp only at ht
      subst ht; rfl
    rw [Nat.zero_add]
    rw [hse] at hrel
    refine forced_wp hok _ pre.length listed a w (Nat.le_refl _) (by omega) hs (fun j hj => ?_) (hEnd r s.h a w hCr hrel)
    have := hl j hj
    simp only [List.not_mem_nil, not_false_eq_true, and_true] at this
    by_cases hjp : j < pre.length
    · rw [this.2 hjp]; simp [hjp]
    · have : listed.getD j false = false := by
        cases hx : listed.getD j false with
        | false => rfl
        | true => exact absurd (this.1 hx) hjp
      rw [this]; simp [hjp]
  | succ n ih =>
    intro rem listed s a w hr hnd hs hl hlt hcl hdi hrel
    rw [show n + 1 + (ops.size - pre.length) = (n + (ops.size - pre.length)) + 1 by omega]
    obtain ⟨j0, hj0⟩ : ∃ j, j ∈ rem := by
      cases rem with
      | nil => simp at hr
      | cons j _ => exact ⟨j, by simp⟩
    have hne : Region.ready .any ops listed ≠ [] := by
      obtain ⟨m, hm, hleast⟩ := least_of (p := fun j => j ∈ rem) j0 hj0
      have hmp := hlt m hm
      have : m ∈ Region.ready .any ops listed := by
        refine mem_ready.2 ⟨?_, ops[m]'(by omega), by simp [show m < ops.size by omega], fun e he hb => ?_⟩
        · rw [getD_lt (by omega) true false]
          cases hx : listed.getD m false with
          | false => rfl
          | true => exact absurd hm ((hl m (by omega)).1 hx).2
        · have := hok.back m (ops[m]'(by omega)) (by simp [show m < ops.size by omega]) e (by simpa using he) hb
          exact (hl e.on (by omega)).2 ⟨by omega, hleast _ this⟩
      intro h0
      rw [h0] at this
      cases this
    refine ⟨fun h0 => absurd h0 hne, fun i hi => ?_⟩
    obtain ⟨hun, o, ho, hpre⟩ := mem_ready.1 hi
    have hil := (Array.getElem?_eq_some_iff.1 ho).1
    rw [getD_lt (by omega) true false] at hun
    have hanc : ∀ j, Anc ops i j → listed.getD j false = true := fun j hj => hj _ hcl o ho (fun e he hb => hpre e (by simpa using he) hb)
    have hip : i < pre.length := by
      rcases Nat.lt_or_ge i pre.length with h | h
      · exact h
      · exfalso
        have hj0p := hlt j0 hj0
        have := hanc j0 (hok.suf i h hil j0 (by omega))
        exact ((hl j0 (by omega)).1 this).2 hj0
    have hirem : i ∈ rem := by
      by_cases h : i ∈ rem
      · exact h
      · have := (hl i hil).2 ⟨hip, h⟩
        rw [hun] at this; cases this
    obtain ⟨hint, m, g, e1, e2, e3, e4⟩ := c3 i (by omega) hip
    have hoi : (ops.toList.take pre.length)[i]'(by omega) = o := by
      have : ops.toList[i]? = some o := by rw [Array.getElem?_toList]; exact ho
      rw [List.getElem_take]
      obtain ⟨_, h2⟩ := List.getElem?_eq_some_iff.1 this
      exact h2
    rw [hoi] at e1 e2 e3 e4
    obtain ⟨φ, hrelC⟩ := hrel.open_
    -- what stands behind a step
    have next : ∀ (s' : St) (a' : Act) (w' : World), DC pre pa.length t0 h0 (fun x => if x ∈ dsts pb then vsB x else vsA x) bsA dc C (listed.setIfInBounds i true) s' → Rel w0 N s' a' w' → wpAny P .any ops Q (n + (ops.size - pre.length)) (listed.setIfInBounds i true) a' w' := by
      intro s' a' w' hdc hrel'
      refine ih (rem.erase i) _ s' a' w' (by rw [List.length_erase_of_mem hirem, hr]; rfl) (hnd.erase i) (by simpa using hs) (fun j hj => ?_) (fun j hj => hlt j (List.mem_of_mem_erase hj)) (fun j oj hoj hlj e he hb => ?_) hdc hrel'
      · by_cases hji : i = j
        · subst hji
          have : (listed.setIfInBounds i true).getD i false = true := by simp [show i < listed.size by omega]
          rw [this]
          simp only [true_iff]
          exact ⟨hip, fun h => (hnd.mem_erase_iff.1 h).1 rfl⟩
        · rw [getD_set_ne false hji, hl j hj, hnd.mem_erase_iff]
          constructor
          · rintro ⟨h1, h2⟩; exact ⟨h1, fun h => h2 h.2⟩
          · rintro ⟨h1, h2⟩; exact ⟨h1, fun h => h2 ⟨fun e => hji e.symm, h⟩⟩
      · show (listed.setIfInBounds i true).getD e.on false = true
        have hlj : (listed.setIfInBounds i true).getD j false = true := hlj
        refine getD_set_true ?_
        by_cases hji : i = j
        · subst hji
          rw [ho] at hoj
          injection hoj with hoj
          subst hoj
          exact hpre e (by simpa using he) hb
        · rw [getD_set_ne false hji] at hlj
          exact hcl j oj hoj hlj e he hb
    have hi_set : (listed.setIfInBounds i true).getD i false = true := by simp [show i < listed.size by omega]
    rcases Nat.lt_trichotomy i pa.length with hia | hia | hia
    · -- an operation ahead of the call
      have hcU : listed.getD pa.length false = false := by
        cases hx : listed.getD pa.length false with
        | false => rfl
        | true =>
          exfalso
          have hoc : ops[pa.length]? = some (ops[pa.length]'(by omega)) := by simp [show pa.length < ops.size by omega]
          have := hca i hia _ hcl _ hoc (fun e he hb => hcl _ _ hoc hx e he hb)
          rw [hun] at this; cases this
      obtain ⟨d, mo, gd, q1, q2'⟩ := k4 i hia
      have hpi : pre[i] = pa[i] := by
        simp only [hpre_]
        rw [List.getElem_append_left hia]
      rw [hpi, q1] at e4
      injection e4 with e4a e4b e4c
      subst e4b; subst e4c
      have hdd : o.dst = some d := e4a.symm
      have hdN : d < N := by rw [hdd] at e3; simpa [dstOk] using e3
      have hdi_i : (dsts pa)[i]? = some d := dsts_get allDa (by rw [List.getElem?_eq_getElem hia, q1])
      have hdA : d ∈ dsts pa := List.mem_of_getElem? hdi_i
      have hread : ∀ x ∈ pre[i].reads, s.t x = if x ∈ dsts (pa.take i) then vsA x else t0 x := by
        intro x hx
        rw [dsts_take allDa]
        by_cases hxd : x ∈ dsts pre
        · obtain ⟨j, hj⟩ := List.mem_iff_getElem?.1 hxd
          obtain ⟨hji, hja⟩ := hok.reads i hip x hx j hj
          have hj' := hj
          rw [getA j (by omega)] at hj'
          have hm : x ∈ (dsts pa).take i := List.mem_iff_getElem?.2 ⟨j, by rw [List.getElem?_take, if_pos hji]; exact hj'⟩
          rw [if_pos hm]
          have := hdi.tL j (by omega) (by omega) (hanc j hja) x hj
          rwa [if_neg (hAB x (List.mem_of_mem_take hm))] at this
        · rw [if_neg (fun h => hxd (by rw [hdpre]; simp [List.mem_of_mem_take h]))]
          exact hdi.tU x (fun j _ _ hj => hxd (List.mem_of_getElem? hj))
      have hnew : ∀ j, j < pre.length → listed.getD j false = true → (dsts pre)[j]? ≠ some d := fun j _ hlj hj => by
        have := nodup_get hok.nodup hj ((getA i hia).trans hdi_i)
        subst this
        rw [hun] at hlj; cases hlj
      have hhd : s.h (hom d) = h0 (hom d) := (hdi.ph0 hcU).2 _ (fun j hj hlj x hx e => hnew j (by omega) hlj (by rw [← hom_inj.1 e]; exact hx))
      refine outP_wp hrelC ho hdN hdd e1 e2 (s0 := ⟨fun x => if x ∈ dsts (pa.take i) then vsA x else t0 x, h0⟩) ⟨fun q hq => ?_, fun y hy => ?_, ?_⟩ (fun t b hg => ?_) q2' (fun a' w' hrel' => next _ a' w' ⟨fun j hj hjn hlj x hx => ?_, fun x hx => ?_, fun hc0 => ⟨fun j hj hlj x hx => ?_, fun y hy => ?_⟩, fun hc1 => ?_⟩ hrel')
      · cases q with
        | tmp t =>
          have : s.t t = if t ∈ dsts (pa.take i) then vsA t else t0 t := hread t (by
            rw [hpi, q1]
            simp only [MI.reads, List.mem_append, List.mem_filterMap]
            exact .inl ⟨.tmp t, hq, rfl⟩)
          simp only [St.get, this]
        | c v => rfl
      · exact (hdi.ph0 hcU).2 y (fun j hj _ x hx e => hhid y hy (List.mem_map.2 ⟨x, List.mem_of_getElem? ((getA j hj).symm.trans hx), e⟩))
      · show (s.h (hom d)).ver = (h0 (hom d)).ver
        rw [hhd]
      · exact hread t (by
          rw [hpi, q1]
          simp only [MI.reads, List.mem_append]
          subst hg
          exact .inr (by simp))
      · by_cases hji : i = j
        · subst hji
          rw [getA i hia, hdi_i] at hx
          injection hx with hx
          subst hx
          simp only [upd, if_true, if_neg (hAB d hdA)]
        · rw [getD_set_ne false hji] at hlj
          have hxd : x ≠ d := fun e => hnew j hj hlj (by rw [← e]; exact hx)
          have := hdi.tL j hj hjn hlj x hx
          simpa only [upd, if_neg hxd] using this
      · have hxd : x ≠ d := fun e => hx i hip hi_set (by rw [e, getA i hia]; exact hdi_i)
        have := hdi.tU x (fun j hj hlj => hx j hj (getD_set_true hlj))
        simpa only [upd, if_neg hxd] using this
      · by_cases hji : i = j
        · subst hji
          rw [getA i hia, hdi_i] at hx
          injection hx with hx
          subst hx
          show updO s.h (hom d) (bsA (hom d)) (hom d) = _
          cases hb : bsA (hom d) with
          | none => simp only [updO, Option.getD_none]; exact hhd
          | some b => simp [updO, upd]
        · rw [getD_set_ne false hji] at hlj
          have hxd : hom x ≠ hom d := fun e => hnew j (by omega) hlj (by rw [← hom_inj.1 e]; exact hx)
          have := (hdi.ph0 hcU).1 j hj hlj x hx
          show updO s.h (hom d) (bsA (hom d)) (hom x) = _
          rw [← this]
          cases bsA (hom d) <;> simp [updO, upd, hxd]
      · have hyd : y ≠ hom d := fun e => hy i hia hi_set d ((getA i hia).trans hdi_i) e.symm
        have := (hdi.ph0 hcU).2 y (fun j hj hlj => hy j hj (getD_set_true hlj))
        show updO s.h (hom d) (bsA (hom d)) y = _
        rw [← this]
        cases bsA (hom d) <;> simp [updO, upd, hyd]
      · rw [getD_set_ne false (by omega), hcU] at hc1; cases hc1
    · -- the call
      subst hia
      have hpi : pre[pa.length] = MI.op (some dc) co none := by
        simp only [hpre_]
        rw [List.getElem_append_right (by omega)]
        simp
      rw [hpi] at e4
      injection e4 with e4a e4b e4c
      subst e4b; subst e4c
      have hdd : o.dst = some dc := e4a.symm
      have hdN : ∀ x, o.dst = some x → x < N := fun x hx => by rw [hx] at e3; simpa [dstOk] using e3
      have hallA : ∀ j, j < pa.length → listed.getD j false = true := fun j hj => hanc j (hca j hj)
      have hh : s.h = s1.h := by
        funext y
        rw [k3 y]
        split
        · rename_i hy
          obtain ⟨z, hz, rfl⟩ := List.mem_map.1 hy
          obtain ⟨j, hj⟩ := List.mem_iff_getElem?.1 hz
          have hjl : j < pa.length := by rw [← hda]; exact (List.getElem?_eq_some_iff.1 hj).1
          exact (hdi.ph0 hun).1 j hjl (hallA j hjl) z ((getA j hjl).trans hj)
        · rename_i hy
          exact (hdi.ph0 hun).2 y (fun j hj _ x hx e => hy (List.mem_map.2 ⟨x, List.mem_of_getElem? ((getA j hj).symm.trans hx), e⟩))
      have hv : ∀ x ∈ co.opds.filterMap tmpOf, s.t x = s1.t x := fun x hx => by
        have hxr : x ∈ pre[pa.length].reads := by rw [hpi]; simp only [MI.reads, List.mem_append]; exact .inl hx
        rw [k2 x]
        by_cases hxd : x ∈ dsts pre
        · obtain ⟨j, hj⟩ := List.mem_iff_getElem?.1 hxd
          obtain ⟨hji, _⟩ := hok.reads _ hip x hxr j hj
          have hm : x ∈ dsts pa := List.mem_of_getElem? ((getA j hji).symm.trans hj)
          have := hdi.tL j (by omega) (by omega) (hallA j hji) x hj
          rw [if_neg (hAB x hm)] at this
          rw [if_pos hm, this]
        · rw [if_neg (fun h => hxd (by rw [hdpre]; simp [h]))]
          exact hdi.tU x (fun j _ _ hj => hxd (List.mem_of_getElem? hj))
      unfold wpOp
      simp only [ho]
      rw [wanted_none (guardT_none e2)]
      refine .inl (runOp_wp (K := fun s' => ∃ r h', C r h' ∧ s' = ⟨upd s.t dc (asRes r), h'⟩) hrelC hdN e1 ?_ (fun s' a' w' hs' hr' => ?_))
      · rw [hdd]
        exact hrun s hv hh
      · obtain ⟨r, h', hCr, rfl⟩ := hs'
        refine next _ a' w' ⟨fun j hj hjn hlj x hx => ?_, fun x hx => ?_, fun hc0 => ?_, fun _ => ⟨r, hCr, by simp [upd]⟩⟩ hr'
        · rw [getD_set_ne false (fun e => hjn e.symm)] at hlj
          have hxd : x ≠ dc := fun e => hjn (nodup_get hok.nodup hx (by rw [e]; exact getC))
          have := hdi.tL j hj hjn hlj x hx
          simpa only [upd, if_neg hxd] using this
        · have hxd : x ≠ dc := fun e => hx _ hip hi_set (by rw [e]; exact getC)
          have := hdi.tU x (fun j hj hlj => hx j hj (getD_set_true hlj))
          simpa only [upd, if_neg hxd] using this
        · rw [hi_set] at hc0; cases hc0
    · -- one beside it
      obtain ⟨k, rfl⟩ : ∃ k, i = pa.length + 1 + k := ⟨i - pa.length - 1, by omega⟩
      have hkb : k < pb.length := by omega
      obtain ⟨d, mo, gd, q1, q2'⟩ := q4 k hkb
      have hpi : pre[pa.length + 1 + k] = pb[k] := by
        simp only [hpre_]
        rw [List.getElem_append_right (by omega)]
        simp only [show pa.length + 1 + k - pa.length = k + 1 by omega, List.getElem_cons_succ]
      obtain ⟨hnoh, hnr⟩ := hpb pb[k] (List.getElem_mem hkb)
      rw [hpi, q1] at e4
      injection e4 with e4a e4b e4c
      subst e4b; subst e4c
      have hdd : o.dst = some d := e4a.symm
      have hdN : d < N := by rw [hdd] at e3; simpa [dstOk] using e3
      have hdi_i : (dsts pb)[k]? = some d := dsts_get allDb (by rw [List.getElem?_eq_getElem hkb, q1])
      have hdB : d ∈ dsts pb := List.mem_of_getElem? hdi_i
      have hbn : bsB (hom d) = none := by
        refine outP_noHome q2' ?_
        rw [q1] at hnoh; exact hnoh
      rw [hbn] at q2'
      have hread : ∀ x ∈ pb[k].reads, s.t x = if x ∈ dsts (pb.take k) then vsB x else t0 x := by
        intro x hx
        rw [dsts_take allDb]
        have hxn := hnr x hx
        rw [dapp] at hxn
        by_cases hxd : x ∈ dsts pre
        · obtain ⟨j, hj⟩ := List.mem_iff_getElem?.1 hxd
          obtain ⟨hji, hja⟩ := hok.reads _ hip x (by rw [hpi]; exact hx) j hj
          have hjn : pa.length < j := by
            rcases Nat.lt_trichotomy j pa.length with h | h | h
            · exact absurd (List.mem_append.2 (.inl (List.mem_of_getElem? ((getA j h).symm.trans hj)))) hxn
            · subst h
              rw [getC] at hj; injection hj with hj
              exact absurd (List.mem_append.2 (.inr (by simp [dsts, hj]))) hxn
            · exact h
          obtain ⟨j', rfl⟩ : ∃ j', j = pa.length + 1 + j' := ⟨j - pa.length - 1, by omega⟩
          have hj2 := (getB j').symm.trans hj
          have hm : x ∈ (dsts pb).take k := List.mem_iff_getElem?.2 ⟨j', by rw [List.getElem?_take, if_pos (by omega)]; exact hj2⟩
          rw [if_pos hm]
          have := hdi.tL _ (by omega) (by omega) (hanc _ hja) x hj
          rwa [if_pos (List.mem_of_mem_take hm)] at this
        · rw [if_neg (fun h => hxd (by rw [hdpre]; simp [List.mem_of_mem_take h]))]
          exact hdi.tU x (fun j _ _ hj => hxd (List.mem_of_getElem? hj))
      have hnew : ∀ j, j < pre.length → listed.getD j false = true → (dsts pre)[j]? ≠ some d := fun j _ hlj hj => by
        have := nodup_get hok.nodup hj ((getB k).trans hdi_i)
        subst this
        rw [hun] at hlj; cases hlj
      have hdnA : d ∉ dsts pa := fun h => hAB d h hdB
      have hdnc : d ≠ dc := fun e => hdcB (e ▸ hdB)
      have hhF : ∀ y ∈ F, s.h y = hF y := fun y hy => by
        rw [hFe y hy]
        cases hx : listed.getD pa.length false with
        | false => exact (hdi.ph0 hx).2 y (fun j hj _ x hx' e => hFA y hy (List.mem_map.2 ⟨x, List.mem_of_getElem? ((getA j hj).symm.trans hx'), e⟩))
        | true =>
          obtain ⟨r, hCr, _⟩ := hdi.ph1 hx
          exact (hC r _ hCr).1 y hy
      refine outP_wp hrelC ho hdN hdd e1 e2 (s0 := ⟨fun x => if x ∈ dsts (pb.take k) then vsB x else t0 x, hF⟩) ⟨fun q hq => ?_, fun y hy => ?_, ?_⟩ (fun t b hg => ?_) q2' (fun a' w' hrel' => next _ a' w' ⟨fun j hj hjn hlj x hx => ?_, fun x hx => ?_, fun hc0 => ⟨fun j hj hlj x hx => ?_, fun y hy => ?_⟩, fun hc1 => ?_⟩ hrel')
      · cases q with
        | tmp t =>
          have : s.t t = if t ∈ dsts (pb.take k) then vsB t else t0 t := hread t (by
            rw [q1]
            simp only [MI.reads, List.mem_append, List.mem_filterMap]
            exact .inl ⟨.tmp t, hq, rfl⟩)
          simp only [St.get, this]
        | c v => rfl
      · exact hhF y (hFl y hy)
      · show (s.h (hom d)).ver = (hF (hom d)).ver
        rw [hFv]
        cases hx : listed.getD pa.length false with
        | false =>
          rw [(hdi.ph0 hx).2 (hom d) (fun j hj _ x hx' e => hdnA (by rw [← hom_inj.1 e]; exact List.mem_of_getElem? ((getA j hj).symm.trans hx')))]
        | true =>
          obtain ⟨r, hCr, _⟩ := hdi.ph1 hx
          exact (hC r _ hCr).2 d hdB
      · exact hread t (by
          rw [q1]
          simp only [MI.reads, List.mem_append]
          subst hg
          exact .inr (by simp))
      · by_cases hji : pa.length + 1 + k = j
        · subst hji
          rw [getB k, hdi_i] at hx
          injection hx with hx
          subst hx
          simp only [upd, if_true, if_pos hdB]
        · rw [getD_set_ne false hji] at hlj
          have hxd : x ≠ d := fun e => hnew j hj hlj (by rw [← e]; exact hx)
          have := hdi.tL j hj hjn hlj x hx
          simpa only [upd, if_neg hxd] using this
      · have hxd : x ≠ d := fun e => hx _ hip hi_set (by rw [e, getB k]; exact hdi_i)
        have := hdi.tU x (fun j hj hlj => hx j hj (getD_set_true hlj))
        simpa only [upd, if_neg hxd] using this
      · rw [getD_set_ne false (by omega)] at hc0
        rw [getD_set_ne false (by omega)] at hlj
        exact (hdi.ph0 hc0).1 j hj hlj x hx
      · rw [getD_set_ne false (by omega)] at hc0
        exact (hdi.ph0 hc0).2 y (fun j hj hlj => hy j hj (getD_set_true hlj))
      · rw [getD_set_ne false (by omega)] at hc1
        obtain ⟨r, h1, h2⟩ := hdi.ph1 hc1
        exact ⟨r, h1, by simpa only [upd, if_neg (Ne.symm hdnc)] using h2⟩

theorem drcOk_spec {pa pb : List MI} {c : MI} (h : drcOk ops pa c pb = true) : (∀ j, j < pa.length → Anc ops pa.length j) ∧ isCn c = true ∧ ∀ m ∈ pb, m.noHome = true ∧ ∀ x ∈ m.reads, x ∉ dsts (pa ++ [c]) := by
  unfold drcOk at h
  simp only [Bool.and_eq_true, List.all_eq_true] at h
  obtain ⟨⟨h1, h2⟩, h3⟩ := h
  exact ⟨fun j hj => ancs_anc (h1 j (List.mem_range.2 hj)), h2, fun m hm => ⟨(h3 m hm).1, fun x hx => by simpa using (h3 m hm).2 x hx⟩⟩

theorem drc_gen (hmix : P.follows .mixedOrders = true) {id : Nat} {pre pa pb hp hs suf : List MI} {dc : Nat} {co : MOp} (hpre : pre = pa ++ MI.op (some dc) co none :: pb)
    (hc : compL P N ops (ops.toList.take pre.length) hp = some pre) (hop : hp.all MI.isOp = true) (hc2 : compL P N ops (ops.toList.drop pre.length) hs = some suf) (hok : drawOk ops pre = true) (hdc : drcOk ops pa (MI.op (some dc) co none) pb = true)
    {s : St} {a : Act} {w : World} {K : St → Prop} (hQ : ∀ s a w, K s → Rel w0 N s a w → Q .normal a w) (hr : Rel w0 N s a w)
    (hw : runP (RCs P) { s with h := hideH s.h ((dsts pa).map hom) } (hideH s.h ((dsts pa).map hom)) pa (fun s1 => ∃ F, ∃ C : List IV → (Nat → Blk) → Prop, (∀ s : St, (∀ x ∈ co.opds.filterMap tmpOf, s.t x = s1.t x) → s.h = s1.h → runOp (RCs P) s (some dc) co (fun s' => ∃ r h', C r h' ∧ s' = ⟨upd s.t dc (asRes r), h'⟩)) ∧
        (∀ r h', C r h' → (∀ y ∈ F, h' y = s.h y) ∧ ∀ x ∈ dsts pb, (h' (hom x)).ver = (s.h (hom x)).ver) ∧ (∀ y ∈ F, y ∉ (dsts pa).map hom) ∧
        runP (RCs P) ⟨s.t, keepH s.h F⟩ (keepH s.h F) pb (fun sB => ∀ r h', C r h' → runL (RCs P) ⟨fun x => if x ∈ dsts pb then sB.t x else upd s1.t dc (asRes r) x, h'⟩ suf K))) : (Code.region id ops true).wp P Q a w := by
  have hok := drawOk_spec hok
  obtain ⟨d1, _, d3⟩ := drcOk_spec hdc
  have dapp : ∀ l m : List MI, dsts (l ++ m) = dsts l ++ dsts m := by
    intro l m
    induction l with
    | nil => rfl
    | cons x l ih =>
      cases x with
      | op d o g => cases d <;> simp [dsts, ih]
      | frz t => simp [dsts, ih]
      | kill ts => simp [dsts, ih]
  have hnd := hok.nodup
  rw [hpre, dapp] at hnd
  have hndA : (dsts pa).Nodup := (List.nodup_append.1 hnd).1
  have hndB : (dsts pb).Nodup := (List.nodup_cons.1 (List.nodup_append.1 hnd).2.1).2
  obtain ⟨vsA, bsA, s1, k1, k2, k3, k4⟩ := runP_pts (hideH s.h ((dsts pa).map hom)) pa s.t (hideH s.h ((dsts pa).map hom)) _ hw hndA
  obtain ⟨F, C, hrun, hC, hFA, hB⟩ := k1
  obtain ⟨vsB, bsB, sB, kB, q2, q3, q4⟩ := runP_pts (keepH s.h F) pb s.t (keepH s.h F) _ hB hndB
  obtain ⟨c1, c2, c3⟩ := compL_ops hp _ pre hc hop
  have hnp : pre.length ≤ ops.size := by rw [List.length_take] at c1; simp at c1; omega
  refine wp_region_any hmix ?_
  obtain ⟨φ, hrC⟩ := hr.open_
  have hrC' := hrC.called (w' := { w with drawn := w.drawn + 1 }) ⟨rfl, rfl, rfl, Nat.le_refl _, fun _ _ => rfl⟩
  have hrC2 := hrC'.weak (H' := hideH s.h ((dsts pa).map hom)) (fun x => by
    simp only [hideH]
    split
    · exact ⟨rfl, rfl, rfl, fun e => by simp at e, fun h => h⟩
    · exact ⟨rfl, rfl, rfl, fun h => h, fun h => h⟩)
  have hide0 : ∀ y, y ∉ (dsts pa).map hom → hideH s.h ((dsts pa).map hom) y = s.h y := fun y hy => by simp only [hideH, if_neg hy]
  have hver : ∀ y, (hideH s.h ((dsts pa).map hom) y).ver = (s.h y).ver := fun y => by simp only [hideH]; split <;> rfl
  have := draw_prc (Q := Q) (w0 := w0) (N := N) hpre hc hop hok d1 d3 (t0 := s.t) (h0 := hideH s.h ((dsts pa).map hom)) (hF := keepH s.h F) (vsA := vsA) (vsB := vsB) (bsA := bsA) (bsB := bsB) (s1 := s1) (sB := sB) (C := C) (F := F)
    (fun y hy hyd => by simp only [hideH, hyd, if_true, Bool.false_eq_true] at hy) k2 k3 k4 q2 q4
    (fun y hy => by
      simp only [keepH] at hy
      split at hy
      · assumption
      · simp at hy)
    (fun y hy => by rw [hide0 y (hFA y hy)]; simp only [keepH, if_pos hy]) hFA
    (fun y => by rw [hver]; simp only [keepH]; split <;> rfl) hrun
    (fun r h' hCr => ⟨fun y hy => by rw [hide0 y (hFA y hy)]; exact (hC r h' hCr).1 y hy, fun x hx => by rw [hver]; exact (hC r h' hCr).2 x hx⟩)
    (fun r h' a w hCr hr' => by
      have := runL_wp (P := P) (ops := ops) (Q := Q) (K := K) (w0 := w0) (N := N) hQ hs _ pre.length suf _ a w hc2 rfl hr' (kB r h' hCr)
      rwa [List.length_drop, Array.length_toList] at this)
    pre.length (List.range pre.length) (Array.replicate ops.size false) ⟨s.t, hideH s.h ((dsts pa).map hom)⟩ a { w with drawn := w.drawn + 1 } (by simp) List.nodup_range (by simp)
    (fun j hj => by
      have : (Array.replicate ops.size false).getD j false = false := by simp [hj]
      rw [this]
      simp)
    (fun j hj => by simpa using hj)
    (fun j o hj hl => by
      have hl : (Array.replicate ops.size false).getD j false = true := hl
      simp [Array.getElem?_replicate] at hl
      split at hl <;> simp at hl)
    ⟨fun i hi _ hl => by
      simp [Array.getElem?_replicate] at hl
      split at hl <;> simp at hl, fun x _ => rfl, fun _ => ⟨fun i hi hl => by
      simp [Array.getElem?_replicate] at hl
      split at hl <;> simp at hl, fun y _ => rfl⟩, fun hl => by
      simp [Array.getElem?_replicate] at hl
      split at hl <;> simp at hl⟩ hrC2.rel
  rwa [show pre.length + (ops.size - pre.length) = ops.size by omega] at this

theorem get_congr {s s' : St} {q : Opd} (h : ∀ x ∈ (tmpOf q).toList, s.t x = s'.t x) : s.get q = s'.get q := by
  cases q with
  | tmp t => simp only [St.get, h t (by simp [tmpOf])]
  | c v => rfl
theorem drc_wp (hmix : P.follows .mixedOrders = true) {id : Nat} {pre pa pb hp hs suf : List MI} {dc : Nat} {co : MOp} (hpre : pre = pa ++ MI.op (some dc) co none :: pb)
    (hc : compL P N ops (ops.toList.take pre.length) hp = some pre) (hop : hp.all MI.isOp = true) (hc2 : compL P N ops (ops.toList.drop pre.length) hs = some suf) (hok : drawOk ops pre = true) (hdc : drcOk ops pa (MI.op (some dc) co none) pb = true)
    {s : St} {a : Act} {w : World} {Q' : Ex → St → Prop} (hQ : ∀ s a w, Q' .normal s → Rel w0 N s a w → Q .normal a w) (hr : Rel w0 N s a w)
    (hw : Wp (RCs P) (.drc pa (.op (some dc) co none) pb suf) Q' s) : (Code.region id ops true).wp P Q a w := by
  simp only [Wp] at hw
  split at hw
  · rename_i heq
    injection heq with e1 e2 _
    injection e1 with e1
    subst e1; subst e2
    refine drc_gen hmix hpre hc hop hc2 hok hdc hQ hr (runP_mono (fun s1 h1 => ?_) hw)
    obtain ⟨F, vals, C, k1, k2, k3, k4, k5⟩ := h1
    refine ⟨F, C, fun s hs hh => ⟨vals, C, (vals_congr (fun x hx => hs x hx)).trans k1, ?_, fun r h' hC => ⟨r, h', hC, rfl⟩⟩, k3, k4, k5⟩
    rw [hh]; exact k2
  · rename_i heq
    injection heq with e1 e2 _
    injection e1 with e1
    subst e1; subst e2
    rcases hw with hw | hw
    · rw [← hpre] at hw
      exact draw_wp hmix hc hop hc2 hok hQ hr hw
    refine drc_gen hmix hpre hc hop hc2 hok hdc hQ hr (runP_mono (fun s1 h1 => ?_) hw)
    obtain ⟨F, s', k1, k2, k3, k4, k5⟩ := h1
    rename_i sz bytes x y _
    have hx : s1.get x = s1.get x := rfl
    refine ⟨F, fun r h' => r = [s'.t dc] ∧ h' = s'.h, fun s hs hh => ?_, ?_, k4, ?_⟩
    · have gx : s.get x = s1.get x := get_congr fun z hz => hs z (by simp only [MOp.opds, List.mem_filterMap]; exact ⟨x, by simp, by cases x <;> simp [tmpOf] at hz ⊢; exact hz.symm⟩)
      have gy : s.get y = s1.get y := get_congr fun z hz => hs z (by simp only [MOp.opds, List.mem_filterMap]; exact ⟨y, by simp, by cases y <;> simp [tmpOf] at hz ⊢; exact hz.symm⟩)
      obtain ⟨st, sh⟩ := s
      obtain ⟨st1, sh1⟩ := s1
      simp only at hh
      subst hh
      have ha : isAct ⟨st, sh⟩ (.app sz bytes x y) = true := by simp only [isAct, gx]; exact k1
      simp only [runOp, ha, if_true]
      simp only [act, gx, gy] at k2 ⊢
      split at k2
      · rename_i d h off n sz' ver v e1 e2 e3
        injection e1 with e1
        subst e1
        have hm : ∀ v, (⟨st, sh⟩ : St).more sz v = (⟨st1, sh⟩ : St).more sz v := by
          intro v; cases v <;> rfl
        have hok : ∀ a b, (⟨st, sh⟩ : St).ok a b = (⟨st1, sh⟩ : St).ok a b := fun _ _ => rfl
        rw [hm, hok]
        split at k2
        · rename_i m ds hmm
          try rw [hmm]
          try simp only
          split at k2
          · rename_i hc
            try rw [if_pos hc]
            injection k2 with k2
            subst k2
            exact ⟨_, _, ⟨rfl, rfl⟩, by simp only [upd, if_true]; rfl⟩
          · cases k2
        · cases k2
      · cases k2
    · rintro r h' ⟨rfl, rfl⟩
      exact k3
    · have ht : ∀ z, upd s1.t dc (s'.t dc) z = s'.t z := by
        intro z
        simp only [act] at k2
        split at k2
        · rename_i d h off n sz' ver v e1 e2 e3
          injection e1 with e1
          subst e1
          split at k2
          · split at k2
            · injection k2 with k2
              subst k2
              simp only [upd, if_true]
            · cases k2
          · cases k2
        · cases k2
      refine runP_mono (fun sB hB r h' hC => ?_) k5
      obtain ⟨rfl, rfl⟩ := hC
      have he : (fun x => if x ∈ dsts pb then sB.t x else upd s1.t dc (asRes [s'.t dc]) x) = (fun x => if x ∈ dsts pb then sB.t x else s'.t x) := by
        funext z
        show (if z ∈ dsts pb then sB.t z else upd s1.t dc (s'.t dc) z) = _
        rw [ht z]
      rw [he]; exact hB
  · exact hw.elim
end
end Go.Proofs.YtilbipknodpmmaaDoor

/-! A region of open order, every order written out. -/
set_option linter.unusedSectionVars false
set_option linter.unusedVariables false
set_option linter.unusedSimpArgs false
namespace Go.Proofs.YtilbipknodpmmaaDoor
open Go.RowKit

def OT.heads : OT → List Nat
  | .alt i _ _ o => i :: o.heads
  | _ => []
def OT.isDone : OT → Bool
  | .done => true
  | _ => false
def copyOf : Op → Option Operand
  | .assign x => some x
  | .move x => some x
  | _ => none
def OT.isTake : OT → Bool
  | .take .. => true
  | _ => false
def OT.goesOn (ops : Array Oper) (listed : Array Bool) (t : OT) : Bool := t.isTake || t.isDone == (Region.ready .any ops listed).isEmpty && (Region.ready .any ops listed).all (fun j => t.heads.contains j)
def compT (P : Program) (N : Nat) (ops : Array Oper) : Nat → Array Bool → OT → Option OT
  | _, _, .done => some .done
  | _, _, .stop => some .stop
  | k + 1, listed, .take i _ n => match ops[i]? with
    | some op => match copyOf op.op, op.dst, op.guard, compT P N ops k (listed.setIfInBounds i true) n with
      | some x, some d, none, some n' => match opd x with
        | some y => if d < N ∧ Region.noSelect ops = true ∧ Region.free .any ops listed i = true ∧ (Region.ready .any ops listed).contains i = true ∧ n.goesOn ops (listed.setIfInBounds i true) = true then some (.take i (.op (some d) (.mov y) none) n') else none
        | none => none
      | _, _, _, _ => none
    | none => none
  | k + 1, listed, .alt i (.op _ h _) n o => match ops[i]? with
    | some op => match cop P op h, guardT ops op.guard, dstOk N op.dst, compT P N ops k (listed.setIfInBounds i true) n, compT P N ops (k + 1) listed o with
      | some m, some g, true, some n', some o' => if n.goesOn ops (listed.setIfInBounds i true) = true then some (.alt i (.op op.dst m g) n' o') else none
      | _, _, _, _, _ => none
    | none => none
  | _, _, _ => none

theorem runT_mono {R : Cs} [Off] : ∀ {t : OT} {s : St} {K K' : St → Prop}, (∀ s, K s → K' s) → runT R t s K → runT R t s K'
  | .done, s, K, K', h, hr => h _ hr
  | .stop, s, K, K', h, hr => trivial
  | .take i m n, s, K, K', h, hr => stepM_mono (fun s hs => runT_mono h hs) hr
  | .alt i m n o, s, K, K', h, hr => ⟨stepM_mono (fun s hs => runT_mono h hs) hr.1, runT_mono h hr.2⟩

section
variable [Off] [Gh] [Old] {P : Program} {w0 : World} {N : Nat} {ops : Array Oper} {Q : Exit → Act → World → Prop} {K : St → Prop}
theorem compT_next (hQ : ∀ s a w, K s → Rel w0 N s a w → Q .normal a w) {n n' : OT} {k : Nat} {l : Array Bool} (hc : compT P N ops k l n = some n') (hnt : n.isTake = false) (hg : n.goesOn ops l = true) {s : St} {a : Act} {w : World} (hr : Rel w0 N s a w) (hk : runT (RCs P) n' s K)
    (ih : ∀ i ∈ n.heads, ∃ k', k = k' + 1 ∧ wpOp P ops Q i (wpAny P .any ops Q k' (l.setIfInBounds i true)) a w) : wpAny P .any ops Q k l a w := by
  unfold OT.goesOn at hg
  rw [hnt, Bool.false_or] at hg
  simp only [Bool.and_eq_true, beq_iff_eq, List.all_eq_true, List.contains_iff_mem] at hg
  obtain ⟨h1, h2⟩ := hg
  have hfin : Region.ready .any ops l = [] → Q .normal a w := fun e => by
    rw [e] at h1
    cases n with
    | done => cases k <;> simp only [compT, Option.some.injEq] at hc <;> subst hc <;> exact hQ _ _ _ hk hr
    | stop => simp [OT.isDone] at h1
    | take => simp [OT.isDone] at h1
    | alt => simp [OT.isDone] at h1
  cases k with
  | zero =>
    refine ⟨?_, ?_⟩
    · cases hre : Region.ready .any ops l with
      | nil => rfl
      | cons j js =>
        obtain ⟨k', e, _⟩ := ih j (h2 j (by rw [hre]; simp))
        omega
    · refine hfin ?_
      cases hre : Region.ready .any ops l with
      | nil => rfl
      | cons j js =>
        obtain ⟨k', e, _⟩ := ih j (h2 j (by rw [hre]; simp))
        omega
  | succ k =>
    refine ⟨hfin, fun i hi => ?_⟩
    obtain ⟨k', e, h⟩ := ih i (h2 i hi)
    injection e with e
    subst e
    exact h
theorem compT_both (hQ : ∀ s a w, K s → Rel w0 N s a w → Q .normal a w) (hp : ∀ c a w, ¬ Q (.panic c) a w) : ∀ (t t' : OT) (k : Nat) (l : Array Bool), compT P N ops k l t = some t' → ∀ {s : St} {a : Act} {w : World}, Rel w0 N s a w → runT (RCs P) t' s K →
    (∀ i ∈ t.heads, ∃ k', k = k' + 1 ∧ wpOp P ops Q i (wpAny P .any ops Q k' (l.setIfInBounds i true)) a w) ∧ (t.goesOn ops l = true → wpAny P .any ops Q k l a w)
  | .done, t', k, l, hc, s, a, w, hr, hk => by
    have h1 : ∀ i ∈ OT.done.heads, ∃ k', k = k' + 1 ∧ wpOp P ops Q i (wpAny P .any ops Q k' (l.setIfInBounds i true)) a w := fun i hi => by simp [OT.heads] at hi
    exact ⟨h1, fun hg => compT_next hQ hc rfl hg hr hk h1⟩
  | .stop, t', k, l, hc, s, a, w, hr, hk => by
    have h1 : ∀ i ∈ OT.stop.heads, ∃ k', k = k' + 1 ∧ wpOp P ops Q i (wpAny P .any ops Q k' (l.setIfInBounds i true)) a w := fun i hi => by simp [OT.heads] at hi
    exact ⟨h1, fun hg => compT_next hQ hc rfl hg hr hk h1⟩
  | .take j m n, t', 0, l, hc, s, a, w, hr, hk => by simp [compT] at hc
  | .alt j m n o, t', 0, l, hc, s, a, w, hr, hk => by simp [compT] at hc
  | .alt j (.frz _) n o, t', k + 1, l, hc, s, a, w, hr, hk => by simp [compT] at hc
  | .alt j (.kill _) n o, t', k + 1, l, hc, s, a, w, hr, hk => by simp [compT] at hc
  | .take j m n, t', k + 1, l, hc, s, a, w, hr, hk => by
    refine ⟨fun i hi => by simp [OT.heads] at hi, fun _ => ?_⟩
    simp only [compT] at hc
    split at hc
    · rename_i op hop
      split at hc
      · rename_i x d n' h1 h2 h3 h4
        split at hc
        · rename_i y hy
          split at hc
          · rename_i hcond
            obtain ⟨hd, c1, c2, c3, c4⟩ := hcond
            injection hc with hc; subst hc
            simp only [runT, stepM, runOp, isAct, Bool.false_eq_true, if_false, neu] at hk
            obtain ⟨φ, hrC⟩ := hr.open_
            split at hk
            · rename_i e he
              split at he
              · rename_i v hv
                injection he with he; subst he
                refine wpAny_take hop c1 c2 c3 (fun c a w h => (hp _ _ _ h).elim) (v := a.eval x) (.inl ⟨by unfold Region.wanted; rw [h3], fun w => by
                  unfold execOp
                  cases ho : op.op <;> rw [ho] at h1 <;> simp only [copyOf, Option.some.injEq, reduceCtorEq] at h1 <;> subst h1 <;> rfl⟩) ?_
                rw [h2]
                exact (compT_both hQ hp n n' k _ h4 (hrC.pure hd (get_VR hrC hy hv)).rel hk).2 c4
              · cases he
            · exact hk.elim
          · cases hc
        · cases hc
      · cases hc
    · cases hc
  | .alt j (.op d h g) n o, t', k + 1, l, hc, s, a, w, hr, hk => by
    have hcc := hc
    have hkk := hk
    simp only [compT] at hc
    split at hc
    · rename_i op hop
      split at hc
      · rename_i m g' n' o' h1 h2 h3 h4 h5
        split at hc
        · rename_i hgo
          injection hc with hc; subst hc
          simp only [runT] at hk
          have key : ∀ i ∈ (OT.alt j (.op d h g) n o).heads, ∃ k', k + 1 = k' + 1 ∧ wpOp P ops Q i (wpAny P .any ops Q k' (l.setIfInBounds i true)) a w := by
            intro i hi
            simp only [OT.heads, List.mem_cons] at hi
            rcases hi with rfl | hi
            · refine ⟨k, rfl, ?_⟩
              obtain ⟨φ, hrC⟩ := hr.open_
              exact stepM_wp hrC hop h1 h2 h3 hk.1 (fun s' a' w' hk' hr' => (compT_both hQ hp n n' k _ h4 hr' hk').2 hgo)
            · exact (compT_both hQ hp o o' (k + 1) l h5 hr hk.2).1 i hi
          exact ⟨key, fun hg => compT_next hQ hcc rfl hg hr hkk key⟩
        · cases hc
      · cases hc
    · cases hc
theorem dra_wp (hmix : P.follows .mixedOrders = true) {id : Nat} {t t' : OT} (hc : compT P N ops ops.size (Array.replicate ops.size false) t = some t') (hg : t.goesOn ops (Array.replicate ops.size false) = true)
    {s : St} {a : Act} {w : World} (hQ : ∀ s a w, K s → Rel w0 N s a w → Q .normal a w) (hp : ∀ c a w, ¬ Q (.panic c) a w) (hr : Rel w0 N s a w) (hw : runT (RCs P) t' s K) : (Code.region id ops true).wp P Q a w := by
  refine wp_region_any hmix ?_
  obtain ⟨φ, hrC⟩ := hr.open_
  have hrC' := (hrC.called (w' := { w with drawn := w.drawn + 1 }) ⟨rfl, rfl, rfl, Nat.le_refl _, fun _ _ => rfl⟩).rel
  exact (compT_both hQ hp t t' _ _ hc hrC' hw).2 hg

/-! the same by an invariant of what is listed -/
def compX (P : Program) (N : Nat) (ops : Array Oper) : Nat → List (MI × List Nat) → Option (List (MI × List Nat))
  | i, [] => if i = ops.size then some [] else none
  | i, (.op _ h _, ps) :: l => match ops[i]? with
    | some op => match cop P op h, guardT ops op.guard, dstOk N op.dst, compX P N ops (i + 1) l with
      | some m, some g, true, some l' => if ps.all (fun p => op.after.toList.any (fun e => Region.binds .any e && e.on == p)) = true ∧ op.after.toList.all (fun e => !Region.binds .any e || decide (e.on < i)) = true then some ((.op op.dst m g, ps) :: l') else none
      | _, _, _, _ => none
    | none => none
  | _, _ => none
theorem compX_at : ∀ (l l' : List (MI × List Nat)) (i : Nat), compX P N ops i l = some l' → i + l'.length = ops.size ∧ ∀ (R : Cs) (Inv : (Nat → Bool) → St → Prop), StepsX R Inv l' i → ∀ j, i ≤ j → j < ops.size →
    ∃ (op : Oper) (h m : MOp) (g : Option (Nat × Bool)) (ps : List Nat), ops[j]? = some op ∧ cop P op h = some m ∧ guardT ops op.guard = some g ∧ dstOk N op.dst = true ∧ (∀ p ∈ ps, ∃ e ∈ op.after.toList, Region.binds .any e = true ∧ e.on = p) ∧ (∀ e ∈ op.after.toList, Region.binds .any e = true → e.on < j) ∧
      ∀ L s, L j = false → (∀ p ∈ ps, L p = true) → Inv L s → stepM R s (.op op.dst m g) (fun s => Inv (updL L j) s)
  | [], l', i, hc => by
    simp only [compX] at hc
    split at hc
    · rename_i hi
      injection hc with hc; subst hc
      exact ⟨by simpa using hi, fun R Inv _ j h1 h2 => by omega⟩
    · cases hc
  | (.frz _, ps) :: l, l', i, hc => by simp [compX] at hc
  | (.kill _, ps) :: l, l', i, hc => by simp [compX] at hc
  | (.op _ h _, ps) :: l, l', i, hc => by
    simp only [compX] at hc
    split at hc
    · rename_i op hop
      split at hc
      · rename_i m g l2 h1 h2 h3 h4
        split at hc
        · rename_i hcond
          injection hc with hc; subst hc
          obtain ⟨hlen, hst⟩ := compX_at l l2 (i + 1) h4
          refine ⟨by simp only [List.length_cons]; omega, fun R Inv hs j hj1 hj2 => ?_⟩
          obtain ⟨hs1, hs2⟩ := hs
          by_cases hij : i = j
          · subst hij
            refine ⟨op, h, m, g, ps, hop, h1, h2, h3, fun p hp => ?_, fun e he hb => ?_, hs1⟩
            · have := List.all_eq_true.1 hcond.1 p hp
              obtain ⟨e, he, hb⟩ := List.any_eq_true.1 this
              simp only [Bool.and_eq_true, beq_iff_eq] at hb
              exact ⟨e, he, hb.1, hb.2⟩
            · have := List.all_eq_true.1 hcond.2 e he
              simpa [hb] using this
          · exact hst R Inv hs2 j (by omega) hj2
        · cases hc
      · cases hc
    · cases hc
def unl (ops : Array Oper) (l : Array Bool) : Nat := ((List.range ops.size).filter fun j => !l.getD j false).length
theorem unl_set {l : Array Bool} {i : Nat} (hs : l.size = ops.size) (hi : i < ops.size) (h : l.getD i false = false) : unl ops (l.setIfInBounds i true) < unl ops l := by
  unfold unl
  have e : ((List.range ops.size).filter fun j => !(l.setIfInBounds i true).getD j false) = ((List.range ops.size).filter fun j => !l.getD j false).filter fun j => decide (j ≠ i) := by
    rw [List.filter_filter]
    refine List.filter_congr fun j _ => ?_
    by_cases hij : i = j
    · subst hij
      have : i < l.size := by omega
      simp [this]
    · rw [getD_set_ne false hij]
      have : j ≠ i := fun e => hij e.symm
      simp [this]
  rw [e]
  refine Nat.lt_of_le_of_ne (List.length_filter_le _ _) fun hh => ?_
  have hall := List.length_filter_eq_length_iff.1 hh i (List.mem_filter.2 ⟨List.mem_range.2 hi, by rw [h]; rfl⟩)
  simp at hall
theorem wpAny_inv {l' : List (MI × List Nat)} {l : List (MI × List Nat)} (hc : compX P N ops 0 l = some l') {Inv : (Nat → Bool) → St → Prop} (h2 : StepsX (RCs P) Inv l' 0)
    (hfin : ∀ s a w, Inv (fun j => decide (j < l'.length)) s → Rel w0 N s a w → Q .normal a w) :
    ∀ (fuel : Nat) (L : Array Bool) (a : Act) (w : World) (s : St), L.size = ops.size → unl ops L ≤ fuel → Rel w0 N s a w → Inv (fun j => L.getD j false) s → wpAny P .any ops Q fuel L a w := by
  obtain ⟨hlen, hat⟩ := compX_at l l' 0 hc
  have hlen : l'.length = ops.size := by omega
  have full : ∀ (L : Array Bool), L.size = ops.size → Region.ready .any ops L = [] → ∀ n j, j < n → j < ops.size → L.getD j false = true := by
    intro L hs hr n
    induction n with
    | zero => intro j hj; omega
    | succ n ih =>
      intro j hj hjs
      obtain ⟨op, h, m, g, ps, k1, k2, k3, k4, k5, k6, k7⟩ := hat (RCs P) Inv h2 j (Nat.zero_le _) hjs
      cases hL : L.getD j false with
      | true => rfl
      | false =>
        have : j ∈ Region.ready .any ops L := by
          rw [mem_ready]
          refine ⟨by rw [getD_lt (by omega) true false]; exact hL, op, k1, fun e he hb => ?_⟩
          have := k6 e (by simpa using he) hb
          exact ih e.on (by omega) (by omega)
        rw [hr] at this
        cases this
  have key : ∀ (L : Array Bool) (a : Act) (w : World) (s : St), L.size = ops.size → Rel w0 N s a w → Inv (fun j => L.getD j false) s → Region.ready .any ops L = [] → Q .normal a w := by
    intro L a w s hs hr hi hre
    refine hfin s a w ?_ hr
    have e : (fun j => L.getD j false) = fun j => decide (j < l'.length) := by
      funext j
      by_cases hj : j < ops.size
      · rw [full L hs hre (j + 1) j (by omega) hj, hlen]; simp [hj]
      · rw [hlen]; simp [hj]
        rw [Array.getElem?_eq_none (by omega)]; rfl
    rwa [e] at hi
  intro fuel
  induction fuel with
  | zero =>
    intro L a w s hs hu hr hi
    have hre : Region.ready .any ops L = [] := by
      cases hre : Region.ready .any ops L with
      | nil => rfl
      | cons j js =>
        have hj : j ∈ Region.ready .any ops L := by rw [hre]; simp
        rw [mem_ready] at hj
        obtain ⟨hj1, op, hj2, _⟩ := hj
        have hjs : j < ops.size := (Array.getElem?_eq_some_iff.1 hj2).1
        have : j ∈ (List.range ops.size).filter fun j => !L.getD j false := by
          rw [List.mem_filter]
          exact ⟨by simpa using hjs, by rw [getD_lt (by omega) false true, hj1]; rfl⟩
        have h0 : unl ops L = 0 := by omega
        unfold unl at h0
        rw [List.length_eq_zero_iff.1 h0] at this
        cases this
    exact ⟨hre, key L a w s hs hr hi hre⟩
  | succ fuel ih =>
    intro L a w s hs hu hr hi
    refine ⟨key L a w s hs hr hi, fun j hj => ?_⟩
    rw [mem_ready] at hj
    obtain ⟨hj1, op', hj2, hj3⟩ := hj
    have hjs : j < ops.size := (Array.getElem?_eq_some_iff.1 hj2).1
    obtain ⟨op, h, m, g, ps, k1, k2, k3, k4, k5, k6, k7⟩ := hat (RCs P) Inv h2 j (Nat.zero_le _) hjs
    obtain rfl : op' = op := by rw [k1] at hj2; exact (Option.some.inj hj2).symm
    have hLj : L.getD j false = false := by rw [getD_lt (by omega) false true]; exact hj1
    have hst := k7 (fun j => L.getD j false) s hLj (fun p hp => by
      obtain ⟨e, he, hb, rfl⟩ := k5 p hp
      exact hj3 e (by simpa using he) hb) hi
    obtain ⟨φ, hrC⟩ := hr.open_
    refine stepM_wp hrC k1 k2 k3 k4 hst (fun s' a' w' hk' hr' => ?_)
    refine ih _ a' w' s' (by simpa using hs) (by have := unl_set (ops := ops) hs hjs hLj; omega) hr' ?_
    have e : (fun j' => (L.setIfInBounds j true).getD j' false) = updL (fun j => L.getD j false) j := by
      funext j'
      unfold updL
      by_cases hij : j' = j
      · subst hij
        have : j' < L.size := by omega
        simp [this]
      · rw [if_neg hij, getD_set_ne false (fun e => hij e.symm)]
    rw [e]; exact hk'
theorem drx_wp (hmix : P.follows .mixedOrders = true) {id : Nat} {l l' : List (MI × List Nat)} (hc : compX P N ops 0 l = some l')
    {s : St} {a : Act} {w : World} (hQ : ∀ s a w, K s → Rel w0 N s a w → Q .normal a w) (hr : Rel w0 N s a w) {Inv : (Nat → Bool) → St → Prop} (h1 : Inv (fun _ => false) s) (h2 : StepsX (RCs P) Inv l' 0) (h3 : ∀ s, Inv (fun j => decide (j < l'.length)) s → K s) : (Code.region id ops true).wp P Q a w := by
  refine wp_region_any hmix ?_
  obtain ⟨φ, hrC⟩ := hr.open_
  have hrC' := (hrC.called (w' := { w with drawn := w.drawn + 1 }) ⟨rfl, rfl, rfl, Nat.le_refl _, fun _ _ => rfl⟩).rel
  refine wpAny_inv hc h2 (fun s a w hi hr => hQ s a w (h3 s hi) hr) ops.size _ a _ s (by simp) ?_ hrC' ?_
  · unfold unl; exact Nat.le_trans (List.length_filter_le _ _) (by simp)
  · have e : (fun j => (Array.replicate ops.size false).getD j false) = fun _ => false := by
      funext j
      by_cases hj : j < ops.size
      · simp [hj]
      · simp [hj]
    rw [e]; exact h1
end
end Go.Proofs.YtilbipknodpmmaaDoor
