/- Regions whose order is open: the walk. -/
import Derived.Test.YtmblapgoimegkaaDoorE19
set_option linter.unusedSectionVars false
set_option linter.unusedVariables false
set_option linter.unusedSimpArgs false
namespace Go.Proofs.YtmblapgoimegkaaDoor
open Go.RowKit

section
variable [Off] [Gh] [Old] {P : Program} {w0 : World} {N : Nat} {ops : Array Oper} {Q : Exit → Act → World → Prop}

def AllD (pre : List MI) : Prop := ∀ m ∈ pre, ∃ d o g, m = MI.op (some d) o g

theorem dsts_get : ∀ {pre : List MI}, AllD pre → ∀ {i : Nat} {d : Nat} {o : MOp} {g : Option (Nat × Bool)}, pre[i]? = some (.op (some d) o g) → (dsts pre)[i]? = some d
  | [], _, i, d, o, g, h => by simp at h
  | m :: pre, ha, 0, d, o, g, h => by
    simp only [List.getElem?_cons_zero, Option.some.injEq] at h
    subst h
    simp [dsts]
  | m :: pre, ha, i + 1, d, o, g, h => by
    obtain ⟨d', o', g', rfl⟩ := ha m (by simp)
    simp only [dsts, List.getElem?_cons_succ] at h ⊢
    exact dsts_get (fun m hm => ha m (by simp [hm])) h
theorem dsts_take : ∀ {pre : List MI}, AllD pre → ∀ (i : Nat), dsts (pre.take i) = (dsts pre).take i
  | [], _, i => by simp [dsts]
  | m :: pre, ha, 0 => by simp [dsts]
  | m :: pre, ha, i + 1 => by
    obtain ⟨d', o', g', rfl⟩ := ha m (by simp)
    simp only [List.take_succ_cons, dsts]
    rw [dsts_take (fun m hm => ha m (by simp [hm])) i]

structure DI (pre : List MI) (t0 : Nat → IV) (h0 : Nat → Blk) (vs : Nat → IV) (bs : Nat → Option Blk) (listed : Array Bool) (s : St) : Prop where
  tL : ∀ i, i < pre.length → listed.getD i false = true → ∀ x, (dsts pre)[i]? = some x → s.t x = vs x ∧ s.h (hom x) = (bs (hom x)).getD (h0 (hom x))
  tU : ∀ x, (∀ i, i < pre.length → listed.getD i false = true → (dsts pre)[i]? ≠ some x) → s.t x = t0 x
  hU : ∀ y, (∀ i, i < pre.length → listed.getD i false = true → ∀ x, (dsts pre)[i]? = some x → hom x ≠ y) → s.h y = h0 y

theorem nodup_get {l : List Nat} (h : l.Nodup) {i j x : Nat} (hi : l[i]? = some x) (hj : l[j]? = some x) : i = j := by
  obtain ⟨hi', hi⟩ := List.getElem?_eq_some_iff.1 hi
  obtain ⟨hj', hj⟩ := List.getElem?_eq_some_iff.1 hj
  rcases Nat.lt_trichotomy i j with hlt | rfl | hlt
  · exact absurd (hi.trans hj.symm) (List.pairwise_iff_getElem.1 h i j hi' hj' hlt)
  · rfl
  · exact absurd (hj.trans hi.symm) (List.pairwise_iff_getElem.1 h j i hj' hi' hlt)

theorem least_of {p : Nat → Prop} : ∀ (n : Nat), p n → ∃ m, p m ∧ ∀ k, k < m → ¬ p k := by
  intro n
  induction n using Nat.strongRecOn with
  | _ n ih =>
    intro hp
    by_cases h : ∃ k, k < n ∧ p k
    · obtain ⟨k, hk, hpk⟩ := h; exact ih k hk hpk
    · exact ⟨n, hp, fun k hk hpk => h ⟨k, hk, hpk⟩⟩

theorem draw_pre {pre hp : List MI} (hc : compL P N ops (ops.toList.take pre.length) hp = some pre) (hop : hp.all MI.isOp = true) (hok : DrawOk ops pre) {t0 : Nat → IV} {h0 : Nat → Blk} {vs : Nat → IV} {bs : Nat → Option Blk} {s' : St}
    (hhid : ∀ y, (h0 y).live = true → y ∉ (dsts pre).map hom)
    (k2 : ∀ x, s'.t x = if x ∈ dsts pre then vs x else t0 x) (k3 : ∀ y, s'.h y = if y ∈ (dsts pre).map hom then (bs y).getD (h0 y) else h0 y)
    (k4 : ∀ i (hi : i < pre.length), ∃ d o gd, pre[i] = .op (some d) o gd ∧ OutP (RCs P) ⟨fun x => if x ∈ dsts (pre.take i) then vs x else t0 x, h0⟩ d o gd (vs d) (bs (hom d)))
    (hEnd : ∀ a w, Rel w0 N s' a w → wpOps P ops Q (List.range' pre.length (ops.size - pre.length)) a w) :
    ∀ (n : Nat) (rem : List Nat) (listed : Array Bool) (s : St) (a : Act) (w : World), rem.length = n → rem.Nodup → listed.size = ops.size → (∀ j, j < ops.size → (listed.getD j false = true ↔ j < pre.length ∧ j ∉ rem)) → (∀ j ∈ rem, j < pre.length) →
      Closed ops (fun j => listed.getD j false = true) → DI pre t0 h0 vs bs listed s → Rel w0 N s a w → wpAny P .any ops Q (n + (ops.size - pre.length)) listed a w := by
  obtain ⟨c1, c2, c3⟩ := compL_ops hp _ pre hc hop
  have hnp : pre.length ≤ ops.size := by rw [List.length_take] at c1; simp at c1; omega
  have allD : AllD pre := fun m hm => by
    obtain ⟨i, hi, rfl⟩ := List.mem_iff_getElem.1 hm
    obtain ⟨d, o, gd, h1, _⟩ := k4 i hi
    exact ⟨d, o, gd, h1⟩
  intro n
  induction n with
  | zero =>
    intro rem listed s a w hr hnd hs hl hlt hcl hdi hrel
    have hr0 : rem = [] := List.eq_nil_of_length_eq_zero hr
    subst hr0
    have hall : ∀ i, i < pre.length → listed.getD i false = true := fun i hi => (hl i (by omega)).2 ⟨hi, by simp⟩
    have hse : s = s' := by
      have ht : s.t = s'.t := by
        funext x
        rw [k2 x]
        split
        · rename_i hx
          obtain ⟨i, hi⟩ := List.mem_iff_getElem?.1 hx
          have hil : i < pre.length := by rw [← hok.len]; exact (List.getElem?_eq_some_iff.1 hi).1
          exact (hdi.tL i hil (hall i hil) x hi).1
        · rename_i hx
          exact hdi.tU x (fun i _ _ hi => hx (List.mem_of_getElem? hi))
      have hh : s.h = s'.h := by
        funext x
        rw [k3 x]
        split
        · rename_i hx
          obtain ⟨z, hz, rfl⟩ := List.mem_map.1 hx
          obtain ⟨i, hi⟩ := List.mem_iff_getElem?.1 hz
          have hil : i < pre.length := by rw [← hok.len]; exact (List.getElem?_eq_some_iff.1 hi).1
          exact (hdi.tL i hil (hall i hil) z hi).2
        · rename_i hx
          exact hdi.hU x (fun i _ _ z hi e => hx (List.mem_map.2 ⟨z, List.mem_of_getElem? hi, e⟩))
      cases s; cases s'
      simp only at ht hh
      subst ht; subst hh; rfl
    subst hse
    rw [Nat.zero_add]
    refine forced_wp hok _ pre.length listed a w (Nat.le_refl _) (by omega) hs (fun j hj => ?_) (hEnd a w hrel)
    have := hl j hj
    simp only [List.not_mem_nil, not_false_eq_true, and_true] at this
    by_cases hjp : j < pre.length
    · rw [this.2 hjp]; simp [hjp]
    · have : listed.getD j false = false := by
        cases hx : listed.getD j false with
        | false => rfl
        | true => exact absurd (this.1 hx) hjp
      rw [this]; simp [hjp]
  | succ n ih =>
    intro rem listed s a w hr hnd hs hl hlt hcl hdi hrel
    rw [show n + 1 + (ops.size - pre.length) = (n + (ops.size - pre.length)) + 1 by omega]
    obtain ⟨j0, hj0⟩ : ∃ j, j ∈ rem := by
      cases rem with
      | nil => simp at hr
      | cons j _ => exact ⟨j, by simp⟩
    have hne : Region.ready .any ops listed ≠ [] := by
      obtain ⟨m, hm, hleast⟩ := least_of (p := fun j => j ∈ rem) j0 hj0
      have hmp := hlt m hm
      have : m ∈ Region.ready .any ops listed := by
        refine mem_ready.2 ⟨?_, ops[m]'(by omega), by simp [show m < ops.size by omega], fun e he hb => ?_⟩
        · rw [getD_lt (by omega) true false]
          cases hx : listed.getD m false with
          | false => rfl
          | true => exact absurd hm ((hl m (by omega)).1 hx).2
        · have := hok.back m (ops[m]'(by omega)) (by simp [show m < ops.size by omega]) e (by simpa using he) hb
          exact (hl e.on (by omega)).2 ⟨by omega, hleast _ this⟩
      intro h0
      rw [h0] at this
      cases this
    refine ⟨fun h0 => absurd h0 hne, fun i hi => ?_⟩
    obtain ⟨hun, o, ho, hpre⟩ := mem_ready.1 hi
    have hil := (Array.getElem?_eq_some_iff.1 ho).1
    rw [getD_lt (by omega) true false] at hun
    have hanc : ∀ j, Anc ops i j → listed.getD j false = true := fun j hj => hj _ hcl o ho (fun e he hb => hpre e (by simpa using he) hb)
    have hip : i < pre.length := by
      rcases Nat.lt_or_ge i pre.length with h | h
      · exact h
      · exfalso
        have hj0p := hlt j0 hj0
        have := hanc j0 (hok.suf i h hil j0 (by omega))
        exact ((hl j0 (by omega)).1 this).2 hj0
    have hirem : i ∈ rem := by
      by_cases h : i ∈ rem
      · exact h
      · have := (hl i hil).2 ⟨hip, h⟩
        rw [hun] at this; cases this
    obtain ⟨d, mo, gd, q1, q2⟩ := k4 i hip
    obtain ⟨hint, m, g, e1, e2, e3, e4⟩ := c3 i (by omega) hip
    have hoi : (ops.toList.take pre.length)[i]'(by omega) = o := by
      have : ops.toList[i]? = some o := by rw [Array.getElem?_toList]; exact ho
      rw [List.getElem_take]
      obtain ⟨_, h2⟩ := List.getElem?_eq_some_iff.1 this
      exact h2
    rw [hoi] at e1 e2 e3 e4
    rw [q1] at e4
    injection e4 with e4a e4b e4c
    subst e4b; subst e4c
    have hdd : o.dst = some d := e4a.symm
    have hdN : d < N := by rw [hdd] at e3; simpa [dstOk] using e3
    have hdi_i : (dsts pre)[i]? = some d := dsts_get allD (by rw [List.getElem?_eq_getElem hip, q1])
    obtain ⟨φ, hrelC⟩ := hrel.open_
    have hread : ∀ x ∈ pre[i].reads, s.t x = if x ∈ dsts (pre.take i) then vs x else t0 x := by
      intro x hx
      rw [dsts_take allD]
      by_cases hxd : x ∈ dsts pre
      · obtain ⟨j, hj⟩ := List.mem_iff_getElem?.1 hxd
        obtain ⟨hji, hja⟩ := hok.reads i hip x hx j hj
        have : x ∈ (dsts pre).take i := List.mem_iff_getElem?.2 ⟨j, by rw [List.getElem?_take, if_pos hji]; exact hj⟩
        rw [if_pos this]
        exact (hdi.tL j (by omega) (hanc j hja) x hj).1
      · rw [if_neg (fun h => hxd (List.mem_of_mem_take h))]
        exact hdi.tU x (fun j _ _ hj => hxd (List.mem_of_getElem? hj))
    have hdnew : ∀ j, j < pre.length → listed.getD j false = true → (dsts pre)[j]? ≠ some d := fun j _ hlj hj => by
      have := nodup_get hok.nodup hj hdi_i
      subst this
      rw [hun] at hlj; cases hlj
    have hdnewh : ∀ j, j < pre.length → listed.getD j false = true → ∀ x, (dsts pre)[j]? = some x → hom x ≠ hom d := fun j hjp hlj x hj e => hdnew j hjp hlj (by rw [← hom_inj.1 e]; exact hj)
    refine outP_wp hrelC ho hdN hdd e1 e2 (s0 := ⟨fun x => if x ∈ dsts (pre.take i) then vs x else t0 x, h0⟩) ⟨fun q hq => ?_, fun x hx => ?_, ?_⟩ (fun t b hg => ?_) q2 (fun a' w' hrel' => ?_)
    · cases q with
      | tmp t =>
        have : s.t t = if t ∈ dsts (pre.take i) then vs t else t0 t := hread t (by
          rw [q1]
          simp only [MI.reads, List.mem_append, List.mem_filterMap]
          exact .inl ⟨.tmp t, hq, rfl⟩)
        simp only [St.get, this]
      | c v => rfl
    · exact hdi.hU x (fun j _ _ z hj e => hhid x hx (List.mem_map.2 ⟨z, List.mem_of_getElem? hj, e⟩))
    · show (s.h (hom d)).ver = (h0 (hom d)).ver
      rw [hdi.hU (hom d) hdnewh]
    · exact hread t (by
        rw [q1]
        simp only [MI.reads, List.mem_append]
        subst hg
        exact .inr (by simp))
    · refine ih (rem.erase i) _ _ a' w' (by rw [List.length_erase_of_mem hirem, hr]; rfl) (hnd.erase i) (by simpa using hs) (fun j hj => ?_) (fun j hj => hlt j (List.mem_of_mem_erase hj)) (fun j oj hoj hlj e he hb => ?_) ⟨fun j hj hlj x hx => ?_, fun x hx => ?_, fun y hy => ?_⟩ hrel'
      · by_cases hji : i = j
        · subst hji
          have : (listed.setIfInBounds i true).getD i false = true := by simp [show i < listed.size by omega]
          rw [this]
          simp only [true_iff]
          exact ⟨hip, fun h => (hnd.mem_erase_iff.1 h).1 rfl⟩
        · rw [getD_set_ne false hji, hl j hj, hnd.mem_erase_iff]
          constructor
          · rintro ⟨h1, h2⟩; exact ⟨h1, fun h => h2 h.2⟩
          · rintro ⟨h1, h2⟩; exact ⟨h1, fun h => h2 ⟨fun e => hji e.symm, h⟩⟩
      · show (listed.setIfInBounds i true).getD e.on false = true
        have hlj : (listed.setIfInBounds i true).getD j false = true := hlj
        refine getD_set_true ?_
        by_cases hji : i = j
        · subst hji
          rw [ho] at hoj
          injection hoj with hoj
          subst hoj
          exact hpre e (by simpa using he) hb
        · rw [getD_set_ne false hji] at hlj
          exact hcl j oj hoj hlj e he hb
      · by_cases hji : i = j
        · subst hji
          rw [hdi_i] at hx
          injection hx with hx
          subst hx
          refine ⟨by simp [upd], ?_⟩
          cases hb : bs (hom d) with
          | none => simp only [updO, Option.getD_none]; exact hdi.hU (hom d) hdnewh
          | some b => simp [updO, upd]
        · rw [getD_set_ne false hji] at hlj
          have hxd : x ≠ d := fun e => hji (by subst e; exact nodup_get hok.nodup hdi_i hx)
          obtain ⟨h1, h2⟩ := hdi.tL j hj hlj x hx
          refine ⟨by simpa [upd, hxd] using h1, ?_⟩
          rw [← h2]
          have hxh : hom x ≠ hom d := fun e => hxd (hom_inj.1 e)
          cases bs (hom d) <;> simp [updO, upd, hxh]
      · have hxd : x ≠ d := fun e => hx i hip (by simp [show i < listed.size by omega]) (by rw [e]; exact hdi_i)
        have h1 := hdi.tU x (fun j hj hlj => hx j hj (getD_set_true hlj))
        simpa [upd, hxd] using h1
      · have hxd : y ≠ hom d := fun e => hy i hip (by simp [show i < listed.size by omega]) d hdi_i e.symm
        have h2 := hdi.hU y (fun j hj hlj => hy j hj (getD_set_true hlj))
        rw [← h2]
        cases bs (hom d) <;> simp [updO, upd, hxd]

theorem draw_wp (hmix : P.follows .mixedOrders = true) {id : Nat} {pre hp hs suf : List MI} (hc : compL P N ops (ops.toList.take pre.length) hp = some pre) (hop : hp.all MI.isOp = true) (hc2 : compL P N ops (ops.toList.drop pre.length) hs = some suf) (hok : drawOk ops pre = true)
    {s : St} {a : Act} {w : World} {K : St → Prop} (hQ : ∀ s a w, K s → Rel w0 N s a w → Q .normal a w) (hr : Rel w0 N s a w)
    (hw : runP (RCs P) { s with h := hideH s.h ((dsts pre).map hom) } (hideH s.h ((dsts pre).map hom)) pre (fun s => runL (RCs P) s suf K)) : (Code.region id ops true).wp P Q a w := by
  have hok := drawOk_spec hok
  obtain ⟨vs, bs, s', k1, k2, k3, k4⟩ := runP_pts (hideH s.h ((dsts pre).map hom)) pre s.t (hideH s.h ((dsts pre).map hom)) _ hw hok.nodup
  obtain ⟨c1, c2, c3⟩ := compL_ops hp _ pre hc hop
  have hnp : pre.length ≤ ops.size := by rw [List.length_take] at c1; simp at c1; omega
  refine wp_region_any hmix ?_
  obtain ⟨φ, hrC⟩ := hr.open_
  have hrC' := hrC.called (w' := { w with drawn := w.drawn + 1 }) ⟨rfl, rfl, rfl, Nat.le_refl _, fun _ _ => rfl⟩
  have hrC2 := hrC'.weak (H' := hideH s.h ((dsts pre).map hom)) (fun x => by
    simp only [hideH]
    split
    · exact ⟨rfl, rfl, rfl, fun e => by simp at e, fun h => h⟩
    · exact ⟨rfl, rfl, rfl, fun h => h, fun h => h⟩)
  have := draw_pre (Q := Q) (w0 := w0) (N := N) hc hop hok (t0 := s.t) (h0 := hideH s.h ((dsts pre).map hom)) (vs := vs) (bs := bs) (s' := s') (fun x hx hxd => by simp only [hideH, hxd, if_true, Bool.false_eq_true] at hx) k2 k3 k4
    (fun a w hr' => by
      have := runL_wp (P := P) (ops := ops) (Q := Q) (K := K) (w0 := w0) (N := N) hQ hs _ pre.length suf s' a w hc2 rfl hr' k1
      rwa [List.length_drop, Array.length_toList] at this)
    pre.length (List.range pre.length) (Array.replicate ops.size false) ⟨s.t, hideH s.h ((dsts pre).map hom)⟩ a { w with drawn := w.drawn + 1 } (by simp) List.nodup_range (by simp)
    (fun j hj => by
      have : (Array.replicate ops.size false).getD j false = false := by simp [hj]
      rw [this]
      simp)
    (fun j hj => by simpa using hj)
    (fun j o hj hl => by
      have hl : (Array.replicate ops.size false).getD j false = true := hl
      simp [Array.getElem?_replicate] at hl
      split at hl <;> simp at hl)
    ⟨fun i hi hl => by
      simp [Array.getElem?_replicate] at hl
      split at hl <;> simp at hl, fun x _ => rfl, fun x _ => rfl⟩ hrC2.rel
  rwa [show pre.length + (ops.size - pre.length) = ops.size by omega] at this
end
end Go.Proofs.YtmblapgoimegkaaDoor
