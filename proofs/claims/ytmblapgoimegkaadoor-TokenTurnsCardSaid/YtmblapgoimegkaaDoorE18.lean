/- Regions whose order is open: the trace. -/
import Derived.Test.YtmblapgoimegkaaDoorE17
set_option linter.unusedSectionVars false
set_option linter.unusedVariables false
set_option linter.unusedSimpArgs false
namespace Go.Proofs.YtmblapgoimegkaaDoor
open Go.RowKit

section
variable [Off] (R : Cs)
def OutO (s : St) (d : Nat) (o : MOp) (v : IV) (b : Option Blk) : Prop :=
  match o with
  | .call f args => ∃ as r, s.snaps args = some as ∧ R.C f as r ∧ (s.stabs args = true ∨ r.all IV.scalR = true) ∧ v = asRes (impV (hom d) ((s.h (hom d)).ver + 1) r).1 ∧ b = (impV (hom d) ((s.h (hom d)).ver + 1) r).2.map (freshBlk s (hom d) true true)
  | .callp f args => ∃ as r, s.snaps args = some as ∧ R.C f as r ∧ (s.stabs args = true ∨ r.all IV.scalR = true) ∧ v = asRes (plainL r) ∧ b = none
  | o => ∃ e, neu s d o = some e ∧ v = e.v ∧ b = e.b
def OutP (s : St) (d : Nat) (o : MOp) (g : Option (Nat × Bool)) (v : IV) (b : Option Blk) : Prop :=
  match g with
  | none => OutO R s d o v b
  | some (t, x) => (∃ y, s.t t = .bool y ∧ (y = x → OutO R s d o v b) ∧ (y ≠ x → v = .tup [] ∧ b = none)) ∨ (s.t t = .tup [] ∧ v = .tup [] ∧ b = none)
end
def updO (h : Nat → Blk) (d : Nat) (b : Option Blk) : Nat → Blk := match b with
  | some b => upd h d b
  | none => h

section
variable [Off] {R : Cs}

theorem runP_op {s : St} {g : Nat → Blk} {d : Nat} {o : MOp} {l : List MI} {K : St → Prop}
    (h : (match o with
      | .call f args => ∃ as r, s.snaps args = some as ∧ R.C f as r ∧ (s.stabs args = true ∨ r.all IV.scalR = true) ∧
          runP R { s with t := upd s.t d (asRes (impV (hom d) ((s.h (hom d)).ver + 1) r).1) } (match (impV (hom d) ((s.h (hom d)).ver + 1) r).2 with | some cs => upd g (hom d) (freshBlk s (hom d) true true cs) | none => g) l K
      | .callp f args => ∃ as r, s.snaps args = some as ∧ R.C f as r ∧ (s.stabs args = true ∨ r.all IV.scalR = true) ∧ runP R { s with t := upd s.t d (asRes (plainL r)) } g l K
      | o => match neu s d o with
        | some e => runP R { s with t := upd s.t d e.v } (match e.b with | some b => upd g (hom d) b | none => g) l K
        | none => False)) : ∃ v b, OutO R s d o v b ∧ runP R { s with t := upd s.t d v } (updO g (hom d) b) l K := by
  have gen : (match neu s d o with
        | some e => runP R { s with t := upd s.t d e.v } (match e.b with | some b => upd g (hom d) b | none => g) l K
        | none => False) → ∃ v b, (∃ e, neu s d o = some e ∧ v = e.v ∧ b = e.b) ∧ runP R { s with t := upd s.t d v } (updO g (hom d) b) l K := by
    intro h
    split at h
    · rename_i e he
      refine ⟨e.v, e.b, ⟨e, he, rfl, rfl⟩, ?_⟩
      cases hb : e.b with
      | none => rw [hb] at h; exact h
      | some b => rw [hb] at h; exact h
    · exact h.elim
  cases o
  case call f args =>
    obtain ⟨as, r, h1, h2, hst, h3⟩ := h
    refine ⟨_, _, ⟨as, r, h1, h2, hst, rfl, rfl⟩, ?_⟩
    cases hi : (impV (hom d) ((s.h (hom d)).ver + 1) r).2 with
    | none => rw [hi] at h3; exact h3
    | some cs => rw [hi] at h3; exact h3
  case callp f args =>
    obtain ⟨as, r, h1, h2, hst, h3⟩ := h
    exact ⟨_, _, ⟨as, r, h1, h2, hst, rfl, rfl⟩, h3⟩
  all_goals exact gen h

theorem runP_cons {s : St} {g : Nat → Blk} {d : Nat} {o : MOp} {gd : Option (Nat × Bool)} {l : List MI} {K : St → Prop} (h : runP R s g (.op (some d) o gd :: l) K) :
    ∃ v b, OutP R s d o gd v b ∧ runP R { s with t := upd s.t d v } (updO g (hom d) b) l K := by
  cases gd with
  | none => exact runP_op h
  | some tb =>
    obtain ⟨t, x⟩ := tb
    simp only [runP] at h
    split at h
    · rename_i y hy
      split at h
      · rename_i hyx
        obtain ⟨v, b, h1, h2⟩ := runP_op h
        exact ⟨v, b, .inl ⟨y, hy, fun _ => h1, fun n => absurd hyx n⟩, h2⟩
      · rename_i hyx
        exact ⟨.tup [], none, .inl ⟨y, hy, fun e => absurd e hyx, fun _ => ⟨rfl, rfl⟩⟩, h⟩
    · rename_i ht
      exact ⟨.tup [], none, .inr ⟨ht, rfl, rfl⟩, h⟩
    · exact h.elim

theorem mem_dsts {d : Nat} {o : MOp} {g : Option (Nat × Bool)} : ∀ {l : List MI}, MI.op (some d) o g ∈ l → d ∈ dsts l
  | m :: l, h => by
    rcases List.mem_cons.1 h with h | h
    · subst h; simp [dsts]
    · have := mem_dsts h
      cases m with
      | op d'' o'' g'' => cases d'' <;> simp [dsts, this]
      | frz t => simpa [dsts] using this
      | kill ts => simpa [dsts] using this

theorem mem_dsts_take {x : Nat} : ∀ {l : List MI} {i : Nat}, x ∈ dsts (l.take i) → x ∈ dsts l
  | [], i, h => by simp [dsts] at h
  | m :: l, 0, h => by simp [dsts] at h
  | m :: l, i + 1, h => by
    rw [List.take_succ_cons] at h
    cases m with
    | op d'' o'' g'' =>
      cases d'' with
      | none => simp only [dsts] at h ⊢; exact mem_dsts_take h
      | some d'' =>
        simp only [dsts, List.mem_cons] at h ⊢
        rcases h with h | h
        · exact .inl h
        · exact .inr (mem_dsts_take h)
    | frz t => simp only [dsts] at h ⊢; exact mem_dsts_take h
    | kill ts => simp only [dsts] at h ⊢; exact mem_dsts_take h

theorem runP_pts (h0 : Nat → Blk) : ∀ (pre : List MI) (t : Nat → IV) (g : Nat → Blk) (K : St → Prop), runP R ⟨t, h0⟩ g pre K → (dsts pre).Nodup →
    ∃ (vs : Nat → IV) (bs : Nat → Option Blk) (s' : St), K s' ∧ (∀ x, s'.t x = if x ∈ dsts pre then vs x else t x) ∧ (∀ y, s'.h y = if y ∈ (dsts pre).map hom then (bs y).getD (g y) else g y) ∧
      ∀ i (hi : i < pre.length), ∃ d o gd, pre[i] = .op (some d) o gd ∧ OutP R ⟨fun x => if x ∈ dsts (pre.take i) then vs x else t x, h0⟩ d o gd (vs d) (bs (hom d))
  | [], t, g, K, h, _ => ⟨t, fun _ => none, _, h, fun x => by simp [dsts], fun x => by simp [dsts], fun i hi => by simp at hi⟩
  | .op (some d) o gd :: l, t, g, K, h, hn => by
    obtain ⟨v, b, h1, h2⟩ := runP_cons h
    simp only [dsts, List.nodup_cons] at hn
    obtain ⟨vs, bs, s', k1, k2, k3, k4⟩ := runP_pts h0 l _ _ K h2 hn.2
    have hnh : hom d ∉ (dsts l).map hom := by
      intro hm
      obtain ⟨e, he, hee⟩ := List.mem_map.1 hm
      exact hn.1 ((hom_inj.1 hee) ▸ he)
    refine ⟨upd vs d v, upd bs (hom d) b, s', k1, fun x => ?_, fun y => ?_, fun i hi => ?_⟩
    · rw [k2 x]
      simp only [dsts, List.mem_cons, upd]
      by_cases hx : x = d
      · subst hx; rw [if_neg hn.1]; simp
      · simp [hx]
    · rw [k3 y]
      simp only [dsts, List.map_cons, List.mem_cons, upd]
      by_cases hx : y = hom d
      · subst hx
        rw [if_neg hnh]
        cases b <;> simp [updO, upd]
      · have : updO g (hom d) b y = g y := by cases b <;> simp [updO, upd, hx]
        simp only [hx, this, false_or, if_false]
    · cases i with
      | zero =>
        refine ⟨d, o, gd, rfl, ?_⟩
        simpa [dsts, upd] using h1
      | succ i =>
        obtain ⟨d', o', gd', q1, q2⟩ := k4 i (by simpa using hi)
        refine ⟨d', o', gd', q1, ?_⟩
        have hd' : d' ∈ dsts l := mem_dsts (by rw [← q1]; exact List.getElem_mem _)
        have hne : d' ≠ d := fun e => hn.1 (e ▸ hd')
        have hneh : hom d' ≠ hom d := fun e => hne (hom_inj.1 e)
        have e1 : upd vs d v d' = vs d' := by simp [upd, hne]
        have e2 : upd bs (hom d) b (hom d') = bs (hom d') := by simp [upd, hneh]
        rw [e1, e2]
        have e3 : (fun x => if x ∈ dsts (List.take (i + 1) (MI.op (some d) o gd :: l)) then upd vs d v x else t x) = (fun x => if x ∈ dsts (l.take i) then vs x else upd t d v x) := by
          funext x
          simp only [List.take_succ_cons, dsts, List.mem_cons, upd]
          by_cases hx : x = d
          · subst hx
            have : x ∉ dsts (l.take i) := fun hh => hn.1 (mem_dsts_take hh)
            simp [this]
          · simp [hx]
        rw [e3]
        exact q2
  | .op none _ _ :: _, _, _, _, h, _ => by simp [runP] at h
  | .frz _ :: _, _, _, _, h, _ => by simp [runP] at h
  | .kill _ :: _, _, _, _, h, _ => by simp [runP] at h
end

section
variable [Off] [Gh] [Old] {P : Program} {φ : Nat → Option (Nat × Nat)} {w0 : World} {N : Nat} {s s0 : St} {a : Act} {w w' : World} {d : Nat} {e : Eff}

theorem neu_noAct {m : MOp} (h : neu s d m = some e) : isAct s m = false := by
  cases m <;> first | rfl | (simp [neu] at h; done) | skip
  simp only [neu] at h
  simp only [isAct]
  split at h
  · rename_i hx _; rw [hx]
  · cases h

theorem outO_wp (h : RelC φ w0 N s a w) {o : Oper} (hd : d < N) (hdd : o.dst = some d) {hint m : MOp} (hm : cop P o hint = some m) (hl : Le s0 s d m.opds) {v : IV} {b : Option Blk} (hr : OutO (RCs P) s0 d m v b)
    {next : Act → World → Prop} {Q : Exit → Act → World → Prop} (hk : ∀ a' w', Rel w0 N ⟨upd s.t d v, updO s.h (hom d) b⟩ a' w' → next a' w') : o.wp P a w next Q := by
  have hd' : ∀ x, o.dst = some x → x < N := fun x hx => by rw [hdd] at hx; injection hx with hx; subst hx; exact hd
  refine runOp_wp (K := fun s' => s' = ⟨upd s.t d v, updO s.h (hom d) b⟩) h hd' hm ?_ (fun s' a' w' e hr => by subst e; exact hk _ _ hr)
  rw [hdd]
  have gen : (∃ e, neu s0 d m = some e ∧ v = e.v ∧ b = e.b) → (if isAct s m then (match act s (some d) m with | some s' => s' = ⟨upd s.t d v, updO s.h (hom d) b⟩ | none => False) else (match neu s d m with | some e => s.eff d e = ⟨upd s.t d v, updO s.h (hom d) b⟩ | none => False)) := by
    rintro ⟨e, he, rfl, rfl⟩
    have he' := neu_mono hl he
    rw [neu_noAct he', he']
    simp only [Bool.false_eq_true, if_false, St.eff, updO]
    cases e.b <;> rfl
  cases m
  case call f args =>
    obtain ⟨as, r, h1, h2, hst, rfl, rfl⟩ := hr
    refine ⟨as, r, hl.snaps_ (fun q hq => hl.get q hq) h1, h2, hst.imp (hl.stabs_ (fun q hq => hl.get q hq) h1) id, ?_⟩
    simp only [St.imp, updO, ← hl.ver]
    cases hi : (impV (hom d) ((s.h (hom d)).ver + 1) r).2 with
    | none => simp
    | some cs => simp [hl.fresh]
  case callp f args =>
    obtain ⟨as, r, h1, h2, hst, rfl, rfl⟩ := hr
    exact ⟨as, r, hl.snaps_ (fun q hq => hl.get q hq) h1, h2, hst.imp (hl.stabs_ (fun q hq => hl.get q hq) h1) id, rfl⟩
  case calln f args =>
    obtain ⟨e, he, _⟩ := hr
    simp [neu] at he
  case calli x args =>
    obtain ⟨e, he, _⟩ := hr
    simp [neu] at he
  all_goals exact gen hr

theorem outP_wp (h : RelC φ w0 N s a w) {ops : Array Oper} {i : Nat} {o : Oper} (ho : ops[i]? = some o) (hd : d < N) (hdd : o.dst = some d) {hint m : MOp} (hm : cop P o hint = some m) {g : Option (Nat × Bool)} (hg : guardT ops o.guard = some g)
    (hl : Le s0 s d m.opds) (hgt : ∀ t b, g = some (t, b) → s.t t = s0.t t) {v : IV} {b : Option Blk} (hr : OutP (RCs P) s0 d m g v b)
    {next : Act → World → Prop} {Q : Exit → Act → World → Prop} (hk : ∀ a' w', Rel w0 N ⟨upd s.t d v, updO s.h (hom d) b⟩ a' w' → next a' w') : wpOp P ops Q i next a w := by
  unfold wpOp
  simp only [ho]
  have skip : v = .tup [] → b = none → next (a.put o.dst undef) w := by
    rintro rfl rfl
    refine hk _ _ ?_
    have := h.skip (dst := some d) (by simpa [dstOk] using hd)
    rw [hdd]
    exact this.rel
  cases g with
  | none =>
    rw [wanted_none (guardT_none hg)]
    exact .inl (outO_wp h hd hdd hm hl hr hk)
  | some tb =>
    obtain ⟨t, x⟩ := tb
    obtain ⟨gi, hg1, hg2⟩ := guardT_some hg
    have ht := hgt t x rfl
    rw [wanted_some hg1]
    rcases hr with ⟨y, hy, hyes, hno⟩ | ⟨hy, hv, hb⟩
    · rw [yield_bool h hg2 (ht.trans hy)]
      by_cases hxy : y = x
      · subst hxy
        simp only [BEq.rfl, if_true]
        exact .inl (outO_wp h hd hdd hm hl (hyes rfl) hk)
      · have : (some y == some x) = false := by simp; exact hxy
        rw [this]
        obtain ⟨e1, e2⟩ := hno hxy
        exact skip e1 e2
    · rw [yield_none h hg2 (ht.trans hy)]
      exact skip hv hb
end
end Go.Proofs.YtmblapgoimegkaaDoor
