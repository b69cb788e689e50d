/- A region of open order in a round: the engine's part, then what stands behind it by hand. -/
import Derived.Test.YtlbilkldjhhopaaG1
import Derived.Test.YtlbilkldjhhopaaE31
set_option linter.unusedSectionVars false
set_option linter.unusedVariables false
set_option linter.unusedSimpArgs false
namespace Go.Proofs.Ytlbilkldjhhopaa
open Go.RowKit

section
variable [Off] [Gh] [Old] {P : Program} {w0 : World} {N : Nat} {ops : Array Oper} {Q : Exit → Act → World → Prop}
theorem draw_any {pre hp : List MI} (hc : compL P N ops (ops.toList.take pre.length) hp = some pre) (hop : hp.all MI.isOp = true) (hok : drawOk ops pre = true)
    {s : St} {a : Act} {w : World} {K : St → Prop} (hEnd : ∀ s a w, K s → Rel w0 N s a w → wpOps P ops Q (List.range' pre.length (ops.size - pre.length)) a w) (hr : Rel w0 N s a w)
    (hw : runP (RCs P) { s with h := hideH s.h ((dsts pre).map hom) } (hideH s.h ((dsts pre).map hom)) pre K) : wpAny P .any ops Q ops.size (Array.replicate ops.size false) a { w with drawn := w.drawn + 1 } := by
  have hok := drawOk_spec hok
  obtain ⟨vs, bs, s', k1, k2, k3, k4⟩ := runP_pts (hideH s.h ((dsts pre).map hom)) pre s.t (hideH s.h ((dsts pre).map hom)) _ hw hok.nodup
  obtain ⟨c1, c2, c3⟩ := compL_ops hp _ pre hc hop
  have hnp : pre.length ≤ ops.size := by rw [List.length_take] at c1; simp at c1; omega
  obtain ⟨φ, hrC⟩ := hr.open_
  have hrC' := hrC.called (w' := { w with drawn := w.drawn + 1 }) ⟨rfl, rfl, rfl, Nat.le_refl _, fun _ _ => rfl⟩
  have hrC2 := hrC'.weak (H' := hideH s.h ((dsts pre).map hom)) (fun x => by
    simp only [hideH]
    split
    · exact ⟨rfl, rfl, rfl, fun e => by simp at e, fun h => h⟩
    · exact ⟨rfl, rfl, rfl, fun h => h, fun h => h⟩)
  have := draw_pre (Q := Q) (w0 := w0) (N := N) hc hop hok (t0 := s.t) (h0 := hideH s.h ((dsts pre).map hom)) (vs := vs) (bs := bs) (s' := s') (fun x hx hxd => by simp only [hideH, hxd, if_true, Bool.false_eq_true] at hx) k2 k3 k4
    (fun a w hr' => hEnd _ _ _ k1 hr')
    pre.length (List.range pre.length) (Array.replicate ops.size false) ⟨s.t, hideH s.h ((dsts pre).map hom)⟩ a { w with drawn := w.drawn + 1 } (by simp) List.nodup_range (by simp)
    (fun j hj => by
      have : (Array.replicate ops.size false).getD j false = false := by simp [hj]
      rw [this]
      simp)
    (fun j hj => by simpa using hj)
    (fun j o hj hl => by
      have hl : (Array.replicate ops.size false).getD j false = true := hl
      simp [Array.getElem?_replicate] at hl
      split at hl <;> simp at hl)
    ⟨fun i hi hl => by
      simp [Array.getElem?_replicate] at hl
      split at hl <;> simp at hl, fun x _ => rfl, fun x _ => rfl⟩ hrC2.rel
  rwa [show pre.length + (ops.size - pre.length) = ops.size by omega] at this
end
/-- what no operation writes stays as it is -/
theorem getD_put_ne {a : Act} {d : Option Nat} {z : Nat} (v : Value) (h : d ≠ some z) : (a.put d v).tmps.getD z undef = a.tmps.getD z undef := by
  cases d with
  | none => rfl
  | some d =>
    simp only [Act.put, Array.getD_eq_getD_getElem?, Array.getElem?_setIfInBounds]
    rw [if_neg (fun e => h (by rw [e]))]
theorem ops_frame {P : Program} {ops : Array Oper} {Q Q' : Exit → Act → World → Prop} {z : Nat} {v0 : Value} (hz : ∀ (i : Nat) (o : Oper), ops[i]? = some o → o.dst ≠ some z) (hQ : ¬ LetsOut Q)
    (hQQ : ∀ e a w, Q e a w → a.tmps.getD z undef = v0 → Q' e a w) : ∀ (is : List Nat) (a : Act) (w : World), a.tmps.getD z undef = v0 → wpOps P ops Q is a w → wpOps P ops Q' is a w
  | [], a, w, hv, h => hQQ _ _ _ h hv
  | i :: is, a, w, hv, h => by
    simp only [wpOps] at h ⊢
    cases ho : ops[i]? with
    | none => rw [ho] at h; exact ops_frame hz hQ hQQ is a w hv h
    | some o =>
      rw [ho] at h
      simp only at h ⊢
      have hne := hz i o ho
      split at h
      · rename_i hw
        rw [if_pos hw]
        rcases h with h | h
        · left
          unfold Oper.wp at h ⊢
          have go : ∀ v w', wpOps P ops Q is (a.put o.dst v) w' → wpOps P ops Q' is (a.put o.dst v) w' := fun v w' h' => ops_frame hz hQ hQQ is _ _ ((getD_put_ne v hne).trans hv) h'
          revert h
          generalize (execOp a.eval o).run P w = r
          intro h
          cases r with
          | ok x w' =>
            cases x with
            | value v => exact go _ _ h
            | skip => exact go _ _ h
            | defer d => exact ops_frame hz hQ hQQ is _ _ ((getD_put_ne (a := { a with defers := d :: a.defers }) undef hne).trans hv) h
            | enter f args =>
              refine Calls.mono h fun e w'' hr => ?_
              cases e with
              | returned v => exact go _ _ hr
              | panicked chain => exact hQQ _ _ _ hr hv
              | outgrown => exact absurd hr hQ
            | row row args => exact Rows.mono h fun v w'' hr => go _ _ hr
            | _ => exact h.elim
          | halt x w' =>
            cases x with
            | panic v => exact hQQ _ _ _ h hv
            | _ => exact h.elim
        · exact absurd h.2 hQ
      · rename_i hw
        rw [if_neg hw]
        exact ops_frame hz hQ hQQ is _ _ ((getD_put_ne undef hne).trans hv) h
theorem region_round {P : Program} {ops : Array Oper} {Q Q' : Exit → Act → World → Prop} {l n id z : Nat} {a : Act} {w : World} (hmix : P.follows .mixedOrders = true) (hd : ∀ (i : Nat) (o : Oper), ops[i]? = some o → ∀ c, o.op ≠ .defer c) (hQ : ¬ LetsOut Q) (hQ' : ¬ LetsOut Q') (hz : ∀ (i : Nat) (o : Oper), ops[i]? = some o → o.dst ≠ some z) (hQQ : ∀ e a' w', Q e a' w' → a'.tmps.getD z undef = a.tmps.getD z undef → Q' e a' w')
    (h : wpAny P .any ops Q ops.size (Array.replicate ops.size false) a { w with drawn := w.drawn + 1 }) : (Code.region id ops true).wpIn (Fence.wide.inRound l) n P Q' a w :=
  wpIn_region_draw fun t => by
    simp only [Region.schedule, hmix, Bool.true_or, if_true]
    exact opsIn_of_ops hd hQ' _ _ _ (ops_frame hz hQ hQQ _ _ _ rfl (wpAny_sound ops.size t _ a _ h))
end Go.Proofs.Ytlbilkldjhhopaa
