/- slices.Chunk over bytes, 64 by 64: what it hands back. -/
import Derived.Test.YtkphojcmjffccaaDoorZ1
import Derived.Test.YtkphojcmjffccaaDoorE31
import Derived.RangeFuncOwn
import Derived.RangeFuncLeaves
import Derived.RangeFuncCalls
set_option linter.unusedSimpArgs false
set_option linter.unusedSectionVars false
set_option linter.unusedVariables false
namespace Go.Proofs.YtkphojcmjffccaaDoor
open Go.RowKit Go.Shelf
attribute [local go_sem] Oper.semAt_some

set_option maxRecDepth 100000 in
set_option maxHeartbeats 1000000 in
theorem chunk_in (n : Nat) (a : Option Addr) (len cap : Nat) (w : World) : CallsIn Fence.wide n Tryd.prog 36 #[.slice a len cap, .int .i64 64] w fun e w' =>
    e = .returned (.func (.func 51) #[] #[.pointer (some ⟨w.heap.size, 0, none⟩), .pointer (some ⟨w.heap.size + 1, 0, none⟩)]) ∧ w' = (w.alloc (.cells #[.slice a len cap] 22)).alloc (.cells #[.int .i64 64] 3) := by
  refine callsIn_of_wp Tryd.func36 rfl trivial ?_ rfl
  simp only [Tryd.ntmps36, List.size_toArray, List.length_cons, List.length_nil, Nat.reduceAdd, Nat.reduceSub, Array.replicate_succ, Array.replicate_zero, List.push_toArray, List.append_toArray, List.nil_append, List.cons_append]
  gi_wp2
  go_ret
  exact ⟨rfl, rfl⟩

theorem chunk_ok (f : Fl) (n : Nat) (cs : List IV) : RC Tryd.prog 36 [.sl f n cs, .int .i64 64] [.clo 51 [.addr [.sl f n cs], .addr [.int .i64 64]]] := by
  refine ⟨by kernel_rfl, ?_⟩
  intro w A vals hA hnl hpu hv
  simp only [VRL] at hv
  obtain ⟨u, _, rfl, h1, u2, _, rfl, h2, rfl⟩ := hv
  have h1' := h1
  simp only [VR] at h1 h2
  obtain ⟨Aa, k, us, rfl, hk, hfk, hfb, hp, ho, hus, hat⟩ := h1
  subst h2
  have hfl : ¬ f = .lit := by rintro rfl; simp [IV.nlit] at hnl
  refine Calls.mono ((callsIn_wide (n := 3)).1 (chunk_in 3 Aa n k w)) ?_
  rintro e w' ⟨rfl, rfl⟩
  have hb : Below w.heap.size w ((w.alloc (.cells #[.slice Aa n k] 22)).alloc (.cells #[.int .i64 64] 3)) := ((Below.refl _ w).alloc (Nat.le_refl _) _).alloc (by simp) _
  have hone : (IV.sl f n cs).one = true := by cases f <;> first | rfl | exact absurd rfl hfl
  have hnl1 : (IV.sl f n cs).nlit = true := by cases f <;> first | rfl | exact absurd rfl hfl
  refine ⟨_, rfl, ⟨fun b => A b ∨ b = w.heap.size ∨ b = w.heap.size + 1, [_], rfl, ?_, ?_, by simp [isOwn]⟩, hb⟩
  · rintro b (h | rfl | rfl)
    · exact ⟨fun _ => h, by have := hA b h; simp; omega⟩
    · exact ⟨fun h => absurd h (Nat.lt_irrefl _), by simp; omega⟩
    · exact ⟨fun h => by omega, by simp⟩
  · refine .cons ⟨by simp [IV.pur, IV.purL, hp], rfl, ?_⟩ .nil
    have hev : EvoP (cArg A w) ⟨(w.alloc (.cells #[.slice Aa n k] 22)).alloc (.cells #[.int .i64 64] 3), fun b => A b ∨ b = w.heap.size ∨ b = w.heap.size + 1, deadH, fun _ => none, w.heap.size⟩ :=
      ⟨fun b h => .inl h, fun b h i => hb.cell (p := ⟨b, i, none⟩) (hA b h)⟩
    have hvv := h1'.evoP hev (by simp [IV.pur, hp]) hnl1
    simp only [VR, VRL]
    refine ⟨[_, _], rfl, rfl, _, _, rfl, ⟨_, [_], rfl, rfl, by simp [IV.purL, IV.pur, hp], by simp [hone], ⟨_, _, rfl, hvv, rfl⟩, ?_⟩, _, _, rfl, ⟨_, [_], rfl, rfl, by decide, by decide, ⟨_, _, rfl, rfl, rfl⟩, ?_⟩, rfl⟩
    · intro i hi
      obtain rfl : i = 0 := by simpa using hi
      refine ⟨_, rfl, rfl, .inr (.inl rfl), ?_⟩
      simp
    · intro i hi
      obtain rfl : i = 0 := by simpa using hi
      refine ⟨_, rfl, rfl, .inr (.inr rfl), ?_⟩
      simp
end Go.Proofs.YtkphojcmjffccaaDoor
/- A region's walk within a round of a range over a function. -/
set_option linter.unusedSimpArgs false
set_option linter.unusedSectionVars false
set_option linter.unusedVariables false
namespace Go.Proofs.YtkphojcmjffccaaDoor
open Go Go.RowKit

variable {P : Program} {ops : Array Oper} {Q : Exit → Act → World → Prop} {l n : Nat}

theorem rowsIn_round {row : String} {args : Array Value} {w : World} {R : Value → World → Prop} (h : Rows P row args w R) : RowsIn (Fence.wide.inRound l) n P row args w R := by
  intro c cs _
  obtain ⟨v, w', r, s⟩ := h c cs
  exact ⟨v, w', r, by rw [fenced_inRound]; exact stepsIn_wide.2 s⟩
theorem callsIn_round {f : FuncId} {args : Array Value} {w : World} {R : Ending → World → Prop} (h : Calls P f args w R) : CallsIn (Fence.wide.inRound l) n P f args w R :=
  CallsIn.inRound l (callsIn_wide.2 h)
theorem uponIn_round {o : Oper} {a : Act} {next next' : Act → World → Prop} (hn : ∀ a w, next a w → next' a w) {r : Result Next} (h : o.upon P a next Q r) : o.uponIn (Fence.wide.inRound l) n P a next' Q r := by
  cases r with
  | ok x w =>
    cases x with
    | value v => exact hn _ _ h
    | skip => exact hn _ _ h
    | defer d => exact hn _ _ h
    | enter f args =>
      refine ⟨fun hd => by simp [Fence.wide] at hd, callsIn_round (Calls.mono h fun e w' hr => ?_)⟩
      cases e with
      | returned v => exact hn _ _ hr
      | panicked chain => exact hr
      | outgrown => exact hr
    | row row args => exact ⟨fun hd => by simp [Fence.wide] at hd, rowsIn_round (Rows.mono h fun v w' hr => hn _ _ hr)⟩
    | _ => exact h.elim
  | halt x w =>
    cases x with
    | panic v => exact h
    | _ => exact h.elim
/-- what a region's walk shows, it shows in a round as well -/
theorem opsIn_of_ops (hd : ∀ (i : Nat) (o : Oper), ops[i]? = some o → ∀ c, o.op ≠ .defer c) (hQ : ¬ LetsOut Q) : ∀ (is : List Nat) (a : Act) (w : World), wpOps P ops Q is a w → wpOpsIn (Fence.wide.inRound l) n P ops Q is a w
  | [], _, _, h => h
  | i :: is, a, w, h => by
    simp only [wpOps] at h
    simp only [wpOpsIn]
    cases ho : ops[i]? with
    | none => rw [ho] at h; exact opsIn_of_ops hd hQ is a w h
    | some o =>
      rw [ho] at h
      simp only at h ⊢
      split at h
      · rename_i hw
        rw [if_pos hw]
        refine ⟨fun _ _ => trivial, ?_⟩
        rw [Oper.semAt_eq _ _ _ (hd i o ho)]
        rcases h with h | h
        · exact uponIn_round (fun a w hx => opsIn_of_ops hd hQ is a w hx) h
        · exact absurd h.2 hQ
      · rename_i hw
        rw [if_neg hw]
        exact ⟨fun _ _ => trivial, opsIn_of_ops hd hQ is _ _ h⟩
end Go.Proofs.YtkphojcmjffccaaDoor
/- A region of open order in a round: the engine's part, then what stands behind it by hand. -/
set_option linter.unusedSectionVars false
set_option linter.unusedVariables false
set_option linter.unusedSimpArgs false
namespace Go.Proofs.YtkphojcmjffccaaDoor
open Go.RowKit

section
variable [Off] [Gh] [Old] {P : Program} {w0 : World} {N : Nat} {ops : Array Oper} {Q : Exit → Act → World → Prop}
theorem draw_any {pre hp : List MI} (hc : compL P N ops (ops.toList.take pre.length) hp = some pre) (hop : hp.all MI.isOp = true) (hok : drawOk ops pre = true)
    {s : St} {a : Act} {w : World} {K : St → Prop} (hEnd : ∀ s a w, K s → Rel w0 N s a w → wpOps P ops Q (List.range' pre.length (ops.size - pre.length)) a w) (hr : Rel w0 N s a w)
    (hw : runP (RCs P) { s with h := hideH s.h ((dsts pre).map hom) } (hideH s.h ((dsts pre).map hom)) pre K) : wpAny P .any ops Q ops.size (Array.replicate ops.size false) a { w with drawn := w.drawn + 1 } := by
  have hok := drawOk_spec hok
  obtain ⟨vs, bs, s', k1, k2, k3, k4⟩ := runP_pts (hideH s.h ((dsts pre).map hom)) pre s.t (hideH s.h ((dsts pre).map hom)) _ hw hok.nodup
  obtain ⟨c1, c2, c3⟩ := compL_ops hp _ pre hc hop
  have hnp : pre.length ≤ ops.size := by rw [List.length_take] at c1; simp at c1; omega
  obtain ⟨φ, hrC⟩ := hr.open_
  have hrC' := hrC.called (w' := { w with drawn := w.drawn + 1 }) ⟨rfl, rfl, rfl, Nat.le_refl _, fun _ _ => rfl⟩
  have hrC2 := hrC'.weak (H' := hideH s.h ((dsts pre).map hom)) (fun x => by
    simp only [hideH]
    split
    · exact ⟨rfl, rfl, rfl, fun e => by simp at e, fun h => h⟩
    · exact ⟨rfl, rfl, rfl, fun h => h, fun h => h⟩)
  have := draw_pre (Q := Q) (w0 := w0) (N := N) hc hop hok (t0 := s.t) (h0 := hideH s.h ((dsts pre).map hom)) (vs := vs) (bs := bs) (s' := s') (fun x hx hxd => by simp only [hideH, hxd, if_true, Bool.false_eq_true] at hx) k2 k3 k4
    (fun a w hr' => hEnd _ _ _ k1 hr')
    pre.length (List.range pre.length) (Array.replicate ops.size false) ⟨s.t, hideH s.h ((dsts pre).map hom)⟩ a { w with drawn := w.drawn + 1 } (by simp) List.nodup_range (by simp)
    (fun j hj => by
      have : (Array.replicate ops.size false).getD j false = false := by simp [hj]
      rw [this]
      simp)
    (fun j hj => by simpa using hj)
    (fun j o hj hl => by
      have hl : (Array.replicate ops.size false).getD j false = true := hl
      simp [Array.getElem?_replicate] at hl
      split at hl <;> simp at hl)
    ⟨fun i hi hl => by
      simp [Array.getElem?_replicate] at hl
      split at hl <;> simp at hl, fun x _ => rfl, fun x _ => rfl⟩ hrC2.rel
  rwa [show pre.length + (ops.size - pre.length) = ops.size by omega] at this
end
/-- what no operation writes stays as it is -/
theorem getD_put_ne {a : Act} {d : Option Nat} {z : Nat} (v : Value) (h : d ≠ some z) : (a.put d v).tmps.getD z undef = a.tmps.getD z undef := by
  cases d with
  | none => rfl
  | some d =>
    simp only [Act.put, Array.getD_eq_getD_getElem?, Array.getElem?_setIfInBounds]
    rw [if_neg (fun e => h (by rw [e]))]
theorem ops_frame {P : Program} {ops : Array Oper} {Q Q' : Exit → Act → World → Prop} {z : Nat} {v0 : Value} (hz : ∀ (i : Nat) (o : Oper), ops[i]? = some o → o.dst ≠ some z) (hQ : ¬ LetsOut Q)
    (hQQ : ∀ e a w, Q e a w → a.tmps.getD z undef = v0 → Q' e a w) : ∀ (is : List Nat) (a : Act) (w : World), a.tmps.getD z undef = v0 → wpOps P ops Q is a w → wpOps P ops Q' is a w
  | [], a, w, hv, h => hQQ _ _ _ h hv
  | i :: is, a, w, hv, h => by
    simp only [wpOps] at h ⊢
    cases ho : ops[i]? with
    | none => rw [ho] at h; exact ops_frame hz hQ hQQ is a w hv h
    | some o =>
      rw [ho] at h
      simp only at h ⊢
      have hne := hz i o ho
      split at h
      · rename_i hw
        rw [if_pos hw]
        rcases h with h | h
        · left
          unfold Oper.wp at h ⊢
          have go : ∀ v w', wpOps P ops Q is (a.put o.dst v) w' → wpOps P ops Q' is (a.put o.dst v) w' := fun v w' h' => ops_frame hz hQ hQQ is _ _ ((getD_put_ne v hne).trans hv) h'
          revert h
          generalize (execOp a.eval o).run P w = r
          intro h
          cases r with
          | ok x w' =>
            cases x with
            | value v => exact go _ _ h
            | skip => exact go _ _ h
            | defer d => exact ops_frame hz hQ hQQ is _ _ ((getD_put_ne (a := { a with defers := d :: a.defers }) undef hne).trans hv) h
            | enter f args =>
              refine Calls.mono h fun e w'' hr => ?_
              cases e with
              | returned v => exact go _ _ hr
              | panicked chain => exact hQQ _ _ _ hr hv
              | outgrown => exact absurd hr hQ
            | row row args => exact Rows.mono h fun v w'' hr => go _ _ hr
            | _ => exact h.elim
          | halt x w' =>
            cases x with
            | panic v => exact hQQ _ _ _ h hv
            | _ => exact h.elim
        · exact absurd h.2 hQ
      · rename_i hw
        rw [if_neg hw]
        exact ops_frame hz hQ hQQ is _ _ ((getD_put_ne undef hne).trans hv) h
theorem region_round {P : Program} {ops : Array Oper} {Q Q' : Exit → Act → World → Prop} {l n id z : Nat} {a : Act} {w : World} (hmix : P.follows .mixedOrders = true) (hd : ∀ (i : Nat) (o : Oper), ops[i]? = some o → ∀ c, o.op ≠ .defer c) (hQ : ¬ LetsOut Q) (hQ' : ¬ LetsOut Q') (hz : ∀ (i : Nat) (o : Oper), ops[i]? = some o → o.dst ≠ some z) (hQQ : ∀ e a' w', Q e a' w' → a'.tmps.getD z undef = a.tmps.getD z undef → Q' e a' w')
    (h : wpAny P .any ops Q ops.size (Array.replicate ops.size false) a { w with drawn := w.drawn + 1 }) : (Code.region id ops true).wpIn (Fence.wide.inRound l) n P Q' a w :=
  wpIn_region_draw fun t => by
    simp only [Region.schedule, hmix, Bool.true_or, if_true]
    exact opsIn_of_ops hd hQ' _ _ _ (ops_frame hz hQ hQQ _ _ _ rfl (wpAny_sound ops.size t _ a _ h))
end Go.Proofs.YtkphojcmjffccaaDoor
