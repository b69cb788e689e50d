/- sha.Sum: the hash of parts. -/
import Derived.Test.YtlbilkldjhhopaaZ7
import Derived.Test.YtlbilkldjhhopaaZ9
set_option linter.unusedSectionVars false
set_option linter.unusedVariables false
set_option linter.unusedSimpArgs false
set_option maxRecDepth 100000
set_option maxHeartbeats 4000000
namespace Go.Proofs.Ytlbilkldjhhopaa
open Go.RowKit Go.Shelf

section
variable [Off] [Gh] [Old] {P : Program} {w0 : World} {N n : Nat} {c d : Code} {m m' : MCode} {Q' : Ex → St → Prop} {s : St} {a : Act} {w : World} {Q : Exit → Act → World → Prop}
theorem one_in (hc : compC P N c m = some m) (hw : Wp (RCs P) m Q' s) (hQ' : ∀ e s, Q' e s → e = .normal) (hr : Rel w0 N s a w) (k : ∀ s a w, Q' .normal s → Rel w0 N s a w → Q .normal a w) : c.wpIn Fence.wide n P Q a w := by
  refine wpIn_wide.2 (wp_mono (comp_wp m m c hc _ s a w hw hr) ?_)
  intro e a' w' h
  cases e with
  | normal => obtain ⟨s', h1, h2⟩ := h; exact k _ _ _ h1 h2
  | exit id => obtain ⟨s', h1, h2⟩ := h; cases hQ' _ _ h1
  | ret => obtain ⟨s', h1, h2⟩ := h; cases hQ' _ _ h1
  | _ => exact h.elim
theorem seq_in (hc : compC P N c m = some m) (hw : Wp (RCs P) (.seq m m') Q' s) (hQ' : ∀ e s, Q' e s → e = .normal) (hr : Rel w0 N s a w) (k : ∀ s a w, Wp (RCs P) m' Q' s → Rel w0 N s a w → d.wpIn Fence.wide n P Q a w) : (Code.seq c d).wpIn Fence.wide n P Q a w := by
  refine wpIn_seq ?_
  rw [Wp_seqE] at hw
  refine one_in hc hw ?_ hr (fun s a w h1 h2 => k s a w h1 h2)
  intro e s h
  cases e with
  | normal => rfl
  | exit id => exact hQ' _ _ h
  | ret => exact hQ' _ _ h
end

theorem putObj_cell {W : World} {D : Nat} {o o' : Obj} (h : W.heap[D]? = some o) (ho : ∀ cs T fr, o ≠ .cells cs T fr) (ho' : ∀ cs T fr, o' ≠ .cells cs T fr) (b i : Nat) : (W.putObj D o').cell? ⟨b, i, none⟩ = W.cell? ⟨b, i, none⟩ := by
  by_cases hb : b = D
  · subst hb
    have hlt := (Array.getElem?_eq_some_iff.1 h).1
    simp only [World.cell?, World.putObj_heap_same hlt, h]
    cases o <;> cases o' <;> first | rfl | exact absurd rfl (ho _ _ _) | exact absurd rfl (ho' _ _ _)
  · exact World.cell?_of_block (World.putObj_heap_other hb)

/-- an object that is no cells, taken, changes nothing the engine sees -/
theorem RelC.take {o : Old} {g : Gh} {φ : Nat → Option (Nat × Nat)} {w0 W : World} {N D : Nat} {s : St} {a : Act} {ob : Obj} (h : @RelC g o φ w0 N s a W) (hD : W.heap[D]? = some ob) (ho : ∀ cs T fr, ob ≠ .cells cs T fr) (ob' : Obj) (ho' : ∀ cs T fr, ob' ≠ .cells cs T fr) (h0 : w0.heap.size ≤ D) (hd : a.defers = a.defers) :
    @RelC ⟨fun _ _ => False, a.defers, []⟩ o φ w0 N s a (W.putObj D ob') := by
  obtain ⟨hs, ⟨hbel, _⟩, hsize, hdf, htt, hgg⟩ := h
  have hsz : (W.putObj D ob').heap.size = W.heap.size := by simp [World.putObj]
  have hbs : ∀ b, bsize (W.putObj D ob') b = bsize W b := by
    intro b
    by_cases hb : b = D
    · subst hb
      have hlt := (Array.getElem?_eq_some_iff.1 hD).1
      simp only [bsize, World.putObj_heap_same hlt, hD]
      cases ob <;> cases ob' <;> first | rfl | exact absurd rfl (ho _ _ _) | exact absurd rfl (ho' _ _ _)
    · simp only [bsize, World.putObj_heap_other hb]
  have hE : Evo (@sx o W s.h φ w0.heap.size) (@sx o (W.putObj D ob') s.h φ w0.heap.size) :=
    ⟨fun b hb => ⟨by rw [hsz]; exact hb.1, hb.2⟩, fun b _ i => putObj_cell hD ho ho' b i, Nat.le_refl _, fun _ => Nat.le_refl _, fun x hl _ => ⟨hl, rfl, Nat.le_refl _⟩, fun b => Nat.le_of_eq (hbs b).symm⟩
  refine @RelC.mk ⟨fun _ _ => False, a.defers, []⟩ o φ w0 N s a _ ⟨fun x hlx => ?_, hs.excl, by show w0.heap.size ≤ _; rw [hsz]; exact hs.size⟩ (@Bel.mk ⟨fun _ _ => False, a.defers, []⟩ w0 _ (hbel.grown (grownBy_putObj' W D ob') hbel.size (fun k e => by cases e; exact h0)) (fun p hp => by cases hp)) hsize rfl (fun t => (htt t).evo hE) (fun v u hg => hg.elim)
  obtain ⟨h1, h2, h3, h4⟩ := hs.home x hlx
  refine ⟨h1, h2, h3, ?_⟩
  cases hp : φ x with
  | none => simp only [hp] at h4 ⊢; exact h4
  | some p =>
    obtain ⟨b, o'⟩ := p
    simp only [hp] at h4 ⊢
    obtain ⟨cs, T', fr, us, g1, g2, g3, g4, g5⟩ := h4
    have hne : b ≠ D := by
      rintro rfl
      rw [hD] at g1
      exact ho _ _ _ (Option.some.inj g1)
    exact ⟨cs, T', fr, us, by rw [World.putObj_heap_other hne]; exact g1, g2, g3.evo hE, g4, g5⟩

theorem tail_in {A : Nat → Prop} {φ : Nat → Option (Nat × Nat)} {w W' : World} {s : St} {a : Act} {D n v2 v4 : Nat} {L : List UInt32} (hr : @RelC ⟨fun _ _ => False, [{ target := .collected D, args := #[] }], [(D, .deferred (some []))]⟩ ⟨A⟩ φ w 48 s a W') (h0 : w.heap.size ≤ D) (hL : L.length = 8)
    (k2 : s.t 2 = .ptr 2 0 v2) (kh2 : s.h 2 = ⟨v2, true, true, false, bl (zb 32)⟩) (k4 : s.t 4 = .ptr 4 0 v4) (kh4 : s.h 4 = ⟨v4, true, true, false, wl L⟩) :
    kD.wpIn Fence.wide n Try.prog (bodyPostM Fence.wide n Try.prog Try.f17 fun e w' => ∃ rv, e = .returned rv ∧ ResR A w w' [.agg (bl (digest L))] rv ∧ Below w.heap.size w w') a W' := by
  letI : Old := ⟨A⟩
  letI : Gh := ⟨fun _ _ => False, [{ target := .collected D, args := #[] }], [(D, .deferred (some []))]⟩
  have hrel : Rel w 48 s a W' := RelC.rel hr
  have hbl : (bl (digest L)).length = 32 := by rw [bl_length, digest_length]
  have htk : List.take 32 (bl (digest L)) = bl (digest L) := List.take_of_length_le (by omega)
  have hbe := behind L hL (v2 := v2) (v4 := v4) (fun e s => e = .ret ∧ s.ress [MRes.cell 2 true 32] = some [.agg (bl (digest L))]) s (fun s5 q1 q2 => ⟨rfl, by simp -implicitDefEqProofs (maxSteps := 2000000) only [q1, q2, hbl, htk, bl_scal, bl_pur, wk, act, asV, ↓reduceIte, Nat.reduceEqDiff, reduceCtorEq, Nat.reduceAdd, Nat.reduceLeDiff, Nat.reduceSub, Nat.reduceMul, List.reduceReplicate, Int.reduceEq, Int.reduceLT, Int.reduceLE, Int.reduceAdd, Int.reduceSub, Int.reduceMul, Nat.reduceLT, Int.reduceToNat]⟩) k2 kh2 k4 kh4
  refine wpIn_wide.2 (wp_mono (comp_wp mb_b mb_b kD cb_b _ s a W' hbe hrel) ?_)
  intro e a' w' h
  have fin : ∀ s', s'.ress [MRes.cell 2 true 32] = some [.agg (bl (digest L))] → Rel w 48 s' a' w' → LeavesInM Fence.wide n Try.prog Try.f17 a'.tmps (fun e w' => ∃ rv, e = .returned rv ∧ ResR A w w' [.agg (bl (digest L))] rv ∧ Below w.heap.size w w') a'.defers .returning w' := by
    intro s' hres hr'
    obtain ⟨φ', hrC⟩ := hr'.open_
    have hpin := hrC.below.pin (D, .deferred (some [])) (List.mem_singleton.2 rfl)
    have hdf : a'.defers = [{ target := .collected D, args := #[] }] := hrC.defers
    have htake := RelC.take hrC hpin.2 hpin.1 (.deferred none) (fun _ _ _ e => by cases e) h0 rfl
    rw [hdf]
    refine ⟨(fun e => by cases e), .inl ⟨D, _, rfl, run_takeDeferred hpin.2, ?_⟩⟩
    obtain ⟨rv, g1, g2⟩ := @results_run _ ⟨fun _ _ => False, a'.defers, []⟩ ⟨A⟩ Try.prog φ' w 48 s' a' _ htake Try.f17 [MRes.cell 2 true 32] [.agg (bl (digest L))] (by kernel_rfl) hres (by simp [isOwn])
    obtain ⟨_, ⟨hlo, _⟩, _, _, _, _⟩ := htake
    exact ⟨rv, g1, rv, rfl, g2, hlo⟩
  cases e with
  | normal => obtain ⟨s', ⟨h1, _⟩, _⟩ := h; cases h1
  | exit id => obtain ⟨s', ⟨h1, _⟩, _⟩ := h; cases h1
  | ret => obtain ⟨s', ⟨_, h1⟩, h2⟩ := h; exact fin s' h1 h2
  | _ => exact h.elim

theorem sum_ok (f : Fl) (hf : ¬ f = .lit) (ps : List (Fl × List UInt8)) (hn : ps.length < 2 ^ 63) (hl : (joined ps).length ≤ 2 ^ 40) : RC Try.prog 17 [.sl f ps.length (pl ps)] [.agg (bl (shaB (joined ps)))] := by
  refine ⟨by kernel_rfl, ?_⟩
  intro w A vals hA hnl hpu hv
  letI : Old := ⟨A⟩
  letI : Gh := ⟨fun _ _ => False, [], []⟩
  have hlen := hv.length
  have hv1 : vals.length = 1 := by simpa using hlen
  obtain ⟨W, hW⟩ : ∃ W, W = joined ps := ⟨_, rfl⟩
  have hpl := padB_length W.length
  have hz : padZ W.length < 64 := Nat.mod_lt _ (by decide)
  obtain ⟨M, hM⟩ : ∃ M, M = W ++ padB W.length := ⟨_, rfl⟩
  have hMl : M.length = W.length + (padB W.length).length := by rw [hM, List.length_append]
  have hMb : bl M = bl W ++ bl (padB W.length) := by rw [hM, bl_append]
  obtain ⟨K, hK⟩ : ∃ K, K = (W.length + 9 + padZ W.length) / 64 := ⟨_, rfl⟩
  have hMK : M.length = 64 * K := by rw [hMl, hpl, hK]; unfold padZ; omega
  have hK0 : 0 < K := by omega
  have hd : shaB W = digest (hashN M K).l := by rw [hM, hK]; rfl
  rw [← hW] at hl
  have hfn : Try.prog.funcs[17]? = some Try.f17 := Try.func17
  have hnt : Try.f17.ntmps = 48 := by kernel_rfl
  refine (callsIn_wide (n := 9)).1 (callsIn_of_wp_marks hfn b17_eq trivial ?_ rfl)
  rw [hnt]
  have hsz : (vals.toArray ++ Array.replicate (48 - vals.toArray.size) undef).size = 48 := by
    simp only [Array.size_append, List.size_toArray, Array.size_replicate]
    omega
  have hrel : Rel w 48 (St.start [.sl f ps.length (pl ps)]) { tmps := vals.toArray ++ Array.replicate (48 - vals.toArray.size) undef, defers := [] } w := by
    refine ⟨fun _ => none, ⟨fun x hl => by simp [St.start, deadH] at hl, fun x y p q hl => by simp [St.start, deadH] at hl, Nat.le_refl _⟩, ⟨Below.refl _ _, fun p hp => by cases hp⟩, hsz, rfl, fun t => ?_, fun v u h => h.elim⟩
    have hv' := hv.evoP ((deadSx A w).2 hA) hpu hnl
    simp only [St.start]
    by_cases ht : t < 1
    · obtain rfl : t = 0 := by omega
      have e2 : (vals.toArray ++ Array.replicate (48 - vals.toArray.size) undef).getD 0 undef = vals[0]'(by omega) := by
        rw [Array.getD_eq_getD_getElem?, Array.getElem?_append_left (by simp; omega)]
        simp [show 0 < vals.length by omega]
      rw [e2]
      exact hv'.get 0 (by simp) (by omega)
    · have e1 : [IV.sl f ps.length (pl ps)].getD t (.tup []) = .tup [] := by simp [List.getD_eq_getElem?_getD, List.getElem?_eq_none (show [IV.sl f ps.length (pl ps)].length ≤ t by simp; omega)]
      have e2 : (vals.toArray ++ Array.replicate (48 - vals.toArray.size) undef).getD t undef = undef := by
        rw [Array.getD_eq_getD_getElem?, Array.getElem?_append_right (by simp; omega), Array.getElem?_replicate]
        split <;> rfl
      rw [e1, e2]
      exact undef_VR
  have hah := ahead f hf ps hn (by rw [← hW]; exact hl) (fun e s => e = .normal ∧ ∃ v2 v4, s.t 2 = .ptr 2 0 v2 ∧ s.h 2 = ⟨v2, true, true, false, bl (zb 32)⟩ ∧ s.t 4 = .ptr 4 0 v4 ∧ s.h 4 = ⟨v4, true, true, false, wl start8.l⟩ ∧ s.t 19 = .clo 49 [.addr [.sl .plain (64 * K) (bl M)], .addr [.int .i64 64]])
    (fun s v2 v4 e1 e2 e3 e4 e5 => ⟨rfl, v2, v4, e1, e2, e3, e4, by rw [e5, ← hW, ← hMb, ← hMl, hMK]⟩)
  refine seq_in ca_0 hah (fun _ _ h => h.1) hrel fun s1 a1 w1 h1 r1 => ?_
  refine seq_in ca_1 h1 (fun _ _ h => h.1) r1 fun s2 a2 w2 h2 r2 => ?_
  refine seq_in ca_2 h2 (fun _ _ h => h.1) r2 fun s3 a3 w3 h3 r3 => ?_
  refine wpIn_seq (wpIn_seq (one_in ca_3 h3 (fun _ _ h => h.1) r3 fun s4 a4 w4 h4 r4 => ?_))
  obtain ⟨_, v2, v4, e1, e2, e3, e4, e5⟩ := h4
  obtain ⟨φ, r4⟩ := r4.open_
  refine wpIn_block ?_
  refine loop_in r4 (by decide) hK0 hMK (by omega) e5 e3 e4 _ ?_
  intro D W' hr hD hD0
  refine wpIn_mono (Q := bodyPostM Fence.wide 9 Try.prog Try.f17 fun e w' => ∃ rv, e = .returned rv ∧ ResR A w w' [.agg (bl (digest (hashN M K).l))] rv ∧ Below w.heap.size w w') ?_ ?_
  · exact tail_in hr hD0 (H8_len _) e1 (by simp only [upd, show (2 : Nat) ≠ 4 by decide, if_false]; exact e2) e3 (by simp only [upd, if_true, e4])
  · intro e a w' h
    rw [← hW, hd]
    exact h
end Go.Proofs.Ytlbilkldjhhopaa
