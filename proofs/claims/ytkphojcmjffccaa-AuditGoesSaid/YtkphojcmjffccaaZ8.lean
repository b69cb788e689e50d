/- sha.Sum's loop: what stays between its rounds. -/
import Derived.Test.YtkphojcmjffccaaS10
import Derived.RangeFuncFrom
import Derived.Test.YtkphojcmjffccaaE31
set_option linter.unusedSimpArgs false
set_option linter.unusedSectionVars false
set_option linter.unusedVariables false
namespace Go.Proofs.Ytkphojcmjffccaa
open Go.RowKit Go.Shelf

local instance ghZ5 : Gh := ⟨fun _ _ => False, [], []⟩
local instance oldZ5 : Old := ⟨fun _ => False⟩
structure Inv (w0 w3 : World) (b4 o4 : Nat) (T : TypeId) (L : List UInt32) (W : World) : Prop where
  size : w3.heap.size ≤ W.heap.size
  keep : ∀ k, k < w3.heap.size → k ≠ b4 → W.heap[k]? = w3.heap[k]?
  below : Below w0.heap.size w0 W
  at_ : ∃ cs, W.heap[b4]? = some (.cells cs T (0, 0)) ∧ bsize W b4 = bsize w3 b4 ∧ o4 + 8 ≤ cs.size ∧ ∀ i (h : i < (w32v L).length), cs[o4 + i]? = some (w32v L)[i]

theorem Inv.grown {w0 w3 : World} {b4 o4 : Nat} {T : TypeId} {L : List UInt32} {W W' : World} {row : Option Nat} (h : Inv w0 w3 b4 o4 T L W) (hb4 : b4 < w3.heap.size) (h0 : w0.heap.size ≤ w3.heap.size) (hg : W.grownBy W' row) (hr : ∀ r, row = some r → w3.heap.size ≤ r) : Inv w0 w3 b4 o4 T L W' := by
  have hk : ∀ k, k < w3.heap.size → W'.heap[k]? = W.heap[k]? := fun k hk => hg.block k (Nat.lt_of_lt_of_le hk h.size) (fun e => by have := hr k e.symm; omega)
  obtain ⟨cs, h1, h2, h3, h4⟩ := h.at_
  refine ⟨Nat.le_trans h.size hg.size, fun k hkl hne => (hk k hkl).trans (h.keep k hkl hne), ?_, cs, (hk b4 hb4).trans h1, ?_, h3, h4⟩
  · exact h.below.grown hg (by have := h.size; omega) (fun k e => Nat.le_trans h0 (hr k e))
  · rw [← h2]; simp only [bsize, hk b4 hb4]

theorem cell_of {W : World} {b : Nat} {cs : Array Value} {T : TypeId} {fr : Nat × Nat} (h : W.heap[b]? = some (.cells cs T fr)) (i : Nat) : W.cell? ⟨b, i, none⟩ = cs[i]? := by
  simp [World.cell?, h]

theorem Inv.load {w0 w3 : World} {b4 o4 : Nat} {T : TypeId} {L : List UInt32} {W : World} (h : Inv w0 w3 b4 o4 T L W) (hL : L.length = 8) : ∀ W', W'.heap = W.heap → (Instr.loadAt 76 (.pointer (some ⟨b4, o4, none⟩))).run Try.prog W' = .ok (.agg (w32v L).toArray) W' := by
  intro W' hW'
  obtain ⟨cs, h1, h2, h3, h4⟩ := h.at_
  have h1' : W'.heap[b4]? = some (.cells cs T (0, 0)) := by rw [hW']; exact h1
  have hr : W'.rangeAt b4 o4 (w32v L) := by
    intro j v hj
    obtain ⟨hlt, rfl⟩ := List.getElem?_eq_some_iff.1 hj
    rw [cell_of h1']; exact h4 j hlt
  obtain ⟨i, hi⟩ : ∃ i, Try.prog.info? 76 = some i := Option.isSome_iff_exists.1 (by kernel_rfl)
  have hag : aggT Try.prog 76 = true := by kernel_rfl
  have hce : Try.prog.cellsOf 76 = 8 := by kernel_rfl
  obtain ⟨rv, g1, g2, _⟩ := run_load_at hr Try.underlying76 hi (by rw [if_pos hag, hce]; simp [w32v, hL])
  rw [g1, g2 hag]

theorem w32v_one (L : List UInt32) : ∀ v ∈ w32v L, v.oneCell' = true := by
  intro v hv
  simp only [w32v, List.mem_map] at hv
  obtain ⟨x, _, rfl⟩ := hv
  rfl
theorem Inv.store {w0 w3 : World} {b4 o4 : Nat} {T : TypeId} {L L' : List UInt32} {W : World} (h : Inv w0 w3 b4 o4 T L W) (hb4 : b4 < w3.heap.size) (h0 : w0.heap.size ≤ b4) (hL : L'.length = 8) :
    ∀ W', Below W.heap.size W W' → ∃ W2, (Instr.storeAt 76 (.pointer (some ⟨b4, o4, none⟩)) (.agg (w32v L').toArray)).run Try.prog W' = .ok () W2 ∧ (KeepsOthers W W2 ∧ (∀ k, k < w3.heap.size → k ≠ b4 → W2.heap[k]? = W.heap[k]?) ∧ Inv w0 w3 b4 o4 T L' W2) := by
  intro W' hB
  obtain ⟨cs, h1, h2, h3, h4⟩ := h.at_
  have hlt : b4 < W.heap.size := Nat.lt_of_lt_of_le hb4 h.size
  have h1' : W'.heap[b4]? = some (.cells cs T (0, 0)) := by rw [hB.block b4 hlt]; exact h1
  have hlen : (w32v L').length = 8 := by simp [w32v, hL]
  have hrun := run_storeCells_at Try.prog b4 o4 T (w32v L') 0 cs W' h1' (by rw [hlen]; omega) (w32v_one L')
  simp only [Nat.add_zero] at hrun
  obtain ⟨W2, hW2⟩ : ∃ W2, W2 = W'.setRow b4 (cs.toList.take o4 ++ w32v L' ++ cs.toList.drop (o4 + (w32v L').length)).toArray := ⟨_, rfl⟩
  rw [← hW2] at hrun
  have hw : Wrote W' W2 b4 o4 (w32v L') := ⟨cs, T, h1', by rw [hlen]; omega, hW2⟩
  obtain ⟨i, hi⟩ : ∃ i, Try.prog.info? 76 = some i := Option.isSome_iff_exists.1 (by kernel_rfl)
  have hce : Try.prog.cellsOf 76 = 8 := by kernel_rfl
  have hsz : (Value.agg (w32v L').toArray).cells.size = Try.prog.cellsOf 76 := by rw [hce]; simp [Value.cells, hlen]
  have hold : ∀ k, k < W.heap.size → k ≠ b4 → W2.heap[k]? = W.heap[k]? := fun k hk hne => (hw.old hne).trans (hB.block k hk)
  refine ⟨W2, ?_, ⟨by rw [hw.size]; exact hB.size, fun k o hk ho => ?_⟩, fun k hk hne => hold k (Nat.lt_of_lt_of_le hk h.size) hne, ?_⟩
  · simp only [Instr.storeAt, Instr.sureAddr, storeVar, Sem.run_bind, Sem.run_pure, Result.andThen_ok, run_sizeOf W' hi, hsz, ne_eq, not_true_eq_false, if_false]
    have : (Value.agg (w32v L').toArray).cells.toList = w32v L' := by simp [Value.cells]
    rw [this, hrun]
  · have hkl := (Array.getElem?_eq_some_iff.1 hk).1
    have hne : k ≠ b4 := by rintro rfl; rw [h1] at hk; cases hk; cases ho
    rw [hold k hkl hne]; exact hk
  · obtain ⟨cs0, cs', T', e1, e2, e3, e4, e5, e6⟩ := hw.get
    rw [h1'] at e1
    cases e1
    refine ⟨by rw [hw.size]; exact Nat.le_trans h.size hB.size, fun k hk hne => (hold k (Nat.lt_of_lt_of_le hk h.size) hne).trans (h.keep k hk hne), hw.below (h.below.trans (hB.mono h.below.size)) h0, cs', e2, ?_, by omega, fun j hj => e5 j hj⟩
    rw [← h2, hw.bsize]
    simp only [bsize, h1', h1]
end Go.Proofs.Ytkphojcmjffccaa
/- sha.Sum's loop: the blocks, 64 by 64. -/
set_option linter.unusedSimpArgs false
set_option linter.unusedSectionVars false
set_option linter.unusedVariables false
namespace Go.Proofs.Ytkphojcmjffccaa
open Go.RowKit Go.Shelf

theorem RelC.reH {o : Old} {D : List Deferred} {φ : Nat → Option (Nat × Nat)} {w0 w3 W : World} {N b4 o4 : Nat} {T : TypeId} {s : St} {a : Act} {L L0 : List UInt32} (h : @RelC ⟨fun _ _ => False, [], []⟩ o φ w0 N s a w3) (hl : (s.h 4).live = true) (hrw : (s.h 4).rw = true) (hrow : (s.h 4).isRow = false) (hc : (s.h 4).cells = wl L0) (hL0 : L0.length = 8) (hL : L.length = 8) (hφ : φ 4 = some (b4, o4)) (hi : Inv w0 w3 b4 o4 T L W) (ps : List (Nat × Obj)) (hps : ∀ p ∈ ps, (∀ cs T fr, p.2 ≠ .cells cs T fr) ∧ W.heap[p.1]? = some p.2) :
    @RelC ⟨fun _ _ => False, D, ps⟩ o φ w0 N { s with h := upd s.h 4 { s.h 4 with cells := wl L } } { a with defers := D } W := by
  obtain ⟨hs, hbel, hsize, hdf, htt, hgg⟩ := h
  have hH4 : ∀ x, (upd s.h 4 { s.h 4 with cells := wl L } x).live = (s.h x).live ∧ (upd s.h 4 { s.h 4 with cells := wl L } x).rw = (s.h x).rw ∧ (upd s.h 4 { s.h 4 with cells := wl L } x).isRow = (s.h x).isRow ∧ (upd s.h 4 { s.h 4 with cells := wl L } x).ver = (s.h x).ver ∧ (upd s.h 4 { s.h 4 with cells := wl L } x).cells.length = (s.h x).cells.length := by
    intro x
    by_cases hx : x = 4
    · subst hx; simp only [upd, if_true]; refine ⟨trivial, trivial, trivial, trivial, ?_⟩; rw [hc, wl_length, wl_length, hL, hL0]
    · simp only [upd, if_neg hx]; exact ⟨trivial, trivial, trivial, trivial, trivial⟩
  have hE : Evo (@sx o w3 s.h φ w0.heap.size) (@sx o W (upd s.h 4 { s.h 4 with cells := wl L }) φ w0.heap.size) := by
    refine ⟨?_, ?_, Nat.le_refl _, fun x => Nat.le_of_eq (hH4 x).2.2.2.1.symm, ?_, ?_⟩
    · intro b hb
      refine ⟨Nat.lt_of_lt_of_le hb.1 hi.size, fun x hlx hrx p hp => ?_, hb.2.2⟩
      rw [(hH4 x).1] at hlx
      rw [(hH4 x).2.1] at hrx
      exact hb.2.1 x hlx hrx p hp
    · intro b hb i
      have hne : b ≠ b4 := fun e => hb.2.1 4 hl hrw _ hφ e.symm
      simp only [World.cell?, hi.keep b hb.1 hne]
    · intro x hlx _
      rw [(hH4 x).1] at hlx
      exact ⟨hlx, rfl, Nat.le_of_eq (hH4 x).2.2.2.2.symm⟩
    · intro b
      obtain ⟨cs, h1, h2, _⟩ := hi.at_
      by_cases hb : b = b4
      · subst hb; exact Nat.le_of_eq h2.symm
      · by_cases hlt : b < w3.heap.size
        · simp only [bsize, hi.keep b hlt hb]; exact Nat.le_refl _
        · have : w3.heap[b]? = none := Array.getElem?_eq_none (by omega)
          simp only [bsize, this]; exact Nat.zero_le _
  refine @RelC.mk ⟨fun _ _ => False, D, ps⟩ o φ w0 N _ _ W ?_ (@Bel.mk ⟨fun _ _ => False, D, ps⟩ w0 W hi.below hps) hsize rfl (fun t => (htt t).evo hE) (fun v u hg => hg.elim)
  refine ⟨?_, ?_, ?_⟩
  · intro x hlx
    have hlx' : (s.h x).live = true := by rw [← (hH4 x).1]; exact hlx
    have hx0 := hs.home x hlx'
    by_cases hx : x = 4
    · subst hx
      obtain ⟨cs, h1, h2, h3, h4⟩ := hi.at_
      refine ⟨?_, ?_, ?_, ?_⟩
      · simp only [upd, if_true]; exact scal_ones _ (wl_scal L)
      · intro hr; rw [(hH4 4).2.2.1, hrow] at hr; cases hr
      · exact hx0.low
      · have hat := hx0.at_
        simp only [hφ] at hat ⊢
        obtain ⟨_, _, fr, _, _, hfr, _⟩ := hat
        simp only [upd, if_true]
        refine ⟨cs, T, (0, 0), w32v L, h1, fun _ => ⟨rfl, (hfr hrw).2⟩, VRL_wl L, fun i hi => h4 i hi, by simp [w32v, hL]; omega⟩
    · have hux : upd s.h 4 { s.h 4 with cells := wl L } x = s.h x := by simp only [upd, if_neg hx]
      refine ⟨by simp only [hux]; exact hx0.one, by simp only [hux]; exact hx0.row, hx0.low, ?_⟩
      have hat := hx0.at_
      simp only [hux]
      cases hp : φ x with
      | none => simp only [hp] at hat; exact hat
      | some p =>
        obtain ⟨b, o'⟩ := p
        simp only [hp] at hat ⊢
        obtain ⟨cs, T', fr, us, g1, g2, g3, g4, g5⟩ := hat
        have hne : b ≠ b4 := fun e => hs.excl 4 x _ _ hl hrw hlx' (fun e => hx e.symm) hφ hp e.symm
        have hlt : b < w3.heap.size := (Array.getElem?_eq_some_iff.1 g1).1
        exact ⟨cs, T', fr, us, by rw [hi.keep b hlt hne]; exact g1, g2, g3.evo hE, g4, g5⟩
  · intro x x' p p' hlx hrx hlx' hne hp hp'
    rw [(hH4 x).1] at hlx
    rw [(hH4 x).2.1] at hrx
    rw [(hH4 x').1] at hlx'
    exact hs.excl x x' p p' hlx hrx hlx' hne hp hp'
  · exact Nat.le_trans hs.size hi.size

def hF (m : List UInt8) {N : Nat} (pre : List (Fin N)) : H8 := pre.foldl (fun h x => toH8 (turnH h ((m.drop (64 * x.1)).take 64))) start8
theorem hF_snoc (m : List UInt8) {N : Nat} (pre : List (Fin N)) (x : Fin N) : hF m (pre ++ [x]) = toH8 (turnH (hF m pre) ((m.drop (64 * x.1)).take 64)) := by simp [hF]
theorem hF_up (m : List UInt8) (N : Nat) : ∀ k, k ≤ N → hF m (upN N k) = hashN m k
  | 0, _ => rfl
  | k + 1, h => by rw [upN_succ (by omega), hF_snoc, hF_up m N k (by omega)]; rfl
theorem H8_len (h : H8) : h.l.length = 8 := rfl
end Go.Proofs.Ytkphojcmjffccaa
/- sha.Sum's loop, whole. -/
set_option linter.unusedSimpArgs false
set_option linter.unusedSectionVars false
set_option linter.unusedVariables false
namespace Go.Proofs.Ytkphojcmjffccaa
open Go.RowKit Go.Shelf

local instance ghZ7 : Gh := ⟨fun _ _ => False, [], []⟩
local instance oldZ7 : Old := ⟨fun _ => False⟩
noncomputable def opsA : Array Oper := opsOf asg17
theorem asg17_eq : asg17 = .region 4 opsA false := by kernel_rfl
theorem opsA_0 : ∃ o, opsA[0]? = some o ∧ opsA.size = 1 ∧ o.op = .assign (.tmp 20) ∧ o.dst = some 5 ∧ o.guard = none := ⟨(opsA[0]?).getD oD, by kernel_rfl, by kernel_rfl, by kernel_rfl, by kernel_rfl, by kernel_rfl⟩
theorem assign_in {l n : Nat} {tm : Array Value} {W : World} {K : Act → World → Prop} (hs : 20 < tm.size) {v : Value} (hv : tm.getD 20 undef = v) (hk : K { tmps := tm.setIfInBounds 5 v, defers := [] } W) : asg17.wpIn (Fence.wide.inRound l) n Try.prog (Exit.then K (fun _ _ _ => False)) { tmps := tm, defers := [] } W := by
  rw [asg17_eq]
  obtain ⟨o, ho, hsz, hop, hd, hg⟩ := opsA_0
  refine wpIn_region (opsIn_of_ops ?_ (by rintro ⟨a, w, h⟩; exact h) _ _ _ ?_)
  · intro i o' hi c
    have : i = 0 := by have := (Array.getElem?_eq_some_iff.1 hi).1; omega
    subst this
    rw [ho] at hi; cases hi
    rw [hop]; intro e; cases e
  · rw [hsz]
    show wpOps _ _ _ [0] _ _
    rw [wpOps_cons]
    refine wpOp_val (w' := W) (v := v) ho hg ?_ ?_
    · unfold execOp
      rw [hop]
      have e : (Act.mk tm []).eval (.tmp 20) = v := hv
      simp only [e, Sem.run_bind, Result.andThen_ok, Sem.run_pure]
    · rw [hd]
      exact hk

theorem loop_in {o : Old} {φ : Nat → Option (Nat × Nat)} {w0 w3 : World} {s : St} {a : Act} {m : List UInt8} {N v4 n : Nat} (h : @RelC ⟨fun _ _ => False, [], []⟩ o φ w0 48 s a w3) (hn : 3 ≤ n) (hN : 0 < N) (hm : m.length = 64 * N) (hreach : 64 * N ≤ 140737488351232)
    (h19 : s.t 19 = .clo 47 [.addr [.sl .plain (64 * N) (bl m)], .addr [.int .i64 64]]) (h4 : s.t 4 = .ptr 4 0 v4) (hh : s.h 4 = ⟨v4, true, true, false, wl start8.l⟩) (Q : Exit → Act → World → Prop)
    (hQ : ∀ D W, @RelC ⟨fun _ _ => False, [{ target := .collected D, args := #[] }], [(D, .deferred (some []))]⟩ o φ w0 48 { s with h := upd s.h 4 { s.h 4 with cells := wl (hashN m N).l } } { a with defers := [{ target := .collected D, args := #[] }] } W → W.heap[D]? = some (.deferred (some [])) → w0.heap.size ≤ D → Q .normal { a with defers := [{ target := .collected D, args := #[] }] } W) :
    (Code.rangeFunc (.tmp 19) #[20] asg17 (.block 1 (.region 5 ops5 true))).wpIn Fence.wide n Try.prog Q a w3 := by
  have hR := h
  obtain ⟨hs, ⟨hbel, _⟩, hsize, hdf, ht, hg⟩ := h
  -- home 4
  have hl4 : (s.h 4).live = true := by rw [hh]
  have hr4 : (s.h 4).rw = true := by rw [hh]
  have hcell4 : (s.h 4).cells = wl start8.l := by rw [hh]
  have t4 := ht 4
  rw [h4] at t4
  simp only [VR] at t4
  obtain ⟨_, _, hptr⟩ := t4
  have hptr := hptr hl4 (by rw [hh])
  unfold ptrR at hptr
  have hat := (hs.home 4 hl4).at_
  cases hφ : φ 4 with
  | none => simp only [hφ] at hptr
  | some p =>
  obtain ⟨b4, o4⟩ := p
  simp only [hφ, Nat.add_zero] at hptr hat
  obtain ⟨cs4, T, fr, us4, e1, e2, e3, e4, e5⟩ := hat
  obtain ⟨rfl, hb0⟩ := e2 hr4
  rw [hcell4] at e3
  have e6 := VRL_wl_eq e3
  subst e6
  have hb4 : b4 < w3.heap.size := (Array.getElem?_eq_some_iff.1 e1).1
  have hS : ∀ b, (@sx o w3 s.h φ w0.heap.size).S b → b < w3.heap.size ∧ b ≠ b4 := fun b hb => ⟨hb.1, fun e => hb.2.1 4 hl4 hr4 _ hφ e.symm⟩
  -- the closure
  have t19 := ht 19
  rw [h19] at t19
  simp only [VR, VRL] at t19
  obtain ⟨_, h19v, _, _, _, rfl, ⟨aS, _, rfl, hspS, _, _, ⟨_, _, rfl, ⟨Ab, kc, usm, rfl, hkc, _, _, _, _, hum, hcm⟩, rfl⟩, hcS⟩, _, _, rfl, ⟨aN, _, rfl, hspN, _, _, ⟨_, _, rfl, rfl, rfl⟩, hcN⟩, rfl⟩ := t19
  have hum' := VRL_bl_eq hum
  subst hum'
  obtain ⟨_, x1, _, x3, x4⟩ := hcS 0 (by simp)
  cases x1
  obtain ⟨_, y1, _, y3, y4⟩ := hcN 0 (by simp)
  cases y1
  have hlm : (w8v m).length = 64 * N := by simp [w8v, hm]
  obtain ⟨ad, z1, hspA, z3, z4⟩ := hcm 0 (by rw [hlm]; omega)
  subst z1
  simp only [Nat.add_zero, List.getElem_cons_zero] at x4 y4
  have hcA : ∀ i (hi : i < (w8v m).length), w3.cell? ⟨ad.block, ad.off + i, none⟩ = some (w8v m)[i] := by
    intro i hi
    obtain ⟨_, q1, _, _, q4⟩ := hcm i hi
    cases q1
    exact q4
  have hSb := hS _ x3
  have hNb := hS _ y3
  have hAb := hS _ z3
  have eS : aS = ⟨aS.block, aS.off, none⟩ := addr_eta hspS
  have eN : aN = ⟨aN.block, aN.off, none⟩ := addr_eta hspN
  have eA : ad = ⟨ad.block, ad.off, none⟩ := addr_eta hspA
  obtain ⟨Bs, os, hBs⟩ : ∃ Bs os, aS = ⟨Bs, os, none⟩ := ⟨_, _, eS⟩
  obtain ⟨Bn, on_, hBn⟩ : ∃ Bn on_, aN = ⟨Bn, on_, none⟩ := ⟨_, _, eN⟩
  obtain ⟨bA, oA, hbA⟩ : ∃ bA oA, ad = ⟨bA, oA, none⟩ := ⟨_, _, eA⟩
  subst hBs hBn hbA
  simp only at x4 y4 hcA hSb hNb hAb
  have hv4 : a.tmps.getD 4 undef = .pointer (some ⟨b4, o4, none⟩) := hptr
  have hinv : ∀ {L W}, Inv w0 w3 b4 o4 T L W → (∀ k, k < w3.heap.size → k ≠ b4 → W.heap[k]? = w3.heap[k]?) := fun h => h.keep
  have hbs4 : w0.heap.size ≤ w3.heap.size := hbel.size
  have hsl : start8.l.length = 8 := rfl
  have hI0 : Inv w0 w3 b4 o4 T start8.l w3 := ⟨Nat.le_refl _, fun _ _ _ => rfl, hbel, cs4, e1, rfl, by simpa [w32v, hsl] using e5, fun i hi => e4 i hi⟩
  have hgow : ∀ (pre : List (Fin N)) (A B : World) (row : Option Nat), Inv w0 w3 b4 o4 T (hF m pre).l A → A.grownBy B row → (∀ r, row = some r → w3.heap.size ≤ r ∧ ∃ o : Obj, A.heap[r]? = some o ∧ o.isCells = false) → Inv w0 w3 b4 o4 T (hF m pre).l B :=
    fun pre A B row hs hg hr => hs.grown hb4 hbs4 hg (fun r e => (hr r e).1)
  refine wpIn_rangeFunc_ownF (α := Fin N) rfl (by omega) (gf := 47) (lb := #[.pointer (some ⟨Bs, os, none⟩), .pointer (some ⟨Bn, on_, none⟩)]) h19v trivial (enters_of Try.func47 (by kernel_rfl) rfl)
    (encs := fun x => #[.slice (some ⟨bA, oA + 64 * x.1, none⟩) 64 64]) (Kp := fun W W' => W'.cell? ⟨Bs, os, none⟩ = W.cell? ⟨Bs, os, none⟩ ∧ W'.cell? ⟨Bn, on_, none⟩ = W.cell? ⟨Bn, on_, none⟩)
    (S := fun xs => xs = List.finRange N) (Sp := fun _ => True) (N := N) (w0 := w3) ?seq (fun h k => ⟨k.1.trans h.1, k.2.trans h.2⟩) ?kb (Below.refl _ _) (fun _ => rfl)
    (fun pre W => Inv w0 w3 b4 o4 T (hF m pre).l W) (fun _ _ _ => False) (fun pre A B row hs hg hr => hgow pre A B row hs hg hr) (fun _ _ _ _ _ hs _ _ => hs) hI0
    (fun x => { tmps := (a.tmps.setIfInBounds 20 (.slice (some ⟨bA, oA + 64 * x.1, none⟩) 64 64)).setIfInBounds 5 (.slice (some ⟨bA, oA + 64 * x.1, none⟩) 64 64), defers := [] }) ?assign ?body ?done ?stop
  case seq =>
    intro l J Jx W hW hJ hJx hY h0
    have hc := chunk1_in (n - 1) (by omega) l Bs os Bn on_ bA oA N kc hkc hreach (fun W W' => W'.cell? ⟨Bs, os, none⟩ = W.cell? ⟨Bs, os, none⟩ ∧ W'.cell? ⟨Bn, on_, none⟩ = W.cell? ⟨Bn, on_, none⟩) (fun _ _ h => h.1) (fun _ _ h => h.2) J Jx hY W
      (fun s A hs => hJ s A A.drew none hs ⟨rfl, rfl, rfl, Nat.le_refl _, fun _ _ _ => rfl⟩ (fun r e => by cases e)) ((hW.cell (p := ⟨Bs, os, none⟩) hSb.1).trans x4) ((hW.cell (p := ⟨Bn, on_, none⟩) hNb.1).trans y4) h0
    refine hc.mono ?_
    rintro e W' ⟨he, ⟨ys, hy, hj⟩ | ⟨pre, hj⟩⟩
    · exact ⟨he, .inl ⟨ys, hy, hj⟩⟩
    · exact ⟨he, .inr ⟨pre, trivial, hj⟩⟩
  case kb =>
    intro W l o1 o2 hl ho _ _
    have hb : ∀ b i, b < w3.heap.size → (W.putObj l o2).cell? ⟨b, i, none⟩ = W.cell? ⟨b, i, none⟩ := fun b i hb => World.cell?_of_block (World.putObj_heap_other (by simp; omega))
    exact ⟨hb _ _ hSb.1, hb _ _ hNb.1⟩
  case assign =>
    intro l x W K hK
    have ez : Array.foldl (fun t (x : Nat × Value) => match x with | (p, v) => t.setIfInBounds p v) a.tmps ((#[20] : Array Nat).zip #[Value.slice (some ⟨bA, oA + 64 * x.1, none⟩) 64 64]) = a.tmps.setIfInBounds 20 (.slice (some ⟨bA, oA + 64 * x.1, none⟩) 64 64) := by simp
    refine Eq.mpr (congrArg (fun tm => asg17.wpIn (Fence.wide.inRound l) (n - 1 - 1) Try.prog (Exit.then K fun _ _ _ => False) { tmps := tm, defers := [] } W) ez) ?_
    refine assign_in (tm := a.tmps.setIfInBounds 20 _) (by rw [Array.size_setIfInBounds, hsize]; decide) ?_ hK
    rw [Array.getD_eq_getD_getElem?, Array.getElem?_setIfInBounds]; simp [hsize]
  case body =>
    intro l pre x W hI _
    refine wpIn_block ?_
    have hx := x.2
    have hbl : ((m.drop (64 * x.1)).take 64).length = 64 := by rw [List.length_take, List.length_drop]; omega
    have hl34 : ∀ W', W'.heap = W.heap → (Instr.loadAt 84 (.pointer (some ⟨bA, oA + 64 * x.1, none⟩))).run Try.prog W' = .ok (.agg (w8v ((m.drop (64 * x.1)).take 64)).toArray) W' := by
      intro W' hW'
      have hr : W'.rangeAt bA (oA + 64 * x.1) (w8v ((m.drop (64 * x.1)).take 64)) := by
        intro j v hj
        obtain ⟨hlt, rfl⟩ := List.getElem?_eq_some_iff.1 hj
        have hwl : (w8v ((m.drop (64 * x.1)).take 64)).length = 64 := by simp only [w8v, List.length_map]; exact hbl
        have hj64 : j < 64 := by omega
        have h1 := hcA (64 * x.1 + j) (by rw [hlm]; omega)
        have h2 : W'.cell? ⟨bA, oA + 64 * x.1 + j, none⟩ = w3.cell? ⟨bA, oA + (64 * x.1 + j), none⟩ := by
          rw [show oA + 64 * x.1 + j = oA + (64 * x.1 + j) by omega]
          refine World.cell?_of_block ?_
          rw [hW']; exact hI.keep _ hAb.1 hAb.2
        rw [h2, h1]
        simp [w8v]
      obtain ⟨i, hi⟩ : ∃ i, Try.prog.info? 84 = some i := Option.isSome_iff_exists.1 (by kernel_rfl)
      have hag : aggT Try.prog 84 = true := by kernel_rfl
      have hce : Try.prog.cellsOf 84 = 64 := by kernel_rfl
      obtain ⟨rv, g1, g2, _⟩ := run_load_at hr Try.underlying84 hi (by rw [if_pos hag, hce]; simp only [w8v, List.length_map]; exact hbl)
      rw [g1, g2 hag]
    refine wpIn_mono (round_in (b4 := b4) (o4 := o4) (bA := bA) (oA := oA + 64 * x.1) (h := hF m pre) l _ hbl _ (by rw [Array.size_setIfInBounds, Array.size_setIfInBounds, hsize]) ?_ ?_ (hI.load (H8_len _)) hl34 (hI.store hb4 hb0 (turnH_length _ _))) ?_
    · rw [Array.getD_eq_getD_getElem?, Array.getElem?_setIfInBounds, Array.getElem?_setIfInBounds]; simpa [Array.getD_eq_getD_getElem?] using hv4
    · rw [Array.getD_eq_getD_getElem?, Array.getElem?_setIfInBounds]; simp [hsize]
    · rintro e a' W' ⟨rfl, hk, hk2, hi'⟩
      refine ⟨hk, ⟨World.cell?_of_block (hk2 _ hSb.1 hSb.2), World.cell?_of_block (hk2 _ hNb.1 hNb.2)⟩, ?_⟩
      show Inv w0 w3 b4 o4 T (hF m (pre ++ [x])).l W'
      rw [hF_snoc, toH8_l (turnH_length _ _)]
      exact hi'
  case done =>
    intro D xs W hD hxs hI hK
    subst hxs
    have hr : hF m (List.finRange N) = hashN m N := by rw [← upN_all, hF_up m N N (Nat.le_refl _)]
    rw [hr] at hI
    have hrow : (s.h 4).isRow = false := by rw [hh]
    have := RelC.reH (D := [{ target := .collected D, args := #[] }]) hR hl4 hr4 hrow hcell4 rfl (H8_len _) hφ hI [(D, .deferred (some []))] (fun p hp => by obtain rfl := List.mem_singleton.1 hp; exact ⟨(fun _ _ _ e => by cases e), hK⟩)
    have hd : a.defers = [] := hdf
    rw [hd]
    exact hQ D W this hK (Nat.le_trans hbs4 hD)
  case stop =>
    intro D c pre W _ _ h _
    exact h.elim
end Go.Proofs.Ytkphojcmjffccaa
/- sha.Sum: what stands ahead of its loop, and behind, as texts of the ideal machine. -/
set_option linter.unusedSimpArgs false
set_option linter.unusedSectionVars false
set_option linter.unusedVariables false
namespace Go.Proofs.Ytkphojcmjffccaa
open Go.RowKit

def ma_0 : MCode := .reg [MI.op (some 2) (.alloc (List.replicate 32 (.int .u8 0))) none]
def ma_1 : MCode := .reg [MI.op (some 10) (.mov (.tmp 0)) none, MI.op (some 11) (.call 33 [(.tmp 10)]) none, MI.op (some 3) (.mov (.tmp 11)) none]
def ma_2 : MCode := .reg [MI.op (some 12) (.call 34 []) none, MI.op (some 4) (.alloc (List.replicate 8 (.int .u32 0))) none, MI.op none (.store 8 (.tmp 4) (.tmp 12)) none]
def ma_3 : MCode := .reg [MI.op (some 13) (.mov (.tmp 3)) none, MI.op (some 14) (.mov (.tmp 3)) none, MI.op (some 15) (.len (.tmp 14)) none, MI.op (some 16) (.toInt .u64 (.tmp 15)) none, MI.op (some 17) (.call 36 [(.tmp 16)]) none,
   MI.op (some 18) (.app 1 1 (.tmp 13) (.tmp 17)) none, MI.frz 18, MI.op (some 19) (.call 35 [(.tmp 18), (.c (.int .i64 64))]) none]

def mb_1 : MCode :=
 (.reg
  [MI.op (some 34) (.mov (.tmp 7)) none,
   MI.op (some 35) (.bin .mul (.c (.int .i64 4)) (.tmp 34)) none,
   MI.op (some 36) (.mov (.tmp 9)) none,
   MI.op (some 37) (.bin .add (.tmp 35) (.tmp 36)) none,
   MI.op (some 38) (.mov (.tmp 8)) none,
   MI.op (some 39) (.mov (.tmp 9)) none,
   MI.op (some 40) (.bin .mul (.c (.int .i64 8)) (.tmp 39)) none,
   MI.op (some 41) (.bin .sub (.c (.int .i64 24)) (.tmp 40)) none,
   MI.op (some 42) (.bin .shr (.tmp 38) (.tmp 41)) none,
   MI.op (some 43) (.toInt .u8 (.tmp 42)) none,
   MI.op (some 44) (.ixArr 32 1 (.tmp 6) (.tmp 37)) none,
   MI.op none (.store 1 (.tmp 44) (.tmp 43)) none])
def mb_2 : MCode :=
 (.seq
  (.blk 5
   (.seq
    (.reg
     [MI.op (some 33) (.mov (.tmp 31)) none,
      MI.op (some 9) (.mov (.tmp 33)) none])
  mb_1))
  (.reg
   [MI.op (some 45) (.bin .add (.tmp 31) (.c (.int .i64 1))) none,
    MI.op (some 31) (.mov (.tmp 45)) none]))
def mb_3 : MCode :=
 (.seq
  (.cond (.tmp 32)
   .skip
   (.exit 4))
  mb_2)
def mb_4 : MCode :=
 (.seq
  (.reg
   [MI.op (some 32) (.bin .lss (.tmp 31) (.c (.int .i64 4))) none])
  mb_3)
def mb_5 : MCode :=
 (.blk 4
  (.loop
  mb_4))
def mb_6 : MCode :=
 (.seq
  (.reg
   [MI.op (some 31) (.mov (.c (.int .i64 0))) none])
  mb_5)
def mb_7 : MCode :=
 (.seq
  (.blk 3
   (.seq
    (.reg
     [MI.op (some 29) (.mov (.tmp 27)) none,
      MI.op (some 30) (.idx 8 1 false (.tmp 26) (.tmp 27)) none,
      MI.op (some 7) (.mov (.tmp 29)) none,
      MI.op (some 8) (.mov (.tmp 30)) none])
  mb_6))
  (.reg
   [MI.op (some 46) (.bin .add (.tmp 27) (.c (.int .i64 1))) none,
    MI.op (some 27) (.mov (.tmp 46)) none]))
def mb_8 : MCode :=
 (.seq
  (.cond (.tmp 28)
   .skip
   (.exit 2))
  mb_7)
def mb_9 : MCode :=
 (.seq
  (.reg
   [MI.op (some 28) (.bin .lss (.tmp 27) (.c (.int .i64 8))) none])
  mb_8)
def mb_10 : MCode :=
 (.blk 2
  (.loop
  mb_9))
def mb_11 : MCode :=
 (.seq
  (.reg
   [MI.op (some 47) (.load true 32 (.tmp 6)) none,
    MI.op none (.store 32 (.tmp 2) (.tmp 47)) none])
  .ret)
def mb_12 : MCode :=
 (.seq
  (.seq
   (.reg
    [MI.op (some 26) (.load true 8 (.tmp 4)) none,
     MI.op (some 27) (.mov (.c (.int .i64 0))) none])
  mb_10)
  mb_11)
def mb_b : MCode :=
 (.seq
  (.reg
   [MI.op (some 6) (.alloc (List.replicate 32 (.int .u8 0))) none])
  mb_12)

theorem ca_0 : compC Try.prog 48 k0 ma_0 = some ma_0 := by kernel_rfl
theorem ca_1 : compC Try.prog 48 k1 ma_1 = some ma_1 := by kernel_rfl
theorem ca_2 : compC Try.prog 48 k2 ma_2 = some ma_2 := by kernel_rfl
theorem ca_3 : compC Try.prog 48 k3 ma_3 = some ma_3 := by kernel_rfl
theorem cb_b : compC Try.prog 48 kD mb_b = some mb_b := by kernel_rfl
end Go.Proofs.Ytkphojcmjffccaa
