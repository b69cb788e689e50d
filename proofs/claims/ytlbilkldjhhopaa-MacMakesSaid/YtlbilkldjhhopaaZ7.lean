/- sha.Sum's loop, whole. -/
import Derived.Test.YtlbilkldjhhopaaZ6
set_option linter.unusedSimpArgs false
set_option linter.unusedSectionVars false
set_option linter.unusedVariables false
namespace Go.Proofs.Ytlbilkldjhhopaa
open Go.RowKit Go.Shelf

local instance ghZ7 : Gh := ⟨fun _ _ => False, [], []⟩
local instance oldZ7 : Old := ⟨fun _ => False⟩
noncomputable def opsA : Array Oper := opsOf asg17
theorem asg17_eq : asg17 = .region 4 opsA false := by kernel_rfl
theorem opsA_0 : ∃ o, opsA[0]? = some o ∧ opsA.size = 1 ∧ o.op = .assign (.tmp 20) ∧ o.dst = some 5 ∧ o.guard = none := ⟨(opsA[0]?).getD oD, by kernel_rfl, by kernel_rfl, by kernel_rfl, by kernel_rfl, by kernel_rfl⟩
theorem assign_in {l n : Nat} {tm : Array Value} {W : World} {K : Act → World → Prop} (hs : 20 < tm.size) {v : Value} (hv : tm.getD 20 undef = v) (hk : K { tmps := tm.setIfInBounds 5 v, defers := [] } W) : asg17.wpIn (Fence.wide.inRound l) n Try.prog (Exit.then K (fun _ _ _ => False)) { tmps := tm, defers := [] } W := by
  rw [asg17_eq]
  obtain ⟨o, ho, hsz, hop, hd, hg⟩ := opsA_0
  refine wpIn_region (opsIn_of_ops ?_ (by rintro ⟨a, w, h⟩; exact h) _ _ _ ?_)
  · intro i o' hi c
    have : i = 0 := by have := (Array.getElem?_eq_some_iff.1 hi).1; omega
    subst this
    rw [ho] at hi; cases hi
    rw [hop]; intro e; cases e
  · rw [hsz]
    show wpOps _ _ _ [0] _ _
    rw [wpOps_cons]
    refine wpOp_val (w' := W) (v := v) ho hg ?_ ?_
    · unfold execOp
      rw [hop]
      have e : (Act.mk tm []).eval (.tmp 20) = v := hv
      simp only [e, Sem.run_bind, Result.andThen_ok, Sem.run_pure]
    · rw [hd]
      exact hk

theorem loop_in {o : Old} {φ : Nat → Option (Nat × Nat)} {w0 w3 : World} {s : St} {a : Act} {m : List UInt8} {N v4 n : Nat} (h : @RelC ⟨fun _ _ => False, [], []⟩ o φ w0 48 s a w3) (hn : 3 ≤ n) (hN : 0 < N) (hm : m.length = 64 * N) (hreach : 64 * N ≤ 140737488351232)
    (h19 : s.t 19 = .clo 49 [.addr [.sl .plain (64 * N) (bl m)], .addr [.int .i64 64]]) (h4 : s.t 4 = .ptr 4 0 v4) (hh : s.h 4 = ⟨v4, true, true, false, wl start8.l⟩) (Q : Exit → Act → World → Prop)
    (hQ : ∀ D W, @RelC ⟨fun _ _ => False, [{ target := .collected D, args := #[] }], [(D, .deferred (some []))]⟩ o φ w0 48 { s with h := upd s.h 4 { s.h 4 with cells := wl (hashN m N).l } } { a with defers := [{ target := .collected D, args := #[] }] } W → W.heap[D]? = some (.deferred (some [])) → w0.heap.size ≤ D → Q .normal { a with defers := [{ target := .collected D, args := #[] }] } W) :
    (Code.rangeFunc (.tmp 19) #[20] asg17 (.block 1 (.region 5 ops5 true))).wpIn Fence.wide n Try.prog Q a w3 := by
  have hR := h
  obtain ⟨hs, ⟨hbel, _⟩, hsize, hdf, ht, hg⟩ := h
  -- home 4
  have hl4 : (s.h 4).live = true := by rw [hh]
  have hr4 : (s.h 4).rw = true := by rw [hh]
  have hcell4 : (s.h 4).cells = wl start8.l := by rw [hh]
  have t4 := ht 4
  rw [h4] at t4
  simp only [VR] at t4
  obtain ⟨_, _, hptr⟩ := t4
  have hptr := hptr hl4 (by rw [hh])
  unfold ptrR at hptr
  have hat := (hs.home 4 hl4).at_
  cases hφ : φ 4 with
  | none => simp only [hφ] at hptr
  | some p =>
  obtain ⟨b4, o4⟩ := p
  simp only [hφ, Nat.add_zero] at hptr hat
  obtain ⟨cs4, T, fr, us4, e1, e2, e3, e4, e5⟩ := hat
  obtain ⟨rfl, hb0⟩ := e2 hr4
  rw [hcell4] at e3
  have e6 := VRL_wl_eq e3
  subst e6
  have hb4 : b4 < w3.heap.size := (Array.getElem?_eq_some_iff.1 e1).1
  have hS : ∀ b, (@sx o w3 s.h φ w0.heap.size).S b → b < w3.heap.size ∧ b ≠ b4 := fun b hb => ⟨hb.1, fun e => hb.2.1 4 hl4 hr4 _ hφ e.symm⟩
  -- the closure
  have t19 := ht 19
  rw [h19] at t19
  simp only [VR, VRL] at t19
  obtain ⟨_, h19v, _, _, _, rfl, ⟨aS, _, rfl, hspS, _, _, ⟨_, _, rfl, ⟨Ab, kc, usm, rfl, hkc, _, _, _, _, hum, hcm⟩, rfl⟩, hcS⟩, _, _, rfl, ⟨aN, _, rfl, hspN, _, _, ⟨_, _, rfl, rfl, rfl⟩, hcN⟩, rfl⟩ := t19
  have hum' := VRL_bl_eq hum
  subst hum'
  obtain ⟨_, x1, _, x3, x4⟩ := hcS 0 (by simp)
  cases x1
  obtain ⟨_, y1, _, y3, y4⟩ := hcN 0 (by simp)
  cases y1
  have hlm : (w8v m).length = 64 * N := by simp [w8v, hm]
  obtain ⟨ad, z1, hspA, z3, z4⟩ := hcm 0 (by rw [hlm]; omega)
  subst z1
  simp only [Nat.add_zero, List.getElem_cons_zero] at x4 y4
  have hcA : ∀ i (hi : i < (w8v m).length), w3.cell? ⟨ad.block, ad.off + i, none⟩ = some (w8v m)[i] := by
    intro i hi
    obtain ⟨_, q1, _, _, q4⟩ := hcm i hi
    cases q1
    exact q4
  have hSb := hS _ x3
  have hNb := hS _ y3
  have hAb := hS _ z3
  have eS : aS = ⟨aS.block, aS.off, none⟩ := addr_eta hspS
  have eN : aN = ⟨aN.block, aN.off, none⟩ := addr_eta hspN
  have eA : ad = ⟨ad.block, ad.off, none⟩ := addr_eta hspA
  obtain ⟨Bs, os, hBs⟩ : ∃ Bs os, aS = ⟨Bs, os, none⟩ := ⟨_, _, eS⟩
  obtain ⟨Bn, on_, hBn⟩ : ∃ Bn on_, aN = ⟨Bn, on_, none⟩ := ⟨_, _, eN⟩
  obtain ⟨bA, oA, hbA⟩ : ∃ bA oA, ad = ⟨bA, oA, none⟩ := ⟨_, _, eA⟩
  subst hBs hBn hbA
  simp only at x4 y4 hcA hSb hNb hAb
  have hv4 : a.tmps.getD 4 undef = .pointer (some ⟨b4, o4, none⟩) := hptr
  have hinv : ∀ {L W}, Inv w0 w3 b4 o4 T L W → (∀ k, k < w3.heap.size → k ≠ b4 → W.heap[k]? = w3.heap[k]?) := fun h => h.keep
  have hbs4 : w0.heap.size ≤ w3.heap.size := hbel.size
  have hsl : start8.l.length = 8 := rfl
  have hI0 : Inv w0 w3 b4 o4 T start8.l w3 := ⟨Nat.le_refl _, fun _ _ _ => rfl, hbel, cs4, e1, rfl, by simpa [w32v, hsl] using e5, fun i hi => e4 i hi⟩
  have hgow : ∀ (pre : List (Fin N)) (A B : World) (row : Option Nat), Inv w0 w3 b4 o4 T (hF m pre).l A → A.grownBy B row → (∀ r, row = some r → w3.heap.size ≤ r ∧ ∃ o : Obj, A.heap[r]? = some o ∧ o.isCells = false) → Inv w0 w3 b4 o4 T (hF m pre).l B :=
    fun pre A B row hs hg hr => hs.grown hb4 hbs4 hg (fun r e => (hr r e).1)
  refine wpIn_rangeFunc_ownF (α := Fin N) rfl (by omega) (gf := 49) (lb := #[.pointer (some ⟨Bs, os, none⟩), .pointer (some ⟨Bn, on_, none⟩)]) h19v trivial (enters_of Try.func49 (by kernel_rfl) rfl)
    (encs := fun x => #[.slice (some ⟨bA, oA + 64 * x.1, none⟩) 64 64]) (Kp := fun W W' => W'.cell? ⟨Bs, os, none⟩ = W.cell? ⟨Bs, os, none⟩ ∧ W'.cell? ⟨Bn, on_, none⟩ = W.cell? ⟨Bn, on_, none⟩)
    (S := fun xs => xs = List.finRange N) (Sp := fun _ => True) (N := N) (w0 := w3) ?seq (fun h k => ⟨k.1.trans h.1, k.2.trans h.2⟩) ?kb (Below.refl _ _) (fun _ => rfl)
    (fun pre W => Inv w0 w3 b4 o4 T (hF m pre).l W) (fun _ _ _ => False) (fun pre A B row hs hg hr => hgow pre A B row hs hg hr) (fun _ _ _ _ _ hs _ _ => hs) hI0
    (fun x => { tmps := (a.tmps.setIfInBounds 20 (.slice (some ⟨bA, oA + 64 * x.1, none⟩) 64 64)).setIfInBounds 5 (.slice (some ⟨bA, oA + 64 * x.1, none⟩) 64 64), defers := [] }) ?assign ?body ?done ?stop
  case seq =>
    intro l J Jx W hW hJ hJx hY h0
    have hc := chunk1_in (n - 1) (by omega) l Bs os Bn on_ bA oA N kc hkc hreach (fun W W' => W'.cell? ⟨Bs, os, none⟩ = W.cell? ⟨Bs, os, none⟩ ∧ W'.cell? ⟨Bn, on_, none⟩ = W.cell? ⟨Bn, on_, none⟩) (fun _ _ h => h.1) (fun _ _ h => h.2) J Jx hY W
      (fun s A hs => hJ s A A.drew none hs ⟨rfl, rfl, rfl, Nat.le_refl _, fun _ _ _ => rfl⟩ (fun r e => by cases e)) ((hW.cell (p := ⟨Bs, os, none⟩) hSb.1).trans x4) ((hW.cell (p := ⟨Bn, on_, none⟩) hNb.1).trans y4) h0
    refine hc.mono ?_
    rintro e W' ⟨he, ⟨ys, hy, hj⟩ | ⟨pre, hj⟩⟩
    · exact ⟨he, .inl ⟨ys, hy, hj⟩⟩
    · exact ⟨he, .inr ⟨pre, trivial, hj⟩⟩
  case kb =>
    intro W l o1 o2 hl ho _ _
    have hb : ∀ b i, b < w3.heap.size → (W.putObj l o2).cell? ⟨b, i, none⟩ = W.cell? ⟨b, i, none⟩ := fun b i hb => World.cell?_of_block (World.putObj_heap_other (by simp; omega))
    exact ⟨hb _ _ hSb.1, hb _ _ hNb.1⟩
  case assign =>
    intro l x W K hK
    have ez : Array.foldl (fun t (x : Nat × Value) => match x with | (p, v) => t.setIfInBounds p v) a.tmps ((#[20] : Array Nat).zip #[Value.slice (some ⟨bA, oA + 64 * x.1, none⟩) 64 64]) = a.tmps.setIfInBounds 20 (.slice (some ⟨bA, oA + 64 * x.1, none⟩) 64 64) := by simp
    refine Eq.mpr (congrArg (fun tm => asg17.wpIn (Fence.wide.inRound l) (n - 1 - 1) Try.prog (Exit.then K fun _ _ _ => False) { tmps := tm, defers := [] } W) ez) ?_
    refine assign_in (tm := a.tmps.setIfInBounds 20 _) (by rw [Array.size_setIfInBounds, hsize]; decide) ?_ hK
    rw [Array.getD_eq_getD_getElem?, Array.getElem?_setIfInBounds]; simp [hsize]
  case body =>
    intro l pre x W hI _
    refine wpIn_block ?_
    have hx := x.2
    have hbl : ((m.drop (64 * x.1)).take 64).length = 64 := by rw [List.length_take, List.length_drop]; omega
    have hl34 : ∀ W', W'.heap = W.heap → (Instr.loadAt 34 (.pointer (some ⟨bA, oA + 64 * x.1, none⟩))).run Try.prog W' = .ok (.agg (w8v ((m.drop (64 * x.1)).take 64)).toArray) W' := by
      intro W' hW'
      have hr : W'.rangeAt bA (oA + 64 * x.1) (w8v ((m.drop (64 * x.1)).take 64)) := by
        intro j v hj
        obtain ⟨hlt, rfl⟩ := List.getElem?_eq_some_iff.1 hj
        have hwl : (w8v ((m.drop (64 * x.1)).take 64)).length = 64 := by simp only [w8v, List.length_map]; exact hbl
        have hj64 : j < 64 := by omega
        have h1 := hcA (64 * x.1 + j) (by rw [hlm]; omega)
        have h2 : W'.cell? ⟨bA, oA + 64 * x.1 + j, none⟩ = w3.cell? ⟨bA, oA + (64 * x.1 + j), none⟩ := by
          rw [show oA + 64 * x.1 + j = oA + (64 * x.1 + j) by omega]
          refine World.cell?_of_block ?_
          rw [hW']; exact hI.keep _ hAb.1 hAb.2
        rw [h2, h1]
        simp [w8v]
      obtain ⟨i, hi⟩ : ∃ i, Try.prog.info? 34 = some i := Option.isSome_iff_exists.1 (by kernel_rfl)
      have hag : aggT Try.prog 34 = true := by kernel_rfl
      have hce : Try.prog.cellsOf 34 = 64 := by kernel_rfl
      obtain ⟨rv, g1, g2, _⟩ := run_load_at hr Try.underlying34 hi (by rw [if_pos hag, hce]; simp only [w8v, List.length_map]; exact hbl)
      rw [g1, g2 hag]
    refine wpIn_mono (round_in (b4 := b4) (o4 := o4) (bA := bA) (oA := oA + 64 * x.1) (h := hF m pre) l _ hbl _ (by rw [Array.size_setIfInBounds, Array.size_setIfInBounds, hsize]) ?_ ?_ (hI.load (H8_len _)) hl34 (hI.store hb4 hb0 (turnH_length _ _))) ?_
    · rw [Array.getD_eq_getD_getElem?, Array.getElem?_setIfInBounds, Array.getElem?_setIfInBounds]; simpa [Array.getD_eq_getD_getElem?] using hv4
    · rw [Array.getD_eq_getD_getElem?, Array.getElem?_setIfInBounds]; simp [hsize]
    · rintro e a' W' ⟨rfl, hk, hk2, hi'⟩
      refine ⟨hk, ⟨World.cell?_of_block (hk2 _ hSb.1 hSb.2), World.cell?_of_block (hk2 _ hNb.1 hNb.2)⟩, ?_⟩
      show Inv w0 w3 b4 o4 T (hF m (pre ++ [x])).l W'
      rw [hF_snoc, toH8_l (turnH_length _ _)]
      exact hi'
  case done =>
    intro D xs W hD hxs hI hK
    subst hxs
    have hr : hF m (List.finRange N) = hashN m N := by rw [← upN_all, hF_up m N N (Nat.le_refl _)]
    rw [hr] at hI
    have hrow : (s.h 4).isRow = false := by rw [hh]
    have := RelC.reH (D := [{ target := .collected D, args := #[] }]) hR hl4 hr4 hrow hcell4 rfl (H8_len _) hφ hI [(D, .deferred (some []))] (fun p hp => by obtain rfl := List.mem_singleton.1 hp; exact ⟨(fun _ _ _ e => by cases e), hK⟩)
    have hd : a.defers = [] := hdf
    rw [hd]
    exact hQ D W this hK (Nat.le_trans hbs4 hD)
  case stop =>
    intro D c pre W _ _ h _
    exact h.elim
end Go.Proofs.Ytlbilkldjhhopaa
