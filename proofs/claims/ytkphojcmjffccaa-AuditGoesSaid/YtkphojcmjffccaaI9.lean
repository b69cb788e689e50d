/- slices.Insert of one slice of bytes ahead of all others: its roads. -/
import Derived.Test.YtkphojcmjffccaaE31
import Derived.Test.YtkphojcmjffccaaK0
import Derived.Shelf.Lays2
import Derived.Shelf.RegionOpenPlain
import Derived.WalkKit
import Derived.Lib.Walk
import Derived.Lib.SliceRun
import Derived.Lib.JoinLaws
import Derived.Lib.AppendZeros
import Derived.Lib.Overlaps
import Derived.Laws.Externs
import Derived.Laws.IdiomCopy
import Derived.Lib.ReflectliteSwap
import Derived.Deep.WholeRow
set_option linter.unusedVariables false
set_option linter.unusedSimpArgs false
set_option linter.unusedSectionVars false
namespace Go.Proofs.Ytkphojcmjffccaa
open Go.RowKit Go.Shelf Go.Lib

theorem run_overlaps_two {P : Program} (w : World) (tS tR e : TypeId) (ht : P.underlying tS = some (.slice e)) (size : Nat) (hz : ∀ w, (Go.sizeOf e).run P w = .ok size w)
    (a b : Addr) (la ca lb cb : Nat) (hne : a.block ≠ b.block) (tA tB : TypeId) (kA kB : Nat)
    (hsa : w.shape? a.block = some (tA, kA)) (hsb : w.shape? b.block = some (tB, kB)) (hkA : kA ≠ 0)
    (hfb : ∀ i, w.frozen? ⟨b.block, i, none⟩ = false) (hb : b.spot = none) :
    (Extern.SlicesOverlaps.overlaps #[tS, tS] #[tR] #[.slice (some a) la ca, .slice (some b) lb cb]).run P w = .ok (.bool false) w := by
  have hnb : (a.block != b.block) = true := by simpa using hne
  have hnb' : (a.block == b.block) = false := by simpa using hne
  have hfb1 : w.frozen? b = false := by obtain ⟨bb, bo, bs⟩ := b; subst hb; exact hfb bo
  change Sem.run P (α := Value) (do
    let some t := (#[tS, tS] : Array TypeId)[0]? | stuck "slices.overlaps: no parameter types"
    let .slice elem ← underlying t | stuck "slices.overlaps: slice type expected"
    let size ← sizeOf elem
    match (some a : Option Addr), (some b : Option Addr) with
    | some a, some b =>
      if la = 0 ∨ lb = 0 ∨ size = 0 then pure (Value.bool false)
      else if a.block != b.block && (← frozen a) && (← frozen b) then unsupported .addressObserved
      else do
        if a.block != b.block then do
          noView a; noView b
          if ← mayBeOne a b then return Value.bool ((← choose (.extern "sameAddr.stringBytes" 2)) == 1)
        pure (Value.bool (a.block == b.block && a.off < b.off + lb * size && b.off < a.off + la * size))
    | _, _ => pure (Value.bool false)) w = _
  by_cases h0 : la = 0 ∨ lb = 0 ∨ size = 0
  · simp [run_underlying ht, hz, h0]
  · cases kA with
    | zero => exact absurd rfl hkA
    | succ kA =>
      have hfb2 := hfb kB
      cases hfa1 : w.frozen? a <;> cases hfa2 : w.frozen? ⟨a.block, kA + 1, none⟩ <;>
        simp [run_underlying ht, hz, h0, hnb, hnb', frozen, noView, viewAt, mayBeOne, stringish, shape, Sem.run, hsa, hsb, hfb1, hfb2, hfa1, hfa2]

theorem setCells_row {P : Program} {b o : Nat} {T : TypeId} (vs : List Value) (cs : Array Value) (w : World) (hg : w.heap[b]? = some (.cells cs T (0, 0))) (hfit : o + vs.length ≤ cs.size) (h1 : ∀ v ∈ vs, v.oneCell' = true) :
    w.setCells b o vs = w.setRow b (cs.toList.take o ++ vs ++ cs.toList.drop (o + vs.length)).toArray := by
  have e1 := run_storeCells_at P b o T vs 0 cs w hg (by simpa using hfit) h1
  have e2 := run_storeCells_cells (P := P) b o vs 0 w (fun j hj => by
    simp only [World.cell?, hg, Nat.add_zero]
    rw [Array.getElem?_eq_getElem (by omega)]; rfl) (fun j hj => by
    simp only [World.frozen?, hg]
    simp) h1
  rw [e1] at e2
  injection e2 with _ e2
  simpa using e2.symm
end Go.Proofs.Ytkphojcmjffccaa

/-! slices.Insert ahead of all others: there is room. -/
set_option linter.unusedVariables false
set_option linter.unusedSimpArgs false
set_option linter.unusedSectionVars false
namespace Go.Proofs.Ytkphojcmjffccaa
open Go.RowKit Go.Shelf Go.Lib

theorem wp_copy_run {P : Program} (w : World) {o : Oper} {a : Act} {K : Act → World → Prop} {Q : Exit → Act → World → Prop} (d s : Operand) (t t' : TypeId)
    (ho : o.op = .call { callee := .builtin .copy, args := #[d, s], argTypes := #[t, t'] }) (v u : Value) (hd : a.eval d = v) (hs : a.eval s = u) {v' : Value} {w' : World}
    (hr : (Builtin.copy_ #[t, t'] o.type #[v, u]).run P w = .ok v' w') (h : K (a.put o.dst v') w') : o.wp P a w K Q := by
  unfold Oper.wp execOp
  simp only [ho, resolve, invoke, builtin, Sem.run_bind, Sem.run_pure, Result.andThen_ok, List.map_toArray, List.map_cons, List.map_nil, hd, hs, hr]
  exact h
theorem wpList_copy_run {P : Program} (w : World) {ops : Array Oper} {rest : List Oper} {o : Oper} {a : Act} {Q : Exit → Act → World → Prop} (hgd : o.guard = none) (d s : Operand) (t t' : TypeId)
    (ho : o.op = .call { callee := .builtin .copy, args := #[d, s], argTypes := #[t, t'] }) (v u : Value) (hd : a.eval d = v) (hs : a.eval s = u) {v' : Value} {w' : World}
    (hr : (Builtin.copy_ #[t, t'] o.type #[v, u]).run P w = .ok v' w') (h : wpList P ops Q rest (a.put o.dst v') w') : wpList P ops Q (o :: rest) a w :=
  wpList_plain hgd fun _ hK => wp_copy_run w d s t t' ho v u hd hs hr (hK _ _ h)
theorem step_copy_run {P : Program} {ops : Array Oper} {o : Oper} {a : Act} {w : World} {K : Act → World → Prop} {Q : Exit → Act → World → Prop} {E : Prop}
    (hg : o.guard = none) (d x : Operand) (dT sT : TypeId) (hop : o.op = Op.call { callee := Callee.builtin Builtin.copy, args := #[d, x], argTypes := #[dT, sT] })
    (v u : Value) (hd : a.eval d = v) (hx : a.eval x = u) {v' : Value} {w' : World} (hr : (Builtin.copy_ #[dT, sT] o.type #[v, u]).run P w = .ok v' w') (hK : K (a.put o.dst v') w') :
    if Region.wanted o (yielded ops a.tmps) = true then Oper.wp P o a w K Q else E := by
  have hw : Region.wanted o (yielded ops a.tmps) = true := by simp [Region.wanted, hg]
  rw [if_pos hw]
  exact wp_copy_run w d x dT sT hop v u hd hx hr hK

set_option maxHeartbeats 4000000 in
set_option maxRecDepth 100000 in
theorem ins_shift (b off n c vb voff vc : Nat) (cs : List Value) (x : Value) (w : World) (hi : 0 < n) (hroom : n + 1 ≤ c) (hn63 : n < 9223372036854775000) (hvb : vb ≠ b)
    (hcl : cs.length = n)
    (hcs : ∀ j v, cs[j]? = some v → w.cell? ⟨b, off + j, none⟩ = some v) (hsp : ∀ j, j < n + 1 → (w.cell? ⟨b, off + j, none⟩).isSome = true) (hfz : ∀ j, w.frozen? ⟨b, j, none⟩ = false)
    (hvs : w.cell? ⟨vb, voff, none⟩ = some x) (h1c : ∀ v ∈ cs, v.oneCell' = true) (h1v : x.oneCell' = true)
    (tA tB : TypeId) (kA kB : Nat) (hsa : w.shape? vb = some (tA, kA)) (hsb : w.shape? b = some (tB, kB)) (hkA : kA ≠ 0) :
    Calls Try.prog 31 #[.slice (some ⟨b, off, none⟩) n c, .int .i64 0, .slice (some ⟨vb, voff, none⟩) 1 vc] w fun e w' =>
      e = .returned (.slice (some ⟨b, off, none⟩) (n + 1) c) ∧ w' = (w.drew.setCells b (off + 1) cs).setCells b off [x] := by
  have hz2 : ¬ ((0 : Int) = (n : Int)) := by omega
  have hov : ∀ lb cb, (callFunc 44 #[.slice (some ⟨vb, voff, none⟩) 1 vc, .slice (some ⟨b, off + 1, none⟩) lb cb]).run Try.prog w = .ok (.value (.bool false)) w := fun lb cb => by
    rw [run_callFunc_extern Try.func44 (by kernel_rfl) (by kernel_rfl) (by kernel_rfl) (e := Extern.SlicesOverlaps.overlaps #[66, 66] #[4]) (by kernel_rfl),
      run_overlaps_two w 66 4 35 Try.underlying66 1 (fun w => by rfl) ⟨vb, voff, none⟩ ⟨b, off + 1, none⟩ 1 vc lb cb hvb tA tB kA kB hsa hsb hkA hfz rfl]
    rfl
  have mixed : Try.prog.follows .mixedOrders = true := by kernel_rfl
  have hsz : (Try.prog.info? 35).map (·.size) = some 1 := by kernel_rfl
  have hb2 : ¬ (c = 1) := by omega
  have hw1 : IntKind.i64.wrap 1 = 1 := by rw [IntKind.wrap_i64]; omega
  have hb1 : (1 : Int) ≤ (n : Int) + 1 := by omega
  have hb3 : (0 : Int) ≤ (n : Int) + 1 := by omega
  have hb4 : ¬ (c = 0) := by omega
  have hb5 : (n : Int) + 1 ≤ (c : Int) := by omega
  have hcp1 : ∀ ty dc sc, (Builtin.copy_ #[66, 66] ty #[.slice (some ⟨b, off + 1, none⟩) n dc, .slice (some ⟨b, off, none⟩) (n + 1) sc]).run Try.prog w.drew = .ok (goInt cs.length) (w.drew.setCells b (off + 1) cs) := fun ty dc sc =>
    run_copy_cells w.drew _ _ ty 35 b (off + 1) n dc ⟨b, off, none⟩ (n + 1) sc cs Try.underlying66 hsz (by rw [hcl]; simp only [Nat.min_def]; split <;> omega)
      (fun j v hj => by rw [Addr.add_lit]; exact hcs j v hj)
      (fun j hj => by rw [Nat.add_assoc]; exact hsp _ (by omega)) (fun j hj => hfz _) h1c
  obtain ⟨W1, hW1⟩ : ∃ W1, W1 = w.drew.setCells b (off + 1) cs := ⟨_, rfl⟩
  have hsp1 : ∀ k, k < n + 1 → (W1.cell? ⟨b, off + k, none⟩).isSome = true := fun k hk => by
    rw [hW1]
    exact isSome_setCells b _ _ _ _ (hsp k hk)
  have hcp2 : ∀ (W : World), (∀ x, W.cell? x = W1.cell? x) → (∀ x, W.frozen? x = W1.frozen? x) → ∀ ty dc, (Builtin.copy_ #[66, 66] ty #[.slice (some ⟨b, off, none⟩) (n + 1) dc, .slice (some ⟨vb, voff, none⟩) 1 vc]).run Try.prog W = .ok (goInt 1) (W.setCells b off [x]) := fun W hWc hWf ty dc =>
    run_copy_cells W _ _ ty 35 b off (n + 1) dc ⟨vb, voff, none⟩ 1 vc [x] Try.underlying66 hsz (by simp only [List.length_cons, List.length_nil, Nat.min_def]; split <;> omega)
      (fun j v hj => by
        obtain rfl : j = 0 := by have := (List.getElem?_eq_some_iff.1 hj).1; simpa using this
        rw [Addr.add_lit, hWc, hW1, World.cell?_setCells_out b _ _ _ _ (fun h _ => absurd h hvb)]
        simp only [List.getElem?_cons_zero, Option.some.injEq] at hj
        subst hj
        exact hvs)
      (fun j hj => by rw [hWc]; exact hsp1 _ (by simp at hj; omega)) (fun j hj => by rw [hWf, hW1, World.frozen?_setCells]; exact hfz _) (by simpa using h1v)
  rw [← hW1] at hcp1
  go_enter Try.func31, Try.ntmps31
  go_wp2_with (simp only [hov])
  go_region_law_o (refine step_copy_run rfl _ _ 66 66 rfl _ _ (by simp [Act.eval, Act.put]) (by simp [Act.eval, Act.put]) (hcp1 _ _ _) ?_)
  go_wp2_with (at_builtin; refine wpList_copy_run _ rfl _ _ 66 66 rfl _ _ rfl rfl (hcp2 _ (fun _ => rfl) (fun _ => rfl) _ _) ?_)
  go_ret
  first | exact ⟨rfl, rfl⟩ | exact ⟨rfl, by rw [hW1]⟩
end Go.Proofs.Ytkphojcmjffccaa

/-! slices.Insert ahead of all others: there is no room. -/
set_option linter.unusedVariables false
set_option linter.unusedSimpArgs false
set_option linter.unusedSectionVars false
namespace Go.Proofs.Ytkphojcmjffccaa
open Go.RowKit Go.Shelf Go.Lib

set_option maxHeartbeats 4000000 in
set_option maxRecDepth 100000 in
theorem ins_grow (b off n vb voff vc : Nat) (cs : List Value) (x : Value) (w : World) (hi : 0 < n) (hn63 : n < 2 ^ 36) (hvb : vb < w.heap.size) (hbs : b < w.heap.size)
    (hcl : cs.length = n)
    (hcs : ∀ j v, cs[j]? = some v → w.cell? ⟨b, off + j, none⟩ = some v)
    (hvs : w.cell? ⟨vb, voff, none⟩ = some x) (h1c : ∀ v ∈ cs, v.oneCell' = true) (h1v : x.oneCell' = true) :
    Calls Try.prog 31 #[.slice (some ⟨b, off, none⟩) n n, .int .i64 0, .slice (some ⟨vb, voff, none⟩) 1 vc] w fun e w' =>
      ∃ cap zs, n + 1 ≤ cap ∧ zs.size = cap ∧ e = .returned (.slice (some ⟨w.heap.size, 0, none⟩) (n + 1) cap) ∧ w' = (((w.drew.alloc (.cells zs 35)).setCells w.heap.size 0 [x]).drew.setCells w.heap.size 1 cs) := by
  have hz2 : ¬ ((0 : Int) = (n : Int)) := by omega
  have mixed : Try.prog.follows .mixedOrders = true := by kernel_rfl
  have hsz : (Try.prog.info? 35).map (·.size) = some 1 := by kernel_rfl
  have hw1 : IntKind.i64.wrap 1 = 1 := by rw [IntKind.wrap_i64]; omega
  have hw2 : IntKind.i64.wrap ((n : Int) + 1) = (n : Int) + 1 := by rw [IntKind.wrap_i64]; omega
  have hb1 : (1 : Int) ≤ (n : Int) + 1 := by omega
  have hb3 : (0 : Int) ≤ (n : Int) + 1 := by omega
  have hlt : (n : Int) < (n : Int) + 1 := by omega
  obtain ⟨i0, hi0⟩ : ∃ i0, Try.prog.info? 35 = some i0 := by
    cases h : Try.prog.info? 35 with
    | none => rw [h] at hsz; cases hsz
    | some i0 => exact ⟨i0, rfl⟩
  have hz0 : (Try.prog.info? 35).map (·.zero) = some (some (.slice none 0 0)) := by kernel_rfl
  have hby : (Try.prog.info? 35).map (·.bytes) = some 24 := by kernel_rfl
  rw [hi0] at hz0 hby
  simp only [Option.map_some, Option.some.injEq] at hz0 hby
  have ho : (Builtin.firstCells (Try.prog.cellsOf 35) 0 (.slice (some ⟨b, off, none⟩) 0 n)).run Try.prog w.drew = .ok ([] : List Value).toArray w.drew := by
    simp only [Builtin.firstCells, Nat.zero_mul]
    exact run_loadCells_list (P := Try.prog) w.drew _ [] (by simp)
  letI : Gh := ⟨fun _ _ => False, [], []⟩
  letI : Old := ⟨fun _ => False⟩
  obtain ⟨cap, hc1, hc2⟩ := run_appendZ_new (P := Try.prog) (w := w) (t := 66) (u := 3) (kk := .i64) Try.underlying66 Try.underlying3 hi0 hz0 (by kernel_rfl) 66 (l := (n : Int) + 1) (by omega) (by rw [hby]; omega) (by omega) ho (by omega) (by rw [hby]; omega) (by omega)
  rw [show 0 + ((n : Int) + 1).toNat = n + 1 by omega] at hc1 hc2
  obtain ⟨zs, hzs, hap⟩ : ∃ zs : Array Value, zs.size = cap ∧ (Builtin.append_ #[66, 3] 66 #[.slice (some ⟨b, off, none⟩) 0 n, .int .i64 ((n : Int) + 1)]).run Try.prog w = .ok (.slice (some ⟨w.heap.size, 0, none⟩) (n + 1) cap) (w.drew.alloc (.cells zs 35)) := by
    refine ⟨_, ?_, hc2⟩
    have h1 : Try.prog.cellsOf 35 = 1 := by kernel_rfl
    have h2 : (Value.slice none 0 0).cells.size = 1 := rfl
    simp only [h1, h2, Nat.mul_one, Array.size_append, List.size_toArray, List.length_nil, size_madeCells, size_zeroCells, Array.length_toList]
    omega
  clear hc2
  obtain ⟨W0, hW0⟩ : ∃ W0, W0 = w.drew.alloc (.cells zs 35) := ⟨_, rfl⟩
  have hsi : W0.heap[w.heap.size]? = some (.cells zs 35 (0, 0)) := by
    rw [hW0]
    show (w.heap.push (.cells zs 35))[w.heap.size]? = _
    simp
  have hold : ∀ c i, c < w.heap.size → W0.cell? ⟨c, i, none⟩ = w.cell? ⟨c, i, none⟩ := fun c i hc => by
    rw [hW0]
    exact ((Below.refl _ w.drew).alloc (Nat.le_refl _) (.cells zs 35)).cell (p := ⟨c, i, none⟩) hc
  have hcs0 : ∀ k, k < cap → (W0.cell? ⟨w.heap.size, k, none⟩).isSome = true := fun k hk => by
    simp only [World.cell?, hsi]
    rw [Array.getElem?_eq_getElem (by omega)]; rfl
  have hfz0 : ∀ k, W0.frozen? ⟨w.heap.size, k, none⟩ = false := fun k => by
    simp only [World.frozen?, hsi]
    simp
  have hcp1 : ∀ (W : World), (∀ x, W.cell? x = W0.cell? x) → (∀ x, W.frozen? x = W0.frozen? x) → ∀ ty dc, (Builtin.copy_ #[66, 66] ty #[.slice (some ⟨w.heap.size, 0, none⟩) (n + 1) dc, .slice (some ⟨vb, voff, none⟩) 1 vc]).run Try.prog W = .ok (goInt 1) (W.setCells w.heap.size 0 [x]) := fun W hWc hWf ty dc =>
    run_copy_cells W _ _ ty 35 w.heap.size 0 (n + 1) dc ⟨vb, voff, none⟩ 1 vc [x] Try.underlying66 hsz (by simp only [List.length_cons, List.length_nil, Nat.min_def]; split <;> omega)
      (fun j v hj => by
        obtain rfl : j = 0 := by have := (List.getElem?_eq_some_iff.1 hj).1; simpa using this
        rw [Addr.add_lit, hWc, hold _ _ hvb]
        simp only [List.getElem?_cons_zero, Option.some.injEq] at hj
        subst hj
        exact hvs)
      (fun j hj => by rw [hWc]; exact hcs0 _ (by simp at hj; omega)) (fun j hj => by rw [hWf]; exact hfz0 _) (by simpa using h1v)
  obtain ⟨W1, hW1⟩ : ∃ W1, W1 = W0.setCells w.heap.size 0 [x] := ⟨_, rfl⟩
  have hcp2 : ∀ (W : World), (∀ x, W.cell? x = W1.cell? x) → (∀ x, W.frozen? x = W1.frozen? x) → ∀ ty dc sc, (Builtin.copy_ #[66, 66] ty #[.slice (some ⟨w.heap.size, 1, none⟩) n dc, .slice (some ⟨b, off, none⟩) n sc]).run Try.prog W = .ok (goInt cs.length) (W.setCells w.heap.size 1 cs) := fun W hWc hWf ty dc sc =>
    run_copy_cells W _ _ ty 35 w.heap.size 1 n dc ⟨b, off, none⟩ n sc cs Try.underlying66 hsz (by rw [hcl]; simp only [Nat.min_def]; split <;> omega)
      (fun j v hj => by
        rw [Addr.add_lit, hWc, hW1, World.cell?_setCells_out w.heap.size _ _ _ _ (fun h _ => absurd h (Nat.ne_of_lt hbs)), hold _ _ hbs]
        exact hcs j v hj)
      (fun j hj => by rw [hWc, hW1]; exact isSome_setCells w.heap.size _ _ _ _ (hcs0 _ (by omega))) (fun j hj => by rw [hWf, hW1, World.frozen?_setCells]; exact hfz0 _) h1c
  have hb2 : ¬ (cap = 1) := by omega
  have hb4 : ¬ (cap = 0) := by omega
  have hb5 : ¬ (n = 0) := by omega
  rw [← hW0] at hap
  have hcp3 := hcp1 W0 (fun _ => rfl) (fun _ => rfl)
  rw [← hW1] at hcp3
  clear hcp1
  have hcp4 := hcp2 W1.drew (fun _ => rfl) (fun _ => rfl)
  refine Calls.mono (R := fun e w' => e = .returned (.slice (some ⟨w.heap.size, 0, none⟩) (n + 1) cap) ∧ w' = W1.drew.setCells w.heap.size 1 cs) ?_ (fun e w' h => ⟨cap, zs, hc1, hzs, h.1, by rw [h.2, hW1, hW0]⟩)
  clear hW0 hW1 hsi hold hcs0 hfz0 hcs hvs
  go_enter Try.func31, Try.ntmps31
  go_wp2_with (at_builtin; first | refine wpList_append_run _ rfl _ _ 66 3 rfl _ _ rfl rfl _ _ hap ?_ | refine wpList_copy_run _ rfl _ _ 66 66 rfl _ _ rfl rfl (hcp3 _ _) ?_ | refine wpList_copy_run _ rfl _ _ 66 66 rfl _ _ rfl rfl (hcp2 _ (fun _ => rfl) (fun _ => rfl) _ _ _) ?_)
  go_region_law_o (refine step_copy_run rfl _ _ 66 66 rfl _ _ (by simp [Act.eval, Act.put]) (by simp [Act.eval, Act.put]) (hcp4 _ _ _) ?_)
  go_wp2_with (fail)
  go_ret
  exact ⟨rfl, rfl⟩
end Go.Proofs.Ytkphojcmjffccaa

/-! slices.Insert into a row without elements. -/
set_option linter.unusedVariables false
set_option linter.unusedSimpArgs false
set_option linter.unusedSectionVars false
namespace Go.Proofs.Ytkphojcmjffccaa
open Go.RowKit Go.Shelf Go.Lib

set_option maxHeartbeats 4000000 in
set_option maxRecDepth 100000 in
theorem ins_end (A : Option Addr) (k vb voff vc : Nat) (w w1 : World) (A' : Option Addr) (k' : Nat) (hA : A = none → k = 0)
    (hap : (Builtin.append_ #[66, 66] 66 #[.slice A 0 k, .slice (some ⟨vb, voff, none⟩) 1 vc]).run Try.prog w = .ok (.slice A' 1 k') w1) :
    Calls Try.prog 31 #[.slice A 0 k, .int .i64 0, .slice (some ⟨vb, voff, none⟩) 1 vc] w fun e w' =>
      e = .returned (.slice A' 1 k') ∧ w' = w1 := by
  have mixed : Try.prog.follows .mixedOrders = true := by kernel_rfl
  cases A with
  | none =>
    obtain rfl := hA rfl
    go_enter Try.func31, Try.ntmps31
    go_wp2_with (at_builtin; refine wpList_append_run _ rfl _ _ 66 66 rfl _ _ rfl rfl _ _ hap ?_)
    go_ret
    exact ⟨rfl, rfl⟩
  | some a =>
    obtain ⟨ab, ao, asp⟩ := a
    go_enter Try.func31, Try.ntmps31
    go_wp2_with (at_builtin; refine wpList_append_run _ rfl _ _ 66 66 rfl _ _ rfl rfl _ _ hap ?_)
    all_goals (go_ret; exact ⟨rfl, rfl⟩)
end Go.Proofs.Ytkphojcmjffccaa

/-! A row written anew in its own block. -/
set_option linter.unusedVariables false
set_option linter.unusedSimpArgs false
set_option linter.unusedSectionVars false
namespace Go.Proofs.Ytkphojcmjffccaa
open Go.RowKit

section
variable [Off] [Gh] [Old] {P : Program} {φ : Nat → Option (Nat × Nat)} {w0 : World} {N : Nat} {w w' : World}
theorem HS.insIn {H : Nat → Blk} {base : Nat} (hs : HS (sx w H φ base)) {h d b ob off : Nat} (hl : (H h).live = true) (hr : (H h).rw = true) (hrow : (H h).isRow = true) (hφ : φ h = some (b, ob)) {vs : List Value} (hw : Wrote w w' b (ob + off) vs) {ds : List IV} (hd : VRL (sx w H φ base) ds vs) (h1 : ds.all IV.one = true) (hp : IV.purL ds = true)
    (blk : Blk) (hv : (upd H h { H h with ver := (H h).ver + 1, live := false } d).ver < blk.ver) (hbc : blk.cells = ds) :
    HS (sx w' (upd (upd H h { H h with ver := (H h).ver + 1, live := false }) d blk) (upd φ d (some (b, ob + off))) base) where
  home x hlx := by
    have he := Evo.appIn (φ := φ) (off := off) (base := base) hl hr hφ hw blk hv
    by_cases hxd : x = d
    · subst hxd
      have hh := hs.home h hl
      refine ⟨?_, ?_, ?_, ?_⟩
      · simp only [upd, if_true, hbc]; exact h1
      · simp only [upd, if_true, hbc]; intro _; exact hp
      · simp only [upd, if_true, Option.some.injEq]; rintro p rfl; exact hh.low (b, ob) hφ
      · have hat := hh.at_
        simp only [hφ] at hat
        simp only [upd, if_true]
        obtain ⟨cs, T, fr, us, e1, e2, e3, e4, e5⟩ := hat
        obtain ⟨cs1, cs', T', g1, g2, g3, g4, g5, g6⟩ := hw.get
        have e1' : w.heap[b]? = some (.cells cs T fr) := e1
        rw [g1] at e1'
        injection e1' with e1'; injection e1' with q1 q2 q3
        subst q1 q2 q3
        have hfit : ob + off + vs.length ≤ cs'.size := by
          obtain ⟨cs2, T2, f1, f2, _⟩ := hw.ex
          rw [g1] at f1
          injection f1 with f1; injection f1 with f1
          subst f1
          omega
        refine ⟨cs', T', (0, 0), vs, g2, fun _ => ⟨rfl, (e2 hr).2⟩, ?_, fun j hj => g5 j hj, hfit⟩
        rw [hbc]; exact hd.evo he
    · by_cases hxh : x = h
      · subst hxh; simp only [upd, if_neg hxd, if_true, Bool.false_eq_true] at hlx
      · have hlx' : (H x).live = true := by simpa only [upd, if_neg hxd, if_neg hxh] using hlx
        refine (hs.home x hlx').evo he (by simp only [upd, if_neg hxd, if_neg hxh]) (by simp only [upd, if_neg hxd]) rfl (fun c oc hc => hw.old (fun e => ?_))
        subst e
        exact hs.excl h x (c, ob) (c, oc) hl hr hlx' (fun e => hxh e.symm) hφ hc rfl
  excl x y p q hlx hrx hly hne hpx hpy := by
    by_cases hxd : x = d
    · subst hxd
      have hyd : y ≠ x := fun e => hne e.symm
      by_cases hyh : y = h
      · subst hyh; simp only [upd, if_neg hyd, if_true, Bool.false_eq_true] at hly
      · simp only [upd, if_neg hyd, if_neg hyh] at hly hpy
        simp only [upd, if_true, Option.some.injEq] at hpx
        subst hpx
        exact hs.excl h y (b, ob) q hl hr hly (fun e => hyh e.symm) hφ hpy
    · by_cases hxh : x = h
      · subst hxh; simp only [upd, if_neg hxd, if_true, Bool.false_eq_true] at hlx
      · simp only [upd, if_neg hxd, if_neg hxh] at hlx hrx hpx
        by_cases hyd : y = d
        · subst hyd
          simp only [upd, if_true, Option.some.injEq] at hpy
          subst hpy
          exact fun e => hs.excl h x (b, ob) p hl hr hlx (fun e => hxh e.symm) hφ hpx e.symm
        · by_cases hyh : y = h
          · subst hyh; simp only [upd, if_neg hyd, if_true, Bool.false_eq_true] at hly
          · simp only [upd, if_neg hyd, if_neg hyh] at hly hpy
            exact hs.excl x y p q hlx hrx hly hne hpx hpy
  size := by have := hs.size; show base ≤ w'.heap.size; rw [hw.size]; exact this
end
end Go.Proofs.Ytkphojcmjffccaa

/-! slices.Insert of one slice of bytes ahead of all others: its contract in place. -/
set_option linter.unusedVariables false
set_option linter.unusedSimpArgs false
set_option linter.unusedSectionVars false
namespace Go.Proofs.Ytkphojcmjffccaa
open Go.RowKit

def insBlk (H : Nat → Blk) (hx off : Nat) (x : IV) : Blk := ⟨(H hx).ver + 2, true, true, true, x :: (H hx).cells.drop off⟩
def insQ (H : Nat → Blk) (hx off n : Nat) (x : IV) (r : List IV) (h' : Nat → Blk) : Prop :=
  r = [.row hx 0 (n + 1) 1 ((H hx).ver + 2)] ∧ h' = upd (upd H hx { H hx with ver := (H hx).ver + 1, live := false }) hx (insBlk H hx off x)

theorem ins_pack {o : Old} {w0 w' : World} {G : IV → Value → Prop} {L : List (Nat × Obj)} {H : Nat → Blk} {hx off n : Nat} {x : IV} {φ' : Nat → Option (Nat × Nat)} {rv : Value} {e : Ending} {a : Act} {t : Nat → IV}
    (he : e = .returned rv) (h : @RelC ⟨G, [], L⟩ o φ' w0 1 ⟨upd t 0 (.row hx 0 (n + 1) 1 ((H hx).ver + 2)), upd (upd H hx { H hx with ver := (H hx).ver + 1, live := false }) hx (insBlk H hx off x)⟩ a w') (ha : a.tmps.getD 0 undef = rv) :
    ∃ rv, e = .returned rv ∧ ∃ (φ' : Nat → Option (Nat × Nat)) (h' : Nat → Blk) (r : List IV) (us' : List Value), insQ H hx off n x r h' ∧ HS (@sx o w' h' φ' w0.heap.size) ∧ @Bel ⟨G, [], L⟩ w0 w' ∧
      (∀ v u, G v u → VR (@sx o w' h' φ' w0.heap.size) v u) ∧ rv = asVal us' ∧ VRL (@sx o w' h' φ' w0.heap.size) r us' ∧ r.all IV.nlit = true := by
  obtain ⟨h1, h2, h3, h4, h5, h6⟩ := h
  refine ⟨rv, he, φ', _, _, [rv], ⟨rfl, rfl⟩, h1, h2, h6, rfl, ?_, rfl⟩
  simp only [VRL]
  have := h5 0
  rw [ha] at this
  exact ⟨rv, [], rfl, by simpa only [upd, if_true] using this, rfl⟩
end Go.Proofs.Ytkphojcmjffccaa

/-! slices.Insert: memory behind it. -/
set_option linter.unusedVariables false
set_option linter.unusedSimpArgs false
set_option linter.unusedSectionVars false
namespace Go.Proofs.Ytkphojcmjffccaa
open Go.RowKit

def insAct : Act := ⟨#[undef], []⟩
def insSt (H : Nat → Blk) : St := ⟨fun _ => .undef, H⟩

theorem ins_in {o : Old} {w0 w w' : World} {G : IV → Value → Prop} {L : List (Nat × Obj)} {H : Nat → Blk} {hx off n k b ob : Nat} {x : IV} {ux : Value} {olds : List Value} {φ : Nat → Option (Nat × Nat)} {A : Option Addr}
    (rel : @RelC ⟨G, [], L⟩ o φ w0 1 (insSt H) insAct w) (hl : (H hx).live = true) (hrw : (H hx).rw = true) (hrow : (H hx).isRow = true) (hoff : off + n = (H hx).cells.length) (hφ : φ hx = some (b, ob))
    (hw : Wrote w w' b (ob + off) (ux :: olds)) (hvx : VR (@sx o w H φ w0.heap.size) x ux) (h1 : x.one = true) (hp : IV.purL [x] = true) (hvo : VRL (@sx o w H φ w0.heap.size) ((H hx).cells.drop off) olds)
    (hA : A = some ⟨b, ob + off, none⟩) (hk : n + 1 ≤ k) (hsp : ob + off + k ≤ bsize w b) :
    @RelC ⟨G, [], L⟩ o (upd φ hx (some (b, ob + off))) w0 1 ⟨upd (fun _ => .undef) 0 (.row hx 0 (n + 1) 1 ((H hx).ver + 2)), upd (upd H hx { H hx with ver := (H hx).ver + 1, live := false }) hx (insBlk H hx off x)⟩ (insAct.put (some 0) (.slice A (n + 1) k)) w' := by
  letI := o
  letI : Gh := ⟨G, [], L⟩
  letI : Off := ⟨hx⟩
  have hh := rel.hs.home hx hl
  have hd : VRL (sx w H φ w0.heap.size) (x :: (H hx).cells.drop off) (ux :: olds) := by
    simp only [VRL]
    exact ⟨ux, olds, rfl, hvx, hvo⟩
  have hall : (x :: (H hx).cells.drop off).all IV.one = true := by simp only [List.all_cons, Bool.and_eq_true]; exact ⟨h1, all_drop hh.one _⟩
  have hpur : IV.purL (x :: (H hx).cells.drop off) = true := by
    have := purL_append hp (purL_drop (hh.row hrow) off)
    simpa [insSt] using this
  have hver : (upd H hx { H hx with ver := (H hx).ver + 1, live := false } hx).ver < (insBlk H hx off x).ver := by simp only [upd, if_true, insBlk]; omega
  have hlow := hh.low (b, ob) hφ
  refine rel.put (HS.insIn (off := off) rel.hs hl hrw hrow hφ hw hd hall hpur (insBlk H hx off x) hver rfl) (Evo.appIn (off := off) hl hrw hφ hw (insBlk H hx off x) hver) (hw.bel rel.below hlow) (by omega) ?_
  simp only [VR, upd, if_true, insBlk]
  refine ⟨Nat.le_refl _, A, k, rfl, hk, fun _ _ => ?_⟩
  unfold rowR
  simp only [upd, if_true, List.length_cons, List.length_drop, Nat.zero_add, Nat.add_zero, Nat.mul_one]
  refine ⟨by omega, .inr hA, ?_⟩
  rw [hw.bsize]; exact hsp

theorem ins_new {o : Old} {w0 w w' : World} {G : IV → Value → Prop} {L : List (Nat × Obj)} {H : Nat → Blk} {hx off n k : Nat} {x : IV} {ux : Value} {olds : List Value} {φ : Nat → Option (Nat × Nat)} {cells : Array Value} {T : TypeId}
    (rel : @RelC ⟨G, [], L⟩ o φ w0 1 (insSt H) insAct w) (hl : (H hx).live = true) (hrow : (H hx).isRow = true) (hoff : off + n = (H hx).cells.length)
    (hw : Pushed w w' (.cells cells T (0, 0))) (hc : ∀ i (hi : i < (ux :: olds).length), cells[i]? = some (ux :: olds)[i]) (hvx : VR (@sx o w H φ w0.heap.size) x ux) (h1 : x.one = true) (hp : IV.purL [x] = true) (hvo : VRL (@sx o w H φ w0.heap.size) ((H hx).cells.drop off) olds)
    (hk : n + 1 ≤ k) (hsz : k ≤ cells.size) :
    @RelC ⟨G, [], L⟩ o (upd φ hx (some (w.heap.size, 0))) w0 1 ⟨upd (fun _ => .undef) 0 (.row hx 0 (n + 1) 1 ((H hx).ver + 2)), upd (upd H hx { H hx with ver := (H hx).ver + 1, live := false }) hx (insBlk H hx off x)⟩ (insAct.put (some 0) (.slice (some ⟨w.heap.size, 0, none⟩) (n + 1) k)) w' := by
  letI := o
  letI : Gh := ⟨G, [], L⟩
  letI : Off := ⟨hx⟩
  have hh := rel.hs.home hx hl
  have hd : VRL (sx w H φ w0.heap.size) (x :: (H hx).cells.drop off) (ux :: olds) := by
    simp only [VRL]
    exact ⟨ux, olds, rfl, hvx, hvo⟩
  have hall : (x :: (H hx).cells.drop off).all IV.one = true := by simp only [List.all_cons, Bool.and_eq_true]; exact ⟨h1, all_drop hh.one _⟩
  have hpur : IV.purL (x :: (H hx).cells.drop off) = true := by
    have := purL_append hp (purL_drop (hh.row hrow) off)
    simpa [insSt] using this
  have hlen := hd.length
  have rel2 := rel.putN (rel.hs.dead (h := hx)) Evo.dead rel.below
  have := RelC.newRow (d := 0) rel2 (by omega) hw hall hpur (hd.evo Evo.dead) hc (n := n + 1) (sz := 1) (k := k) (by simp only [List.length_cons, List.length_drop]; omega) hk (by omega) (by simp only [List.length_cons, List.length_drop] at hlen ⊢; omega)
  have e0 : hom 0 = hx := rfl
  rw [e0] at this
  simp only [St.eff, freshBlk, upd, if_true, insBlk, insSt, Nat.add_assoc, Nat.reduceAdd] at this ⊢
  exact this
end Go.Proofs.Ytkphojcmjffccaa

/-! slices.Insert: the cells behind it. -/
set_option linter.unusedVariables false
set_option linter.unusedSimpArgs false
set_option linter.unusedSectionVars false
namespace Go.Proofs.Ytkphojcmjffccaa
open Go.RowKit

theorem wrote_two (P : Program) {b o : Nat} {T : TypeId} {x : Value} (vs : List Value) (cs : Array Value) (w : World) (hg : w.heap[b]? = some (.cells cs T (0, 0))) (hfit : o + 1 + vs.length ≤ cs.size) (h1 : ∀ v ∈ vs, v.oneCell' = true) (hx : x.oneCell' = true) :
    Wrote w ((w.setCells b (o + 1) vs).setCells b o [x]) b o (x :: vs) := by
  refine ⟨cs, T, hg, by simp only [List.length_cons]; omega, ?_⟩
  have hl : cs.toList.length = cs.size := Array.length_toList
  rw [setCells_row (P := P) vs cs w hg hfit h1,
    setCells_row (P := P) [x] _ _ (setRow_heap w b cs _ T (0, 0) hg) (by simp; omega) (by simpa using hx), setRow_setRow]
  congr 2
  simp only [List.length_cons, List.length_nil, Nat.zero_add]
  obtain ⟨pre, z, rest, hcs, hpre⟩ : ∃ pre z rest, cs.toList = pre ++ z :: rest ∧ pre.length = o := by
    refine ⟨cs.toList.take o, cs.toList[o]'(by omega), cs.toList.drop (o + 1), ?_, by simp; omega⟩
    rw [← List.drop_eq_getElem_cons (by omega), List.take_append_drop]
  subst hpre
  rw [hcs]
  have t1 : List.take (pre.length + 1) (pre ++ z :: rest) = pre ++ [z] := by rw [List.take_append, List.take_of_length_le (by omega)]; simp
  have t2 : List.drop (pre.length + 1 + vs.length) (pre ++ z :: rest) = rest.drop vs.length := by
    rw [Nat.add_assoc, List.drop_append, List.drop_eq_nil_of_le (by omega)]
    simp [Nat.add_comm 1]
  rw [t1, t2]
  have t3 : List.drop (pre.length + (vs.length + 1)) (pre ++ z :: rest) = rest.drop vs.length := by
    rw [List.drop_append, List.drop_eq_nil_of_le (by omega)]
    simp
  rw [t3]
  simp [List.take_append, List.drop_append]

theorem pushed_two (P : Program) {T : TypeId} {x : Value} (vs : List Value) (zs : Array Value) (w : World) (hfit : 1 + vs.length ≤ zs.size) (h1 : ∀ v ∈ vs, v.oneCell' = true) (hx : x.oneCell' = true) :
    ∃ cells : Array Value, cells.size = zs.size ∧ (∀ i (hi : i < (x :: vs).length), cells[i]? = some (x :: vs)[i]) ∧
      Pushed w (((w.drew.alloc (.cells zs T)).setCells w.heap.size 0 [x]).drew.setCells w.heap.size 1 vs) (.cells cells T (0, 0)) := by
  have hg : (w.drew.alloc (.cells zs T)).heap[w.heap.size]? = some (.cells zs T (0, 0)) := by
    show (w.heap.push (.cells zs T))[w.heap.size]? = _
    simp
  have hl : zs.toList.length = zs.size := Array.length_toList
  rw [setCells_row (P := P) [x] zs _ hg (by simp; omega) (by simpa using hx)]
  have hg2 := setRow_heap _ w.heap.size zs (zs.toList.take 0 ++ [x] ++ zs.toList.drop (0 + [x].length)).toArray T (0, 0) hg
  have hg3 : (((w.drew.alloc (.cells zs T)).setRow w.heap.size (zs.toList.take 0 ++ [x] ++ zs.toList.drop (0 + [x].length)).toArray).drew).heap[w.heap.size]? = _ := hg2
  rw [setCells_row (P := P) vs _ _ hg3 (by simp; omega) h1]
  have key : ∀ (r r' : Array Value), (((w.drew.alloc (.cells zs T)).setRow w.heap.size r).drew).setRow w.heap.size r' = (w.drew.alloc (.cells r' T)).drew := fun r r' => by
    show (((w.drew.alloc (.cells zs T)).setRow w.heap.size r).setRow w.heap.size r').drew = _
    rw [setRow_setRow]
    have e2 := World.setRow_alloc_new w.drew zs r' T
    rw [show w.drew.heap.size = w.heap.size from rfl] at e2
    rw [e2]
  rw [key]
  have fin : ∀ cells : Array Value, cells.size = zs.size → (∀ i (hi : i < (x :: vs).length), cells[i]? = some (x :: vs)[i]) → ∃ c : Array Value, c.size = zs.size ∧ (∀ i (hi : i < (x :: vs).length), c[i]? = some (x :: vs)[i]) ∧ Pushed w (w.drew.alloc (.cells cells T)).drew (.cells c T (0, 0)) :=
    fun cells a b => ⟨cells, a, b, ⟨rfl, rfl, rfl, rfl⟩⟩
  refine fin _ ?_ ?_
  · simp; omega
  · intro i hi
    simp only [List.take_zero, List.nil_append, List.cons_append, List.take_succ_cons, List.take_zero, List.getElem?_toArray]
    rw [← List.cons_append, List.getElem?_append_left hi, List.getElem?_eq_getElem hi]
end Go.Proofs.Ytkphojcmjffccaa

/-! slices.Insert of one slice of bytes ahead of all others: its contract in place. -/
set_option linter.unusedVariables false
set_option linter.unusedSimpArgs false
set_option linter.unusedSectionVars false
set_option maxRecDepth 100000
namespace Go.Proofs.Ytkphojcmjffccaa
open Go.RowKit

theorem ins_ok {H : Nat → Blk} {hx off n : Nat} {f : Fl} {x : IV} (hl : (H hx).live = true) (hrw : (H hx).rw = true) (hrow : (H hx).isRow = true) (hoff : off + n = (H hx).cells.length) (hn : n < 2 ^ 36) :
    IC Try.prog 31 H [.row hx off n 1 (H hx).ver, .int .i64 0, .sl f 1 [x]] (insQ H hx off n x) := by
  refine ⟨by kernel_rfl, ?_⟩
  intro o w0 w φ us G L hs hb hv hG
  letI := o
  letI : Gh := ⟨G, [], L⟩
  letI : Off := ⟨hx⟩
  have rel : @RelC ⟨G, [], L⟩ o φ w0 1 (insSt H) insAct w := ⟨hs, hb, rfl, rfl, fun t => by simp only [insSt, VR], hG⟩
  simp only [VRL] at hv
  obtain ⟨u1, _, rfl, h1, u2, _, rfl, h2, u3, _, rfl, h3, rfl⟩ := hv
  simp only [VR] at h2
  subst h2
  -- the value that is put in
  simp only [VR, VRL] at h3
  obtain ⟨A3, k3, us3, rfl, hk3, _, _, hpx, hone3, ⟨ux, _, rfl, hvx, rfl⟩, hat3⟩ := h3
  obtain ⟨⟨vb, vo, vs⟩, rfl, hsp3, hS3, hc3⟩ := hat3 0 (by simp)
  simp only at hsp3 hS3 hc3
  subst hsp3
  simp only [Nat.add_zero, List.getElem_cons_zero] at hc3
  have h1x : x.one = true := by simpa using hone3
  have h1u : ux.oneCell' = true := one_cell hvx h1x
  have hvb : vb < w.heap.size := hS3.1
  obtain ⟨csv, Tv, frv, hbv, hvo⟩ : ∃ csv Tv frv, w.heap[vb]? = some (.cells csv Tv frv) ∧ vo < csv.size := by
    simp only [World.cell?] at hc3
    split at hc3
    · rename_i c e fr hh
      exact ⟨c, e, fr, hh, (Array.getElem?_eq_some_iff.1 hc3).1⟩
    · cases hc3
  -- the row
  obtain ⟨A, k, olds, e1, e2, e3, e4, e5⟩ := row_cells hs h1 hl rfl n (by omega)
  subst e1
  simp only [VR] at h1
  obtain ⟨_, A', k', ea, _, hr⟩ := h1
  injection ea with ea1 _ ea2
  subst ea1 ea2
  have hr' := hr hl trivial
  unfold rowR at hr'
  simp only [Nat.mul_one] at hr'
  have hseg : ((H hx).cells.drop off).take n = (H hx).cells.drop off := List.take_of_length_le (by simp; omega)
  rw [hseg] at e2
  have hone := (hs.home hx hl).one
  have h1o : ∀ v ∈ olds, v.oneCell' = true := ones_cell e2 (all_drop hone _)
  have hi0 : ∃ i0 z, Try.prog.info? 35 = some i0 ∧ i0.zero = some z ∧ i0.bytes = 24 ∧ z.cells.size = 1 := by
    have hz0 : (Try.prog.info? 35).map (fun i => (i.zero, i.bytes)) = some (some (.slice none 0 0), 24) := by kernel_rfl
    cases hh : Try.prog.info? 35 with
    | none => rw [hh] at hz0; cases hz0
    | some i0 =>
      rw [hh] at hz0
      simp only [Option.map_some, Option.some.injEq, Prod.mk.injEq] at hz0
      exact ⟨i0, _, rfl, hz0.1, hz0.2, rfl⟩
  obtain ⟨i0, z, hi0, hz, hby, hzc⟩ := hi0
  have hc1 : Try.prog.cellsOf 35 = 1 := by kernel_rfl
  have hlen3 : ∀ W, (Builtin.lenOf (.slice (some ⟨vb, vo, none⟩) 1 k3)).run Try.prog W = .ok 1 W := fun W => rfl
  have hfc : ∀ W : World, W.cell? ⟨vb, vo, none⟩ = some ux → (Builtin.firstCells (Try.prog.cellsOf 35) 1 (.slice (some ⟨vb, vo, none⟩) 1 k3)).run Try.prog W = .ok [ux].toArray W := fun W hW => by
    rw [hc1]
    refine run_firstCells_some (P := Try.prog) W 1 1 _ 1 k3 [ux] rfl (fun q zz hq => ?_)
    obtain rfl : q = 0 := by have := (List.getElem?_eq_some_iff.1 hq).1; simpa using this
    rw [add_at]
    simp only [List.getElem?_cons_zero, Option.some.injEq] at hq
    subst hq
    exact hW
  have hnot : ∀ kk : IntKind, TypeDesc.slice 35 ≠ .int kk := by intro kk h; cases h
  by_cases hle : n + 1 ≤ k
  · -- there is room
    cases hφ : φ hx with
    | none => simp only [hφ] at hr'; omega
    | some p =>
      obtain ⟨b, ob⟩ := p
      simp only [hφ] at hr'
      have hA : A = some ⟨b, ob + off, none⟩ := by rcases hr'.2.1 with h | h; omega; exact h
      have hat := (hs.home hx hl).at_
      simp only [hφ] at hat
      obtain ⟨cs, T, fr, us, f1, f2, f3, f4, f5⟩ := hat
      obtain ⟨rfl, hbb⟩ := f2 hrw
      have f1' : w.heap[b]? = some (.cells cs T (0, 0)) := f1
      have hbs : bsize w b = cs.size := by simp only [bsize, f1']
      have hne : vb ≠ b := fun e => hS3.2.1 hx hl hrw (b, ob) hφ e.symm
      subst hA
      by_cases hn0 : n = 0
      · subst hn0
        obtain rfl : olds = [] := List.eq_nil_of_length_eq_zero e3
        have hst := run_storeCells_at Try.prog b (ob + off) T [ux] 0 cs w f1' (by simp; omega) (by simpa using h1u)
        have hap := run_append_in (P := Try.prog) (w := w) (t := 66) (u := 66) (A := some ⟨b, ob + off, none⟩) (n := 0) (k := k) (m := 1) Try.underlying66 Try.underlying66 hnot hi0 66 (hlen3 w) (hfc w hc3) (by omega) (w1 := _) (fun ad had => by
          injection had with had; subst had
          rw [Nat.zero_mul, add_at, Nat.add_zero]
          exact hst) (fun h => by cases h)
        refine Calls.mono (ins_end _ k vb vo k3 w _ _ k (fun h => by cases h) hap) ?_
        rintro e w' ⟨rfl, rfl⟩
        exact ins_pack rfl (ins_in rel hl hrw hrow (by omega) hφ ⟨cs, T, f1', by simp; omega, by simp⟩ hvx h1x hpx e2 rfl (by omega) (by omega)) rfl
      · obtain ⟨b2, o2, q1, q2⟩ := e5 (by intro h; rw [h] at e3; simp at e3; omega)
        injection q1 with q1; injection q1 with q1 q3
        subst q1 q3
        refine Calls.mono (ins_shift b (ob + off) n k vb vo k3 olds ux w (by omega) hle (by omega) hne e3 q2 (fun j hj => by
          simp only [World.cell?, f1']
          rw [Array.getElem?_eq_getElem (by omega)]; rfl) (fun j => by simp only [World.frozen?, f1']; simp) hc3 h1o h1u Tv T csv.size cs.size (by simp only [World.shape?, hbv]) (by simp only [World.shape?, f1']) (by omega)) ?_
        rintro e w' ⟨rfl, rfl⟩
        have hbel : Below w.heap.size w w.drew := ⟨rfl, rfl, rfl, Nat.le_refl _, fun _ _ => rfl⟩
        have rel' := rel.called hbel
        refine ins_pack rfl (ins_in rel' hl hrw hrow hoff hφ (wrote_two Try.prog olds cs w.drew f1' (by omega) h1o h1u) ?_ h1x hpx ?_ rfl (by omega) (by show ob + off + k ≤ bsize w b; omega)) rfl
        · exact hvx.evo (Evo.called hs hbel)
        · exact e2.evo (Evo.called hs hbel)
  · have hkn : k = n := by omega
    subst hkn
    by_cases hn0 : k = 0
    · subst hn0
      obtain rfl : olds = [] := List.eq_nil_of_length_eq_zero e3
      obtain ⟨cap, hcap, hap⟩ := run_append_new (P := Try.prog) (w := w) (t := 66) (u := 66) (A := A) (n := 0) (k := 0) (m := 1) Try.underlying66 Try.underlying66 hnot hi0 hz 66 (hlen3 w) (olds := []) (by
        rw [hc1]
        cases A with
        | none => simp [Builtin.firstCells]
        | some ad => simp only [Builtin.firstCells, Nat.zero_mul]; exact run_loadCells_list (P := Try.prog) w.drew ad [] (by simp)) (hfc w.drew hc3) (by omega) (by rw [hby]; omega) (by omega)
      refine Calls.mono (ins_end A 0 vb vo k3 w _ _ cap (fun _ => rfl) hap) ?_
      rintro e w' ⟨rfl, rfl⟩
      refine ins_pack rfl (ins_new rel hl hrow hoff (pushed_drew w _) ?_ hvx h1x hpx e2 (by omega) ?_) rfl
      · intro i hi
        obtain rfl : i = 0 := by simpa using hi
        simp [Array.getElem?_append]
      · simp only [Array.size_append, List.size_toArray, size_zeroCells, hzc, List.length_nil, List.length_cons]; omega
    · obtain ⟨b2, o2, q1, q2⟩ := e5 (by intro h; rw [h] at e3; simp at e3; omega)
      subst q1
      have hb2 : b2 < w.heap.size := by
        have := q2 0 (olds[0]'(by omega)) (List.getElem?_eq_getElem _)
        simp only [World.cell?] at this
        split at this
        · rename_i c e fr hh; exact (Array.getElem?_eq_some_iff.1 hh).1
        · cases this
      refine Calls.mono (ins_grow b2 o2 k vb vo k3 olds ux w (by omega) hn hvb hb2 e3 q2 hc3 h1o h1u) ?_
      rintro e w' ⟨cap, zs, g1, g2, rfl, rfl⟩
      obtain ⟨cells, c1, c2, c3⟩ := pushed_two Try.prog (T := 35) olds zs w (by omega) h1o h1u
      exact ins_pack rfl (ins_new rel hl hrow hoff c3 c2 hvx h1x hpx e2 (by omega) (by omega)) rfl
end Go.Proofs.Ytkphojcmjffccaa
