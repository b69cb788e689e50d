/- A round of sha.Sum: H behind 64 bytes more. -/
import Derived.Test.YtkphojcmjffccaaZ2
import Derived.Test.YtkphojcmjffccaaS2
import Derived.Test.YtkphojcmjffccaaS4
import Derived.Test.YtkphojcmjffccaaE31
import Derived.Test.YtkphojcmjffccaaK0
set_option linter.unusedSimpArgs false
set_option linter.unusedSectionVars false
set_option linter.unusedVariables false
namespace Go.Proofs.Ytkphojcmjffccaa
open Go.RowKit Go.Shelf
attribute [local go_sem] Oper.semAt_some

def cl : Code → Code
  | .seq a _ => a
  | .block _ a => a
  | .rangeFunc _ _ _ b => b
  | c => c
def cr : Code → Code
  | .seq _ b => b
  | .rangeFunc _ _ a _ => a
  | c => c
def opsOf : Code → Array Oper
  | .region _ ops _ => ops
  | _ => #[]
noncomputable def b17 : Code := Try.f25.body.getD .skip
noncomputable def k0 : Code := cl b17
noncomputable def k1 : Code := cl (cr b17)
noncomputable def k2 : Code := cl (cr (cr b17))
noncomputable def k3 : Code := cl (cl (cr (cr (cr b17))))
noncomputable def rf17 : Code := cl (cr (cl (cr (cr (cr b17)))))
noncomputable def asg17 : Code := cr rf17
noncomputable def bd17 : Code := cl rf17
noncomputable def ops5 : Array Oper := opsOf (cl bd17)
noncomputable def kD : Code := cr (cr (cr (cr b17)))
theorem b17_eq : Try.f25.body = some (.seq k0 (.seq k1 (.seq k2 (.seq (.seq k3 (.block 0 (.rangeFunc (.tmp 19) #[20] asg17 (.block 1 (.region 5 ops5 true))))) kD)))) := by kernel_rfl

def w32v (L : List UInt32) : List Value := L.map fun x => .int .u32 (x.toNat : Int)
def w8v (L : List UInt8) : List Value := L.map fun x => .int .u8 (x.toNat : Int)
theorem VRL_wl {c : Sx} : ∀ L : List UInt32, VRL c (wl L) (w32v L)
  | [] => by simp [wl, w32v, VRL]
  | x :: L => by simp only [wl, w32v, List.map_cons, VRL]; exact ⟨_, _, rfl, by simp [VR], VRL_wl L⟩
theorem VRL_bl {c : Sx} : ∀ L : List UInt8, VRL c (bl L) (w8v L)
  | [] => by simp [bl, w8v, VRL]
  | x :: L => by simp only [bl, w8v, List.map_cons, VRL]; exact ⟨_, _, rfl, by simp [VR], VRL_bl L⟩
theorem VRL_wl_eq {c : Sx} : ∀ {L : List UInt32} {us : List Value}, VRL c (wl L) us → us = w32v L
  | [], us, h => by simpa [wl, w32v, VRL] using h
  | x :: L, us, h => by
    simp only [wl, List.map_cons, VRL] at h
    obtain ⟨u, us', rfl, h1, h2⟩ := h
    simp only [VR] at h1
    rw [VRL_wl_eq h2, h1]; rfl
theorem VRL_bl_eq {c : Sx} : ∀ {L : List UInt8} {us : List Value}, VRL c (bl L) us → us = w8v L
  | [], us, h => by simpa [bl, w8v, VRL] using h
  | x :: L, us, h => by
    simp only [bl, List.map_cons, VRL] at h
    obtain ⟨u, us', rfl, h1, h2⟩ := h
    simp only [VR] at h1
    rw [VRL_bl_eq h2, h1]; rfl

theorem scal_purL : ∀ (l : List IV), l.all IV.scal = true → IV.purL l = true
  | [], _ => rfl
  | x :: l, h => by
    simp only [List.all_cons, Bool.and_eq_true] at h
    simp only [IV.purL, Bool.and_eq_true]
    exact ⟨by cases x <;> first | rfl | (simp [IV.scal] at h), scal_purL l h.2⟩
theorem scal_ones : ∀ (l : List IV), l.all IV.scal = true → l.all IV.one = true
  | [], _ => rfl
  | x :: l, h => by
    simp only [List.all_cons, Bool.and_eq_true] at h ⊢
    exact ⟨by cases x <;> first | rfl | (simp [IV.scal] at h), scal_ones l h.2⟩
theorem turn_raw (h : H8) (b : List UInt8) (hb : b.length = 64) (w : World) : Calls Try.prog 37 #[.agg (w32v h.l).toArray, .agg (w8v b).toArray] w fun e w' => e = .returned (.agg (w32v (turnH h b)).toArray) ∧ Below w.heap.size w w' := by
  have hc := (turn_ok h b hb).2 w (fun _ => False) [.agg (w32v h.l).toArray, .agg (w8v b).toArray] (fun _ h => h.elim) rfl (by simp [IV.purL, IV.pur, scal_purL _ (wl_scal h.l), scal_purL _ (bl_scal b)]) (by
    simp only [VRL, VR]
    exact ⟨_, _, rfl, ⟨_, rfl, scal_ones _ (wl_scal h.l), VRL_wl _⟩, _, _, rfl, ⟨_, rfl, scal_ones _ (bl_scal b), VRL_bl _⟩, rfl⟩)
  refine Calls.mono hc ?_
  rintro e w' ⟨rv, rfl, ⟨B, us, rfl, h1, h2, h3⟩, hB⟩
  refine ⟨?_, hB⟩
  cases h2 with
  | cons h4 h5 =>
    cases h5
    obtain ⟨_, _, h6⟩ := h4
    simp only [VR] at h6
    obtain ⟨us, rfl, _, h7⟩ := h6
    rw [VRL_wl_eq h7]; rfl

noncomputable section
local instance ghZ : Gh := ⟨fun _ _ => False, [], []⟩
local instance oldZ : Old := ⟨fun _ => False⟩
theorem wpOp_val {P : Program} {ops : Array Oper} {Q : Exit → Act → World → Prop} {K : Act → World → Prop} {a : Act} {w w' : World} {i : Nat} {o : Oper} {v : Value} (ho : ops[i]? = some o) (hg : o.guard = none) (hr : (execOp a.eval o).run P w = .ok (.value v) w') (h : K (a.put o.dst v) w') : wpOp P ops Q i K a w := by
  unfold wpOp
  simp only [ho, wanted_none hg, if_true]
  left
  unfold Oper.wp
  rw [hr]
  exact h
theorem wpOp_skip {P : Program} {ops : Array Oper} {Q : Exit → Act → World → Prop} {K : Act → World → Prop} {a : Act} {w w' : World} {i : Nat} {o : Oper} (ho : ops[i]? = some o) (hg : o.guard = none) (hr : (execOp a.eval o).run P w = .ok .skip w') (h : K (a.put o.dst undef) w') : wpOp P ops Q i K a w := by
  unfold wpOp
  simp only [ho, wanted_none hg, if_true]
  left
  unfold Oper.wp
  rw [hr]
  exact h
theorem wpOp_enter {P : Program} {ops : Array Oper} {Q : Exit → Act → World → Prop} {K : Act → World → Prop} {a : Act} {w w' : World} {i : Nat} {o : Oper} {f : FuncId} {args : Array Value} (ho : ops[i]? = some o) (hg : o.guard = none) (hr : (execOp a.eval o).run P w = .ok (.enter f args) w') (h : Calls P f args w' fun e w'' => ∃ v, e = .returned v ∧ K (a.put o.dst v) w'') : wpOp P ops Q i K a w := by
  unfold wpOp
  simp only [ho, wanted_none hg, if_true]
  left
  unfold Oper.wp
  rw [hr]
  refine Calls.mono h ?_
  rintro e w'' ⟨v, rfl, hk⟩
  exact hk

noncomputable def oD : Oper := { dst := none, op := .move (.tmp 0), type := 0, pos := "", after := #[], guard := none }
noncomputable def o5 (i : Nat) : Oper := (ops5[i]?).getD oD
theorem o5_at : ∀ i, i < 6 → ops5[i]? = some (o5 i) := by
  intro i hi
  have : ops5.size = 6 := by kernel_rfl
  unfold o5
  rw [Array.getElem?_eq_getElem (by omega)]; rfl
theorem o5_guard : (o5 0).guard = none ∧ (o5 1).guard = none ∧ (o5 2).guard = none ∧ (o5 3).guard = none ∧ (o5 4).guard = none ∧ (o5 5).guard = none := ⟨by kernel_rfl, by kernel_rfl, by kernel_rfl, by kernel_rfl, by kernel_rfl, by kernel_rfl⟩
theorem o5_dst : (o5 0).dst = some 21 ∧ (o5 1).dst = some 22 ∧ (o5 2).dst = some 23 ∧ (o5 3).dst = some 24 ∧ (o5 4).dst = some 25 ∧ (o5 5).dst = none := ⟨by kernel_rfl, by kernel_rfl, by kernel_rfl, by kernel_rfl, by kernel_rfl, by kernel_rfl⟩
theorem o5_op0 : (o5 0).op = .load 76 (.tmp 4) := by kernel_rfl
theorem o5_op1 : (o5 1).op = .move (.tmp 5) := by kernel_rfl
theorem o5_op2 : (o5 2).op = .sliceToArrayPointer 84 (.tmp 22) := by kernel_rfl
theorem o5_op3 : (o5 3).op = .load 84 (.tmp 23) := by kernel_rfl
theorem o5_op4 : (o5 4).op = .call { callee := .value (.func 37), args := #[.tmp 21, .tmp 24], argTypes := #[76, 84] } := by kernel_rfl
theorem o5_op5 : (o5 5).op = .store 76 (.tmp 4) (.tmp 25) := by kernel_rfl

section
variable {b4 o4 bA oA : Nat} {h : H8} {b : List UInt8}
structure Nd (b4 o4 bA oA : Nat) (h : H8) (b : List UInt8) (z : Bool) (k : Nat) (a : Act) : Prop where
  size : a.tmps.size = 48
  t4 : a.tmps.getD 4 undef = .pointer (some ⟨b4, o4, none⟩)
  t5 : a.tmps.getD 5 undef = .slice (some ⟨bA, oA, none⟩) 64 64
  t21 : z = true → a.tmps.getD 21 undef = .agg (w32v h.l).toArray
  t22 : 1 ≤ k → a.tmps.getD 22 undef = .slice (some ⟨bA, oA, none⟩) 64 64
  t23 : 2 ≤ k → a.tmps.getD 23 undef = .pointer (some ⟨bA, oA, none⟩)
  t24 : 3 ≤ k → a.tmps.getD 24 undef = .agg (w8v b).toArray
theorem Nd.put {z z' : Bool} {k k' : Nat} {a : Act} {d : Nat} {v : Value} (hn : Nd b4 o4 bA oA h b z k a) (hd : d < 48) (hd4 : d ≠ 4) (hd5 : d ≠ 5)
    (h21 : z' = true → (if 21 = d then v else a.tmps.getD 21 undef) = .agg (w32v h.l).toArray) (h22 : 1 ≤ k' → (if 22 = d then v else a.tmps.getD 22 undef) = .slice (some ⟨bA, oA, none⟩) 64 64)
    (h23 : 2 ≤ k' → (if 23 = d then v else a.tmps.getD 23 undef) = .pointer (some ⟨bA, oA, none⟩)) (h24 : 3 ≤ k' → (if 24 = d then v else a.tmps.getD 24 undef) = .agg (w8v b).toArray) : Nd b4 o4 bA oA h b z' k' (a.put (some d) v) := by
  have hlt : d < a.tmps.size := by rw [hn.size]; exact hd
  refine ⟨by simp [Act.put, hn.size], ?_, ?_, ?_, ?_, ?_, ?_⟩
  · rw [getD_put _ _ _ _ hlt, if_neg (fun e => hd4 e.symm)]; exact hn.t4
  · rw [getD_put _ _ _ _ hlt, if_neg (fun e => hd5 e.symm)]; exact hn.t5
  · intro hz; rw [getD_put _ _ _ _ hlt]; exact h21 hz
  · intro hz; rw [getD_put _ _ _ _ hlt]; exact h22 hz
  · intro hz; rw [getD_put _ _ _ _ hlt]; exact h23 hz
  · intro hz; rw [getD_put _ _ _ _ hlt]; exact h24 hz

variable {W : World} {Q : World → Prop} {K : Act → World → Prop} {QQ : Exit → Act → World → Prop}
theorem st0 (hl33 : (Instr.loadAt 76 (.pointer (some ⟨b4, o4, none⟩))).run Try.prog W = .ok (.agg (w32v h.l).toArray) W) {k : Nat} {a : Act} (hn : Nd b4 o4 bA oA h b false k a) (hk : ∀ a, Nd b4 o4 bA oA h b true k a → K a W) : wpOp Try.prog ops5 QQ 0 K a W := by
  refine wpOp_val (w' := W) (v := .agg (w32v h.l).toArray) (o5_at 0 (by decide)) o5_guard.1 ?_ ?_
  · unfold execOp
    rw [o5_op0]
    have e : a.eval (.tmp 4) = .pointer (some ⟨b4, o4, none⟩) := hn.t4
    simp only [e, Sem.run_bind, hl33, Result.andThen_ok, Sem.run_pure]
  · rw [o5_dst.1]
    refine hk _ (hn.put (by decide) (by decide) (by decide) (fun _ => by rw [if_pos rfl]) (fun hz => by rw [if_neg (by decide)]; exact hn.t22 hz) (fun hz => by rw [if_neg (by decide)]; exact hn.t23 hz) (fun hz => by rw [if_neg (by decide)]; exact hn.t24 hz))
theorem st1 {z : Bool} {a : Act} (hn : Nd b4 o4 bA oA h b z 0 a) (hk : ∀ a, Nd b4 o4 bA oA h b z 1 a → K a W) : wpOp Try.prog ops5 QQ 1 K a W := by
  refine wpOp_val (w' := W) (v := .slice (some ⟨bA, oA, none⟩) 64 64) (o5_at 1 (by decide)) o5_guard.2.1 ?_ ?_
  · unfold execOp
    rw [o5_op1]
    have e : a.eval (.tmp 5) = .slice (some ⟨bA, oA, none⟩) 64 64 := hn.t5
    simp only [e, Sem.run_bind, Result.andThen_ok, Sem.run_pure]
  · rw [o5_dst.2.1]
    refine hk _ (hn.put (by decide) (by decide) (by decide) (fun hz => by rw [if_neg (by decide)]; exact hn.t21 hz) (fun hz => by rw [if_pos rfl]) (fun hz => by omega) (fun hz => by omega))
theorem st2 {z : Bool} {a : Act} (hn : Nd b4 o4 bA oA h b z 1 a) (hk : ∀ a, Nd b4 o4 bA oA h b z 2 a → K a W) : wpOp Try.prog ops5 QQ 2 K a W := by
  refine wpOp_val (w' := W) (v := .pointer (some ⟨bA, oA, none⟩)) (o5_at 2 (by decide)) o5_guard.2.2.1 ?_ ?_
  · unfold execOp
    rw [o5_op2]
    have e : a.eval (.tmp 22) = .slice (some ⟨bA, oA, none⟩) 64 64 := hn.t22 (by decide)
    simp only [e, Instr.arrayAt, Sem.run_bind, run_underlying Try.underlying84, Result.andThen_ok, if_neg (Nat.lt_irrefl 64), Sem.run_pure]
  · rw [o5_dst.2.2.1]
    refine hk _ (hn.put (by decide) (by decide) (by decide) (fun hz => by rw [if_neg (by decide)]; exact hn.t21 hz) (fun hz => by rw [if_neg (by decide)]; exact hn.t22 (by decide)) (fun hz => by rw [if_pos rfl]) (fun hz => by omega))
theorem st3 (hl34 : (Instr.loadAt 84 (.pointer (some ⟨bA, oA, none⟩))).run Try.prog W = .ok (.agg (w8v b).toArray) W) {z : Bool} {a : Act} (hn : Nd b4 o4 bA oA h b z 2 a) (hk : ∀ a, Nd b4 o4 bA oA h b z 3 a → K a W) : wpOp Try.prog ops5 QQ 3 K a W := by
  refine wpOp_val (w' := W) (v := .agg (w8v b).toArray) (o5_at 3 (by decide)) o5_guard.2.2.2.1 ?_ ?_
  · unfold execOp
    rw [o5_op3]
    have e : a.eval (.tmp 23) = .pointer (some ⟨bA, oA, none⟩) := hn.t23 (by decide)
    simp only [e, Sem.run_bind, hl34, Result.andThen_ok, Sem.run_pure]
  · rw [o5_dst.2.2.2.1]
    refine hk _ (hn.put (by decide) (by decide) (by decide) (fun hz => by rw [if_neg (by decide)]; exact hn.t21 hz) (fun hz => by rw [if_neg (by decide)]; exact hn.t22 (by decide)) (fun hz => by rw [if_neg (by decide)]; exact hn.t23 (by decide)) (fun hz => by rw [if_pos rfl]))
theorem st4 (hb : b.length = 64) {a : Act} (hn : Nd b4 o4 bA oA h b true 3 a) (hk : ∀ a W', Below W.heap.size W W' → a.tmps.getD 4 undef = .pointer (some ⟨b4, o4, none⟩) → a.tmps.getD 25 undef = .agg (w32v (turnH h b)).toArray → K a W') : wpOp Try.prog ops5 QQ 4 K a W := by
  have e1 : a.eval (.tmp 21) = .agg (w32v h.l).toArray := hn.t21 rfl
  have e2 : a.eval (.tmp 24) = .agg (w8v b).toArray := hn.t24 (by decide)
  refine wpOp_enter (w' := W) (f := 37) (args := #[.agg (w32v h.l).toArray, .agg (w8v b).toArray]) (o5_at 4 (by decide)) o5_guard.2.2.2.2.1 ?_ ?_
  · have := run_callV (P := Try.prog) (w := W) (a := a) o5_op4 (x := .func 37) rfl (f := 37) (caps := #[]) rfl (by kernel_rfl)
    rw [this]
    simp [e1, e2]
  · refine Calls.mono (turn_raw h b hb W) ?_
    rintro e w' ⟨rfl, hB⟩
    refine ⟨_, rfl, ?_⟩
    rw [o5_dst.2.2.2.2.1]
    have hlt : 25 < a.tmps.size := by rw [hn.size]; decide
    exact hk _ _ hB (by rw [getD_put _ _ _ _ hlt, if_neg (by decide)]; exact hn.t4) (by rw [getD_put _ _ _ _ hlt, if_pos rfl])
theorem st5 {a : Act} {W2 : World} {v : Value} (h4 : a.tmps.getD 4 undef = .pointer (some ⟨b4, o4, none⟩)) (h25 : a.tmps.getD 25 undef = v) (hs : (Instr.storeAt 76 (.pointer (some ⟨b4, o4, none⟩)) v).run Try.prog W = .ok () W2) (hk : ∀ a, K a W2) : wpOp Try.prog ops5 QQ 5 K a W := by
  refine wpOp_skip (w' := W2) (o5_at 5 (by decide)) o5_guard.2.2.2.2.2 ?_ (hk _)
  unfold execOp
  rw [o5_op5]
  have e : a.eval (.tmp 4) = .pointer (some ⟨b4, o4, none⟩) := h4
  have e' : a.eval (.tmp 25) = v := h25
  simp only [e, e', Sem.run_bind, hs, Result.andThen_ok, Sem.run_pure]
end

theorem rdy0 : Region.ready .any ops5 #[false, false, false, false, false, false] = [0, 1] := by kernel_rfl
theorem rdyA : Region.ready .any ops5 #[true, false, false, false, false, false] = [1] := by kernel_rfl
theorem rdyB : Region.ready .any ops5 #[true, true, false, false, false, false] = [2] := by kernel_rfl
theorem rdyC : Region.ready .any ops5 #[true, true, true, false, false, false] = [3] := by kernel_rfl
theorem rdyD : Region.ready .any ops5 #[true, true, true, true, false, false] = [4] := by kernel_rfl
theorem rdyE : Region.ready .any ops5 #[true, true, true, true, true, false] = [5] := by kernel_rfl
theorem rdyF : Region.ready .any ops5 #[true, true, true, true, true, true] = [] := by kernel_rfl
theorem rdyb : Region.ready .any ops5 #[false, true, false, false, false, false] = [0, 2] := by kernel_rfl
theorem rdyc : Region.ready .any ops5 #[false, true, true, false, false, false] = [0, 3] := by kernel_rfl
theorem rdyd : Region.ready .any ops5 #[false, true, true, true, false, false] = [0] := by kernel_rfl

theorem any_step {n : Nat} {L : Array Bool} {is : List Nat} {a : Act} {w : World} {P : Program} {ops : Array Oper} {Q : Exit → Act → World → Prop} (hr : Region.ready .any ops L = is) (hne : is ≠ []) (h : ∀ i ∈ is, wpOp P ops Q i (wpAny P .any ops Q n (L.setIfInBounds i true)) a w) : wpAny P .any ops Q (n + 1) L a w := by
  unfold wpAny
  rw [hr]
  exact ⟨fun e => absurd e hne, h⟩

section
variable {b4 o4 bA oA : Nat} {h : H8} {b : List UInt8} {W : World} {Q : World → Prop}
abbrev QR (Q : World → Prop) : Exit → Act → World → Prop := fun e _ W' => e = .normal ∧ Q W'
variable (hl33 : (Instr.loadAt 76 (.pointer (some ⟨b4, o4, none⟩))).run Try.prog W = .ok (.agg (w32v h.l).toArray) W) (hl34 : (Instr.loadAt 84 (.pointer (some ⟨bA, oA, none⟩))).run Try.prog W = .ok (.agg (w8v b).toArray) W) (hb : b.length = 64)
    (hst : ∀ W', Below W.heap.size W W' → ∃ W2, (Instr.storeAt 76 (.pointer (some ⟨b4, o4, none⟩)) (.agg (w32v (turnH h b)).toArray)).run Try.prog W' = .ok () W2 ∧ Q W2)
include hl33 hl34 hb hst
theorem any4 {a : Act} (hn : Nd b4 o4 bA oA h b true 3 a) : wpAny Try.prog .any ops5 (QR Q) 2 #[true, true, true, true, false, false] a W := by
  refine any_step rdyD (by decide) fun i hi => ?_
  obtain rfl := List.mem_singleton.1 hi
  refine st4 hb hn fun a' W' hB h4 h25 => ?_
  refine any_step (L := #[true, true, true, true, true, false]) rdyE (by decide) fun i hi => ?_
  obtain rfl := List.mem_singleton.1 hi
  obtain ⟨W2, hs, hq⟩ := hst W' hB
  refine st5 (W := W') h4 h25 hs fun a'' => ?_
  exact ⟨rdyF, rfl, hq⟩
theorem anyC {a : Act} (hn : Nd b4 o4 bA oA h b true 2 a) : wpAny Try.prog .any ops5 (QR Q) 3 #[true, true, true, false, false, false] a W := by
  refine any_step rdyC (by decide) fun i hi => ?_
  obtain rfl := List.mem_singleton.1 hi
  exact st3 hl34 hn fun a' h' => any4 hl33 hl34 hb hst h'
theorem anyB {a : Act} (hn : Nd b4 o4 bA oA h b true 1 a) : wpAny Try.prog .any ops5 (QR Q) 4 #[true, true, false, false, false, false] a W := by
  refine any_step rdyB (by decide) fun i hi => ?_
  obtain rfl := List.mem_singleton.1 hi
  exact st2 hn fun a' h' => anyC hl33 hl34 hb hst h'
theorem anyA {a : Act} (hn : Nd b4 o4 bA oA h b true 0 a) : wpAny Try.prog .any ops5 (QR Q) 5 #[true, false, false, false, false, false] a W := by
  refine any_step rdyA (by decide) fun i hi => ?_
  obtain rfl := List.mem_singleton.1 hi
  exact st1 hn fun a' h' => anyB hl33 hl34 hb hst h'
theorem anyd {a : Act} (hn : Nd b4 o4 bA oA h b false 3 a) : wpAny Try.prog .any ops5 (QR Q) 3 #[false, true, true, true, false, false] a W := by
  refine any_step rdyd (by decide) fun i hi => ?_
  obtain rfl := List.mem_singleton.1 hi
  exact st0 hl33 hn fun a' h' => any4 hl33 hl34 hb hst h'
theorem anyc {a : Act} (hn : Nd b4 o4 bA oA h b false 2 a) : wpAny Try.prog .any ops5 (QR Q) 4 #[false, true, true, false, false, false] a W := by
  refine any_step rdyc (by decide) fun i hi => ?_
  rcases List.mem_cons.1 hi with rfl | hi
  · exact st0 hl33 hn fun a' h' => anyC hl33 hl34 hb hst h'
  · obtain rfl := List.mem_singleton.1 hi
    exact st3 hl34 hn fun a' h' => anyd hl33 hl34 hb hst h'
theorem anyb {a : Act} (hn : Nd b4 o4 bA oA h b false 1 a) : wpAny Try.prog .any ops5 (QR Q) 5 #[false, true, false, false, false, false] a W := by
  refine any_step rdyb (by decide) fun i hi => ?_
  rcases List.mem_cons.1 hi with rfl | hi
  · exact st0 hl33 hn fun a' h' => anyB hl33 hl34 hb hst h'
  · obtain rfl := List.mem_singleton.1 hi
    exact st2 hn fun a' h' => anyc hl33 hl34 hb hst h'
theorem any0 {a : Act} (hn : Nd b4 o4 bA oA h b false 0 a) : wpAny Try.prog .any ops5 (QR Q) 6 #[false, false, false, false, false, false] a W := by
  refine any_step rdy0 (by decide) fun i hi => ?_
  rcases List.mem_cons.1 hi with rfl | hi
  · exact st0 hl33 hn fun a' h' => anyA hl33 hl34 hb hst h'
  · obtain rfl := List.mem_singleton.1 hi
    exact st1 hn fun a' h' => anyb hl33 hl34 hb hst h'
end
theorem round_in {b4 o4 bA oA : Nat} {h : H8} {b : List UInt8} {W : World} {Q : World → Prop} (l n : Nat) (hb : b.length = 64) (tm : Array Value) (htm : tm.size = 48) (h4 : tm.getD 4 undef = .pointer (some ⟨b4, o4, none⟩)) (h5 : tm.getD 5 undef = .slice (some ⟨bA, oA, none⟩) 64 64)
    (hl33 : ∀ W', W'.heap = W.heap → (Instr.loadAt 76 (.pointer (some ⟨b4, o4, none⟩))).run Try.prog W' = .ok (.agg (w32v h.l).toArray) W')
    (hl34 : ∀ W', W'.heap = W.heap → (Instr.loadAt 84 (.pointer (some ⟨bA, oA, none⟩))).run Try.prog W' = .ok (.agg (w8v b).toArray) W')
    (hst : ∀ W', Below W.heap.size W W' → ∃ W2, (Instr.storeAt 76 (.pointer (some ⟨b4, o4, none⟩)) (.agg (w32v (turnH h b)).toArray)).run Try.prog W' = .ok () W2 ∧ Q W2) :
    (Code.region 5 ops5 true).wpIn (Fence.wide.inRound l) n Try.prog (QR Q) { tmps := tm, defers := [] } W := by
  have hmx : Try.prog.follows .mixedOrders = true := by kernel_rfl
  have hdr : Below W.heap.size W { W with drawn := W.drawn + 1 } := ⟨rfl, rfl, rfl, Nat.le_refl _, fun _ _ => rfl⟩
  have hno : ¬ LetsOut (QR Q) := by rintro ⟨a, w, h, _⟩; cases h
  have h0 := any0 (W := { W with drawn := W.drawn + 1 }) (Q := Q) (hl33 _ rfl) (hl34 _ rfl) hb (fun W' hB => hst W' (hdr.trans hB)) (a := { tmps := tm, defers := [] }) ⟨htm, h4, h5, (fun e => by cases e), (fun e => by omega), (fun e => by omega), (fun e => by omega)⟩
  refine region_round (z := 60) (Q := QR Q) (Q' := QR Q) hmx ?_ hno hno ?_ (fun _ _ _ h _ => h) ?_
  · intro i o ho c
    have hs : ops5.size = 6 := by kernel_rfl
    have hi : i < 6 := by have := (Array.getElem?_eq_some_iff.1 ho).1; omega
    rw [o5_at i hi] at ho
    injection ho with ho
    subst ho
    rcases (show i = 0 ∨ i = 1 ∨ i = 2 ∨ i = 3 ∨ i = 4 ∨ i = 5 by omega) with rfl | rfl | rfl | rfl | rfl | rfl
    · rw [o5_op0]; intro e; cases e
    · rw [o5_op1]; intro e; cases e
    · rw [o5_op2]; intro e; cases e
    · rw [o5_op3]; intro e; cases e
    · rw [o5_op4]; intro e; cases e
    · rw [o5_op5]; intro e; cases e
  · intro i o ho
    have hs : ops5.size = 6 := by kernel_rfl
    have hi : i < 6 := by have := (Array.getElem?_eq_some_iff.1 ho).1; omega
    rw [o5_at i hi] at ho
    injection ho with ho
    subst ho
    obtain ⟨d0, d1, d2, d3, d4, d5⟩ := o5_dst
    rcases (show i = 0 ∨ i = 1 ∨ i = 2 ∨ i = 3 ∨ i = 4 ∨ i = 5 by omega) with rfl | rfl | rfl | rfl | rfl | rfl
    · rw [d0]; decide
    · rw [d1]; decide
    · rw [d2]; decide
    · rw [d3]; decide
    · rw [d4]; decide
    · rw [d5]; decide
  · have hs : ops5.size = 6 := by kernel_rfl
    rw [hs]
    exact h0
end
end Go.Proofs.Ytkphojcmjffccaa
/- H behind 64 bytes, by the reference: its words. -/
set_option linter.unusedSectionVars false
set_option linter.unusedVariables false
set_option linter.unusedSimpArgs false
set_option maxRecDepth 100000
set_option maxHeartbeats 8000000
namespace Go.Proofs.Ytkphojcmjffccaa
open Go.RowKit

end Go.Proofs.Ytkphojcmjffccaa

/-! H behind 64 bytes, by the reference. -/
set_option linter.unusedSectionVars false
set_option linter.unusedVariables false
set_option linter.unusedSimpArgs false
set_option maxRecDepth 100000
set_option maxHeartbeats 8000000
namespace Go.Proofs.Ytkphojcmjffccaa
open Go.RowKit

end Go.Proofs.Ytkphojcmjffccaa
/- What comes behind a message. -/
set_option linter.unusedSectionVars false
set_option linter.unusedVariables false
set_option linter.unusedSimpArgs false
set_option maxRecDepth 100000
set_option maxHeartbeats 8000000
namespace Go.Proofs.Ytkphojcmjffccaa
open Go.RowKit

def padZ (n : Nat) : Nat := (119 - n % 64) % 64
def be8 (m : Nat) : List UInt8 := (List.range 8).map fun i => u8 (m >>> (56 - 8 * i))
def padHead (j : Nat) : List UInt8 := 128 :: List.replicate j 0
def padB (n : Nat) : List UInt8 := padHead (padZ n) ++ be8 (n % 2 ^ 61 * 8)
theorem padHead_length (j : Nat) : (padHead j).length = 1 + j := by simp [padHead]; omega
theorem padHead_succ (j : Nat) : padHead (j + 1) = padHead j ++ [0] := by simp [padHead, List.replicate_succ']
theorem be8_length (m : Nat) : (be8 m).length = 8 := rfl
theorem be8_take (m : Nat) {i : Nat} (h : i < 8) : (be8 m).take (i + 1) = (be8 m).take i ++ [u8 (m >>> (56 - 8 * i))] := by
  rw [List.take_succ_eq_append_getElem (by rw [be8_length]; exact h)]
  simp [be8]
def rowP (s : St) (a b : Nat) (W : List UInt8) : Prop := (W.length = 1 ∧ s.t 3 = .sl .lit 1 (bl W)) ∨ ∃ hh ver, (hh = a ∨ hh = b) ∧ s.t 3 = .row hh 0 W.length 1 ver ∧ s.h hh = ⟨ver, true, true, true, bl W⟩

theorem pad_zeros (n : Nat) (hn : n < 2 ^ 61) (Q : Ex → St → Prop) (s1 : St)
    (q1 : ∀ s2 : St, s2.t 0 = .int .u64 (n : Int) → rowP s2 17 30 (padHead (padZ n)) → Q (.exit 0) s2)
    (k0 : s1.t 0 = .int .u64 (n : Int)) (k3 : s1.t 3 = .sl .lit 1 [.int .u8 128]) :
    Wp (RCs Try.prog) (.loop m36_2) Q s1 := by
  have hz : padZ n < 64 := Nat.mod_lt _ (by decide)
  refine Wp_loop (fun m s => ∃ j, j ≤ padZ n ∧ m = padZ n - j ∧ s.t 0 = .int .u64 (n : Int) ∧ rowP s 17 30 (padHead j)) (padZ n) ⟨0, by omega, rfl, k0, .inl ⟨rfl, k3⟩⟩ ?_
  clear k0 k3
  rintro m s ⟨j, hj, rfl, k0, kr⟩
  have hl := padHead_length j
  obtain ⟨W, hW⟩ : ∃ W, W = padHead j := ⟨_, rfl⟩
  have esc := padHead_succ j
  rw [← hW] at kr hl esc
  have w1 : IntKind.u64.wrap ((1 + j : Nat) : Int) = ((1 + j : Nat) : Int) := wrapN .u64 (by simp [vbits, IntKind.signed, IntKind.bits]; omega)
  have w1' : IntKind.u64.wrap (1 : Int) = 1 := rfl
  have w2 : IntKind.u64.wrap ((n : Int) + ((1 + j : Nat) : Int)) = ((n + 1 + j : Nat) : Int) := by
    rw [show (n : Int) + ((1 + j : Nat) : Int) = ((n + 1 + j : Nat) : Int) by omega]
    exact wrapN .u64 (by simp [vbits, IntKind.signed, IntKind.bits]; omega)
  have w3 : ((n + 1 + j : Nat) : Int).tmod 64 = (((n + 1 + j) % 64 : Nat) : Int) := by rw [Int.tmod_eq_emod_of_nonneg (by omega)]; omega
  by_cases hjz : j < padZ n
  · have hne : ¬ (((n + 1 + j) % 64 : Nat) : Int) = 56 := by unfold padZ at hjz hz; omega
    have hr : roomy (1 + j + 1) 1 = true := roomyB (by omega)
    have hr2 : roomy 2 1 = true := by decide
    have hsn := bl_snoc W 0
    have hsn' : bl W ++ [.int .u8 0] = bl (padHead (j + 1)) := by rw [esc]; exact hsn
    rcases kr with ⟨h1, k3⟩ | ⟨hh, ver, hhh, k3, kh⟩
    · have hj0 : j = 0 := by omega
      subst hj0
      rw [show 1 + 0 = 1 from rfl] at w2
      have w2' : IntKind.u64.wrap ((n : Int) + 1) = ((n + 1 + 0 : Nat) : Int) := w2
      simp -implicitDefEqProofs (maxSteps := 2000000) only [k0, k3, w1', w2', w3, hne, hr, hr2, bl_length, h1, hsn', m36_1, m36_2, m36_3, m36_4, m36_5, m36_6, m36_7, m36_8, m36_9, m36_10, m36_11, m36_12, m36_r, m36_b, m36, wk, act, asV, ↓reduceIte, Nat.reduceEqDiff, reduceCtorEq, Nat.reduceAdd, Nat.reduceLeDiff, Nat.reduceSub, Nat.reduceMul, List.reduceReplicate, Int.reduceEq, Int.reduceLT, Int.reduceLE, Int.reduceAdd, Int.reduceSub, Int.reduceMul, Nat.reduceLT, Int.reduceToNat]
      exact ⟨padZ n - (0 + 1), by omega, 0 + 1, by omega, rfl, .inr ⟨17, _, .inl rfl, by rw [padHead_length]; rfl, rfl⟩⟩
    · rw [hl] at k3
      rcases hhh with rfl | rfl <;>
      · simp -implicitDefEqProofs (maxSteps := 2000000) only [k0, k3, kh, w1, w2, w3, hne, hr, bl_length, hl, hsn', m36_1, m36_2, m36_3, m36_4, m36_5, m36_6, m36_7, m36_8, m36_9, m36_10, m36_11, m36_12, m36_r, m36_b, m36, wk, act, asV, ↓reduceIte, Nat.reduceEqDiff, reduceCtorEq, Nat.reduceAdd, Nat.reduceLeDiff, Nat.reduceSub, Nat.reduceMul, List.reduceReplicate, Int.reduceEq, Int.reduceLT, Int.reduceLE, Int.reduceAdd, Int.reduceSub, Int.reduceMul, Nat.reduceLT, Int.reduceToNat]
        exact ⟨padZ n - (j + 1), by omega, j + 1, by omega, rfl, .inr ⟨17, _, .inl rfl, by rw [padHead_length]; rfl, rfl⟩⟩
  · have hje : j = padZ n := by omega
    have heq : (((n + 1 + j) % 64 : Nat) : Int) = 56 := by unfold padZ at hje; omega
    rcases kr with ⟨h1, k3⟩ | ⟨hh, ver, hhh, k3, kh⟩
    · have hj0 : j = 0 := by omega
      have w2' : IntKind.u64.wrap ((n : Int) + 1) = ((n + 1 + j : Nat) : Int) := by rw [hj0] at w2 ⊢; exact w2
      simp -implicitDefEqProofs (maxSteps := 2000000) only [k0, k3, w1', w2', w3, heq, m36_1, m36_2, m36_3, m36_4, m36_5, m36_6, m36_7, m36_8, m36_9, m36_10, m36_11, m36_12, m36_r, m36_b, m36, wk, act, asV, ↓reduceIte, Nat.reduceEqDiff, reduceCtorEq, Nat.reduceAdd, Nat.reduceLeDiff, Nat.reduceSub, Nat.reduceMul, List.reduceReplicate, Int.reduceEq, Int.reduceLT, Int.reduceLE, Int.reduceAdd, Int.reduceSub, Int.reduceMul, Nat.reduceLT, Int.reduceToNat]
      exact q1 _ (by simp -implicitDefEqProofs (maxSteps := 2000000) only [k0, wk, act, asV, ↓reduceIte, Nat.reduceEqDiff, reduceCtorEq, Nat.reduceAdd, Nat.reduceLeDiff, Nat.reduceSub, Nat.reduceMul, List.reduceReplicate, Int.reduceEq, Int.reduceLT, Int.reduceLE, Int.reduceAdd, Int.reduceSub, Int.reduceMul, Nat.reduceLT, Int.reduceToNat]) (by rw [← hje, ← hW]; exact .inl ⟨h1, by simp -implicitDefEqProofs (maxSteps := 2000000) only [k3, wk, act, asV, ↓reduceIte, Nat.reduceEqDiff, reduceCtorEq, Nat.reduceAdd, Nat.reduceLeDiff, Nat.reduceSub, Nat.reduceMul, List.reduceReplicate, Int.reduceEq, Int.reduceLT, Int.reduceLE, Int.reduceAdd, Int.reduceSub, Int.reduceMul, Nat.reduceLT, Int.reduceToNat]⟩)
    · rw [hl] at k3
      have hhh' := hhh
      rcases hhh with rfl | rfl <;>
      · simp -implicitDefEqProofs (maxSteps := 2000000) only [k0, k3, kh, w1, w2, w3, heq, m36_1, m36_2, m36_3, m36_4, m36_5, m36_6, m36_7, m36_8, m36_9, m36_10, m36_11, m36_12, m36_r, m36_b, m36, wk, act, asV, ↓reduceIte, Nat.reduceEqDiff, reduceCtorEq, Nat.reduceAdd, Nat.reduceLeDiff, Nat.reduceSub, Nat.reduceMul, List.reduceReplicate, Int.reduceEq, Int.reduceLT, Int.reduceLE, Int.reduceAdd, Int.reduceSub, Int.reduceMul, Nat.reduceLT, Int.reduceToNat]
        exact q1 _ (by simp -implicitDefEqProofs (maxSteps := 2000000) only [k0, wk, act, asV, ↓reduceIte, Nat.reduceEqDiff, reduceCtorEq, Nat.reduceAdd, Nat.reduceLeDiff, Nat.reduceSub, Nat.reduceMul, List.reduceReplicate, Int.reduceEq, Int.reduceLT, Int.reduceLE, Int.reduceAdd, Int.reduceSub, Int.reduceMul, Nat.reduceLT, Int.reduceToNat]) (by rw [← hje, ← hW]; exact .inr ⟨_, ver, hhh', by rw [hl]; simp -implicitDefEqProofs (maxSteps := 2000000) only [k3, wk, act, asV, ↓reduceIte, Nat.reduceEqDiff, reduceCtorEq, Nat.reduceAdd, Nat.reduceLeDiff, Nat.reduceSub, Nat.reduceMul, List.reduceReplicate, Int.reduceEq, Int.reduceLT, Int.reduceLE, Int.reduceAdd, Int.reduceSub, Int.reduceMul, Nat.reduceLT, Int.reduceToNat], by simp -implicitDefEqProofs (maxSteps := 2000000) only [kh, wk, act, asV, ↓reduceIte, Nat.reduceEqDiff, reduceCtorEq, Nat.reduceAdd, Nat.reduceLeDiff, Nat.reduceSub, Nat.reduceMul, List.reduceReplicate, Int.reduceEq, Int.reduceLT, Int.reduceLE, Int.reduceAdd, Int.reduceSub, Int.reduceMul, Nat.reduceLT, Int.reduceToNat]⟩)
end Go.Proofs.Ytkphojcmjffccaa

/-! What comes behind a message, by the program. -/
set_option linter.unusedSectionVars false
set_option linter.unusedVariables false
set_option linter.unusedSimpArgs false
set_option maxRecDepth 100000
set_option maxHeartbeats 8000000
namespace Go.Proofs.Ytkphojcmjffccaa
open Go.RowKit

theorem pad_len (P : List UInt8) (n : Nat) (hP : P.length ≤ 64) (hn : n < 2 ^ 61) (Q : Ex → St → Prop) (s1 : St)
    (q1 : ∀ s2 : St, rowP s2 17 30 (P ++ be8 (n * 8)) → Q (.exit 2) s2)
    (k0 : s1.t 0 = .int .u64 (n : Int)) (k18 : s1.t 18 = .int .i64 0) (kr : rowP s1 17 30 P) :
    Wp (RCs Try.prog) (.loop m36_6) Q s1 := by
  refine Wp_loop (fun m s => ∃ i, i ≤ 8 ∧ m = 8 - i ∧ s.t 0 = .int .u64 (n : Int) ∧ s.t 18 = .int .i64 i ∧ rowP s 17 30 (P ++ (be8 (n * 8)).take i)) 8 ⟨0, by omega, rfl, k0, k18, by simpa using kr⟩ ?_
  clear k0 k18 kr
  rintro m s ⟨i, hi, rfl, k0, k18, kr⟩
  by_cases hi8 : i < 8
  · have hi8' : (i : Int) < 8 := by omega
    have wm : IntKind.u64.wrap ((n : Int) * 8) = ((n * 8 : Nat) : Int) := by
      rw [show (n : Int) * 8 = ((n * 8 : Nat) : Int) by omega]
      exact wrapN .u64 (by simp [vbits, IntKind.signed, IntKind.bits]; omega)
    have w8 : IntKind.i64.wrap (8 * (i : Int)) = ((8 * i : Nat) : Int) := by rw [IntKind.wrap_i64]; omega
    have w56 : IntKind.i64.wrap (56 - ((8 * i : Nat) : Int)) = ((56 - 8 * i : Nat) : Int) := by rw [IntKind.wrap_i64]; omega
    have sr : shI .shr .u64 ((n * 8 : Nat) : Int) ((56 - 8 * i : Nat) : Int) = some (.int .u64 (((n * 8) >>> (56 - 8 * i) : Nat) : Int)) := shI_shr .u64 (by show 56 - 8 * i ≤ 64; omega)
    have wb : IntKind.u8.wrap (((n * 8) >>> (56 - 8 * i) : Nat) : Int) = ((u8 ((n * 8) >>> (56 - 8 * i))).toNat : Int) := wrap_u8 _
    have et : P ++ (be8 (n * 8)).take (i + 1) = (P ++ (be8 (n * 8)).take i) ++ [u8 ((n * 8) >>> (56 - 8 * i))] := by rw [be8_take _ hi8, List.append_assoc]
    obtain ⟨W, hW⟩ : ∃ W, W = P ++ (be8 (n * 8)).take i := ⟨_, rfl⟩
    rw [← hW] at kr et
    have hWl : W.length ≤ 72 := by rw [hW, List.length_append, List.length_take, be8_length]; omega
    obtain ⟨x, hx⟩ : ∃ x, x = u8 ((n * 8) >>> (56 - 8 * i)) := ⟨_, rfl⟩
    rw [← hx] at wb et
    have hr : roomy (W.length + 1) 1 = true := roomyB (by omega)
    have hr2 : roomy 2 1 = true := by decide
    have hsn := bl_snoc W x
    rw [← et] at hsn
    have hl2 : (P ++ (be8 (n * 8)).take (i + 1)).length = W.length + 1 := by rw [et, List.length_append]; rfl
    rcases kr with ⟨h1, k3⟩ | ⟨hh, ver, hhh, k3, kh⟩
    · rw [h1] at hl2
      simp -implicitDefEqProofs (maxSteps := 2000000) only [k0, k18, k3, hi8', wm, w8, w56, sr, wb, hr2, bl_length, h1, hsn, m36_1, m36_2, m36_3, m36_4, m36_5, m36_6, m36_7, m36_8, m36_9, m36_10, m36_11, m36_12, m36_r, m36_b, m36, wrap_nat (show i < 2 ^ 63 - 1 by omega), wk, act, asV, ↓reduceIte, Nat.reduceEqDiff, reduceCtorEq, Nat.reduceAdd, Nat.reduceLeDiff, Nat.reduceSub, Nat.reduceMul, List.reduceReplicate, Int.reduceEq, Int.reduceLT, Int.reduceLE, Int.reduceAdd, Int.reduceSub, Int.reduceMul, Nat.reduceLT, Int.reduceToNat]
      exact ⟨8 - (i + 1), by omega, i + 1, by omega, rfl, rfl, .inr ⟨30, _, .inr rfl, by rw [hl2]; rfl, rfl⟩⟩
    · rcases hhh with rfl | rfl <;>
      · simp -implicitDefEqProofs (maxSteps := 2000000) only [k0, k18, k3, kh, hi8', wm, w8, w56, sr, wb, hr, bl_length, hsn, m36_1, m36_2, m36_3, m36_4, m36_5, m36_6, m36_7, m36_8, m36_9, m36_10, m36_11, m36_12, m36_r, m36_b, m36, wrap_nat (show i < 2 ^ 63 - 1 by omega), wk, act, asV, ↓reduceIte, Nat.reduceEqDiff, reduceCtorEq, Nat.reduceAdd, Nat.reduceLeDiff, Nat.reduceSub, Nat.reduceMul, List.reduceReplicate, Int.reduceEq, Int.reduceLT, Int.reduceLE, Int.reduceAdd, Int.reduceSub, Int.reduceMul, Nat.reduceLT, Int.reduceToNat]
        exact ⟨8 - (i + 1), by omega, i + 1, by omega, rfl, rfl, .inr ⟨30, _, .inr rfl, by rw [hl2]; rfl, rfl⟩⟩
  · obtain rfl : i = 8 := by omega
    rw [List.take_of_length_le (by rw [be8_length]; exact Nat.le_refl 8)] at kr
    simp -implicitDefEqProofs (maxSteps := 2000000) only [k18, m36_1, m36_2, m36_3, m36_4, m36_5, m36_6, m36_7, m36_8, m36_9, m36_10, m36_11, m36_12, m36_r, m36_b, m36, wk, act, asV, ↓reduceIte, Nat.reduceEqDiff, reduceCtorEq, Nat.reduceAdd, Nat.reduceLeDiff, Nat.reduceSub, Nat.reduceMul, List.reduceReplicate, Int.reduceEq, Int.reduceLT, Int.reduceLE, Int.reduceAdd, Int.reduceSub, Int.reduceMul, Nat.reduceLT, Int.reduceToNat]
    rcases kr with ⟨h1, k3⟩ | ⟨hh, ver, hhh, k3, kh⟩
    · exact q1 _ (.inl ⟨h1, by simp -implicitDefEqProofs (maxSteps := 2000000) only [k3, wk, act, asV, ↓reduceIte, Nat.reduceEqDiff, reduceCtorEq, Nat.reduceAdd, Nat.reduceLeDiff, Nat.reduceSub, Nat.reduceMul, List.reduceReplicate, Int.reduceEq, Int.reduceLT, Int.reduceLE, Int.reduceAdd, Int.reduceSub, Int.reduceMul, Nat.reduceLT, Int.reduceToNat]⟩)
    · exact q1 _ (.inr ⟨hh, ver, hhh, by simp -implicitDefEqProofs (maxSteps := 2000000) only [k3, wk, act, asV, ↓reduceIte, Nat.reduceEqDiff, reduceCtorEq, Nat.reduceAdd, Nat.reduceLeDiff, Nat.reduceSub, Nat.reduceMul, List.reduceReplicate, Int.reduceEq, Int.reduceLT, Int.reduceLE, Int.reduceAdd, Int.reduceSub, Int.reduceMul, Nat.reduceLT, Int.reduceToNat], by rcases hhh with rfl | rfl <;> simp -implicitDefEqProofs (maxSteps := 2000000) only [kh, wk, act, asV, ↓reduceIte, Nat.reduceEqDiff, reduceCtorEq, Nat.reduceAdd, Nat.reduceLeDiff, Nat.reduceSub, Nat.reduceMul, List.reduceReplicate, Int.reduceEq, Int.reduceLT, Int.reduceLE, Int.reduceAdd, Int.reduceSub, Int.reduceMul, Nat.reduceLT, Int.reduceToNat]⟩)

theorem padB_length (n : Nat) : (padB n).length = 9 + padZ n := by rw [padB, List.length_append, padHead_length, be8_length]; omega
theorem shaPad_ok (n : Nat) (hn : n < 2 ^ 64) : RC Try.prog 36 [.int .u64 (n : Int)] [.own (padB n).length 1 (bl (padB n))] := by
  refine RC.of_wp c36 rfl ?_
  have hm : n % 2 ^ 61 < 2 ^ 61 := Nat.mod_lt _ (by decide)
  have wr : (n : Int).tmod 2305843009213693952 = ((n % 2 ^ 61 : Nat) : Int) := by rw [Int.tmod_eq_emod_of_nonneg (by omega)]; omega
  have hz : padZ (n % 2 ^ 61) = padZ n := by unfold padZ; omega
  have hzl : padZ n < 64 := Nat.mod_lt _ (by decide)
  simp -implicitDefEqProofs (maxSteps := 2000000) only [m36_1, m36_2, m36_3, m36_4, m36_5, m36_6, m36_7, m36_8, m36_9, m36_10, m36_11, m36_12, m36_r, m36_b, m36, wr, wk, act, asV, ↓reduceIte, Nat.reduceEqDiff, reduceCtorEq, Nat.reduceAdd, Nat.reduceLeDiff, Nat.reduceSub, Nat.reduceMul, List.reduceReplicate, Int.reduceEq, Int.reduceLT, Int.reduceLE, Int.reduceAdd, Int.reduceSub, Int.reduceMul, Nat.reduceLT, Int.reduceToNat]
  refine pad_zeros (n % 2 ^ 61) hm _ _ ?_ (by simp -implicitDefEqProofs (maxSteps := 2000000) only [wk, act, asV, ↓reduceIte, Nat.reduceEqDiff, reduceCtorEq, Nat.reduceAdd, Nat.reduceLeDiff, Nat.reduceSub, Nat.reduceMul, List.reduceReplicate, Int.reduceEq, Int.reduceLT, Int.reduceLE, Int.reduceAdd, Int.reduceSub, Int.reduceMul, Nat.reduceLT, Int.reduceToNat]) (by simp -implicitDefEqProofs (maxSteps := 2000000) only [wk, act, asV, ↓reduceIte, Nat.reduceEqDiff, reduceCtorEq, Nat.reduceAdd, Nat.reduceLeDiff, Nat.reduceSub, Nat.reduceMul, List.reduceReplicate, Int.reduceEq, Int.reduceLT, Int.reduceLE, Int.reduceAdd, Int.reduceSub, Int.reduceMul, Nat.reduceLT, Int.reduceToNat])
  intro s2 p0 pr
  rw [hz] at pr
  simp -implicitDefEqProofs (maxSteps := 2000000) only [p0, wk, act, asV, ↓reduceIte, Nat.reduceEqDiff, reduceCtorEq, Nat.reduceAdd, Nat.reduceLeDiff, Nat.reduceSub, Nat.reduceMul, List.reduceReplicate, Int.reduceEq, Int.reduceLT, Int.reduceLE, Int.reduceAdd, Int.reduceSub, Int.reduceMul, Nat.reduceLT, Int.reduceToNat]
  have hpl := padHead_length (padZ n)
  refine pad_len (padHead (padZ n)) (n % 2 ^ 61) (by omega) hm _ _ ?_ (by simp -implicitDefEqProofs (maxSteps := 2000000) only [p0, wk, act, asV, ↓reduceIte, Nat.reduceEqDiff, reduceCtorEq, Nat.reduceAdd, Nat.reduceLeDiff, Nat.reduceSub, Nat.reduceMul, List.reduceReplicate, Int.reduceEq, Int.reduceLT, Int.reduceLE, Int.reduceAdd, Int.reduceSub, Int.reduceMul, Nat.reduceLT, Int.reduceToNat]) (by simp -implicitDefEqProofs (maxSteps := 2000000) only [wk, act, asV, ↓reduceIte, Nat.reduceEqDiff, reduceCtorEq, Nat.reduceAdd, Nat.reduceLeDiff, Nat.reduceSub, Nat.reduceMul, List.reduceReplicate, Int.reduceEq, Int.reduceLT, Int.reduceLE, Int.reduceAdd, Int.reduceSub, Int.reduceMul, Nat.reduceLT, Int.reduceToNat]) ?_
  · intro s3 qr
    have e : padHead (padZ n) ++ be8 (n % 2 ^ 61 * 8) = padB n := rfl
    rw [e] at qr
    have hl := padB_length n
    have tb := take_bl (padB n)
    rcases qr with ⟨h1, q3⟩ | ⟨hh, ver, hhh, q3, qh⟩
    · omega
    · rcases hhh with rfl | rfl <;> simp -implicitDefEqProofs (maxSteps := 2000000) only [q3, qh, tb, wk, act, asV, ↓reduceIte, Nat.reduceEqDiff, reduceCtorEq, Nat.reduceAdd, Nat.reduceLeDiff, Nat.reduceSub, Nat.reduceMul, List.reduceReplicate, Int.reduceEq, Int.reduceLT, Int.reduceLE, Int.reduceAdd, Int.reduceSub, Int.reduceMul, Nat.reduceLT, Int.reduceToNat]
  · rcases pr with ⟨h1, q3⟩ | ⟨hh, ver, hhh, q3, qh⟩
    · exact .inl ⟨h1, by simp -implicitDefEqProofs (maxSteps := 2000000) only [q3, wk, act, asV, ↓reduceIte, Nat.reduceEqDiff, reduceCtorEq, Nat.reduceAdd, Nat.reduceLeDiff, Nat.reduceSub, Nat.reduceMul, List.reduceReplicate, Int.reduceEq, Int.reduceLT, Int.reduceLE, Int.reduceAdd, Int.reduceSub, Int.reduceMul, Nat.reduceLT, Int.reduceToNat]⟩
    · exact .inr ⟨hh, ver, hhh, by simp -implicitDefEqProofs (maxSteps := 2000000) only [q3, wk, act, asV, ↓reduceIte, Nat.reduceEqDiff, reduceCtorEq, Nat.reduceAdd, Nat.reduceLeDiff, Nat.reduceSub, Nat.reduceMul, List.reduceReplicate, Int.reduceEq, Int.reduceLT, Int.reduceLE, Int.reduceAdd, Int.reduceSub, Int.reduceMul, Nat.reduceLT, Int.reduceToNat], by rcases hhh with rfl | rfl <;> simp -implicitDefEqProofs (maxSteps := 2000000) only [qh, wk, act, asV, ↓reduceIte, Nat.reduceEqDiff, reduceCtorEq, Nat.reduceAdd, Nat.reduceLeDiff, Nat.reduceSub, Nat.reduceMul, List.reduceReplicate, Int.reduceEq, Int.reduceLT, Int.reduceLE, Int.reduceAdd, Int.reduceSub, Int.reduceMul, Nat.reduceLT, Int.reduceToNat]⟩
end Go.Proofs.Ytkphojcmjffccaa

/-! What comes behind a message, by the reference. -/
set_option linter.unusedSectionVars false
set_option linter.unusedVariables false
set_option linter.unusedSimpArgs false
set_option maxRecDepth 100000
set_option maxHeartbeats 8000000
namespace Go.Proofs.Ytkphojcmjffccaa
open Go.RowKit

end Go.Proofs.Ytkphojcmjffccaa

/-! The hash: its beginning, its end. -/
set_option linter.unusedSectionVars false
set_option linter.unusedVariables false
set_option linter.unusedSimpArgs false
set_option maxRecDepth 100000
set_option maxHeartbeats 8000000
namespace Go.Proofs.Ytkphojcmjffccaa
open Go.RowKit

def start8 : H8 := ⟨0x6a09e667, 0xbb67ae85, 0x3c6ef372, 0xa54ff53a, 0x510e527f, 0x9b05688c, 0x1f83d9ab, 0x5be0cd19⟩
theorem start_ok : RC Try.prog 34 [] [.agg (wl start8.l)] := by
  refine RC.of_wp c34 rfl ?_
  simp -implicitDefEqProofs (maxSteps := 2000000) only [m34_1, m34_r, m34_b, m34, wk, act, asV, ↓reduceIte, Nat.reduceEqDiff, reduceCtorEq, Nat.reduceAdd, Nat.reduceLeDiff, Nat.reduceSub, Nat.reduceMul, List.reduceReplicate, Int.reduceEq, Int.reduceLT, Int.reduceLE, Int.reduceAdd, Int.reduceSub, Int.reduceMul, Nat.reduceLT, Int.reduceToNat]
  first | done | kernel_rfl
def toH8 (L : List UInt32) : H8 := ⟨L.getD 0 0, L.getD 1 0, L.getD 2 0, L.getD 3 0, L.getD 4 0, L.getD 5 0, L.getD 6 0, L.getD 7 0⟩
theorem toH8_l {L : List UInt32} (h : L.length = 8) : (toH8 L).l = L := by
  match L, h with
  | [a, b, c, d, e, f, g, i], _ => rfl
theorem turnH_length (h : H8) (b : List UInt8) : (turnH h b).length = 8 := addTo_length _ _ _
def hashN (m : List UInt8) : Nat → H8
  | 0 => start8
  | k + 1 => toH8 (turnH (hashN m k) ((m.drop (64 * k)).take 64))
def digest (L : List UInt32) : List UInt8 := (List.range 32).map fun i => u8 ((L.getD (i / 4) 0).toNat >>> (24 - 8 * (i % 4)))
def shaB (m : List UInt8) : List UInt8 := digest (hashN (m ++ padB m.length) ((m.length + 9 + padZ m.length) / 64)).l
theorem digest_length (L : List UInt32) : (digest L).length = 32 := by simp [digest]
theorem digest_take (L : List UInt32) {i : Nat} (h : i < 32) : (digest L).take (i + 1) = (digest L).take i ++ [u8 ((L.getD (i / 4) 0).toNat >>> (24 - 8 * (i % 4)))] := by
  rw [List.take_succ_eq_append_getElem (by rw [digest_length]; exact h)]
  simp [digest]
def zb (n : Nat) : List UInt8 := List.replicate n 0
theorem grow8 (W : List UInt8) (m p : Nat) (hp : W.length = p) (x : UInt8) : List.take p (bl (W ++ zb (m + 1))) ++ [IV.int .u8 (x.toNat : Int)] ++ List.drop (p + 1) (bl (W ++ zb (m + 1))) = bl ((W ++ [x]) ++ zb m) := by
  subst hp
  have e : bl (W ++ zb (m + 1)) = bl W ++ (IV.int .u8 0 :: bl (zb m)) := by rw [bl_append]; rfl
  rw [e, List.take_left' (bl_length W), ← List.drop_drop, List.drop_left' (bl_length W)]
  simp [bl]

end Go.Proofs.Ytkphojcmjffccaa
