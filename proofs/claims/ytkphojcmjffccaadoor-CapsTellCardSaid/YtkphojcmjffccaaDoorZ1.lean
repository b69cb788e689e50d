/- slices.Chunk's closure over bytes, 64 by 64. -/
import Derived.RangeFuncNested
import Derived.RangeFuncBound
import Derived.RangeFuncCalls
import Derived.RangeFuncLeaves
import Derived.Shelf.Abstract
import Derived.Shelf.RegionOpen
import Derived.WalkKit
import Derived.OwnWalkIn
import Derived.TacticsInMore
import Derived.LoopNIn
import Derived.LoopIn
import Derived.Test.YtkphojcmjffccaaDoorProg
set_option linter.unusedSimpArgs false
set_option linter.unusedSectionVars false
set_option linter.unusedVariables false
namespace Go.Proofs.YtkphojcmjffccaaDoor
open Go.RowKit Go.Shelf
attribute [local go_sem] Oper.semAt_some

def upN (N k : Nat) : List (Fin N) := (List.finRange N).take k
theorem upN_length {N k : Nat} (h : k ≤ N) : (upN N k).length = k := by simp [upN, h]
theorem upN_succ {N k : Nat} (h : k < N) : upN N (k + 1) = upN N k ++ [⟨k, h⟩] := by
  unfold upN
  rw [List.take_succ_eq_append_getElem (by simpa using h)]
  simp
theorem upN_all (N : Nat) : upN N N = List.finRange N := List.take_of_length_le (by simp)

set_option maxRecDepth 100000 in
set_option maxHeartbeats 4000000 in
theorem chunk1_in (n : Nat) (hn : 1 ≤ n) (l Bs os Bn on_ b off N cap : Nat) (hcap : 64 * N ≤ cap) (hreach : 64 * N ≤ 140737488351232) (Kp : World → World → Prop)
    (hKs : ∀ W W', Kp W W' → W'.cell? ⟨Bs, os, none⟩ = W.cell? ⟨Bs, os, none⟩) (hKn : ∀ W W', Kp W W' → W'.cell? ⟨Bn, on_, none⟩ = W.cell? ⟨Bn, on_, none⟩) (J Jx : List (Fin N) → World → Prop)
    (hY : ∀ pre (x : Fin N) W, J pre W → pre.length < N → YieldAt Fence.wide (n - 1) Tryd.prog l #[.slice (some ⟨b, off + 64 * x.1, none⟩) 64 64] W fun e W' =>
      (e = .returned (.bool true) ∧ J (pre ++ [x]) W' ∧ Kp W W') ∨ (e = .returned (.bool false) ∧ Jx (pre ++ [x]) W'))
    (W : World) (hJ : ∀ s A, J s A → J s A.drew) (hBs : W.cell? ⟨Bs, os, none⟩ = some (.slice (some ⟨b, off, none⟩) (64 * N) cap)) (hBn : W.cell? ⟨Bn, on_, none⟩ = some (.int .i64 64)) (h0 : J [] W) :
    CallsIn Fence.wide n Tryd.prog 51 #[.func (.yield l) #[] #[], .pointer (some ⟨Bs, os, none⟩), .pointer (some ⟨Bn, on_, none⟩)] W fun e W' => (∃ v, e = .returned v) ∧
      ((∃ ys, ys = List.finRange N ∧ J ys W') ∨ (∃ pre, Jx pre W')) := by
  refine callsIn_of_wp Tryd.func51 rfl trivial ?_ rfl
  simp only [Tryd.ntmps51, List.size_toArray, List.length_cons, List.length_nil, Nat.reduceAdd, Nat.reduceSub, Array.replicate_succ, Array.replicate_zero, List.push_toArray, List.append_toArray, List.nil_append, List.cons_append]
  have hmx : Tryd.prog.follows .mixedOrders = true := by kernel_rfl
  gi_wp2
  gi_loopw [4] (fun i wr => ∃ k : Nat, k ≤ N ∧ i = .int .i64 ((64 * k : Nat) : Int) ∧ J (upN N k) wr ∧ wr.cell? ⟨Bs, os, none⟩ = some (.slice (some ⟨b, off, none⟩) (64 * N) cap) ∧ wr.cell? ⟨Bn, on_, none⟩ = some (.int .i64 64))
    (fun i _ => 64 * N - (intOf i).toNat)
  case atStart => exact ⟨0, Nat.zero_le _, rfl, h0, hBs, hBn⟩
  case round =>
    obtain ⟨k, hk, rfl, hJs, hbs, hbn⟩ := hrel
    by_cases hlt : k < N
    · have hY' := hY _ ⟨k, hlt⟩ wr.drew (hJ _ _ hJs) (by rw [upN_length hk]; exact hlt)
      obtain ⟨fn, tmps, assign, body, hy, hR⟩ := hY'
      dsimp only at hy
      gi_wp2
      gi_region_with_o (fail)
      all_goals gi_wp2
      all_goals (try go_bits)
      all_goals refine hR.mono ?_
      all_goals rintro e W3 (⟨rfl, hJ3, hk3⟩ | ⟨rfl, hJx3⟩)
      all_goals try have hbs3 := (hKs _ _ hk3).trans ((show wr.drew.cell? ⟨Bs, os, none⟩ = _ from hbs))
      all_goals try have hbn3 := (hKn _ _ hk3).trans ((show wr.drew.cell? ⟨Bn, on_, none⟩ = _ from hbn))
      all_goals gi_wp2
      all_goals first
        | (refine bodyPost_ret (results_none rfl _ _ _) rfl ?_
           exact ⟨⟨_, rfl⟩, .inr ⟨_, hJx3⟩⟩)
        | exact ⟨⟨k + 1, by omega, by rw [show ((64 * (k + 1) : Nat) : Int) = 64 * (k : Int) + 64 by omega], by rw [upN_succ hlt]; exact hJ3, hbs3, hbn3⟩, by simp only [intOf]; omega⟩
    · have hkN : N = k := by omega
      subst hkN
      gi_wp2
      go_end0
      exact ⟨⟨_, rfl⟩, .inl ⟨_, rfl, by rw [← upN_all]; exact hJs⟩⟩
end Go.Proofs.YtkphojcmjffccaaDoor
