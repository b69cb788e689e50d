/- Of the queue: the reference's methods; regions of open order without effects. -/
import Derived.Test.YtilbipknodpmmaaDoorW6
import Derived.Test.YtilbipknodpmmaaDoorE31
import Derived.Test.YtilbipknodpmmaaDoorM21
set_option linter.unusedVariables false
set_option linter.unusedSimpArgs false
set_option linter.unusedSectionVars false
set_option maxRecDepth 100000
set_option maxHeartbeats 8000000
namespace Go.Proofs.YtilbipknodpmmaaDoor
open Go.RowKit

structure PInv (b n : Nat) (vv : Nat → IV) (t0 : Nat → IV) (h0 : Nat → Blk) (L : Nat → Bool) (s : St) : Prop where
  h : s.h = h0
  t : ∀ k,k < b ∨ b + n ≤ k → s.t k = t0 k
  v : ∀ i,i < n → L i = true → s.t (b + i) = vv i
theorem PInv.step {b n i d : Nat} {vv t0 : Nat → IV} {h0 : Nat → Blk} {L : Nat → Bool} {s : St} {v : IV} (hI : PInv b n vv t0 h0 L s) (hi : i < n) (hd : d = b + i) (hv : v = vv i) : PInv b n vv t0 h0 (updL L i) ⟨Go.Proofs.YtilbipknodpmmaaDoor.upd s.t d v,s.h⟩:=by
  subst hd
  refine ⟨hI.h,fun k hk => ?_,fun j hj hl => ?_⟩
  · show (if k = b + i then v else s.t k) = t0 k
    rw [if_neg (by omega)]
    exact hI.t k hk
  · show (if b + j = b + i then v else s.t (b + j)) = vv j
    by_cases hji : j = i
    · subst hji; rw [if_pos rfl]; exact hv
    · rw [if_neg (by omega)]
      refine hI.v j hj ?_
      unfold updL at hl
      rwa [if_neg hji] at hl

@[reducible] def offR : Off:=⟨5000⟩
@[reducible] def offP : Off:=⟨5006⟩
@[reducible] def offC : Off:=⟨7000⟩
theorem own_it (x : It) (hx : x.Ok) : RC Tryd.prog 31 [.agg (itC x)] [.agg (itC x)]:=by
  refine RC.of_wp c31 rfl ?_
  obtain ⟨p0,p1,p2,p3,p4,p5⟩:=itC_parts hx
  have sx:=itC_scal x
  have t0 : List.take 36 (itC x) = itC x:=List.take_of_length_le (by omega)
  have ld : (bl x.data).length = 32:=by rw [bl_length,hx.d]
  have td : List.take 32 (bl x.data) = bl x.data:=List.take_of_length_le (by omega)
  have e : IV.int .i64 x.id :: .int .i64 x.kind :: .str x.name :: .int .i64 x.n :: bl x.data = itC x:=rfl
  have xd : List.drop 32 (bl x.data) = []:=List.drop_of_length_le (by omega)
  have pl : placed [IV.int .i64 0,IV.int .i64 0,IV.str [],IV.int .i64 0,IV.int .u8 0,IV.int .u8 0,IV.int .u8 0,IV.int .u8 0,IV.int .u8 0,IV.int .u8 0,IV.int .u8 0,IV.int .u8 0,IV.int .u8 0,IV.int .u8 0,IV.int .u8 0,IV.int .u8 0,IV.int .u8 0,IV.int .u8 0,IV.int .u8 0,IV.int .u8 0,IV.int .u8 0,IV.int .u8 0,IV.int .u8 0,IV.int .u8 0,IV.int .u8 0,IV.int .u8 0,IV.int .u8 0,IV.int .u8 0,IV.int .u8 0,IV.int .u8 0,IV.int .u8 0,IV.int .u8 0,IV.int .u8 0,IV.int .u8 0,IV.int .u8 0,IV.int .u8 0] [(0,[.int .i64 x.id]),(1,[.int .i64 x.kind]),(2,[.str x.name]),(3,[.int .i64 x.n]),(4,bl x.data)] = some (itC x):=by
    have e0 : ([IV.int .i64 0,IV.int .i64 0,IV.str [],IV.int .i64 0,IV.int .u8 0,IV.int .u8 0,IV.int .u8 0,IV.int .u8 0,IV.int .u8 0,IV.int .u8 0,IV.int .u8 0,IV.int .u8 0,IV.int .u8 0,IV.int .u8 0,IV.int .u8 0,IV.int .u8 0,IV.int .u8 0,IV.int .u8 0,IV.int .u8 0,IV.int .u8 0,IV.int .u8 0,IV.int .u8 0,IV.int .u8 0,IV.int .u8 0,IV.int .u8 0,IV.int .u8 0,IV.int .u8 0,IV.int .u8 0,IV.int .u8 0,IV.int .u8 0,IV.int .u8 0,IV.int .u8 0,IV.int .u8 0,IV.int .u8 0,IV.int .u8 0,IV.int .u8 0] : List IV) = IV.int .i64 0 :: .int .i64 0 :: .str [] :: .int .i64 0 :: bl (zs 32):=rfl
    have l32 : (bl (zs 32)).length = 32:=rfl
    rw [e0]
    simp only [placed,List.length_cons,List.length_nil,List.take_succ_cons,List.take_zero,List.drop_succ_cons,List.drop_zero,List.nil_append,List.cons_append,l32,Nat.reduceAdd,Nat.reduceLeDiff,if_true,ld]
    rw [← e]
    simp [l32,List.drop_eq_nil_of_le]
  simp -implicitDefEqProofs (maxSteps:=2000000) only [m31_1,m31_r,m31_b,m31,p0,p1,p2,p3,p4,p5,sx,t0,ld,td,pl,wk,act,asV,↓reduceIte,Nat.reduceEqDiff,reduceCtorEq,Nat.reduceAdd,Nat.reduceLeDiff,Nat.reduceSub,Nat.reduceMul,List.reduceReplicate,Int.reduceEq,Int.reduceLT,Int.reduceLE,Int.reduceAdd,Int.reduceSub,Int.reduceMul,Nat.reduceLT,Int.reduceToNat]
end Go.Proofs.YtilbipknodpmmaaDoor
