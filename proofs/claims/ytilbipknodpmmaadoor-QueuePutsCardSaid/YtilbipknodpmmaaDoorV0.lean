/- Volumes: numbers held against numbers; whether they are few and short. -/
import Derived.Test.YtilbipknodpmmaaDoorE31
import Derived.Test.YtilbipknodpmmaaDoorM6
set_option linter.unusedVariables false
set_option linter.unusedSimpArgs false
set_option maxRecDepth 100000
set_option maxHeartbeats 4000000
namespace Go.Proofs.YtilbipknodpmmaaDoor
open Go.RowKit


theorem ints_ok (f f' : Fl) (xs ys : List Int) (hx : xs.length < 2 ^ 63) : RC Tryd.prog 36 [.sl f xs.length (il xs),.sl f' ys.length (il ys)] [.bool (decide (xs = ys))]:=by
  refine RC.of_wp c36 rfl ?_
  simp -implicitDefEqProofs (maxSteps:=2000000) only [m36_1,m36_2,m36_3,m36_4,m36_5,m36_6,m36_7,m36_r,m36_b,m36,wk,act,asV,↓reduceIte,Nat.reduceEqDiff,reduceCtorEq,Nat.reduceAdd,Nat.reduceLeDiff,Nat.reduceSub,Nat.reduceMul,List.reduceReplicate,Int.reduceEq,Int.reduceLT,Int.reduceLE,Int.reduceAdd,Int.reduceSub,Int.reduceMul,Nat.reduceLT,Int.reduceToNat]
  by_cases hl : xs.length = ys.length
  · simp -implicitDefEqProofs (maxSteps:=2000000) only [hl,wk,act,asV,↓reduceIte,Nat.reduceEqDiff,reduceCtorEq,Nat.reduceAdd,Nat.reduceLeDiff,Nat.reduceSub,Nat.reduceMul,List.reduceReplicate,Int.reduceEq,Int.reduceLT,Int.reduceLE,Int.reduceAdd,Int.reduceSub,Int.reduceMul,Nat.reduceLT,Int.reduceToNat]
    refine Wp_loop (fun k s => ∃ i,i ≤ ys.length ∧ k = ys.length - i ∧ s.t 0 = .sl f ys.length (il xs) ∧ s.t 1 = .sl f' ys.length (il ys) ∧ s.t 5 = .int .i64 i ∧ xs.take i = ys.take i) ys.length ⟨0,by omega,rfl,rfl,rfl,rfl,rfl⟩ ?_
    rintro k s ⟨i,hi,rfl,h0,h1,h5,ht⟩
    simp -implicitDefEqProofs (maxSteps:=2000000) only [h0,h1,h5,wk,act,asV,↓reduceIte,Nat.reduceEqDiff,reduceCtorEq,Nat.reduceAdd,Nat.reduceLeDiff,Nat.reduceSub,Nat.reduceMul,List.reduceReplicate,Int.reduceEq,Int.reduceLT,Int.reduceLE,Int.reduceAdd,Int.reduceSub,Int.reduceMul,Nat.reduceLT,Int.reduceToNat]
    by_cases hlt : i < ys.length
    · have hltx : i < xs.length:=by omega
      simp -implicitDefEqProofs (maxSteps:=2000000) only [Int.ofNat_lt,hlt,hl,h0,h1,h5,drop_il hlt,drop_il hltx,wk,act,asV,↓reduceIte,Nat.reduceEqDiff,reduceCtorEq,Nat.reduceAdd,Nat.reduceLeDiff,Nat.reduceSub,Nat.reduceMul,List.reduceReplicate,Int.reduceEq,Int.reduceLT,Int.reduceLE,Int.reduceAdd,Int.reduceSub,Int.reduceMul,Nat.reduceLT,Int.reduceToNat]
      by_cases he : xs[i] = ys[i]
      · simp -implicitDefEqProofs (maxSteps:=2000000) only [he,hl,wrap_nat (show i < 2 ^ 63 - 1 by omega),wk,act,asV,↓reduceIte,Nat.reduceEqDiff,reduceCtorEq,Nat.reduceAdd,Nat.reduceLeDiff,Nat.reduceSub,Nat.reduceMul,List.reduceReplicate,Int.reduceEq,Int.reduceLT,Int.reduceLE,Int.reduceAdd,Int.reduceSub,Int.reduceMul,Nat.reduceLT,Int.reduceToNat]
        refine ⟨ys.length - (i + 1),by omega,i + 1,by omega,rfl,rfl,?_⟩
        rw [List.take_succ_eq_append_getElem hlt,List.take_succ_eq_append_getElem hltx,ht,he]
      · have : xs ≠ ys:=fun e => he (by simp [e])
        simp -implicitDefEqProofs (maxSteps:=2000000) only [he,hl,this,wk,act,asV,↓reduceIte,Nat.reduceEqDiff,reduceCtorEq,Nat.reduceAdd,Nat.reduceLeDiff,Nat.reduceSub,Nat.reduceMul,List.reduceReplicate,Int.reduceEq,Int.reduceLT,Int.reduceLE,Int.reduceAdd,Int.reduceSub,Int.reduceMul,Nat.reduceLT,Int.reduceToNat]
    · have hi' : i = ys.length:=by omega
      have : xs = ys:=by
        subst hi'
        rw [List.take_of_length_le (by omega),List.take_of_length_le (by omega)] at ht
        exact ht
      simp -implicitDefEqProofs (maxSteps:=2000000) only [Int.ofNat_lt,hlt,this,wk,act,asV,↓reduceIte,Nat.reduceEqDiff,reduceCtorEq,Nat.reduceAdd,Nat.reduceLeDiff,Nat.reduceSub,Nat.reduceMul,List.reduceReplicate,Int.reduceEq,Int.reduceLT,Int.reduceLE,Int.reduceAdd,Int.reduceSub,Int.reduceMul,Nat.reduceLT,Int.reduceToNat]
  · have hne : ¬ ((xs.length : Int) = ys.length):=by omega
    have hne' : xs ≠ ys:=fun e => hl (by rw [e])
    simp -implicitDefEqProofs (maxSteps:=2000000) only [hne,hne',wk,act,asV,↓reduceIte,Nat.reduceEqDiff,reduceCtorEq,Nat.reduceAdd,Nat.reduceLeDiff,Nat.reduceSub,Nat.reduceMul,List.reduceReplicate,Int.reduceEq,Int.reduceLT,Int.reduceLE,Int.reduceAdd,Int.reduceSub,Int.reduceMul,Nat.reduceLT,Int.reduceToNat]

/-! ### volumes -/
structure Vol where
  name : List UInt8
  blocks : List Int
  deriving DecidableEq
def vl (vs : List Vol) : List IV:=vs.flatMap fun v => [.str v.name,.sl .plain v.blocks.length (il v.blocks)]
theorem vl_length (vs : List Vol) : (vl vs).length = vs.length * 2:=by
  induction vs with
  | nil => rfl
  | cons v vs ih => simp only [vl,List.flatMap_cons,List.length_append,List.length_cons,List.length_nil] at ih ⊢; omega
theorem vl_append (vs ws : List Vol) : vl (vs ++ ws) = vl vs ++ vl ws:=by simp [vl]
theorem drop_vl : ∀ {vs : List Vol} {i : Nat} (h : i < vs.length),(vl vs).drop (i * 2) = .str vs[i].name :: .sl .plain vs[i].blocks.length (il vs[i].blocks) :: (vl vs).drop ((i + 1) * 2)
  | v :: vs,0,h => by simp [vl]
  | v :: vs,i + 1,h => by
    have:=drop_vl (vs:=vs) (i:=i) (by simpa using h)
    have e : ∀ j,(vl (v :: vs)).drop ((j + 1) * 2) = (vl vs).drop (j * 2):=fun j => by
      rw [show (j + 1) * 2 = 2 + j * 2 by omega]
      simp [vl,← List.drop_drop]
    rw [e,e,this]
    simp

def vOk (v : Vol) : Bool:=decide (v.name.length ≤ 100) && decide (v.blocks.length ≤ 50)
def fair (vs : List Vol) : Bool:=vs.all vOk && decide (vs.length ≤ 20)

end Go.Proofs.YtilbipknodpmmaaDoor
