/- Of the ops: writes held against writes; the statements' own example. -/
import Derived.Test.YtilbipknodpmmaaDoorO6
import Derived.Test.YtilbipknodpmmaaDoorE31
import Derived.Test.YtilbipknodpmmaaDoorM13
set_option linter.unusedVariables false
set_option linter.unusedSimpArgs false
set_option linter.unusedSectionVars false
set_option maxRecDepth 100000
set_option maxHeartbeats 8000000
namespace Go.Proofs.YtilbipknodpmmaaDoor
open Go.RowKit

def isEO : IV → Bool
  | .int _ _ => true
  | _ => false
theorem eqO_self : ∀ {cs : List IV},cs.all isEO = true → eqL cs cs = some true
  | [],_ => rfl
  | .int k n :: cs,h => by
    rw [List.all_cons,Bool.and_eq_true] at h
    rw [eqL,eqO_self h.2]
    simp [eqC]
theorem ptC_eq (p : Int × List UInt8) : eqL (ptC p) (ptC p) = some true:=eqO_self (by simp [ptC,isEO,bl])
theorem ptC_fit {p : Int × List UInt8} (h : p.2.length = 32) : fitR [(33,.i)] (ptC p) = true:=by
  have l:=ptC_length h
  have a : (ptC p).all CK.i.fit = true:=by simp [ptC,bl,CK.fit]
  simp only [fitR]
  rw [List.take_of_length_le (by omega),List.drop_of_length_le (by omega),a]
  simp [l]
theorem ptL_drop : ∀ {ps : List (Int × List UInt8)} (h : ∀ p ∈ ps,p.2.length = 32) {i : Nat} (hi : i < ps.length),(ptL ps).drop (i * 33) = ptC ps[i] ++ (ptL ps).drop ((i + 1) * 33)
  | x :: xs,h,0,hi => by
    have hx:=ptC_length (h x (by simp))
    show ptL (x :: xs) = ptC x ++ _
    simp only [ptL,List.flatMap_cons]
    rw [show (0 + 1) * 33 = (ptC x).length by omega,List.drop_left]
  | x :: xs,h,i + 1,hi => by
    have hx:=ptC_length (h x (by simp))
    have:=ptL_drop (ps:=xs) (fun y hy => h y (by simp [hy])) (i:=i) (by simpa using hi)
    simp only [List.getElem_cons_succ,ptL,List.flatMap_cons] at this ⊢
    rw [show (i + 1) * 33 = (ptC x).length + i * 33 by omega,show (i + 1 + 1) * 33 = (ptC x).length + (i + 1) * 33 by omega,← List.drop_drop,← List.drop_drop,List.drop_left]
    exact this
theorem putsC_ok (f f' : Fl) (ps : List (Int × List UInt8)) (h : ∀ p ∈ ps,p.2.length = 32) (hn : ps.length ≤ 2 ^ 30) : RC Tryd.prog 20 [.sl f ps.length (ptL ps),.sl f' ps.length (ptL ps)] [.bool true]:=by
  refine RC.of_wp c20 rfl ?_
  have lL:=ptL_length h
  simp -implicitDefEqProofs (maxSteps:=2000000) only [m20_1,m20_2,m20_3,m20_4,m20_5,m20_6,m20_7,m20_r,m20_b,m20,wk,act,asV,↓reduceIte,Nat.reduceEqDiff,reduceCtorEq,Nat.reduceAdd,Nat.reduceLeDiff,Nat.reduceSub,Nat.reduceMul,List.reduceReplicate,Int.reduceEq,Int.reduceLT,Int.reduceLE,Int.reduceAdd,Int.reduceSub,Int.reduceMul,Nat.reduceLT,Int.reduceToNat]
  refine Wp_loop (fun m s => ∃ i,i ≤ ps.length ∧ m = ps.length - i ∧ s.t 0 = .sl f ps.length (ptL ps) ∧ s.t 1 = .sl f' ps.length (ptL ps) ∧ s.t 5 = .int .i64 (i : Nat)) ps.length ⟨0,by omega,rfl,rfl,rfl,rfl⟩ ?_
  rintro m s ⟨i,hi,rfl,k0,k1,k5⟩
  by_cases hil : i < ps.length
  · have hil' : (i : Int) < ps.length:=by omega
    have hxi:=h _ (List.getElem_mem hil)
    have eX:=ptL_drop h hil
    obtain ⟨x,hxx⟩ : ∃ x,x = ps[i]:=⟨_,rfl⟩
    rw [← hxx] at hxi eX
    have lX:=ptC_length hxi
    have tX : List.take 33 (ptC x ++ List.drop ((i + 1) * 33) (ptL ps)) = ptC x:=by rw [List.take_append,lX,Nat.sub_self,List.take_zero,List.append_nil,List.take_of_length_le (by omega)]
    have l33 : 33 ≤ (ptC x ++ List.drop ((i + 1) * 33) (ptL ps)).length:=by rw [List.length_append]; omega
    have q1:=ptC_eq x
    have q2:=ptC_fit hxi
    have wi : IntKind.i64.wrap (((i : Nat) : Int) + 1) = ((i + 1 : Nat) : Int):=by rw [IntKind.wrap_i64]; omega
    obtain ⟨V,hV⟩ : ∃ V,V = ptC x ++ List.drop ((i + 1) * 33) (ptL ps):=⟨_,rfl⟩
    rw [← hV] at eX tX l33
    simp -implicitDefEqProofs (maxSteps:=2000000) only [k0,k1,k5,hil',eX,tX,lL,l33,q1,q2,wi,wk,act,asV,↓reduceIte,Nat.reduceEqDiff,reduceCtorEq,Nat.reduceAdd,Nat.reduceLeDiff,Nat.reduceSub,Nat.reduceMul,List.reduceReplicate,Int.reduceEq,Int.reduceLT,Int.reduceLE,Int.reduceAdd,Int.reduceSub,Int.reduceMul,Nat.reduceLT,Int.reduceToNat]
    exact ⟨ps.length - (i + 1),by omega,i + 1,by omega,rfl,rfl⟩
  · obtain rfl : i = ps.length:=by omega
    have hil' : ¬ ((ps.length : Nat) : Int) < ps.length:=by omega
    simp -implicitDefEqProofs (maxSteps:=2000000) only [k0,k1,k5,hil',wk,act,asV,↓reduceIte,Nat.reduceEqDiff,reduceCtorEq,Nat.reduceAdd,Nat.reduceLeDiff,Nat.reduceSub,Nat.reduceMul,List.reduceReplicate,Int.reduceEq,Int.reduceLT,Int.reduceLE,Int.reduceAdd,Int.reduceSub,Int.reduceMul,Nat.reduceLT,Int.reduceToNat]

end Go.Proofs.YtilbipknodpmmaaDoor
