/- The loaded functions as texts of the ideal machine (written by a program of ours), and that they are the loaded ones. -/
import Derived.Test.YtilbipknodpmmaaDoorE31
import Derived.Test.YtilbipknodpmmaaDoorProg
import Derived.Test.YtilbipknodpmmaaDoorW3
import Derived.Test.YtilbipknodpmmaaDoorM21
set_option linter.unusedVariables false
set_option linter.unusedSimpArgs false
set_option linter.unusedSectionVars false
namespace Go.Proofs.YtilbipknodpmmaaDoor
open Go.RowKit

/- tollhouse/tollhouselaw21.QueueNone -/
/- tollhouse/tollhouselaw21.QueueFull -/
end Go.Proofs.YtilbipknodpmmaaDoor
/- The law QueueNone. -/
set_option linter.unusedVariables false
set_option linter.unusedSimpArgs false
set_option linter.unusedSectionVars false
set_option maxRecDepth 100000
set_option maxHeartbeats 8000000
namespace Go.Proofs.YtilbipknodpmmaaDoor
open Go.RowKit

def fairI (xs : List It) : Bool:=xs.all (fun x => decide (x.name.length ≤ 100)) && decide (xs.length ≤ 20)
theorem fairI_ok (f : Fl) (xs : List It) (hx : ∀ x ∈ xs,x.Ok) (hn : xs.length < 2 ^ 63) : RC Tryd.prog 30 [.sl f xs.length (itL xs)] [.bool (fairI xs)]:=by
  refine RC.of_wp c30 rfl ?_
  simp -implicitDefEqProofs (maxSteps:=2000000) only [m30_1,m30_2,m30_3,m30_4,m30_5,m30_6,m30_r,m30_b,m30,wk,act,asV,↓reduceIte,Nat.reduceEqDiff,reduceCtorEq,Nat.reduceAdd,Nat.reduceLeDiff,Nat.reduceSub,Nat.reduceMul,List.reduceReplicate,Int.reduceEq,Int.reduceLT,Int.reduceLE,Int.reduceAdd,Int.reduceSub,Int.reduceMul,Nat.reduceLT,Int.reduceToNat]
  refine Wp_loop (fun m s => ∃ i,i ≤ xs.length ∧ m = xs.length - i ∧ s.t 0 = .sl f xs.length (itL xs) ∧ s.t 3 = .int .i64 (i : Nat) ∧ (xs.take i).all (fun x => decide (x.name.length ≤ 100)) = true) xs.length ⟨0,by omega,rfl,rfl,rfl,rfl⟩ ?_
  rintro m s ⟨i,hi,rfl,k0,k3,hall⟩
  by_cases hil : i < xs.length
  · have hil' : (i : Int) < xs.length:=by omega
    have eX:=itL_drop hx hil
    have lL:=itL_length hx
    have wi : IntKind.i64.wrap (((i : Nat) : Int) + 1) = ((i + 1 : Nat) : Int):=by rw [IntKind.wrap_i64]; omega
    have hok:=hx _ (List.getElem_mem hil)
    have no : ¬ xs[i].name.length ≤ 100 → fairI xs = false:=fun h => by
      unfold fairI
      rw [Bool.and_eq_false_iff]
      refine .inl (Bool.eq_false_iff.2 fun hh => h ?_)
      have:=List.all_eq_true.1 hh _ (List.getElem_mem hil)
      simpa using this
    obtain ⟨x,hxx⟩ : ∃ x,x = xs[i]:=⟨_,rfl⟩
    rw [← hxx] at eX no hok
    have e2 : List.take 1 (List.drop 2 (itC x ++ List.drop ((i + 1) * 36) (itL xs))) = [.str x.name]:=rfl
    have l2 : 1 ≤ (List.drop 2 (itC x ++ List.drop ((i + 1) * 36) (itL xs))).length:=by rw [List.length_drop,List.length_append,itC_length hok]; omega
    obtain ⟨V,hV⟩ : ∃ V,V = itC x ++ List.drop ((i + 1) * 36) (itL xs):=⟨_,rfl⟩
    rw [← hV] at eX e2 l2
    by_cases b1 : (100 : Int) < (x.name.length : Nat)
    · rw [no (fun h => by omega)]
      simp -implicitDefEqProofs (maxSteps:=2000000) only [k0,k3,hil',eX,lL,e2,l2,b1,wk,act,asV,↓reduceIte,Nat.reduceEqDiff,reduceCtorEq,Nat.reduceAdd,Nat.reduceLeDiff,Nat.reduceSub,Nat.reduceMul,List.reduceReplicate,Int.reduceEq,Int.reduceLT,Int.reduceLE,Int.reduceAdd,Int.reduceSub,Int.reduceMul,Nat.reduceLT,Int.reduceToNat]
    · simp -implicitDefEqProofs (maxSteps:=2000000) only [k0,k3,hil',eX,lL,e2,l2,b1,wi,wk,act,asV,↓reduceIte,Nat.reduceEqDiff,reduceCtorEq,Nat.reduceAdd,Nat.reduceLeDiff,Nat.reduceSub,Nat.reduceMul,List.reduceReplicate,Int.reduceEq,Int.reduceLT,Int.reduceLE,Int.reduceAdd,Int.reduceSub,Int.reduceMul,Nat.reduceLT,Int.reduceToNat]
      refine ⟨xs.length - (i + 1),by omega,i + 1,by omega,rfl,rfl,?_⟩
      rw [List.take_succ_eq_append_getElem hil,List.all_append,hall,← hxx]
      simp; omega
  · obtain rfl : i = xs.length:=by omega
    have hil' : ¬ ((xs.length : Nat) : Int) < xs.length:=by omega
    rw [List.take_length] at hall
    have e : fairI xs = decide ((xs.length : Int) ≤ 20):=by
      unfold fairI
      rw [hall,Bool.true_and]
      congr 1; apply propext; omega
    rw [e]
    simp -implicitDefEqProofs (maxSteps:=2000000) only [k0,k3,hil',wk,act,asV,↓reduceIte,Nat.reduceEqDiff,reduceCtorEq,Nat.reduceAdd,Nat.reduceLeDiff,Nat.reduceSub,Nat.reduceMul,List.reduceReplicate,Int.reduceEq,Int.reduceLT,Int.reduceLE,Int.reduceAdd,Int.reduceSub,Int.reduceMul,Nat.reduceLT,Int.reduceToNat]
theorem fairI_one (f : Fl) (x : It) (hx : x.Ok) : RC Tryd.prog 30 [.sl f 1 (itC x)] [.bool (fairI [x])]:=by
  have c:=fairI_ok f [x] (by simpa using hx) (by simp)
  have e : itL [x] = itC x:=by simp [itL]
  rw [e,List.length_cons,List.length_nil] at c
  exact c
end Go.Proofs.YtilbipknodpmmaaDoor
