/- Of the table: the volumes' block, by the reference. -/
import Derived.Test.YtilbipknodpmmaaDoorE31
import Derived.Test.YtilbipknodpmmaaDoorM6
import Derived.Test.YtilbipknodpmmaaDoorB9
import Derived.Test.YtilbipknodpmmaaDoorB4
set_option linter.unusedVariables false
set_option linter.unusedSimpArgs false
set_option maxRecDepth 100000
set_option maxHeartbeats 8000000
namespace Go.Proofs.YtilbipknodpmmaaDoor
open Go.RowKit

theorem bk_wrap {v : Vol} (hv : volP v = true) (k : Nat) : IntKind.u8.wrap (v.blocks.getD k 0) = ((u8 (v.blocks.getD k 0).toNat).toNat : Int):=by
  obtain ⟨_,_,_,hin⟩:=volP_bl hv
  by_cases hk : k < v.blocks.length
  · have e : v.blocks.getD k 0 = v.blocks[k]:=by simp [List.getD,hk]
    rw [e]
    exact u8_wrap (List.all_eq_true.1 hin _ (List.getElem_mem hk))
  · have e : v.blocks.getD k 0 = 0:=by simp [List.getD,List.getElem?_eq_none (Nat.not_lt.1 hk)]
    rw [e]; rfl
theorem bk4_length (bs : List Int) : (bk4 bs).length = 4:=rfl
theorem bk4_take (bs : List Int) {k : Nat} (h : k < 4) : (bk4 bs).take (k + 1) = (bk4 bs).take k ++ [u8 (bs.getD k 0).toNat]:=by
  rw [List.take_succ_eq_append_getElem (by rw [bk4_length]; exact h)]
  congr 2
  have : k = 0 ∨ k = 1 ∨ k = 2 ∨ k = 3:=by omega
  rcases this with rfl | rfl | rfl | rfl <;> rfl
def rowAt (s : St) (a b : Nat) (W : List UInt8) : Prop:=∃ hh ver,(hh = a ∨ hh = b) ∧ s.t 4 = .row hh 0 W.length 1 ver ∧ s.h hh = ⟨ver,true,true,true,bl W⟩

theorem encR_in (W : List UInt8) (i : Nat) (f : Fl) (vs : List Vol) (hi : i < vs.length) (hW : W.length ≤ 28) (hv : volP vs[i] = true)
    (Q : Ex → St → Prop) (s1 : St) (q1 : ∀ s2 : St,s2.t 0 = .sl f vs.length (vl vs) → s2.t 5 = .int .i64 i → s2.t 2 = s1.t 2 → s2.h 2 = s1.h 2 → rowAt s2 66 66 (W ++ bk4 vs[i].blocks) → Q (.exit 2) s2)
    (k0 : s1.t 0 = .sl f vs.length (vl vs)) (k5 : s1.t 5 = .int .i64 i) (k7 : s1.t 7 = .int .i64 0) (kr : rowAt s1 41 66 W) :
    Wp (RCs Tryd.prog) (.loop m52_9) Q s1:=by
  obtain ⟨hnm,hb1,hb4,hin⟩:=volP_bl hv
  have hi' : (i : Int) < vs.length:=by omega
  refine Wp_loop (fun m s => ∃ j,j ≤ 4 ∧ m = 4 - j ∧ s.t 0 = .sl f vs.length (vl vs) ∧ s.t 5 = .int .i64 i ∧ s.t 7 = .int .i64 j ∧ s.t 2 = s1.t 2 ∧ s.h 2 = s1.h 2 ∧ ((j = 0 ∧ rowAt s 41 66 W) ∨ (0 < j ∧ rowAt s 66 66 (W ++ (bk4 vs[i].blocks).take j)))) 4 ⟨0,by omega,rfl,k0,k5,k7,rfl,rfl,.inl ⟨rfl,kr⟩⟩ ?_
  clear k0 k5 k7 kr
  rintro m s ⟨j,hj,rfl,k0,k5,k7,k2,kh2,kr⟩
  by_cases hj4 : j < 4
  · have hj4' : (j : Int) < 4:=by omega
    have h2 : (0 : Nat) < 2:=by omega
    have hx:=bk_wrap hv j
    have kr' : rowAt s 41 66 (W ++ (bk4 vs[i].blocks).take j):=by
      rcases kr with ⟨rfl,h⟩ | ⟨_,hh,ver,h1,h⟩
      · simpa using h
      · exact ⟨hh,ver,.inr (by omega),h⟩
    have etk : W ++ (bk4 vs[i].blocks).take (j + 1) = (W ++ (bk4 vs[i].blocks).take j) ++ [u8 (vs[i].blocks.getD j 0).toNat]:=by
      rw [bk4_take _ hj4,List.append_assoc]
    obtain ⟨V,hV⟩ : ∃ V,V = W ++ (bk4 vs[i].blocks).take j:=⟨_,rfl⟩
    rw [← hV] at kr' etk
    have hVl : V.length ≤ 32:=by rw [hV,List.length_append,List.length_take,bk4_length]; omega
    have hr : roomy (V.length + 1) 1 = true:=roomyB (by omega)
    have hsn:=bl_snoc V (u8 (vs[i].blocks.getD j 0).toNat)
    obtain ⟨hh,ver,hhh,k4,kh⟩:=kr'
    by_cases hjl : j < vs[i].blocks.length
    · have hjl' : (j : Int) < vs[i].blocks.length:=by omega
      have eg : vs[i].blocks.getD j 0 = vs[i].blocks[j]:=by simp [List.getD,hjl]
      rw [eg] at hx etk hsn
      rcases hhh with rfl | rfl <;>
      · simp -implicitDefEqProofs (maxSteps:=2000000) only [k0,k5,k7,k2,kh2,k4,kh,hi,hi',h2,drop_vl hi,vl_length,hj4',hjl,hjl',drop_il hjl,hx,hr,bl_length,hsn,m52_1,m52_2,m52_3,m52_4,m52_5,m52_6,m52_7,m52_8,m52_9,m52_10,m52_11,m52_12,m52_13,m52_14,m52_15,m52_16,m52_17,m52_18,m52_19,m52_20,m52_21,m52_r,m52_b,m52,wrap_nat (show j < 2 ^ 63 - 1 by omega),wk,act,asV,↓reduceIte,Nat.reduceEqDiff,reduceCtorEq,Nat.reduceAdd,Nat.reduceLeDiff,Nat.reduceSub,Nat.reduceMul,List.reduceReplicate,Int.reduceEq,Int.reduceLT,Int.reduceLE,Int.reduceAdd,Int.reduceSub,Int.reduceMul,Nat.reduceLT,Int.reduceToNat]
        refine ⟨4 - (j + 1),by omega,j + 1,by omega,rfl,rfl,?_⟩
        rw [etk]
        refine .inr ⟨by omega,66,_,.inl rfl,?_,rfl⟩
        rw [List.length_append]; rfl
    · have hjl' : ¬ (j : Int) < vs[i].blocks.length:=by omega
      have eg : vs[i].blocks.getD j 0 = 0:=by simp [List.getD,List.getElem?_eq_none (Nat.not_lt.1 hjl)]
      rw [eg,Int.toNat_zero] at hx etk hsn
      rcases hhh with rfl | rfl <;>
      · simp -implicitDefEqProofs (maxSteps:=2000000) only [k0,k5,k7,k2,kh2,k4,kh,hi,hi',h2,drop_vl hi,vl_length,hj4',hjl,hjl',hx,hr,bl_length,hsn,m52_1,m52_2,m52_3,m52_4,m52_5,m52_6,m52_7,m52_8,m52_9,m52_10,m52_11,m52_12,m52_13,m52_14,m52_15,m52_16,m52_17,m52_18,m52_19,m52_20,m52_21,m52_r,m52_b,m52,wrap_nat (show j < 2 ^ 63 - 1 by omega),wk,act,asV,↓reduceIte,Nat.reduceEqDiff,reduceCtorEq,Nat.reduceAdd,Nat.reduceLeDiff,Nat.reduceSub,Nat.reduceMul,List.reduceReplicate,Int.reduceEq,Int.reduceLT,Int.reduceLE,Int.reduceAdd,Int.reduceSub,Int.reduceMul,Nat.reduceLT,Int.reduceToNat]
        refine ⟨4 - (j + 1),by omega,j + 1,by omega,rfl,rfl,?_⟩
        rw [etk]
        refine .inr ⟨by omega,66,_,.inl rfl,?_,rfl⟩
        rw [List.length_append]; rfl
  · have hje : j = 4:=by omega
    have hj4' : ¬ (j : Int) < 4:=by omega
    subst hje
    rcases kr with ⟨h,_⟩ | ⟨_,hh,ver,hhh,k4,kh⟩
    · omega
    rw [List.take_of_length_le (by rw [bk4_length]; omega)] at k4 kh
    obtain rfl : hh = 66:=by omega
    simp -implicitDefEqProofs (maxSteps:=2000000) only [k7,m52_1,m52_2,m52_3,m52_4,m52_5,m52_6,m52_7,m52_8,m52_9,m52_10,m52_11,m52_12,m52_13,m52_14,m52_15,m52_16,m52_17,m52_18,m52_19,m52_20,m52_21,m52_r,m52_b,m52,wk,act,asV,↓reduceIte,Nat.reduceEqDiff,reduceCtorEq,Nat.reduceAdd,Nat.reduceLeDiff,Nat.reduceSub,Nat.reduceMul,List.reduceReplicate,Int.reduceEq,Int.reduceLT,Int.reduceLE,Int.reduceAdd,Int.reduceSub,Int.reduceMul,Nat.reduceLT,Int.reduceToNat]
    exact q1 _ (by simp -implicitDefEqProofs (maxSteps:=2000000) only [k0,wk,act,asV,↓reduceIte,Nat.reduceEqDiff,reduceCtorEq,Nat.reduceAdd,Nat.reduceLeDiff,Nat.reduceSub,Nat.reduceMul,List.reduceReplicate,Int.reduceEq,Int.reduceLT,Int.reduceLE,Int.reduceAdd,Int.reduceSub,Int.reduceMul,Nat.reduceLT,Int.reduceToNat]) (by simp -implicitDefEqProofs (maxSteps:=2000000) only [k5,wk,act,asV,↓reduceIte,Nat.reduceEqDiff,reduceCtorEq,Nat.reduceAdd,Nat.reduceLeDiff,Nat.reduceSub,Nat.reduceMul,List.reduceReplicate,Int.reduceEq,Int.reduceLT,Int.reduceLE,Int.reduceAdd,Int.reduceSub,Int.reduceMul,Nat.reduceLT,Int.reduceToNat]) (by simp -implicitDefEqProofs (maxSteps:=2000000) only [k2,wk,act,asV,↓reduceIte,Nat.reduceEqDiff,reduceCtorEq,Nat.reduceAdd,Nat.reduceLeDiff,Nat.reduceSub,Nat.reduceMul,List.reduceReplicate,Int.reduceEq,Int.reduceLT,Int.reduceLE,Int.reduceAdd,Int.reduceSub,Int.reduceMul,Nat.reduceLT,Int.reduceToNat]) (by simp -implicitDefEqProofs (maxSteps:=2000000) only [kh2,wk,act,asV,↓reduceIte,Nat.reduceEqDiff,reduceCtorEq,Nat.reduceAdd,Nat.reduceLeDiff,Nat.reduceSub,Nat.reduceMul,List.reduceReplicate,Int.reduceEq,Int.reduceLT,Int.reduceLE,Int.reduceAdd,Int.reduceSub,Int.reduceMul,Nat.reduceLT,Int.reduceToNat]) ⟨66,ver,.inl rfl,by simp -implicitDefEqProofs (maxSteps:=2000000) only [k4,wk,act,asV,↓reduceIte,Nat.reduceEqDiff,reduceCtorEq,Nat.reduceAdd,Nat.reduceLeDiff,Nat.reduceSub,Nat.reduceMul,List.reduceReplicate,Int.reduceEq,Int.reduceLT,Int.reduceLE,Int.reduceAdd,Int.reduceSub,Int.reduceMul,Nat.reduceLT,Int.reduceToNat],by simp -implicitDefEqProofs (maxSteps:=2000000) only [kh,wk,act,asV,↓reduceIte,Nat.reduceEqDiff,reduceCtorEq,Nat.reduceAdd,Nat.reduceLeDiff,Nat.reduceSub,Nat.reduceMul,List.reduceReplicate,Int.reduceEq,Int.reduceLT,Int.reduceLE,Int.reduceAdd,Int.reduceSub,Int.reduceMul,Nat.reduceLT,Int.reduceToNat]⟩
end Go.Proofs.YtilbipknodpmmaaDoor
