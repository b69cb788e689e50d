/- Of the queue: all items go. -/
import Derived.Test.YtilbipknodpmmaaDoorW1
import Derived.Test.YtilbipknodpmmaaDoorE31
import Derived.Test.YtilbipknodpmmaaDoorM21
import Derived.Test.YtilbipknodpmmaaDoorM6
import Derived.Test.YtilbipknodpmmaaDoorV0
set_option linter.unusedVariables false
set_option linter.unusedSimpArgs false
set_option linter.unusedSectionVars false
set_option maxRecDepth 100000
set_option maxHeartbeats 8000000
namespace Go.Proofs.YtilbipknodpmmaaDoor
open Go.RowKit

def idsL (xs : List It) : List Int:=xs.map It.id
def RowI (x : Nat) (H : Nat → Blk) (v : IV) (l : List Int) : Prop:=(l = [] ∧ v = .sl .full 0 []) ∨ (0 < l.length ∧ ∃ ver,v = .row x 0 l.length 1 ver ∧ H x = ⟨ver,true,true,true,il l⟩)
theorem qclear_ok {h hv : Nat} {H : Nat → Blk} {xs : List It} (hh : h < 1000) (hx : ∀ x ∈ xs,x.Ok) (hn : xs.length ≤ 2 ^ 30) (ho : ObjQ h hv 1024 H xs) :
    IC Tryd.prog 37 H [.ptr h 0 hv] (fun r h' => (∃ v,r = [v] ∧ RowI 3021 h' v (idsL xs)) ∧ ObjQ h hv 1024 h' [] ∧ ∀ y,y ≠ h → (y < 2000 ∨ 4000 ≤ y) → h' y = H y):=by
  refine @IC.of_wp offL Tryd.prog 37 m37 m37 c37 H [.ptr h 0 hv] _ rfl ?_
  have hne : ∀ k,1000 ≤ k → (h = k) = False:=fun k hk => by simp; omega
  have hne' : ∀ k,1000 ≤ k → (k = h) = False:=fun k hk => by simp; omega
  have r1 : roomy 1 8 = true:=by decide
  have hd : ∀ {ys : List It},(∀ x ∈ ys,x.Ok) → (ys.headD it0).Ok:=fun {ys} hy => by
    cases ys with
    | nil => exact it0_ok
    | cons a t => exact hy a (by simp)
  simp -implicitDefEqProofs (maxSteps:=2000000) only [m37_1,m37_2,m37_3,m37_4,m37_5,m37_6,m37_7,m37_8,m37_9,m37_10,m37_r,m37_b,m37,homL,wk,act,asV,↓reduceIte,Nat.reduceEqDiff,reduceCtorEq,Nat.reduceAdd,Nat.reduceLeDiff,Nat.reduceSub,Nat.reduceMul,List.reduceReplicate,Int.reduceEq,Int.reduceLT,Int.reduceLE,Int.reduceAdd,Int.reduceSub,Int.reduceMul,Nat.reduceLT,Int.reduceToNat]
  refine CallnL.of (by simp -implicitDefEqProofs (maxSteps:=2000000) only [homL,wk,act,asV,↓reduceIte,Nat.reduceEqDiff,reduceCtorEq,Nat.reduceAdd,Nat.reduceLeDiff,Nat.reduceSub,Nat.reduceMul,List.reduceReplicate,Int.reduceEq,Int.reduceLT,Int.reduceLE,Int.reduceAdd,Int.reduceSub,Int.reduceMul,Nat.reduceLT,Int.reduceToNat]; first | done | rfl) (qhead_ok hh hx ho) ?_
  rintro _ h1 ⟨rfl,fr⟩
  have o1 : ObjQ h hv 1024 h1 xs:=ho.fr (fr h (by omega)) (fr 1024 (by decide))
  have l0:=itC_length (hd hx)
  have t0 : List.take 36 (itC (xs.headD it0)) = itC (xs.headD it0):=List.take_of_length_le (by omega)
  simp -implicitDefEqProofs (maxSteps:=2000000) only [homL,l0,t0,itC_scal,wk,act,asV,↓reduceIte,Nat.reduceEqDiff,reduceCtorEq,Nat.reduceAdd,Nat.reduceLeDiff,Nat.reduceSub,Nat.reduceMul,List.reduceReplicate,Int.reduceEq,Int.reduceLT,Int.reduceLE,Int.reduceAdd,Int.reduceSub,Int.reduceMul,Nat.reduceLT,Int.reduceToNat]
  refine Wp_loopO (fun m s => ∃ i v4,i ≤ xs.length ∧ m = xs.length - i ∧ s.t 0 = .ptr h 0 hv ∧ s.t 4 = .ptr 3004 0 v4 ∧ s.h 3004 = ⟨v4,true,true,false,itC ((xs.drop i).headD it0)⟩ ∧ s.t 5 = .bool (!(xs.drop i).isEmpty) ∧ ObjQ h hv 1024 s.h (xs.drop i) ∧ RowI 3021 s.h (s.t 3) (idsL (xs.take i)) ∧ ∀ y,y ≠ h → (y < 2000 ∨ 4000 ≤ y) → s.h y = H y) xs.length ⟨0,_,by omega,rfl,rfl,rfl,by simp -implicitDefEqProofs (maxSteps:=2000000) only [homL,List.drop_zero,l0,wk,act,asV,↓reduceIte,Nat.reduceEqDiff,reduceCtorEq,Nat.reduceAdd,Nat.reduceLeDiff,Nat.reduceSub,Nat.reduceMul,List.reduceReplicate,Int.reduceEq,Int.reduceLT,Int.reduceLE,Int.reduceAdd,Int.reduceSub,Int.reduceMul,Nat.reduceLT,Int.reduceToNat]; first | done | rfl,by rw [List.drop_zero]; rfl,by rw [List.drop_zero]; exact o1.fr (by simp -implicitDefEqProofs (maxSteps:=2000000) only [homL,hne,hne',wk,act,asV,↓reduceIte,Nat.reduceEqDiff,reduceCtorEq,Nat.reduceAdd,Nat.reduceLeDiff,Nat.reduceSub,Nat.reduceMul,List.reduceReplicate,Int.reduceEq,Int.reduceLT,Int.reduceLE,Int.reduceAdd,Int.reduceSub,Int.reduceMul,Nat.reduceLT,Int.reduceToNat]) (by simp -implicitDefEqProofs (maxSteps:=2000000) only [homL,wk,act,asV,↓reduceIte,Nat.reduceEqDiff,reduceCtorEq,Nat.reduceAdd,Nat.reduceLeDiff,Nat.reduceSub,Nat.reduceMul,List.reduceReplicate,Int.reduceEq,Int.reduceLT,Int.reduceLE,Int.reduceAdd,Int.reduceSub,Int.reduceMul,Nat.reduceLT,Int.reduceToNat]),.inl ⟨rfl,rfl⟩,fun y y1 y2 => by
      have y3 : ∀ k,2000 ≤ k → k < 4000 → (y = k) = False:=fun k _ _ => by simp; omega
      simp -implicitDefEqProofs (maxSteps:=2000000) only [homL,y3,fr y (by omega),wk,act,asV,↓reduceIte,Nat.reduceEqDiff,reduceCtorEq,Nat.reduceAdd,Nat.reduceLeDiff,Nat.reduceSub,Nat.reduceMul,List.reduceReplicate,Int.reduceEq,Int.reduceLT,Int.reduceLE,Int.reduceAdd,Int.reduceSub,Int.reduceMul,Nat.reduceLT,Int.reduceToNat]⟩ ?_
  clear o1 l0 t0 fr h1
  rintro m s ⟨i,v4,hi,rfl,k0,k4,kh4,k5,ko,k3,kf⟩
  by_cases hil : i < xs.length
  · have hxi : ∀ x ∈ xs.drop i,x.Ok:=fun x h => hx x (List.mem_of_mem_drop h)
    have hxj : ∀ x ∈ xs.drop (i + 1),x.Ok:=fun x h => hx x (List.mem_of_mem_drop h)
    have hdr : xs.drop i = xs[i] :: xs.drop (i + 1):=List.drop_eq_getElem_cons hil
    have cp:=fun {H : Nat → Blk} (o : ObjQ h hv 1024 H (xs.drop i)) => qpop_ok hh hxi o
    have ch:=fun {H : Nat → Blk} (o : ObjQ h hv 1024 H (xs.drop (i + 1))) => qhead_ok hh hxj o
    have hok:=hx _ (List.getElem_mem hil)
    have et : idsL (xs.take (i + 1)) = idsL (xs.take i) ++ [xs[i].id]:=by
      show (xs.take (i + 1)).map It.id = _
      rw [List.take_succ_eq_append_getElem hil,List.map_append]; rfl
    rw [hdr] at kh4 k5 cp ko
    simp only [List.tail_cons,List.isEmpty_cons,Bool.not_false,List.headD_cons] at kh4 k5 cp
    obtain ⟨x,hxx⟩ : ∃ x,x = xs[i]:=⟨_,rfl⟩
    rw [← hxx] at kh4 cp ko hok et
    obtain ⟨L,hL⟩ : ∃ L,L = idsL (xs.take i):=⟨_,rfl⟩
    have lL : L.length = i:=by rw [hL]; simp [idsL]; omega
    rw [← hL] at k3 et
    have lx:=itC_length hok
    have ex : itC x = .int .i64 x.id :: .int .i64 x.kind :: .str x.name :: .int .i64 x.n :: bl x.data:=rfl
    have lj:=itC_length (hd hxj)
    have tj : List.take 36 (itC ((xs.drop (i + 1)).headD it0)) = itC ((xs.drop (i + 1)).headD it0):=List.take_of_length_le (by omega)
    have tx : List.take 36 (itC x) = itC x:=List.take_of_length_le (by omega)
    have sx:=itC_scal x
    have xj : List.drop 36 (itC x) = []:=List.drop_of_length_le (by omega)
    have t1 : List.take 1 (itC x) = [.int .i64 x.id]:=rfl
    have ll:=il_length L
    rw [lL] at ll
    have r2 : roomy (i + 1) 8 = true:=by simp [roomy]; omega
    have eL : il L ++ [.int .i64 x.id] = il (L ++ [x.id]):=by simp [il]
    have b1 : 1 ≤ (itC x).length:=by omega
    obtain ⟨Y,hY⟩ : ∃ Y,Y = (xs.drop (i + 1)).headD it0:=⟨_,rfl⟩
    rw [← hY] at ch lj tj
    have sy:=itC_scal Y
    rcases k3 with ⟨hi0,k3⟩ | ⟨hi0,v3,k3,kh3⟩
    · have eL' : [IV.int .i64 x.id] = il (L ++ [x.id]):=by rw [hi0]; rfl
      have hl1 : (L ++ [x.id]).length = 1:=by rw [hi0]; rfl
      simp -implicitDefEqProofs (maxSteps:=2000000) only [homL,k0,k3,k4,kh4,k5,b1,t1,r1,wk,act,asV,↓reduceIte,Nat.reduceEqDiff,reduceCtorEq,Nat.reduceAdd,Nat.reduceLeDiff,Nat.reduceSub,Nat.reduceMul,List.reduceReplicate,Int.reduceEq,Int.reduceLT,Int.reduceLE,Int.reduceAdd,Int.reduceSub,Int.reduceMul,Nat.reduceLT,Int.reduceToNat]
      refine CallnL.of (by simp -implicitDefEqProofs (maxSteps:=2000000) only [homL,k0,wk,act,asV,↓reduceIte,Nat.reduceEqDiff,reduceCtorEq,Nat.reduceAdd,Nat.reduceLeDiff,Nat.reduceSub,Nat.reduceMul,List.reduceReplicate,Int.reduceEq,Int.reduceLT,Int.reduceLE,Int.reduceAdd,Int.reduceSub,Int.reduceMul,Nat.reduceLT,Int.reduceToNat]; first | done | rfl) (cp (ko.fr (by simp -implicitDefEqProofs (maxSteps:=2000000) only [homL,hne,hne',wk,act,asV,↓reduceIte,Nat.reduceEqDiff,reduceCtorEq,Nat.reduceAdd,Nat.reduceLeDiff,Nat.reduceSub,Nat.reduceMul,List.reduceReplicate,Int.reduceEq,Int.reduceLT,Int.reduceLE,Int.reduceAdd,Int.reduceSub,Int.reduceMul,Nat.reduceLT,Int.reduceToNat]) (by simp -implicitDefEqProofs (maxSteps:=2000000) only [homL,wk,act,asV,↓reduceIte,Nat.reduceEqDiff,reduceCtorEq,Nat.reduceAdd,Nat.reduceLeDiff,Nat.reduceSub,Nat.reduceMul,List.reduceReplicate,Int.reduceEq,Int.reduceLT,Int.reduceLE,Int.reduceAdd,Int.reduceSub,Int.reduceMul,Nat.reduceLT,Int.reduceToNat]))) ?_
      rintro _ h2 ⟨rfl,o2,fr2⟩
      have g4 : h2 3004 = ⟨v4,true,true,false,itC x⟩:=(fr2 3004 (by omega)).trans (by simp -implicitDefEqProofs (maxSteps:=2000000) only [homL,kh4,wk,act,asV,↓reduceIte,Nat.reduceEqDiff,reduceCtorEq,Nat.reduceAdd,Nat.reduceLeDiff,Nat.reduceSub,Nat.reduceMul,List.reduceReplicate,Int.reduceEq,Int.reduceLT,Int.reduceLE,Int.reduceAdd,Int.reduceSub,Int.reduceMul,Nat.reduceLT,Int.reduceToNat])
      have g21 : h2 3021 = ⟨(s.h 3021).ver + 1,true,true,true,il (L ++ [x.id])⟩:=(fr2 3021 (by omega)).trans (by simp -implicitDefEqProofs (maxSteps:=2000000) only [homL,eL',wk,act,asV,↓reduceIte,Nat.reduceEqDiff,reduceCtorEq,Nat.reduceAdd,Nat.reduceLeDiff,Nat.reduceSub,Nat.reduceMul,List.reduceReplicate,Int.reduceEq,Int.reduceLT,Int.reduceLE,Int.reduceAdd,Int.reduceSub,Int.reduceMul,Nat.reduceLT,Int.reduceToNat])
      simp -implicitDefEqProofs (maxSteps:=2000000) only [homL,k0,k4,g4,tx,lx,xj,sx,wk,act,asV,↓reduceIte,Nat.reduceEqDiff,reduceCtorEq,Nat.reduceAdd,Nat.reduceLeDiff,Nat.reduceSub,Nat.reduceMul,List.reduceReplicate,Int.reduceEq,Int.reduceLT,Int.reduceLE,Int.reduceAdd,Int.reduceSub,Int.reduceMul,Nat.reduceLT,Int.reduceToNat]
      refine CallnL.of (by simp -implicitDefEqProofs (maxSteps:=2000000) only [homL,k0,wk,act,asV,↓reduceIte,Nat.reduceEqDiff,reduceCtorEq,Nat.reduceAdd,Nat.reduceLeDiff,Nat.reduceSub,Nat.reduceMul,List.reduceReplicate,Int.reduceEq,Int.reduceLT,Int.reduceLE,Int.reduceAdd,Int.reduceSub,Int.reduceMul,Nat.reduceLT,Int.reduceToNat]; first | done | rfl) (ch (o2.fr (by simp -implicitDefEqProofs (maxSteps:=2000000) only [homL,hne,hne',wk,act,asV,↓reduceIte,Nat.reduceEqDiff,reduceCtorEq,Nat.reduceAdd,Nat.reduceLeDiff,Nat.reduceSub,Nat.reduceMul,List.reduceReplicate,Int.reduceEq,Int.reduceLT,Int.reduceLE,Int.reduceAdd,Int.reduceSub,Int.reduceMul,Nat.reduceLT,Int.reduceToNat]) (by simp -implicitDefEqProofs (maxSteps:=2000000) only [homL,wk,act,asV,↓reduceIte,Nat.reduceEqDiff,reduceCtorEq,Nat.reduceAdd,Nat.reduceLeDiff,Nat.reduceSub,Nat.reduceMul,List.reduceReplicate,Int.reduceEq,Int.reduceLT,Int.reduceLE,Int.reduceAdd,Int.reduceSub,Int.reduceMul,Nat.reduceLT,Int.reduceToNat]))) ?_
      rintro _ h3 ⟨rfl,fr3⟩
      have q4 : h3 3004 = ⟨v4 + 1,true,true,false,itC x⟩:=(fr3 3004 (by decide)).trans (by simp -implicitDefEqProofs (maxSteps:=2000000) only [homL,g4,wk,act,asV,↓reduceIte,Nat.reduceEqDiff,reduceCtorEq,Nat.reduceAdd,Nat.reduceLeDiff,Nat.reduceSub,Nat.reduceMul,List.reduceReplicate,Int.reduceEq,Int.reduceLT,Int.reduceLE,Int.reduceAdd,Int.reduceSub,Int.reduceMul,Nat.reduceLT,Int.reduceToNat])
      have q21 : h3 3021 = ⟨(s.h 3021).ver + 1,true,true,true,il (L ++ [x.id])⟩:=(fr3 3021 (by decide)).trans (by simp -implicitDefEqProofs (maxSteps:=2000000) only [homL,g21,wk,act,asV,↓reduceIte,Nat.reduceEqDiff,reduceCtorEq,Nat.reduceAdd,Nat.reduceLeDiff,Nat.reduceSub,Nat.reduceMul,List.reduceReplicate,Int.reduceEq,Int.reduceLT,Int.reduceLE,Int.reduceAdd,Int.reduceSub,Int.reduceMul,Nat.reduceLT,Int.reduceToNat])
      simp -implicitDefEqProofs (maxSteps:=2000000) only [homL,k0,k4,q4,lj,tj,sy,lx,xj,← hY,wk,act,asV,↓reduceIte,Nat.reduceEqDiff,reduceCtorEq,Nat.reduceAdd,Nat.reduceLeDiff,Nat.reduceSub,Nat.reduceMul,List.reduceReplicate,Int.reduceEq,Int.reduceLT,Int.reduceLE,Int.reduceAdd,Int.reduceSub,Int.reduceMul,Nat.reduceLT,Int.reduceToNat]
      exact ⟨xs.length - (i + 1),by omega,i + 1,_,by omega,rfl,rfl,(by first | rfl | rw [hY]),rfl,o2.fr (by simp -implicitDefEqProofs (maxSteps:=2000000) only [homL,hne,hne',fr3 h (by omega),wk,act,asV,↓reduceIte,Nat.reduceEqDiff,reduceCtorEq,Nat.reduceAdd,Nat.reduceLeDiff,Nat.reduceSub,Nat.reduceMul,List.reduceReplicate,Int.reduceEq,Int.reduceLT,Int.reduceLE,Int.reduceAdd,Int.reduceSub,Int.reduceMul,Nat.reduceLT,Int.reduceToNat]) (by simp -implicitDefEqProofs (maxSteps:=2000000) only [homL,fr3 1024 (by decide),wk,act,asV,↓reduceIte,Nat.reduceEqDiff,reduceCtorEq,Nat.reduceAdd,Nat.reduceLeDiff,Nat.reduceSub,Nat.reduceMul,List.reduceReplicate,Int.reduceEq,Int.reduceLT,Int.reduceLE,Int.reduceAdd,Int.reduceSub,Int.reduceMul,Nat.reduceLT,Int.reduceToNat]),.inr ⟨by rw [et]; simp,_,by rw [et,hl1],by simp -implicitDefEqProofs (maxSteps:=2000000) only [homL,q21,et,wk,act,asV,↓reduceIte,Nat.reduceEqDiff,reduceCtorEq,Nat.reduceAdd,Nat.reduceLeDiff,Nat.reduceSub,Nat.reduceMul,List.reduceReplicate,Int.reduceEq,Int.reduceLT,Int.reduceLE,Int.reduceAdd,Int.reduceSub,Int.reduceMul,Nat.reduceLT,Int.reduceToNat]⟩,fun y y1 y2 => by
        have y3 : ∀ k,2000 ≤ k → k < 4000 → (y = k) = False:=fun k _ _ => by simp; omega
        simp -implicitDefEqProofs (maxSteps:=2000000) only [homL,y3,fr3 y (by omega),fr2 y y1,kf y y1 y2,wk,act,asV,↓reduceIte,Nat.reduceEqDiff,reduceCtorEq,Nat.reduceAdd,Nat.reduceLeDiff,Nat.reduceSub,Nat.reduceMul,List.reduceReplicate,Int.reduceEq,Int.reduceLT,Int.reduceLE,Int.reduceAdd,Int.reduceSub,Int.reduceMul,Nat.reduceLT,Int.reduceToNat]⟩
    · simp -implicitDefEqProofs (maxSteps:=2000000) only [homL,k0,k3,kh3,k4,kh4,k5,b1,t1,r2,lL,ll,wk,act,asV,↓reduceIte,Nat.reduceEqDiff,reduceCtorEq,Nat.reduceAdd,Nat.reduceLeDiff,Nat.reduceSub,Nat.reduceMul,List.reduceReplicate,Int.reduceEq,Int.reduceLT,Int.reduceLE,Int.reduceAdd,Int.reduceSub,Int.reduceMul,Nat.reduceLT,Int.reduceToNat]
      refine CallnL.of (by simp -implicitDefEqProofs (maxSteps:=2000000) only [homL,k0,wk,act,asV,↓reduceIte,Nat.reduceEqDiff,reduceCtorEq,Nat.reduceAdd,Nat.reduceLeDiff,Nat.reduceSub,Nat.reduceMul,List.reduceReplicate,Int.reduceEq,Int.reduceLT,Int.reduceLE,Int.reduceAdd,Int.reduceSub,Int.reduceMul,Nat.reduceLT,Int.reduceToNat]; first | done | rfl) (cp (ko.fr (by simp -implicitDefEqProofs (maxSteps:=2000000) only [homL,hne,hne',wk,act,asV,↓reduceIte,Nat.reduceEqDiff,reduceCtorEq,Nat.reduceAdd,Nat.reduceLeDiff,Nat.reduceSub,Nat.reduceMul,List.reduceReplicate,Int.reduceEq,Int.reduceLT,Int.reduceLE,Int.reduceAdd,Int.reduceSub,Int.reduceMul,Nat.reduceLT,Int.reduceToNat]) (by simp -implicitDefEqProofs (maxSteps:=2000000) only [homL,wk,act,asV,↓reduceIte,Nat.reduceEqDiff,reduceCtorEq,Nat.reduceAdd,Nat.reduceLeDiff,Nat.reduceSub,Nat.reduceMul,List.reduceReplicate,Int.reduceEq,Int.reduceLT,Int.reduceLE,Int.reduceAdd,Int.reduceSub,Int.reduceMul,Nat.reduceLT,Int.reduceToNat]))) ?_
      rintro _ h2 ⟨rfl,o2,fr2⟩
      have g4 : h2 3004 = ⟨v4,true,true,false,itC x⟩:=(fr2 3004 (by omega)).trans (by simp -implicitDefEqProofs (maxSteps:=2000000) only [homL,kh4,wk,act,asV,↓reduceIte,Nat.reduceEqDiff,reduceCtorEq,Nat.reduceAdd,Nat.reduceLeDiff,Nat.reduceSub,Nat.reduceMul,List.reduceReplicate,Int.reduceEq,Int.reduceLT,Int.reduceLE,Int.reduceAdd,Int.reduceSub,Int.reduceMul,Nat.reduceLT,Int.reduceToNat])
      have g21 : h2 3021 = ⟨v3 + 1 + 1,true,true,true,il (L ++ [x.id])⟩:=(fr2 3021 (by omega)).trans (by simp -implicitDefEqProofs (maxSteps:=2000000) only [homL,eL,wk,act,asV,↓reduceIte,Nat.reduceEqDiff,reduceCtorEq,Nat.reduceAdd,Nat.reduceLeDiff,Nat.reduceSub,Nat.reduceMul,List.reduceReplicate,Int.reduceEq,Int.reduceLT,Int.reduceLE,Int.reduceAdd,Int.reduceSub,Int.reduceMul,Nat.reduceLT,Int.reduceToNat])
      simp -implicitDefEqProofs (maxSteps:=2000000) only [homL,k0,k4,g4,tx,lx,xj,sx,wk,act,asV,↓reduceIte,Nat.reduceEqDiff,reduceCtorEq,Nat.reduceAdd,Nat.reduceLeDiff,Nat.reduceSub,Nat.reduceMul,List.reduceReplicate,Int.reduceEq,Int.reduceLT,Int.reduceLE,Int.reduceAdd,Int.reduceSub,Int.reduceMul,Nat.reduceLT,Int.reduceToNat]
      refine CallnL.of (by simp -implicitDefEqProofs (maxSteps:=2000000) only [homL,k0,wk,act,asV,↓reduceIte,Nat.reduceEqDiff,reduceCtorEq,Nat.reduceAdd,Nat.reduceLeDiff,Nat.reduceSub,Nat.reduceMul,List.reduceReplicate,Int.reduceEq,Int.reduceLT,Int.reduceLE,Int.reduceAdd,Int.reduceSub,Int.reduceMul,Nat.reduceLT,Int.reduceToNat]; first | done | rfl) (ch (o2.fr (by simp -implicitDefEqProofs (maxSteps:=2000000) only [homL,hne,hne',wk,act,asV,↓reduceIte,Nat.reduceEqDiff,reduceCtorEq,Nat.reduceAdd,Nat.reduceLeDiff,Nat.reduceSub,Nat.reduceMul,List.reduceReplicate,Int.reduceEq,Int.reduceLT,Int.reduceLE,Int.reduceAdd,Int.reduceSub,Int.reduceMul,Nat.reduceLT,Int.reduceToNat]) (by simp -implicitDefEqProofs (maxSteps:=2000000) only [homL,wk,act,asV,↓reduceIte,Nat.reduceEqDiff,reduceCtorEq,Nat.reduceAdd,Nat.reduceLeDiff,Nat.reduceSub,Nat.reduceMul,List.reduceReplicate,Int.reduceEq,Int.reduceLT,Int.reduceLE,Int.reduceAdd,Int.reduceSub,Int.reduceMul,Nat.reduceLT,Int.reduceToNat]))) ?_
      rintro _ h3 ⟨rfl,fr3⟩
      have q4 : h3 3004 = ⟨v4 + 1,true,true,false,itC x⟩:=(fr3 3004 (by decide)).trans (by simp -implicitDefEqProofs (maxSteps:=2000000) only [homL,g4,wk,act,asV,↓reduceIte,Nat.reduceEqDiff,reduceCtorEq,Nat.reduceAdd,Nat.reduceLeDiff,Nat.reduceSub,Nat.reduceMul,List.reduceReplicate,Int.reduceEq,Int.reduceLT,Int.reduceLE,Int.reduceAdd,Int.reduceSub,Int.reduceMul,Nat.reduceLT,Int.reduceToNat])
      have q21 : h3 3021 = ⟨v3 + 1 + 1,true,true,true,il (L ++ [x.id])⟩:=(fr3 3021 (by decide)).trans (by simp -implicitDefEqProofs (maxSteps:=2000000) only [homL,g21,wk,act,asV,↓reduceIte,Nat.reduceEqDiff,reduceCtorEq,Nat.reduceAdd,Nat.reduceLeDiff,Nat.reduceSub,Nat.reduceMul,List.reduceReplicate,Int.reduceEq,Int.reduceLT,Int.reduceLE,Int.reduceAdd,Int.reduceSub,Int.reduceMul,Nat.reduceLT,Int.reduceToNat])
      simp -implicitDefEqProofs (maxSteps:=2000000) only [homL,k0,k4,q4,lj,tj,sy,lx,xj,← hY,wk,act,asV,↓reduceIte,Nat.reduceEqDiff,reduceCtorEq,Nat.reduceAdd,Nat.reduceLeDiff,Nat.reduceSub,Nat.reduceMul,List.reduceReplicate,Int.reduceEq,Int.reduceLT,Int.reduceLE,Int.reduceAdd,Int.reduceSub,Int.reduceMul,Nat.reduceLT,Int.reduceToNat]
      exact ⟨xs.length - (i + 1),by omega,i + 1,_,by omega,rfl,rfl,(by first | rfl | rw [hY]),rfl,o2.fr (by simp -implicitDefEqProofs (maxSteps:=2000000) only [homL,hne,hne',fr3 h (by omega),wk,act,asV,↓reduceIte,Nat.reduceEqDiff,reduceCtorEq,Nat.reduceAdd,Nat.reduceLeDiff,Nat.reduceSub,Nat.reduceMul,List.reduceReplicate,Int.reduceEq,Int.reduceLT,Int.reduceLE,Int.reduceAdd,Int.reduceSub,Int.reduceMul,Nat.reduceLT,Int.reduceToNat]) (by simp -implicitDefEqProofs (maxSteps:=2000000) only [homL,fr3 1024 (by decide),wk,act,asV,↓reduceIte,Nat.reduceEqDiff,reduceCtorEq,Nat.reduceAdd,Nat.reduceLeDiff,Nat.reduceSub,Nat.reduceMul,List.reduceReplicate,Int.reduceEq,Int.reduceLT,Int.reduceLE,Int.reduceAdd,Int.reduceSub,Int.reduceMul,Nat.reduceLT,Int.reduceToNat]),.inr ⟨by rw [et]; simp,_,by rw [et,List.length_append,lL]; rfl,by simp -implicitDefEqProofs (maxSteps:=2000000) only [homL,q21,et,wk,act,asV,↓reduceIte,Nat.reduceEqDiff,reduceCtorEq,Nat.reduceAdd,Nat.reduceLeDiff,Nat.reduceSub,Nat.reduceMul,List.reduceReplicate,Int.reduceEq,Int.reduceLT,Int.reduceLE,Int.reduceAdd,Int.reduceSub,Int.reduceMul,Nat.reduceLT,Int.reduceToNat]⟩,fun y y1 y2 => by
        have y3 : ∀ k,2000 ≤ k → k < 4000 → (y = k) = False:=fun k _ _ => by simp; omega
        simp -implicitDefEqProofs (maxSteps:=2000000) only [homL,y3,fr3 y (by omega),fr2 y y1,kf y y1 y2,wk,act,asV,↓reduceIte,Nat.reduceEqDiff,reduceCtorEq,Nat.reduceAdd,Nat.reduceLeDiff,Nat.reduceSub,Nat.reduceMul,List.reduceReplicate,Int.reduceEq,Int.reduceLT,Int.reduceLE,Int.reduceAdd,Int.reduceSub,Int.reduceMul,Nat.reduceLT,Int.reduceToNat]⟩
  · obtain rfl : i = xs.length:=by omega
    have hnil : xs.drop xs.length = []:=List.drop_of_length_le (Nat.le_refl _)
    rw [hnil] at kh4 k5 ko
    rw [List.take_length] at k3
    simp only [List.isEmpty_nil,Bool.not_true] at k5
    have kU : (s.t 3).isU = false:=by rcases k3 with ⟨_,e⟩ | ⟨_,v3,e,_⟩ <;> rw [e] <;> rfl
    have kN : (s.t 3).nlit = true:=by rcases k3 with ⟨_,e⟩ | ⟨_,v3,e,_⟩ <;> rw [e] <;> rfl
    simp -implicitDefEqProofs (maxSteps:=2000000) only [homL,k0,k4,k5,kU,wk,act,asV,↓reduceIte,Nat.reduceEqDiff,reduceCtorEq,Nat.reduceAdd,Nat.reduceLeDiff,Nat.reduceSub,Nat.reduceMul,List.reduceReplicate,Int.reduceEq,Int.reduceLT,Int.reduceLE,Int.reduceAdd,Int.reduceSub,Int.reduceMul,Nat.reduceLT,Int.reduceToNat]
    refine PostI.mk (by simp -implicitDefEqProofs (maxSteps:=2000000) only [homL,St.raws,St.raw,kU,kN,wk,act,asV,↓reduceIte,Nat.reduceEqDiff,reduceCtorEq,Nat.reduceAdd,Nat.reduceLeDiff,Nat.reduceSub,Nat.reduceMul,List.reduceReplicate,Int.reduceEq,Int.reduceLT,Int.reduceLE,Int.reduceAdd,Int.reduceSub,Int.reduceMul,Nat.reduceLT,Int.reduceToNat]; first | done | (with_reducible rfl)) ⟨⟨_,rfl,k3⟩,ko,kf⟩
end Go.Proofs.YtilbipknodpmmaaDoor
/- Volumes: rows of one's own, volumes held against volumes. -/
set_option linter.unusedVariables false
set_option linter.unusedSimpArgs false
set_option maxRecDepth 100000
set_option maxHeartbeats 4000000
namespace Go.Proofs.YtilbipknodpmmaaDoor
open Go.RowKit


theorem vl_nil : vl [] = []:=rfl
theorem vl_pur (vs : List Vol) : IV.purL (vl vs) = true:=by
  induction vs with
  | nil => rfl
  | cons v vs ih =>
    have : vl (v :: vs) = .str v.name :: .sl .plain v.blocks.length (il v.blocks) :: vl vs:=rfl
    rw [this]
    simp [IV.purL,IV.pur,il_pur,ih]
theorem take_vl (vs : List Vol) : (vl vs).take (vs.length * 2) = vl vs:=List.take_of_length_le (by rw [vl_length]; exact Nat.le_refl _)
theorem vl_snoc (vs : List Vol) (v : Vol) : vl vs ++ [.str v.name,.sl .plain v.blocks.length (il v.blocks)] = vl (vs ++ [v]):=by simp [vl]

def ownV (vs : List Vol) : IV:=if vs = [] then .sl .full 0 [] else .own vs.length 2 (vl vs)

theorem roomy8 {n : Nat} (h : n < 2 ^ 40) : roomy n 8 = true:=by simp [roomy]; omega
theorem roomy40 {n : Nat} (h : n < 2 ^ 38) : roomy n 40 = true:=by simp [roomy]; omega

end Go.Proofs.YtilbipknodpmmaaDoor
/- Of the table: which volume has a name. -/
set_option linter.unusedVariables false
set_option linter.unusedSimpArgs false
set_option maxRecDepth 100000
set_option maxHeartbeats 4000000
namespace Go.Proofs.YtilbipknodpmmaaDoor
open Go.RowKit

def isV (nm : List UInt8) (v : Vol) : Bool:=decide (v.name = nm)
def findV (nm : List UInt8) (vs : List Vol) : Int:=if vs.findIdx (isV nm) < vs.length then (vs.findIdx (isV nm) : Nat) else -1
theorem findV_at {nm : List UInt8} {vs : List Vol} {i : Nat} (h : i < vs.length) (hi : isV nm vs[i] = true) (hn : ∀ j,j < i → ∀ (hj : j < vs.length),isV nm vs[j] = false) : findV nm vs = (i : Nat):=by
  have : vs.findIdx (isV nm) = i:=by
    rw [List.findIdx_eq h]
    exact ⟨hi,fun j hj => hn j hj (by omega)⟩
  unfold findV
  rw [this,if_pos h]
theorem findV_no {nm : List UInt8} {vs : List Vol} (h : ∀ v ∈ vs,isV nm v = false) : findV nm vs = -1:=by
  have : vs.findIdx (isV nm) = vs.length:=List.findIdx_eq_length.2 h
  unfold findV
  rw [this,if_neg (Nat.lt_irrefl _)]
def noneTo (nm : List UInt8) (vs : List Vol) (i : Nat) : Prop:=∀ j,j < i → ∀ (hj : j < vs.length),isV nm vs[j] = false
theorem noneTo_succ {nm : List UInt8} {vs : List Vol} {i : Nat} (h : noneTo nm vs i) (hi : i < vs.length) (hn : isV nm vs[i] = false) : noneTo nm vs (i + 1):=by
  intro j hj hjl
  rcases Nat.lt_succ_iff_lt_or_eq.1 hj with h' | rfl
  · exact h j h' hjl
  · exact hn
theorem noneTo_all {nm : List UInt8} {vs : List Vol} (h : noneTo nm vs vs.length) : findV nm vs = -1:=by
  refine findV_no fun v hv => ?_
  obtain ⟨i,hi,rfl⟩:=List.mem_iff_getElem.1 hv
  exact h i hi hi

theorem find1_ok (nm n : List UInt8) (k : Nat) (bs : List Int) : RC Tryd.prog 58 [.agg [.str n,.sl .plain k (il bs)],.addr [.str nm]] [.bool (decide (n = nm))]:=by
  refine RC.of_wp c58 rfl ?_
  simp -implicitDefEqProofs (maxSteps:=2000000) only [m58_1,m58_r,m58_b,m58,wk,act,asV,↓reduceIte,Nat.reduceEqDiff,reduceCtorEq,Nat.reduceAdd,Nat.reduceLeDiff,Nat.reduceSub,Nat.reduceMul,List.reduceReplicate,Int.reduceEq,Int.reduceLT,Int.reduceLE,Int.reduceAdd,Int.reduceSub,Int.reduceMul,Nat.reduceLT,Int.reduceToNat]

theorem indexV_ok (f : Fl) (hf : f ≠ .lit) (nm : List UInt8) (vs : List Vol) (hl : vs.length < 2 ^ 63) : RC Tryd.prog 57 [.sl f vs.length (vl vs),.clo 58 [.addr [.str nm]]] [.int .i64 (findV nm vs)]:=by
  refine RC.of_wp c57 rfl ?_
  simp -implicitDefEqProofs (maxSteps:=2000000) only [m57_1,m57_2,m57_3,m57_4,m57_5,m57_6,m57_7,m57_8,m57_r,m57_b,m57,wk,act,asV,↓reduceIte,Nat.reduceEqDiff,reduceCtorEq,Nat.reduceAdd,Nat.reduceLeDiff,Nat.reduceSub,Nat.reduceMul,List.reduceReplicate,Int.reduceEq,Int.reduceLT,Int.reduceLE,Int.reduceAdd,Int.reduceSub,Int.reduceMul,Nat.reduceLT,Int.reduceToNat]
  refine Wp_loop (fun k s => ∃ i,i ≤ vs.length ∧ k = vs.length - i ∧ s.t 0 = .sl f vs.length (vl vs) ∧ s.t 1 = .clo 58 [.addr [.str nm]] ∧ s.t 7 = .int .i64 vs.length ∧ s.t 8 = .int .i64 (i : Nat) ∧ noneTo nm vs i) vs.length ⟨0,by omega,rfl,rfl,rfl,rfl,rfl,fun j h => absurd h (Nat.not_lt_zero j)⟩ ?_
  rintro k s ⟨i,hi,rfl,h0,h1,h7,h8,hn⟩
  by_cases hil : i < vs.length
  · have hil' : (i : Int) < vs.length:=by omega
    have h2 : (0 : Nat) < 2:=by omega
    simp -implicitDefEqProofs (maxSteps:=2000000) only [h0,h1,h7,h8,hil',hil,h2,drop_vl hil,vl_length,wk,act,asV,↓reduceIte,Nat.reduceEqDiff,reduceCtorEq,Nat.reduceAdd,Nat.reduceLeDiff,Nat.reduceSub,Nat.reduceMul,List.reduceReplicate,Int.reduceEq,Int.reduceLT,Int.reduceLE,Int.reduceAdd,Int.reduceSub,Int.reduceMul,Nat.reduceLT,Int.reduceToNat]
    refine CalliL.of (by simp -implicitDefEqProofs (maxSteps:=2000000) only [h1,St.callee,St.snapPL,St.snapP,wk,act,asV,↓reduceIte,Nat.reduceEqDiff,reduceCtorEq,Nat.reduceAdd,Nat.reduceLeDiff,Nat.reduceSub,Nat.reduceMul,List.reduceReplicate,Int.reduceEq,Int.reduceLT,Int.reduceLE,Int.reduceAdd,Int.reduceSub,Int.reduceMul,Nat.reduceLT,Int.reduceToNat]; first | done | (with_reducible rfl)) (by simp -implicitDefEqProofs (maxSteps:=2000000) only [wk,act,asV,↓reduceIte,Nat.reduceEqDiff,reduceCtorEq,Nat.reduceAdd,Nat.reduceLeDiff,Nat.reduceSub,Nat.reduceMul,List.reduceReplicate,Int.reduceEq,Int.reduceLT,Int.reduceLE,Int.reduceAdd,Int.reduceSub,Int.reduceMul,Nat.reduceLT,Int.reduceToNat]; first | done | (with_reducible rfl)) (find1_ok nm vs[i].name vs[i].blocks.length vs[i].blocks) (by simp -implicitDefEqProofs (maxSteps:=2000000) only [wk,act,asV,↓reduceIte,Nat.reduceEqDiff,reduceCtorEq,Nat.reduceAdd,Nat.reduceLeDiff,Nat.reduceSub,Nat.reduceMul,List.reduceReplicate,Int.reduceEq,Int.reduceLT,Int.reduceLE,Int.reduceAdd,Int.reduceSub,Int.reduceMul,Nat.reduceLT,Int.reduceToNat]) ?_
    by_cases hb : vs[i].name = nm
    · rw [findV_at hil (by simp [isV,hb]) hn]
      simp -implicitDefEqProofs (maxSteps:=2000000) only [hb,h0,h1,h7,h8,wk,act,asV,↓reduceIte,Nat.reduceEqDiff,reduceCtorEq,Nat.reduceAdd,Nat.reduceLeDiff,Nat.reduceSub,Nat.reduceMul,List.reduceReplicate,Int.reduceEq,Int.reduceLT,Int.reduceLE,Int.reduceAdd,Int.reduceSub,Int.reduceMul,Nat.reduceLT,Int.reduceToNat]
    · have hn':=noneTo_succ hn hil (by simp [isV,hb])
      simp -implicitDefEqProofs (maxSteps:=2000000) only [hb,h0,h1,h7,h8,wrap_nat (show i < 2 ^ 63 - 1 by omega),wk,act,asV,↓reduceIte,Nat.reduceEqDiff,reduceCtorEq,Nat.reduceAdd,Nat.reduceLeDiff,Nat.reduceSub,Nat.reduceMul,List.reduceReplicate,Int.reduceEq,Int.reduceLT,Int.reduceLE,Int.reduceAdd,Int.reduceSub,Int.reduceMul,Nat.reduceLT,Int.reduceToNat]
      exact ⟨vs.length - (i + 1),by omega,i + 1,by omega,rfl,rfl,hn'⟩
  · have hil' : ¬ (i : Int) < vs.length:=by omega
    have hie : i = vs.length:=by omega
    rw [hie] at hn
    rw [noneTo_all hn]
    simp -implicitDefEqProofs (maxSteps:=2000000) only [h0,h1,h7,h8,hil',wk,act,asV,↓reduceIte,Nat.reduceEqDiff,reduceCtorEq,Nat.reduceAdd,Nat.reduceLeDiff,Nat.reduceSub,Nat.reduceMul,List.reduceReplicate,Int.reduceEq,Int.reduceLT,Int.reduceLE,Int.reduceAdd,Int.reduceSub,Int.reduceMul,Nat.reduceLT,Int.reduceToNat]

theorem find_ok (f : Fl) (hf : f ≠ .lit) (nm : List UInt8) (vs : List Vol) (hl : vs.length < 2 ^ 63) : RC Tryd.prog 44 [.str nm,.sl f vs.length (vl vs)] [.int .i64 (findV nm vs)]:=by
  refine RC.of_wp c44 rfl ?_
  have c:=indexV_ok f hf nm vs hl
  cases f with
  | lit => exact absurd rfl hf
  | _ => repeat' (first | simp -implicitDefEqProofs (maxSteps:=2000000) only [m44_1,m44_r,m44_b,m44,St.snapPL,St.snapP,List.mapM_cons,List.mapM_nil,Option.bind_eq_bind,Option.bind_some,Option.pure_def,wk,act,asV,↓reduceIte,Nat.reduceEqDiff,reduceCtorEq,Nat.reduceAdd,Nat.reduceLeDiff,Nat.reduceSub,Nat.reduceMul,List.reduceReplicate,Int.reduceEq,Int.reduceLT,Int.reduceLE,Int.reduceAdd,Int.reduceSub,Int.reduceMul,Nat.reduceLT,Int.reduceToNat] | ((first | ((with_reducible refine CallL.gate ?_); apply CallL.of) | ((with_reducible refine CallP.gate ?_); apply CallP.of)); (case h1 => (simp -implicitDefEqProofs (maxSteps:=2000000) only [m44_1,m44_r,m44_b,m44,St.snapPL,St.snapP,List.mapM_cons,List.mapM_nil,Option.bind_eq_bind,Option.bind_some,Option.pure_def,wk,act,asV,↓reduceIte,Nat.reduceEqDiff,reduceCtorEq,Nat.reduceAdd,Nat.reduceLeDiff,Nat.reduceSub,Nat.reduceMul,List.reduceReplicate,Int.reduceEq,Int.reduceLT,Int.reduceLE,Int.reduceAdd,Int.reduceSub,Int.reduceMul,Nat.reduceLT,Int.reduceToNat]; first | done | (with_reducible rfl))); (case h2 => (first | exact c)); (case h3 => simp -implicitDefEqProofs (maxSteps:=2000000) only [m44_1,m44_r,m44_b,m44,St.snapPL,St.snapP,List.mapM_cons,List.mapM_nil,Option.bind_eq_bind,Option.bind_some,Option.pure_def,wk,act,asV,↓reduceIte,Nat.reduceEqDiff,reduceCtorEq,Nat.reduceAdd,Nat.reduceLeDiff,Nat.reduceSub,Nat.reduceMul,List.reduceReplicate,Int.reduceEq,Int.reduceLT,Int.reduceLE,Int.reduceAdd,Int.reduceSub,Int.reduceMul,Nat.reduceLT,Int.reduceToNat])))

theorem rfind_ok (f : Fl) (nm : List UInt8) (vs : List Vol) (hl : vs.length < 2 ^ 63) : RC Tryd.prog 45 [.str nm,.sl f vs.length (vl vs)] [.int .i64 (findV nm vs)]:=by
  refine RC.of_wp c45 rfl ?_
  simp -implicitDefEqProofs (maxSteps:=2000000) only [m45_1,m45_2,m45_3,m45_4,m45_5,m45_6,m45_r,m45_b,m45,wk,act,asV,↓reduceIte,Nat.reduceEqDiff,reduceCtorEq,Nat.reduceAdd,Nat.reduceLeDiff,Nat.reduceSub,Nat.reduceMul,List.reduceReplicate,Int.reduceEq,Int.reduceLT,Int.reduceLE,Int.reduceAdd,Int.reduceSub,Int.reduceMul,Nat.reduceLT,Int.reduceToNat]
  refine Wp_loop (fun k s => ∃ i,i ≤ vs.length ∧ k = vs.length - i ∧ s.t 0 = .str nm ∧ s.t 1 = .sl f vs.length (vl vs) ∧ s.t 5 = .int .i64 (i : Nat) ∧ noneTo nm vs i) vs.length ⟨0,by omega,rfl,rfl,rfl,rfl,fun j h => absurd h (Nat.not_lt_zero j)⟩ ?_
  rintro k s ⟨i,hi,rfl,h0,h1,h5,hn⟩
  by_cases hil : i < vs.length
  · have hil' : (i : Int) < vs.length:=by omega
    have h2 : (0 : Nat) < 2:=by omega
    by_cases hb : vs[i].name = nm
    · rw [findV_at hil (by simp [isV,hb]) hn]
      simp -implicitDefEqProofs (maxSteps:=2000000) only [hb,h0,h1,h5,hil',hil,h2,drop_vl hil,vl_length,wk,act,asV,↓reduceIte,Nat.reduceEqDiff,reduceCtorEq,Nat.reduceAdd,Nat.reduceLeDiff,Nat.reduceSub,Nat.reduceMul,List.reduceReplicate,Int.reduceEq,Int.reduceLT,Int.reduceLE,Int.reduceAdd,Int.reduceSub,Int.reduceMul,Nat.reduceLT,Int.reduceToNat]
    · have hn':=noneTo_succ hn hil (by simp [isV,hb])
      simp -implicitDefEqProofs (maxSteps:=2000000) only [hb,h0,h1,h5,hil',hil,h2,drop_vl hil,vl_length,wrap_nat (show i < 2 ^ 63 - 1 by omega),wk,act,asV,↓reduceIte,Nat.reduceEqDiff,reduceCtorEq,Nat.reduceAdd,Nat.reduceLeDiff,Nat.reduceSub,Nat.reduceMul,List.reduceReplicate,Int.reduceEq,Int.reduceLT,Int.reduceLE,Int.reduceAdd,Int.reduceSub,Int.reduceMul,Nat.reduceLT,Int.reduceToNat]
      exact ⟨vs.length - (i + 1),by omega,i + 1,by omega,rfl,rfl,hn'⟩
  · have hil' : ¬ (i : Int) < vs.length:=by omega
    have hie : i = vs.length:=by omega
    rw [hie] at hn
    rw [noneTo_all hn]
    simp -implicitDefEqProofs (maxSteps:=2000000) only [h0,h1,h5,hil',wk,act,asV,↓reduceIte,Nat.reduceEqDiff,reduceCtorEq,Nat.reduceAdd,Nat.reduceLeDiff,Nat.reduceSub,Nat.reduceMul,List.reduceReplicate,Int.reduceEq,Int.reduceLT,Int.reduceLE,Int.reduceAdd,Int.reduceSub,Int.reduceMul,Nat.reduceLT,Int.reduceToNat]
end Go.Proofs.YtilbipknodpmmaaDoor
