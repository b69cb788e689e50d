/- Of the queue: items, and what the methods do in place. -/
import Derived.Test.YtilbipknodpmmaaDoorV0
import Derived.Test.YtilbipknodpmmaaDoorE31
import Derived.Test.YtilbipknodpmmaaDoorM21
set_option linter.unusedVariables false
set_option linter.unusedSimpArgs false
set_option linter.unusedSectionVars false
set_option maxRecDepth 100000
set_option maxHeartbeats 8000000
namespace Go.Proofs.YtilbipknodpmmaaDoor
open Go.RowKit

structure It where
  id : Int
  kind : Int
  name : List UInt8
  n : Int
  data : List UInt8
structure It.Ok (x : It) : Prop where
  d : x.data.length = 32
  nm : x.name.length < 2 ^ 63
def itC (x : It) : List IV:=.int .i64 x.id :: .int .i64 x.kind :: .str x.name :: .int .i64 x.n :: bl x.data
def itL (xs : List It) : List IV:=xs.flatMap itC
theorem itC_length {x : It} (h : x.Ok) : (itC x).length = 36:=by simp [itC,bl_length,h.d]
theorem itL_length {xs : List It} (h : ∀ x ∈ xs,x.Ok) : (itL xs).length = xs.length * 36:=by
  induction xs with
  | nil => rfl
  | cons x xs ih =>
    have h1:=itC_length (h x (by simp))
    have h2:=ih fun y hy => h y (by simp [hy])
    simp only [itL,List.flatMap_cons,List.length_append,List.length_cons] at h2 ⊢
    omega
theorem itL_drop : ∀ {xs : List It} (h : ∀ x ∈ xs,x.Ok) {i : Nat} (hi : i < xs.length),(itL xs).drop (i * 36) = itC xs[i] ++ (itL xs).drop ((i + 1) * 36)
  | x :: xs,h,0,hi => by
    have hx:=itC_length (h x (by simp))
    show itL (x :: xs) = itC x ++ _
    simp only [itL,List.flatMap_cons]
    rw [show (0 + 1) * 36 = (itC x).length by omega,List.drop_left]
  | x :: xs,h,i + 1,hi => by
    have hx:=itC_length (h x (by simp))
    have:=itL_drop (xs:=xs) (fun y hy => h y (by simp [hy])) (i:=i) (by simpa using hi)
    simp only [List.getElem_cons_succ,itL,List.flatMap_cons] at this ⊢
    rw [show (i + 1) * 36 = (itC x).length + i * 36 by omega,show (i + 1 + 1) * 36 = (itC x).length + (i + 1) * 36 by omega,← List.drop_drop,← List.drop_drop,List.drop_left]
    exact this
theorem itC_scal (x : It) : (itC x).all IV.scal = true:=by simp [itC,IV.scal,bl_scal]
theorem itC_pur (x : It) : IV.purL (itC x) = true:=by simp only [itC,IV.purL,IV.pur,Bool.true_and]; exact bl_pur _
theorem itL_append (a b : List It) : itL (a ++ b) = itL a ++ itL b:=by simp [itL]
theorem itL_take (xs : List It) (h : ∀ x ∈ xs,x.Ok) : List.take (xs.length * 36) (itL xs) = itL xs:=List.take_of_length_le (by rw [itL_length h]; exact Nat.le_refl _)
def it0 : It:=⟨0,0,[],0,List.replicate 32 0⟩
theorem it0_ok : it0.Ok:=⟨rfl,by decide⟩
theorem it0_cells : itC it0 = [.int .i64 0,.int .i64 0,.str [],.int .i64 0,.int .u8 0,.int .u8 0,.int .u8 0,.int .u8 0,.int .u8 0,.int .u8 0,.int .u8 0,.int .u8 0,.int .u8 0,.int .u8 0,.int .u8 0,.int .u8 0,.int .u8 0,.int .u8 0,.int .u8 0,.int .u8 0,.int .u8 0,.int .u8 0,.int .u8 0,.int .u8 0,.int .u8 0,.int .u8 0,.int .u8 0,.int .u8 0,.int .u8 0,.int .u8 0,.int .u8 0,.int .u8 0,.int .u8 0,.int .u8 0,.int .u8 0,.int .u8 0]:=rfl

def HeldQ (x : Nat) (H : Nat → Blk) (v : IV) (xs : List It) : Prop :=
  (xs = [] ∧ v = .sl .full 0 []) ∨ ∃ off ver cs,v = .row x off xs.length 36 ver ∧ H x = ⟨ver,true,true,true,cs⟩ ∧ cs.drop off = itL xs ∧ off + xs.length * 36 = cs.length
def ObjQ (h hv x : Nat) (H : Nat → Blk) (xs : List It) : Prop:=∃ v,H h = ⟨hv,true,true,false,[v]⟩ ∧ HeldQ x H v xs
theorem ObjQ.fr {h hv x : Nat} {H H' : Nat → Blk} {xs : List It} (ho : ObjQ h hv x H xs) (h1 : H' h = H h) (h2 : H' x = H x) : ObjQ h hv x H' xs:=by
  obtain ⟨v,e1,e2⟩:=ho
  refine ⟨v,h1.trans e1,?_⟩
  rcases e2 with ⟨a,b⟩ | ⟨off,ver,cs,a,b,c,d⟩
  · exact .inl ⟨a,b⟩
  · exact .inr ⟨off,ver,cs,a,h2.trans b,c,d⟩
@[reducible] def offQ : Off:=⟨1000⟩
@[reducible] def offH : Off:=⟨2000⟩
@[reducible] def offL : Off:=⟨3000⟩
theorem homQ {d : Nat} : @hom offQ d = 1000 + d:=rfl
theorem homH {d : Nat} : @hom offH d = 2000 + d:=rfl
theorem homL {d : Nat} : @hom offL d = 3000 + d:=rfl

theorem qlen_ok {h hv : Nat} {H : Nat → Blk} {xs : List It} (ho : ObjQ h hv 1024 H xs) : IC Tryd.prog 40 H [.ptr h 0 hv] (fun r h' => r = [.int .i64 xs.length] ∧ h' = H):=by
  refine @IC.of_wp offQ Tryd.prog 40 m40 m40 c40 H [.ptr h 0 hv] _ rfl ?_
  obtain ⟨v,hH,hheld⟩:=ho
  rcases hheld with ⟨rfl,rfl⟩ | ⟨off,ver,cs,rfl,hx',hcs,hoff⟩
  · simp -implicitDefEqProofs (maxSteps:=2000000) only [m40_1,m40_2,m40_3,m40_r,m40_b,m40,homQ,hH,wk,act,asV,↓reduceIte,Nat.reduceEqDiff,reduceCtorEq,Nat.reduceAdd,Nat.reduceLeDiff,Nat.reduceSub,Nat.reduceMul,List.reduceReplicate,Int.reduceEq,Int.reduceLT,Int.reduceLE,Int.reduceAdd,Int.reduceSub,Int.reduceMul,Nat.reduceLT,Int.reduceToNat]
    refine PostI.mk (by simp -implicitDefEqProofs (maxSteps:=2000000) only [wk,act,asV,↓reduceIte,Nat.reduceEqDiff,reduceCtorEq,Nat.reduceAdd,Nat.reduceLeDiff,Nat.reduceSub,Nat.reduceMul,List.reduceReplicate,Int.reduceEq,Int.reduceLT,Int.reduceLE,Int.reduceAdd,Int.reduceSub,Int.reduceMul,Nat.reduceLT,Int.reduceToNat]; first | done | (with_reducible rfl)) ⟨by rfl,by simp -implicitDefEqProofs (maxSteps:=2000000) only [wk,act,asV,↓reduceIte,Nat.reduceEqDiff,reduceCtorEq,Nat.reduceAdd,Nat.reduceLeDiff,Nat.reduceSub,Nat.reduceMul,List.reduceReplicate,Int.reduceEq,Int.reduceLT,Int.reduceLE,Int.reduceAdd,Int.reduceSub,Int.reduceMul,Nat.reduceLT,Int.reduceToNat]⟩
  · simp -implicitDefEqProofs (maxSteps:=2000000) only [m40_1,m40_2,m40_3,m40_r,m40_b,m40,homQ,hH,hx',wk,act,asV,↓reduceIte,Nat.reduceEqDiff,reduceCtorEq,Nat.reduceAdd,Nat.reduceLeDiff,Nat.reduceSub,Nat.reduceMul,List.reduceReplicate,Int.reduceEq,Int.reduceLT,Int.reduceLE,Int.reduceAdd,Int.reduceSub,Int.reduceMul,Nat.reduceLT,Int.reduceToNat]
    refine PostI.mk (by simp -implicitDefEqProofs (maxSteps:=2000000) only [wk,act,asV,↓reduceIte,Nat.reduceEqDiff,reduceCtorEq,Nat.reduceAdd,Nat.reduceLeDiff,Nat.reduceSub,Nat.reduceMul,List.reduceReplicate,Int.reduceEq,Int.reduceLT,Int.reduceLE,Int.reduceAdd,Int.reduceSub,Int.reduceMul,Nat.reduceLT,Int.reduceToNat]; first | done | (with_reducible rfl)) ⟨by rfl,by simp -implicitDefEqProofs (maxSteps:=2000000) only [wk,act,asV,↓reduceIte,Nat.reduceEqDiff,reduceCtorEq,Nat.reduceAdd,Nat.reduceLeDiff,Nat.reduceSub,Nat.reduceMul,List.reduceReplicate,Int.reduceEq,Int.reduceLT,Int.reduceLE,Int.reduceAdd,Int.reduceSub,Int.reduceMul,Nat.reduceLT,Int.reduceToNat]⟩
def qE (xs ys : List It) : Int:=if 4 < xs.length + ys.length then 19 else 0
def qL (xs ys : List It) : List It:=if 4 < xs.length + ys.length then xs else xs ++ ys
theorem roomy72 {n : Nat} (h : n ≤ 2 ^ 30) : roomy n 72 = true:=by simp [roomy]; omega
def ArgQ (H : Nat → Blk) (v : IV) (ys : List It) : Prop :=
  (∃ f,v = .sl f ys.length (itL ys)) ∨ ∃ y vy rw',y < 1000 ∧ v = .row y 0 ys.length 36 vy ∧ H y = ⟨vy,true,rw',true,itL ys⟩
theorem qadd_ok {h hv : Nat} {H : Nat → Blk} {xs ys : List It} {w : IV} (hh : h < 1000) (hx : ∀ x ∈ xs,x.Ok) (h4 : xs.length ≤ 4) (hy : ∀ x ∈ ys,x.Ok) (hn : ys.length < 2 ^ 20) (hw : ArgQ H w ys) (ho : ObjQ h hv 1024 H xs) :
    IC Tryd.prog 32 H [.ptr h 0 hv,w] (fun r h' => r = [.int .i64 (qE xs ys)] ∧ ObjQ h hv 1024 h' (qL xs ys) ∧ ∀ y,y ≠ h → y ≠ 1024 → h' y = H y):=by
  refine @IC.of_wp offQ Tryd.prog 32 m32 m32 c32 H [.ptr h 0 hv,w] _ rfl ?_
  have hr : ObjQ h hv 1024 H xs:=ho
  obtain ⟨v,hH,hheld⟩:=ho
  have n3 : ¬ (h = 1024):=by omega
  have n4 : ¬ (1024 = h):=by omega
  have lx:=itL_length hx
  have ly:=itL_length hy
  have ty:=itL_take ys hy
  have hsub : IntKind.i64.wrap (4 - (xs.length : Int)) = ((4 - xs.length : Nat) : Int):=by rw [IntKind.wrap_i64]; omega
  rcases hw with ⟨f,rfl⟩ | ⟨y,vy,rw',hy1,rfl,hyb⟩
  · by_cases hlt : 4 < xs.length + ys.length
    · have e1 : qE xs ys = 19:=if_pos hlt
      have e2 : qL xs ys = xs:=if_pos hlt
      have hlt' : ((4 - xs.length : Nat) : Int) < ys.length:=by omega
      rw [e1,e2]
      rcases hheld with ⟨rfl,rfl⟩ | ⟨off,ver,cs,rfl,hx',hcs,hoff⟩
      · have hlt3 : (4 : Int) < ys.length:=hlt'
        have hsub2 : IntKind.i64.wrap 4 = 4:=by decide
        simp -implicitDefEqProofs (maxSteps:=2000000) only [m32_1,m32_2,m32_3,m32_4,m32_5,m32_r,m32_b,m32,homQ,hH,hlt3,hsub2,wk,act,asV,↓reduceIte,Nat.reduceEqDiff,reduceCtorEq,Nat.reduceAdd,Nat.reduceLeDiff,Nat.reduceSub,Nat.reduceMul,List.reduceReplicate,Int.reduceEq,Int.reduceLT,Int.reduceLE,Int.reduceAdd,Int.reduceSub,Int.reduceMul,Nat.reduceLT,Int.reduceToNat]
        exact PostI.mk (by simp -implicitDefEqProofs (maxSteps:=2000000) only [wk,act,asV,↓reduceIte,Nat.reduceEqDiff,reduceCtorEq,Nat.reduceAdd,Nat.reduceLeDiff,Nat.reduceSub,Nat.reduceMul,List.reduceReplicate,Int.reduceEq,Int.reduceLT,Int.reduceLE,Int.reduceAdd,Int.reduceSub,Int.reduceMul,Nat.reduceLT,Int.reduceToNat]; first | done | (with_reducible rfl)) ⟨by rfl,hr,fun y y1 y2 => by simp -implicitDefEqProofs (maxSteps:=2000000) only [wk,act,asV,↓reduceIte,Nat.reduceEqDiff,reduceCtorEq,Nat.reduceAdd,Nat.reduceLeDiff,Nat.reduceSub,Nat.reduceMul,List.reduceReplicate,Int.reduceEq,Int.reduceLT,Int.reduceLE,Int.reduceAdd,Int.reduceSub,Int.reduceMul,Nat.reduceLT,Int.reduceToNat]⟩
      · simp -implicitDefEqProofs (maxSteps:=2000000) only [m32_1,m32_2,m32_3,m32_4,m32_5,m32_r,m32_b,m32,homQ,hH,hx',n3,n4,hlt',hsub,wk,act,asV,↓reduceIte,Nat.reduceEqDiff,reduceCtorEq,Nat.reduceAdd,Nat.reduceLeDiff,Nat.reduceSub,Nat.reduceMul,List.reduceReplicate,Int.reduceEq,Int.reduceLT,Int.reduceLE,Int.reduceAdd,Int.reduceSub,Int.reduceMul,Nat.reduceLT,Int.reduceToNat]
        exact PostI.mk (by simp -implicitDefEqProofs (maxSteps:=2000000) only [wk,act,asV,↓reduceIte,Nat.reduceEqDiff,reduceCtorEq,Nat.reduceAdd,Nat.reduceLeDiff,Nat.reduceSub,Nat.reduceMul,List.reduceReplicate,Int.reduceEq,Int.reduceLT,Int.reduceLE,Int.reduceAdd,Int.reduceSub,Int.reduceMul,Nat.reduceLT,Int.reduceToNat]; first | done | (with_reducible rfl)) ⟨by rfl,hr,fun y y1 y2 => by simp -implicitDefEqProofs (maxSteps:=2000000) only [wk,act,asV,↓reduceIte,Nat.reduceEqDiff,reduceCtorEq,Nat.reduceAdd,Nat.reduceLeDiff,Nat.reduceSub,Nat.reduceMul,List.reduceReplicate,Int.reduceEq,Int.reduceLT,Int.reduceLE,Int.reduceAdd,Int.reduceSub,Int.reduceMul,Nat.reduceLT,Int.reduceToNat]⟩
    · have e1 : qE xs ys = 0:=if_neg hlt
      have e2 : qL xs ys = xs ++ ys:=if_neg hlt
      have hlt' : ¬ ((4 - xs.length : Nat) : Int) < ys.length:=by omega
      have hroom : roomy (xs.length + ys.length) 72 = true:=roomy72 (by omega)
      rw [e1,e2]
      rcases hheld with ⟨rfl,rfl⟩ | ⟨off,ver,cs,rfl,hx',hcs,hoff⟩
      · have hlt3 : ¬ (4 : Int) < ys.length:=by simpa using hlt'
        have hsub2 : IntKind.i64.wrap 4 = 4:=by decide
        have hroom2 : roomy ys.length 72 = true:=by simpa using hroom
        simp -implicitDefEqProofs (maxSteps:=2000000) only [m32_1,m32_2,m32_3,m32_4,m32_5,m32_r,m32_b,m32,homQ,hH,n3,n4,hlt3,hsub2,hroom2,lx,ly,ty,wk,act,asV,↓reduceIte,Nat.reduceEqDiff,reduceCtorEq,Nat.reduceAdd,Nat.reduceLeDiff,Nat.reduceSub,Nat.reduceMul,List.reduceReplicate,Int.reduceEq,Int.reduceLT,Int.reduceLE,Int.reduceAdd,Int.reduceSub,Int.reduceMul,Nat.reduceLT,Int.reduceToNat]
        exact PostI.mk (by simp -implicitDefEqProofs (maxSteps:=2000000) only [wk,act,asV,↓reduceIte,Nat.reduceEqDiff,reduceCtorEq,Nat.reduceAdd,Nat.reduceLeDiff,Nat.reduceSub,Nat.reduceMul,List.reduceReplicate,Int.reduceEq,Int.reduceLT,Int.reduceLE,Int.reduceAdd,Int.reduceSub,Int.reduceMul,Nat.reduceLT,Int.reduceToNat]; first | done | (with_reducible rfl)) ⟨by rfl,⟨_,by simp -implicitDefEqProofs (maxSteps:=2000000) only [wk,act,asV,↓reduceIte,Nat.reduceEqDiff,reduceCtorEq,Nat.reduceAdd,Nat.reduceLeDiff,Nat.reduceSub,Nat.reduceMul,List.reduceReplicate,Int.reduceEq,Int.reduceLT,Int.reduceLE,Int.reduceAdd,Int.reduceSub,Int.reduceMul,Nat.reduceLT,Int.reduceToNat]; first | done | rfl,.inr ⟨0,_,itL ([] ++ ys),by rfl,by simp -implicitDefEqProofs (maxSteps:=2000000) only [n3,n4,wk,act,asV,↓reduceIte,Nat.reduceEqDiff,reduceCtorEq,Nat.reduceAdd,Nat.reduceLeDiff,Nat.reduceSub,Nat.reduceMul,List.reduceReplicate,Int.reduceEq,Int.reduceLT,Int.reduceLE,Int.reduceAdd,Int.reduceSub,Int.reduceMul,Nat.reduceLT,Int.reduceToNat]; first | done | rfl,rfl,by rw [List.nil_append,ly]; omega⟩⟩,fun y y1 y2 => by simp -implicitDefEqProofs (maxSteps:=2000000) only [y1,y2,wk,act,asV,↓reduceIte,Nat.reduceEqDiff,reduceCtorEq,Nat.reduceAdd,Nat.reduceLeDiff,Nat.reduceSub,Nat.reduceMul,List.reduceReplicate,Int.reduceEq,Int.reduceLT,Int.reduceLE,Int.reduceAdd,Int.reduceSub,Int.reduceMul,Nat.reduceLT,Int.reduceToNat]⟩
      · have hcc : List.drop off cs ++ itL ys = itL (xs ++ ys):=by rw [hcs,itL_append]
        simp -implicitDefEqProofs (maxSteps:=2000000) only [m32_1,m32_2,m32_3,m32_4,m32_5,m32_r,m32_b,m32,homQ,hH,hx',n3,n4,hlt',hsub,hroom,hoff,hcc,lx,ly,ty,wk,act,asV,↓reduceIte,Nat.reduceEqDiff,reduceCtorEq,Nat.reduceAdd,Nat.reduceLeDiff,Nat.reduceSub,Nat.reduceMul,List.reduceReplicate,Int.reduceEq,Int.reduceLT,Int.reduceLE,Int.reduceAdd,Int.reduceSub,Int.reduceMul,Nat.reduceLT,Int.reduceToNat]
        exact PostI.mk (by simp -implicitDefEqProofs (maxSteps:=2000000) only [wk,act,asV,↓reduceIte,Nat.reduceEqDiff,reduceCtorEq,Nat.reduceAdd,Nat.reduceLeDiff,Nat.reduceSub,Nat.reduceMul,List.reduceReplicate,Int.reduceEq,Int.reduceLT,Int.reduceLE,Int.reduceAdd,Int.reduceSub,Int.reduceMul,Nat.reduceLT,Int.reduceToNat]; first | done | (with_reducible rfl)) ⟨by rfl,⟨_,by simp -implicitDefEqProofs (maxSteps:=2000000) only [wk,act,asV,↓reduceIte,Nat.reduceEqDiff,reduceCtorEq,Nat.reduceAdd,Nat.reduceLeDiff,Nat.reduceSub,Nat.reduceMul,List.reduceReplicate,Int.reduceEq,Int.reduceLT,Int.reduceLE,Int.reduceAdd,Int.reduceSub,Int.reduceMul,Nat.reduceLT,Int.reduceToNat]; first | done | rfl,.inr ⟨0,_,itL (xs ++ ys),by rw [List.length_append],by simp -implicitDefEqProofs (maxSteps:=2000000) only [n3,n4,wk,act,asV,↓reduceIte,Nat.reduceEqDiff,reduceCtorEq,Nat.reduceAdd,Nat.reduceLeDiff,Nat.reduceSub,Nat.reduceMul,List.reduceReplicate,Int.reduceEq,Int.reduceLT,Int.reduceLE,Int.reduceAdd,Int.reduceSub,Int.reduceMul,Nat.reduceLT,Int.reduceToNat]; first | done | rfl,rfl,by rw [itL_append,List.length_append,List.length_append,lx,ly]; omega⟩⟩,fun y y1 y2 => by simp -implicitDefEqProofs (maxSteps:=2000000) only [y1,y2,wk,act,asV,↓reduceIte,Nat.reduceEqDiff,reduceCtorEq,Nat.reduceAdd,Nat.reduceLeDiff,Nat.reduceSub,Nat.reduceMul,List.reduceReplicate,Int.reduceEq,Int.reduceLT,Int.reduceLE,Int.reduceAdd,Int.reduceSub,Int.reduceMul,Nat.reduceLT,Int.reduceToNat]⟩
  · have n5 : ¬ (y = 1024):=by omega
    have n6 : ¬ (1024 = y):=by omega
    by_cases hlt : 4 < xs.length + ys.length
    · have e1 : qE xs ys = 19:=if_pos hlt
      have e2 : qL xs ys = xs:=if_pos hlt
      have hlt' : ((4 - xs.length : Nat) : Int) < ys.length:=by omega
      rw [e1,e2]
      rcases hheld with ⟨rfl,rfl⟩ | ⟨off,ver,cs,rfl,hx',hcs,hoff⟩
      · have hlt3 : (4 : Int) < ys.length:=hlt'
        have hsub2 : IntKind.i64.wrap 4 = 4:=by decide
        simp -implicitDefEqProofs (maxSteps:=2000000) only [m32_1,m32_2,m32_3,m32_4,m32_5,m32_r,m32_b,m32,homQ,hH,hyb,hlt3,hsub2,wk,act,asV,↓reduceIte,Nat.reduceEqDiff,reduceCtorEq,Nat.reduceAdd,Nat.reduceLeDiff,Nat.reduceSub,Nat.reduceMul,List.reduceReplicate,Int.reduceEq,Int.reduceLT,Int.reduceLE,Int.reduceAdd,Int.reduceSub,Int.reduceMul,Nat.reduceLT,Int.reduceToNat]
        exact PostI.mk (by simp -implicitDefEqProofs (maxSteps:=2000000) only [wk,act,asV,↓reduceIte,Nat.reduceEqDiff,reduceCtorEq,Nat.reduceAdd,Nat.reduceLeDiff,Nat.reduceSub,Nat.reduceMul,List.reduceReplicate,Int.reduceEq,Int.reduceLT,Int.reduceLE,Int.reduceAdd,Int.reduceSub,Int.reduceMul,Nat.reduceLT,Int.reduceToNat]; first | done | (with_reducible rfl)) ⟨by rfl,hr,fun y y1 y2 => by simp -implicitDefEqProofs (maxSteps:=2000000) only [wk,act,asV,↓reduceIte,Nat.reduceEqDiff,reduceCtorEq,Nat.reduceAdd,Nat.reduceLeDiff,Nat.reduceSub,Nat.reduceMul,List.reduceReplicate,Int.reduceEq,Int.reduceLT,Int.reduceLE,Int.reduceAdd,Int.reduceSub,Int.reduceMul,Nat.reduceLT,Int.reduceToNat]⟩
      · simp -implicitDefEqProofs (maxSteps:=2000000) only [m32_1,m32_2,m32_3,m32_4,m32_5,m32_r,m32_b,m32,homQ,hH,hx',hyb,n3,n4,n5,n6,hlt',hsub,wk,act,asV,↓reduceIte,Nat.reduceEqDiff,reduceCtorEq,Nat.reduceAdd,Nat.reduceLeDiff,Nat.reduceSub,Nat.reduceMul,List.reduceReplicate,Int.reduceEq,Int.reduceLT,Int.reduceLE,Int.reduceAdd,Int.reduceSub,Int.reduceMul,Nat.reduceLT,Int.reduceToNat]
        exact PostI.mk (by simp -implicitDefEqProofs (maxSteps:=2000000) only [wk,act,asV,↓reduceIte,Nat.reduceEqDiff,reduceCtorEq,Nat.reduceAdd,Nat.reduceLeDiff,Nat.reduceSub,Nat.reduceMul,List.reduceReplicate,Int.reduceEq,Int.reduceLT,Int.reduceLE,Int.reduceAdd,Int.reduceSub,Int.reduceMul,Nat.reduceLT,Int.reduceToNat]; first | done | (with_reducible rfl)) ⟨by rfl,hr,fun y y1 y2 => by simp -implicitDefEqProofs (maxSteps:=2000000) only [wk,act,asV,↓reduceIte,Nat.reduceEqDiff,reduceCtorEq,Nat.reduceAdd,Nat.reduceLeDiff,Nat.reduceSub,Nat.reduceMul,List.reduceReplicate,Int.reduceEq,Int.reduceLT,Int.reduceLE,Int.reduceAdd,Int.reduceSub,Int.reduceMul,Nat.reduceLT,Int.reduceToNat]⟩
    · have e1 : qE xs ys = 0:=if_neg hlt
      have e2 : qL xs ys = xs ++ ys:=if_neg hlt
      have hlt' : ¬ ((4 - xs.length : Nat) : Int) < ys.length:=by omega
      have hroom : roomy (xs.length + ys.length) 72 = true:=roomy72 (by omega)
      rw [e1,e2]
      rcases hheld with ⟨rfl,rfl⟩ | ⟨off,ver,cs,rfl,hx',hcs,hoff⟩
      · have hlt3 : ¬ (4 : Int) < ys.length:=by simpa using hlt'
        have hsub2 : IntKind.i64.wrap 4 = 4:=by decide
        have hroom2 : roomy ys.length 72 = true:=by simpa using hroom
        simp -implicitDefEqProofs (maxSteps:=2000000) only [m32_1,m32_2,m32_3,m32_4,m32_5,m32_r,m32_b,m32,homQ,hH,hyb,n3,n4,n5,n6,hlt3,hsub2,hroom2,lx,ly,ty,wk,act,asV,↓reduceIte,Nat.reduceEqDiff,reduceCtorEq,Nat.reduceAdd,Nat.reduceLeDiff,Nat.reduceSub,Nat.reduceMul,List.reduceReplicate,Int.reduceEq,Int.reduceLT,Int.reduceLE,Int.reduceAdd,Int.reduceSub,Int.reduceMul,Nat.reduceLT,Int.reduceToNat]
        exact PostI.mk (by simp -implicitDefEqProofs (maxSteps:=2000000) only [wk,act,asV,↓reduceIte,Nat.reduceEqDiff,reduceCtorEq,Nat.reduceAdd,Nat.reduceLeDiff,Nat.reduceSub,Nat.reduceMul,List.reduceReplicate,Int.reduceEq,Int.reduceLT,Int.reduceLE,Int.reduceAdd,Int.reduceSub,Int.reduceMul,Nat.reduceLT,Int.reduceToNat]; first | done | (with_reducible rfl)) ⟨by rfl,⟨_,by simp -implicitDefEqProofs (maxSteps:=2000000) only [wk,act,asV,↓reduceIte,Nat.reduceEqDiff,reduceCtorEq,Nat.reduceAdd,Nat.reduceLeDiff,Nat.reduceSub,Nat.reduceMul,List.reduceReplicate,Int.reduceEq,Int.reduceLT,Int.reduceLE,Int.reduceAdd,Int.reduceSub,Int.reduceMul,Nat.reduceLT,Int.reduceToNat]; first | done | rfl,.inr ⟨0,_,itL ([] ++ ys),by rfl,by simp -implicitDefEqProofs (maxSteps:=2000000) only [n3,n4,n5,n6,wk,act,asV,↓reduceIte,Nat.reduceEqDiff,reduceCtorEq,Nat.reduceAdd,Nat.reduceLeDiff,Nat.reduceSub,Nat.reduceMul,List.reduceReplicate,Int.reduceEq,Int.reduceLT,Int.reduceLE,Int.reduceAdd,Int.reduceSub,Int.reduceMul,Nat.reduceLT,Int.reduceToNat]; first | done | rfl,rfl,by rw [List.nil_append,ly]; omega⟩⟩,fun y y1 y2 => by simp -implicitDefEqProofs (maxSteps:=2000000) only [y1,y2,wk,act,asV,↓reduceIte,Nat.reduceEqDiff,reduceCtorEq,Nat.reduceAdd,Nat.reduceLeDiff,Nat.reduceSub,Nat.reduceMul,List.reduceReplicate,Int.reduceEq,Int.reduceLT,Int.reduceLE,Int.reduceAdd,Int.reduceSub,Int.reduceMul,Nat.reduceLT,Int.reduceToNat]⟩
      · have hcc : List.drop off cs ++ itL ys = itL (xs ++ ys):=by rw [hcs,itL_append]
        simp -implicitDefEqProofs (maxSteps:=2000000) only [m32_1,m32_2,m32_3,m32_4,m32_5,m32_r,m32_b,m32,homQ,hH,hx',hyb,n3,n4,n5,n6,hlt',hsub,hroom,hoff,hcc,lx,ly,ty,wk,act,asV,↓reduceIte,Nat.reduceEqDiff,reduceCtorEq,Nat.reduceAdd,Nat.reduceLeDiff,Nat.reduceSub,Nat.reduceMul,List.reduceReplicate,Int.reduceEq,Int.reduceLT,Int.reduceLE,Int.reduceAdd,Int.reduceSub,Int.reduceMul,Nat.reduceLT,Int.reduceToNat]
        exact PostI.mk (by simp -implicitDefEqProofs (maxSteps:=2000000) only [wk,act,asV,↓reduceIte,Nat.reduceEqDiff,reduceCtorEq,Nat.reduceAdd,Nat.reduceLeDiff,Nat.reduceSub,Nat.reduceMul,List.reduceReplicate,Int.reduceEq,Int.reduceLT,Int.reduceLE,Int.reduceAdd,Int.reduceSub,Int.reduceMul,Nat.reduceLT,Int.reduceToNat]; first | done | (with_reducible rfl)) ⟨by rfl,⟨_,by simp -implicitDefEqProofs (maxSteps:=2000000) only [wk,act,asV,↓reduceIte,Nat.reduceEqDiff,reduceCtorEq,Nat.reduceAdd,Nat.reduceLeDiff,Nat.reduceSub,Nat.reduceMul,List.reduceReplicate,Int.reduceEq,Int.reduceLT,Int.reduceLE,Int.reduceAdd,Int.reduceSub,Int.reduceMul,Nat.reduceLT,Int.reduceToNat]; first | done | rfl,.inr ⟨0,_,itL (xs ++ ys),by rw [List.length_append],by simp -implicitDefEqProofs (maxSteps:=2000000) only [n3,n4,n5,n6,wk,act,asV,↓reduceIte,Nat.reduceEqDiff,reduceCtorEq,Nat.reduceAdd,Nat.reduceLeDiff,Nat.reduceSub,Nat.reduceMul,List.reduceReplicate,Int.reduceEq,Int.reduceLT,Int.reduceLE,Int.reduceAdd,Int.reduceSub,Int.reduceMul,Nat.reduceLT,Int.reduceToNat]; first | done | rfl,rfl,by rw [itL_append,List.length_append,List.length_append,lx,ly]; omega⟩⟩,fun y y1 y2 => by simp -implicitDefEqProofs (maxSteps:=2000000) only [y1,y2,wk,act,asV,↓reduceIte,Nat.reduceEqDiff,reduceCtorEq,Nat.reduceAdd,Nat.reduceLeDiff,Nat.reduceSub,Nat.reduceMul,List.reduceReplicate,Int.reduceEq,Int.reduceLT,Int.reduceLE,Int.reduceAdd,Int.reduceSub,Int.reduceMul,Nat.reduceLT,Int.reduceToNat]⟩

theorem qpop_ok {h hv : Nat} {H : Nat → Blk} {xs : List It} (hh : h < 1000) (hx : ∀ x ∈ xs,x.Ok) (ho : ObjQ h hv 1024 H xs) :
    IC Tryd.prog 34 H [.ptr h 0 hv] (fun r h' => r = [.bool (!xs.isEmpty)] ∧ ObjQ h hv 1024 h' xs.tail ∧ ∀ y,y ≠ h → h' y = H y):=by
  refine @IC.of_wp offQ Tryd.prog 34 m34 m34 c34 H [.ptr h 0 hv] _ rfl ?_
  have hr : ObjQ h hv 1024 H xs:=ho
  obtain ⟨v,hH,hheld⟩:=ho
  have n3 : ¬ (h = 1024):=by omega
  have n4 : ¬ (1024 = h):=by omega
  cases xs with
  | nil =>
    simp -implicitDefEqProofs (maxSteps:=2000000) only [m34_1,m34_2,m34_3,m34_r,m34_b,m34,homQ,wk,act,asV,↓reduceIte,Nat.reduceEqDiff,reduceCtorEq,Nat.reduceAdd,Nat.reduceLeDiff,Nat.reduceSub,Nat.reduceMul,List.reduceReplicate,Int.reduceEq,Int.reduceLT,Int.reduceLE,Int.reduceAdd,Int.reduceSub,Int.reduceMul,Nat.reduceLT,Int.reduceToNat]
    refine CallnL.of (by simp -implicitDefEqProofs (maxSteps:=2000000) only [wk,act,asV,↓reduceIte,Nat.reduceEqDiff,reduceCtorEq,Nat.reduceAdd,Nat.reduceLeDiff,Nat.reduceSub,Nat.reduceMul,List.reduceReplicate,Int.reduceEq,Int.reduceLT,Int.reduceLE,Int.reduceAdd,Int.reduceSub,Int.reduceMul,Nat.reduceLT,Int.reduceToNat]; first | done | rfl) (qlen_ok hr) ?_
    rintro _ _ ⟨rfl,rfl⟩
    simp -implicitDefEqProofs (maxSteps:=2000000) only [List.length_nil,Int.natCast_zero,wk,act,asV,↓reduceIte,Nat.reduceEqDiff,reduceCtorEq,Nat.reduceAdd,Nat.reduceLeDiff,Nat.reduceSub,Nat.reduceMul,List.reduceReplicate,Int.reduceEq,Int.reduceLT,Int.reduceLE,Int.reduceAdd,Int.reduceSub,Int.reduceMul,Nat.reduceLT,Int.reduceToNat]
    exact PostI.mk (by simp -implicitDefEqProofs (maxSteps:=2000000) only [wk,act,asV,↓reduceIte,Nat.reduceEqDiff,reduceCtorEq,Nat.reduceAdd,Nat.reduceLeDiff,Nat.reduceSub,Nat.reduceMul,List.reduceReplicate,Int.reduceEq,Int.reduceLT,Int.reduceLE,Int.reduceAdd,Int.reduceSub,Int.reduceMul,Nat.reduceLT,Int.reduceToNat]; first | done | (with_reducible rfl)) ⟨by rfl,hr,fun y y1 => by simp -implicitDefEqProofs (maxSteps:=2000000) only [wk,act,asV,↓reduceIte,Nat.reduceEqDiff,reduceCtorEq,Nat.reduceAdd,Nat.reduceLeDiff,Nat.reduceSub,Nat.reduceMul,List.reduceReplicate,Int.reduceEq,Int.reduceLT,Int.reduceLE,Int.reduceAdd,Int.reduceSub,Int.reduceMul,Nat.reduceLT,Int.reduceToNat]⟩
  | cons a t =>
    rcases hheld with ⟨hn,_⟩ | ⟨off,ver,cs,rfl,hx',hcs,hoff⟩
    · cases hn
    have p1 : ¬ ((t.length + 1 : Nat) : Int) = 0:=by omega
    have p3 : 1 ≤ t.length + 1:=by omega
    have ha:=itC_length (hx a (by simp))
    have hcs2 : List.drop (off + 36) cs = itL t:=by
      rw [← List.drop_drop,hcs]
      simp only [itL,List.flatMap_cons]
      rw [← ha,List.drop_left]
    have hof2 : off + 36 + t.length * 36 = cs.length:=by rw [← hoff]; simp; omega
    simp -implicitDefEqProofs (maxSteps:=2000000) only [m34_1,m34_2,m34_3,m34_r,m34_b,m34,homQ,wk,act,asV,↓reduceIte,Nat.reduceEqDiff,reduceCtorEq,Nat.reduceAdd,Nat.reduceLeDiff,Nat.reduceSub,Nat.reduceMul,List.reduceReplicate,Int.reduceEq,Int.reduceLT,Int.reduceLE,Int.reduceAdd,Int.reduceSub,Int.reduceMul,Nat.reduceLT,Int.reduceToNat]
    refine CallnL.of (by simp -implicitDefEqProofs (maxSteps:=2000000) only [wk,act,asV,↓reduceIte,Nat.reduceEqDiff,reduceCtorEq,Nat.reduceAdd,Nat.reduceLeDiff,Nat.reduceSub,Nat.reduceMul,List.reduceReplicate,Int.reduceEq,Int.reduceLT,Int.reduceLE,Int.reduceAdd,Int.reduceSub,Int.reduceMul,Nat.reduceLT,Int.reduceToNat]; first | done | rfl) (qlen_ok hr) ?_
    rintro _ _ ⟨rfl,rfl⟩
    simp -implicitDefEqProofs (maxSteps:=2000000) only [hH,hx',n3,n4,p1,p3,List.length_cons,Nat.add_sub_cancel,wk,act,asV,↓reduceIte,Nat.reduceEqDiff,reduceCtorEq,Nat.reduceAdd,Nat.reduceLeDiff,Nat.reduceSub,Nat.reduceMul,List.reduceReplicate,Int.reduceEq,Int.reduceLT,Int.reduceLE,Int.reduceAdd,Int.reduceSub,Int.reduceMul,Nat.reduceLT,Int.reduceToNat]
    exact PostI.mk (by simp -implicitDefEqProofs (maxSteps:=2000000) only [wk,act,asV,↓reduceIte,Nat.reduceEqDiff,reduceCtorEq,Nat.reduceAdd,Nat.reduceLeDiff,Nat.reduceSub,Nat.reduceMul,List.reduceReplicate,Int.reduceEq,Int.reduceLT,Int.reduceLE,Int.reduceAdd,Int.reduceSub,Int.reduceMul,Nat.reduceLT,Int.reduceToNat]; first | done | (with_reducible rfl)) ⟨by rfl,⟨_,by simp -implicitDefEqProofs (maxSteps:=2000000) only [wk,act,asV,↓reduceIte,Nat.reduceEqDiff,reduceCtorEq,Nat.reduceAdd,Nat.reduceLeDiff,Nat.reduceSub,Nat.reduceMul,List.reduceReplicate,Int.reduceEq,Int.reduceLT,Int.reduceLE,Int.reduceAdd,Int.reduceSub,Int.reduceMul,Nat.reduceLT,Int.reduceToNat]; first | done | rfl,.inr ⟨off + 36,ver,cs,by rfl,by simp -implicitDefEqProofs (maxSteps:=2000000) only [hx',n3,n4,wk,act,asV,↓reduceIte,Nat.reduceEqDiff,reduceCtorEq,Nat.reduceAdd,Nat.reduceLeDiff,Nat.reduceSub,Nat.reduceMul,List.reduceReplicate,Int.reduceEq,Int.reduceLT,Int.reduceLE,Int.reduceAdd,Int.reduceSub,Int.reduceMul,Nat.reduceLT,Int.reduceToNat],hcs2,hof2⟩⟩,fun y y1 => by simp -implicitDefEqProofs (maxSteps:=2000000) only [y1,wk,act,asV,↓reduceIte,Nat.reduceEqDiff,reduceCtorEq,Nat.reduceAdd,Nat.reduceLeDiff,Nat.reduceSub,Nat.reduceMul,List.reduceReplicate,Int.reduceEq,Int.reduceLT,Int.reduceLE,Int.reduceAdd,Int.reduceSub,Int.reduceMul,Nat.reduceLT,Int.reduceToNat]⟩
theorem qhead_ok {h hv : Nat} {H : Nat → Blk} {xs : List It} (hh : h < 1000) (hx : ∀ x ∈ xs,x.Ok) (ho : ObjQ h hv 1024 H xs) :
    IC Tryd.prog 39 H [.ptr h 0 hv] (fun r h' => r = [.agg (itC (xs.headD it0)),.bool (!xs.isEmpty)] ∧ ∀ y,y ≠ 2002 → h' y = H y):=by
  refine @IC.of_wp offH Tryd.prog 39 m39 m39 c39 H [.ptr h 0 hv] _ rfl ?_
  have hr : ObjQ h hv 1024 H xs:=ho
  obtain ⟨v,hH,hheld⟩:=ho
  have n1 : ¬ (h = 2002):=by omega
  have n2 : ¬ (2002 = h):=by omega
  cases xs with
  | nil =>
    have c0:=it0_cells
    simp -implicitDefEqProofs (maxSteps:=2000000) only [m39_1,m39_2,m39_3,m39_4,m39_r,m39_b,m39,homH,wk,act,asV,↓reduceIte,Nat.reduceEqDiff,reduceCtorEq,Nat.reduceAdd,Nat.reduceLeDiff,Nat.reduceSub,Nat.reduceMul,List.reduceReplicate,Int.reduceEq,Int.reduceLT,Int.reduceLE,Int.reduceAdd,Int.reduceSub,Int.reduceMul,Nat.reduceLT,Int.reduceToNat]
    refine CallnL.of (by simp -implicitDefEqProofs (maxSteps:=2000000) only [wk,act,asV,↓reduceIte,Nat.reduceEqDiff,reduceCtorEq,Nat.reduceAdd,Nat.reduceLeDiff,Nat.reduceSub,Nat.reduceMul,List.reduceReplicate,Int.reduceEq,Int.reduceLT,Int.reduceLE,Int.reduceAdd,Int.reduceSub,Int.reduceMul,Nat.reduceLT,Int.reduceToNat]; first | done | rfl) (qlen_ok (hr.fr (by simp -implicitDefEqProofs (maxSteps:=2000000) only [n1,n2,wk,act,asV,↓reduceIte,Nat.reduceEqDiff,reduceCtorEq,Nat.reduceAdd,Nat.reduceLeDiff,Nat.reduceSub,Nat.reduceMul,List.reduceReplicate,Int.reduceEq,Int.reduceLT,Int.reduceLE,Int.reduceAdd,Int.reduceSub,Int.reduceMul,Nat.reduceLT,Int.reduceToNat]) (by simp -implicitDefEqProofs (maxSteps:=2000000) only [wk,act,asV,↓reduceIte,Nat.reduceEqDiff,reduceCtorEq,Nat.reduceAdd,Nat.reduceLeDiff,Nat.reduceSub,Nat.reduceMul,List.reduceReplicate,Int.reduceEq,Int.reduceLT,Int.reduceLE,Int.reduceAdd,Int.reduceSub,Int.reduceMul,Nat.reduceLT,Int.reduceToNat]))) ?_
    rintro _ _ ⟨rfl,rfl⟩
    simp -implicitDefEqProofs (maxSteps:=2000000) only [List.length_nil,Int.natCast_zero,placed,wk,act,asV,↓reduceIte,Nat.reduceEqDiff,reduceCtorEq,Nat.reduceAdd,Nat.reduceLeDiff,Nat.reduceSub,Nat.reduceMul,List.reduceReplicate,Int.reduceEq,Int.reduceLT,Int.reduceLE,Int.reduceAdd,Int.reduceSub,Int.reduceMul,Nat.reduceLT,Int.reduceToNat]
    exact PostI.mk (by simp -implicitDefEqProofs (maxSteps:=2000000) only [wk,act,asV,↓reduceIte,Nat.reduceEqDiff,reduceCtorEq,Nat.reduceAdd,Nat.reduceLeDiff,Nat.reduceSub,Nat.reduceMul,List.reduceReplicate,Int.reduceEq,Int.reduceLT,Int.reduceLE,Int.reduceAdd,Int.reduceSub,Int.reduceMul,Nat.reduceLT,Int.reduceToNat]; first | done | (with_reducible rfl)) ⟨by rw [List.headD_nil,c0],fun y y1 => by simp -implicitDefEqProofs (maxSteps:=2000000) only [y1,wk,act,asV,↓reduceIte,Nat.reduceEqDiff,reduceCtorEq,Nat.reduceAdd,Nat.reduceLeDiff,Nat.reduceSub,Nat.reduceMul,List.reduceReplicate,Int.reduceEq,Int.reduceLT,Int.reduceLE,Int.reduceAdd,Int.reduceSub,Int.reduceMul,Nat.reduceLT,Int.reduceToNat]⟩
  | cons a t =>
    rcases hheld with ⟨hn,_⟩ | ⟨off,ver,cs,rfl,hx',hcs,hoff⟩
    · cases hn
    have p1 : ¬ ((t.length + 1 : Nat) : Int) = 0:=by omega
    have p2 : (0 : Int) < ((t.length + 1 : Nat) : Int):=by omega
    have ha:=itC_length (hx a (by simp))
    have t1 : List.take 36 (List.drop off cs) = itC a:=by
      rw [hcs]
      simp only [itL,List.flatMap_cons]
      rw [← ha,List.take_left]
    have b1 : off + 36 ≤ cs.length:=by rw [← hoff]; simp; omega
    have ta : List.take 36 (itC a) = itC a:=List.take_of_length_le (by omega)
    have c0 : List.drop 36 (itC it0) = []:=rfl
    have sa:=itC_scal a
    simp -implicitDefEqProofs (maxSteps:=2000000) only [m39_1,m39_2,m39_3,m39_4,m39_r,m39_b,m39,homH,wk,act,asV,↓reduceIte,Nat.reduceEqDiff,reduceCtorEq,Nat.reduceAdd,Nat.reduceLeDiff,Nat.reduceSub,Nat.reduceMul,List.reduceReplicate,Int.reduceEq,Int.reduceLT,Int.reduceLE,Int.reduceAdd,Int.reduceSub,Int.reduceMul,Nat.reduceLT,Int.reduceToNat]
    refine CallnL.of (by simp -implicitDefEqProofs (maxSteps:=2000000) only [wk,act,asV,↓reduceIte,Nat.reduceEqDiff,reduceCtorEq,Nat.reduceAdd,Nat.reduceLeDiff,Nat.reduceSub,Nat.reduceMul,List.reduceReplicate,Int.reduceEq,Int.reduceLT,Int.reduceLE,Int.reduceAdd,Int.reduceSub,Int.reduceMul,Nat.reduceLT,Int.reduceToNat]; first | done | rfl) (qlen_ok (hr.fr (by simp -implicitDefEqProofs (maxSteps:=2000000) only [n1,n2,wk,act,asV,↓reduceIte,Nat.reduceEqDiff,reduceCtorEq,Nat.reduceAdd,Nat.reduceLeDiff,Nat.reduceSub,Nat.reduceMul,List.reduceReplicate,Int.reduceEq,Int.reduceLT,Int.reduceLE,Int.reduceAdd,Int.reduceSub,Int.reduceMul,Nat.reduceLT,Int.reduceToNat]) (by simp -implicitDefEqProofs (maxSteps:=2000000) only [wk,act,asV,↓reduceIte,Nat.reduceEqDiff,reduceCtorEq,Nat.reduceAdd,Nat.reduceLeDiff,Nat.reduceSub,Nat.reduceMul,List.reduceReplicate,Int.reduceEq,Int.reduceLT,Int.reduceLE,Int.reduceAdd,Int.reduceSub,Int.reduceMul,Nat.reduceLT,Int.reduceToNat]))) ?_
    rintro _ _ ⟨rfl,rfl⟩
    simp -implicitDefEqProofs (maxSteps:=2000000) only [hH,hx',n1,n2,p1,p2,t1,b1,ta,ha,List.length_cons,Int.toNat_zero,wk,act,asV,↓reduceIte,Nat.reduceEqDiff,reduceCtorEq,Nat.reduceAdd,Nat.reduceLeDiff,Nat.reduceSub,Nat.reduceMul,List.reduceReplicate,Int.reduceEq,Int.reduceLT,Int.reduceLE,Int.reduceAdd,Int.reduceSub,Int.reduceMul,Nat.reduceLT,Int.reduceToNat]
    exact PostI.mk (by simp -implicitDefEqProofs (maxSteps:=2000000) only [ha,ta,wk,act,asV,↓reduceIte,Nat.reduceEqDiff,reduceCtorEq,Nat.reduceAdd,Nat.reduceLeDiff,Nat.reduceSub,Nat.reduceMul,List.reduceReplicate,Int.reduceEq,Int.reduceLT,Int.reduceLE,Int.reduceAdd,Int.reduceSub,Int.reduceMul,Nat.reduceLT,Int.reduceToNat]; first | done | (with_reducible rfl)) ⟨by rw [List.headD_cons],fun y y1 => by simp -implicitDefEqProofs (maxSteps:=2000000) only [y1,wk,act,asV,↓reduceIte,Nat.reduceEqDiff,reduceCtorEq,Nat.reduceAdd,Nat.reduceLeDiff,Nat.reduceSub,Nat.reduceMul,List.reduceReplicate,Int.reduceEq,Int.reduceLT,Int.reduceLE,Int.reduceAdd,Int.reduceSub,Int.reduceMul,Nat.reduceLT,Int.reduceToNat]⟩
end Go.Proofs.YtilbipknodpmmaaDoor
