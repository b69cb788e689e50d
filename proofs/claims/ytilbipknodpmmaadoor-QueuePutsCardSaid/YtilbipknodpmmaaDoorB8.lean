/- Of the table: the volumes' block, by the reference. -/
import Derived.Test.YtilbipknodpmmaaDoorE31
import Derived.Test.YtilbipknodpmmaaDoorM6
import Derived.Test.YtilbipknodpmmaaDoorB7
set_option linter.unusedVariables false
set_option linter.unusedSimpArgs false
set_option maxRecDepth 100000
set_option maxHeartbeats 8000000
namespace Go.Proofs.YtilbipknodpmmaaDoor
open Go.RowKit

theorem encR_step (vs : List Vol) (hv : VsOk vs) (gp : GoodP vs) (h3 : vs.length ≤ 3) (f : Fl) (hf : f ≠ .lit) {i : Nat} {s : St} {v2 : Nat} (hlt : i < vs.length)
    (g0 : s.t 0 = .sl f vs.length (vl vs)) (g5 : s.t 5 = .int .i64 i) (g2 : s.t 2 = .ptr 2 0 v2) (gh2 : s.h 2 = ⟨v2,true,true,false,bl (zs 32)⟩) (gr : (i = 0 ∧ s.t 4 = .sl .lit 1 [.int .u8 ((u8 vs.length).toNat : Int)]) ∨ (0 < i ∧ rowAt s 66 66 (u8 vs.length :: entsV (vs.take i))))
    {Q : Ex → St → Prop} :
    Wp (RCs Tryd.prog) m52_14 (fun e s' => match e with | .normal => ∃ k',k' < vs.length - i ∧ ∃ i,i ≤ vs.length ∧ k' = vs.length - i ∧ s'.t 0 = .sl f vs.length (vl vs) ∧ s'.t 5 = .int .i64 i ∧ (∃ v2,s'.t 2 = .ptr 2 0 v2 ∧ s'.h 2 = ⟨v2,true,true,false,bl (zs 32)⟩) ∧ ((i = 0 ∧ s'.t 4 = .sl .lit 1 [.int .u8 ((u8 vs.length).toNat : Int)]) ∨ (0 < i ∧ rowAt s' 66 66 (u8 vs.length :: entsV (vs.take i)))) | e => Q e s') s:=by
  have hlt' : (i : Int) < vs.length:=by omega
  have h2 : (0 : Nat) < 2:=by omega
  have hvi:=gp.at hlt
  obtain ⟨hnm,hb1,hb4,hin⟩:=volP_bl hvi
  have cp:=rpad_ok vs[i].name (hv.nm _ (List.getElem_mem hlt))
  obtain ⟨P,hP⟩ : ∃ P,P = u8 vs.length :: entsV (vs.take i):=⟨_,rfl⟩
  have hPl : P.length = 1 + 9 * i:=by rw [hP]; simp [entsV_length]; omega
  have hPn : u8 vs.length :: entsV (vs.take (i + 1)) = P ++ entV vs[i]:=by rw [entsV_take hlt,hP]; rfl
  have hP0 : i = 0 → P = [u8 vs.length]:=by rintro rfl; rw [hP]; rfl
  rw [← hP] at gr
  have hwl : IntKind.u8.wrap ((vs[i].blocks.length : Nat) : Int) = ((u8 vs[i].blocks.length).toNat : Int):=wrap_u8 _
  have r4 : roomy (P.length + 4) 1 = true:=roomyB (by omega)
  have r5 : roomy (P.length + 4 + 1) 1 = true:=roomyB (by omega)
  have r5' : roomy (P.length + 5) 1 = true:=roomyB (by omega)
  have l4 : (P ++ pad4 vs[i].name).length = P.length + 4:=by rw [List.length_append,pad4_length]
  have l5 : (P ++ pad4 vs[i].name ++ [u8 vs[i].blocks.length]).length = P.length + 4 + 1:=by simp [pad4_length]
  have b5 : bl (P ++ pad4 vs[i].name ++ [u8 vs[i].blocks.length]) = bl P ++ bl (pad4 vs[i].name) ++ [.int .u8 ((u8 vs[i].blocks.length).toNat : Int)]:=by rw [bl_append,bl_append]; rfl
  rcases gr with ⟨hi0,g4⟩ | ⟨hi0,hh,ver,hhh,g4,gh⟩
  · have hP1:=hP0 hi0
    have l1 : P.length = 1:=by rw [hP1]; rfl
    have b1 : bl P = [.int .u8 ((u8 vs.length).toNat : Int)]:=by rw [hP1]; rfl
    have q5 : roomy 5 1 = true:=by decide
    have q6 : roomy 6 1 = true:=by decide
    rw [l1] at l5
    rw [b1] at b5
    repeat' (first | simp -implicitDefEqProofs (maxSteps:=2000000) only [g0,g5,g2,gh2,g4,hlt',hlt,h2,drop_vl hlt,vl_length,bl_length,pad4_length,bl_scal,bl_pur,bl_take4 (pad4_length vs[i].name),bl_drop4 (pad4_length []),r4,r5,hwl,m52_14,m52_13,m52_12,m52_11,m52_10,m52_3,wk,act,asV,↓reduceIte,Nat.reduceEqDiff,reduceCtorEq,Nat.reduceAdd,Nat.reduceLeDiff,Nat.reduceSub,Nat.reduceMul,List.reduceReplicate,Int.reduceEq,Int.reduceLT,Int.reduceLE,Int.reduceAdd,Int.reduceSub,Int.reduceMul,Nat.reduceLT,Int.reduceToNat] | ((first | ((with_reducible refine CallL.gate ?_); apply CallL.of) | ((with_reducible refine CallP.gate ?_); apply CallP.of)); (case h1 => (simp -implicitDefEqProofs (maxSteps:=2000000) only [g0,g5,g2,gh2,g4,hlt',hlt,h2,drop_vl hlt,vl_length,bl_length,pad4_length,bl_scal,bl_pur,bl_take4 (pad4_length vs[i].name),bl_drop4 (pad4_length []),r4,r5,hwl,m52_14,m52_13,m52_12,m52_11,m52_10,m52_3,wk,act,asV,↓reduceIte,Nat.reduceEqDiff,reduceCtorEq,Nat.reduceAdd,Nat.reduceLeDiff,Nat.reduceSub,Nat.reduceMul,List.reduceReplicate,Int.reduceEq,Int.reduceLT,Int.reduceLE,Int.reduceAdd,Int.reduceSub,Int.reduceMul,Nat.reduceLT,Int.reduceToNat]; first | done | (with_reducible rfl))); (case h2 => (first | exact cp)); (case h3 => simp -implicitDefEqProofs (maxSteps:=2000000) only [g0,g5,g2,gh2,g4,hlt',hlt,h2,drop_vl hlt,vl_length,bl_length,pad4_length,bl_scal,bl_pur,bl_take4 (pad4_length vs[i].name),bl_drop4 (pad4_length []),r4,r5,hwl,m52_14,m52_13,m52_12,m52_11,m52_10,m52_3,wk,act,asV,↓reduceIte,Nat.reduceEqDiff,reduceCtorEq,Nat.reduceAdd,Nat.reduceLeDiff,Nat.reduceSub,Nat.reduceMul,List.reduceReplicate,Int.reduceEq,Int.reduceLT,Int.reduceLE,Int.reduceAdd,Int.reduceSub,Int.reduceMul,Nat.reduceLT,Int.reduceToNat])))
    refine Wp_dapL ?_
    repeat' (first | simp -implicitDefEqProofs (maxSteps:=2000000) only [g0,g5,g4,hlt',hlt,h2,drop_vl hlt,vl_length,bl_length,pad4_length,bl_take4 (pad4_length vs[i].name),q5,q6,hwl,bl_pur,List.length_append,List.cons_append,List.nil_append,wk,act,asV,↓reduceIte,Nat.reduceEqDiff,reduceCtorEq,Nat.reduceAdd,Nat.reduceLeDiff,Nat.reduceSub,Nat.reduceMul,List.reduceReplicate,Int.reduceEq,Int.reduceLT,Int.reduceLE,Int.reduceAdd,Int.reduceSub,Int.reduceMul,Nat.reduceLT,Int.reduceToNat] | ((first | ((with_reducible refine CallL.gate ?_); apply CallL.of) | ((with_reducible refine CallP.gate ?_); apply CallP.of)); (case h1 => (simp -implicitDefEqProofs (maxSteps:=2000000) only [g0,g5,g4,hlt',hlt,h2,drop_vl hlt,vl_length,bl_length,pad4_length,bl_take4 (pad4_length vs[i].name),q5,q6,hwl,bl_pur,List.length_append,List.cons_append,List.nil_append,wk,act,asV,↓reduceIte,Nat.reduceEqDiff,reduceCtorEq,Nat.reduceAdd,Nat.reduceLeDiff,Nat.reduceSub,Nat.reduceMul,List.reduceReplicate,Int.reduceEq,Int.reduceLT,Int.reduceLE,Int.reduceAdd,Int.reduceSub,Int.reduceMul,Nat.reduceLT,Int.reduceToNat]; first | done | (with_reducible rfl))); (case h2 => (first | exact cp)); (case h3 => simp -implicitDefEqProofs (maxSteps:=2000000) only [g0,g5,g4,hlt',hlt,h2,drop_vl hlt,vl_length,bl_length,pad4_length,bl_take4 (pad4_length vs[i].name),q5,q6,hwl,bl_pur,List.length_append,List.cons_append,List.nil_append,wk,act,asV,↓reduceIte,Nat.reduceEqDiff,reduceCtorEq,Nat.reduceAdd,Nat.reduceLeDiff,Nat.reduceSub,Nat.reduceMul,List.reduceReplicate,Int.reduceEq,Int.reduceLT,Int.reduceLE,Int.reduceAdd,Int.reduceSub,Int.reduceMul,Nat.reduceLT,Int.reduceToNat])))
    refine encR_in (P ++ pad4 vs[i].name ++ [u8 vs[i].blocks.length]) i f vs hlt (by simp [hPl,pad4_length]; omega) hvi _ _ ?_ (by simp -implicitDefEqProofs (maxSteps:=2000000) only [g0,wk,act,asV,↓reduceIte,Nat.reduceEqDiff,reduceCtorEq,Nat.reduceAdd,Nat.reduceLeDiff,Nat.reduceSub,Nat.reduceMul,List.reduceReplicate,Int.reduceEq,Int.reduceLT,Int.reduceLE,Int.reduceAdd,Int.reduceSub,Int.reduceMul,Nat.reduceLT,Int.reduceToNat]) (by simp -implicitDefEqProofs (maxSteps:=2000000) only [g5,wk,act,asV,↓reduceIte,Nat.reduceEqDiff,reduceCtorEq,Nat.reduceAdd,Nat.reduceLeDiff,Nat.reduceSub,Nat.reduceMul,List.reduceReplicate,Int.reduceEq,Int.reduceLT,Int.reduceLE,Int.reduceAdd,Int.reduceSub,Int.reduceMul,Nat.reduceLT,Int.reduceToNat]) (by simp -implicitDefEqProofs (maxSteps:=2000000) only [wk,act,asV,↓reduceIte,Nat.reduceEqDiff,reduceCtorEq,Nat.reduceAdd,Nat.reduceLeDiff,Nat.reduceSub,Nat.reduceMul,List.reduceReplicate,Int.reduceEq,Int.reduceLT,Int.reduceLE,Int.reduceAdd,Int.reduceSub,Int.reduceMul,Nat.reduceLT,Int.reduceToNat]) ⟨41,_,.inl rfl,by rw [l5]; simp -implicitDefEqProofs (maxSteps:=2000000) only [wk,act,asV,↓reduceIte,Nat.reduceEqDiff,reduceCtorEq,Nat.reduceAdd,Nat.reduceLeDiff,Nat.reduceSub,Nat.reduceMul,List.reduceReplicate,Int.reduceEq,Int.reduceLT,Int.reduceLE,Int.reduceAdd,Int.reduceSub,Int.reduceMul,Nat.reduceLT,Int.reduceToNat]; first | done | rfl,by rw [b5]; simp -implicitDefEqProofs (maxSteps:=2000000) only [wk,act,asV,↓reduceIte,Nat.reduceEqDiff,reduceCtorEq,Nat.reduceAdd,Nat.reduceLeDiff,Nat.reduceSub,Nat.reduceMul,List.reduceReplicate,Int.reduceEq,Int.reduceLT,Int.reduceLE,Int.reduceAdd,Int.reduceSub,Int.reduceMul,Nat.reduceLT,Int.reduceToNat]; first | done | rfl⟩
    intro s2 p0 p5 p2 ph2 pr
    simp -implicitDefEqProofs (maxSteps:=2000000) only [g2,wk,act,asV,↓reduceIte,Nat.reduceEqDiff,reduceCtorEq,Nat.reduceAdd,Nat.reduceLeDiff,Nat.reduceSub,Nat.reduceMul,List.reduceReplicate,Int.reduceEq,Int.reduceLT,Int.reduceLE,Int.reduceAdd,Int.reduceSub,Int.reduceMul,Nat.reduceLT,Int.reduceToNat] at p2
    simp -implicitDefEqProofs (maxSteps:=2000000) only [gh2,wk,act,asV,↓reduceIte,Nat.reduceEqDiff,reduceCtorEq,Nat.reduceAdd,Nat.reduceLeDiff,Nat.reduceSub,Nat.reduceMul,List.reduceReplicate,Int.reduceEq,Int.reduceLT,Int.reduceLE,Int.reduceAdd,Int.reduceSub,Int.reduceMul,Nat.reduceLT,Int.reduceToNat] at ph2
    simp -implicitDefEqProofs (maxSteps:=2000000) only [p0,p5,wrap_nat (show i < 2 ^ 63 - 1 by omega),wk,act,asV,↓reduceIte,Nat.reduceEqDiff,reduceCtorEq,Nat.reduceAdd,Nat.reduceLeDiff,Nat.reduceSub,Nat.reduceMul,List.reduceReplicate,Int.reduceEq,Int.reduceLT,Int.reduceLE,Int.reduceAdd,Int.reduceSub,Int.reduceMul,Nat.reduceLT,Int.reduceToNat]
    refine ⟨vs.length - (i + 1),by omega,i + 1,by omega,rfl,rfl,⟨v2,p2,ph2⟩,?_⟩
    have he : P ++ pad4 vs[i].name ++ [u8 vs[i].blocks.length] ++ bk4 vs[i].blocks = u8 vs.length :: entsV (vs.take (i + 1)):=by
      rw [hPn,entV]; simp
    rw [he] at pr
    obtain ⟨hh,ver,hhh,q4,qh⟩:=pr
    exact .inr ⟨by omega,hh,ver,hhh,by simp -implicitDefEqProofs (maxSteps:=2000000) only [q4,wk,act,asV,↓reduceIte,Nat.reduceEqDiff,reduceCtorEq,Nat.reduceAdd,Nat.reduceLeDiff,Nat.reduceSub,Nat.reduceMul,List.reduceReplicate,Int.reduceEq,Int.reduceLT,Int.reduceLE,Int.reduceAdd,Int.reduceSub,Int.reduceMul,Nat.reduceLT,Int.reduceToNat],by simp -implicitDefEqProofs (maxSteps:=2000000) only [qh,wk,act,asV,↓reduceIte,Nat.reduceEqDiff,reduceCtorEq,Nat.reduceAdd,Nat.reduceLeDiff,Nat.reduceSub,Nat.reduceMul,List.reduceReplicate,Int.reduceEq,Int.reduceLT,Int.reduceLE,Int.reduceAdd,Int.reduceSub,Int.reduceMul,Nat.reduceLT,Int.reduceToNat]⟩
  · obtain rfl : hh = 66:=by omega
    repeat' (first | simp -implicitDefEqProofs (maxSteps:=2000000) only [g0,g5,g2,gh2,g4,gh,hlt',hlt,h2,drop_vl hlt,vl_length,bl_length,pad4_length,bl_scal,bl_pur,bl_take4 (pad4_length vs[i].name),bl_drop4 (pad4_length []),r4,r5,hwl,m52_14,m52_13,m52_12,m52_11,m52_10,m52_3,wk,act,asV,↓reduceIte,Nat.reduceEqDiff,reduceCtorEq,Nat.reduceAdd,Nat.reduceLeDiff,Nat.reduceSub,Nat.reduceMul,List.reduceReplicate,Int.reduceEq,Int.reduceLT,Int.reduceLE,Int.reduceAdd,Int.reduceSub,Int.reduceMul,Nat.reduceLT,Int.reduceToNat] | ((first | ((with_reducible refine CallL.gate ?_); apply CallL.of) | ((with_reducible refine CallP.gate ?_); apply CallP.of)); (case h1 => (simp -implicitDefEqProofs (maxSteps:=2000000) only [g0,g5,g2,gh2,g4,gh,hlt',hlt,h2,drop_vl hlt,vl_length,bl_length,pad4_length,bl_scal,bl_pur,bl_take4 (pad4_length vs[i].name),bl_drop4 (pad4_length []),r4,r5,hwl,m52_14,m52_13,m52_12,m52_11,m52_10,m52_3,wk,act,asV,↓reduceIte,Nat.reduceEqDiff,reduceCtorEq,Nat.reduceAdd,Nat.reduceLeDiff,Nat.reduceSub,Nat.reduceMul,List.reduceReplicate,Int.reduceEq,Int.reduceLT,Int.reduceLE,Int.reduceAdd,Int.reduceSub,Int.reduceMul,Nat.reduceLT,Int.reduceToNat]; first | done | (with_reducible rfl))); (case h2 => (first | exact cp)); (case h3 => simp -implicitDefEqProofs (maxSteps:=2000000) only [g0,g5,g2,gh2,g4,gh,hlt',hlt,h2,drop_vl hlt,vl_length,bl_length,pad4_length,bl_scal,bl_pur,bl_take4 (pad4_length vs[i].name),bl_drop4 (pad4_length []),r4,r5,hwl,m52_14,m52_13,m52_12,m52_11,m52_10,m52_3,wk,act,asV,↓reduceIte,Nat.reduceEqDiff,reduceCtorEq,Nat.reduceAdd,Nat.reduceLeDiff,Nat.reduceSub,Nat.reduceMul,List.reduceReplicate,Int.reduceEq,Int.reduceLT,Int.reduceLE,Int.reduceAdd,Int.reduceSub,Int.reduceMul,Nat.reduceLT,Int.reduceToNat])))
    refine Wp_dapR ?_
    simp -implicitDefEqProofs (maxSteps:=2000000) only [g0,g5,g4,bl_length,pad4_length,wk,act,asV,↓reduceIte,Nat.reduceEqDiff,reduceCtorEq,Nat.reduceAdd,Nat.reduceLeDiff,Nat.reduceSub,Nat.reduceMul,List.reduceReplicate,Int.reduceEq,Int.reduceLT,Int.reduceLE,Int.reduceAdd,Int.reduceSub,Int.reduceMul,Nat.reduceLT,Int.reduceToNat]
    refine DapA.of [] (by simp -implicitDefEqProofs (maxSteps:=2000000) only [g4,wk,act,asV,↓reduceIte,Nat.reduceEqDiff,reduceCtorEq,Nat.reduceAdd,Nat.reduceLeDiff,Nat.reduceSub,Nat.reduceMul,List.reduceReplicate,Int.reduceEq,Int.reduceLT,Int.reduceLE,Int.reduceAdd,Int.reduceSub,Int.reduceMul,Nat.reduceLT,Int.reduceToNat]) (by simp -implicitDefEqProofs (maxSteps:=2000000) only [g4,gh,r4,bl_pur,bl_length,pad4_length,bl_take4 (pad4_length vs[i].name),wk,act,asV,↓reduceIte,Nat.reduceEqDiff,reduceCtorEq,Nat.reduceAdd,Nat.reduceLeDiff,Nat.reduceSub,Nat.reduceMul,List.reduceReplicate,Int.reduceEq,Int.reduceLT,Int.reduceLE,Int.reduceAdd,Int.reduceSub,Int.reduceMul,Nat.reduceLT,Int.reduceToNat]; rfl) ⟨fun y hy => absurd hy (by simp),fun x hx => by (rcases (show x = 33 ∨ x = 34 ∨ x = 35 ∨ x = 36 ∨ x = 37 ∨ x = 38 ∨ x = 39 ∨ x = 40 by simpa [dsts] using hx) with rfl | rfl | rfl | rfl | rfl | rfl | rfl | rfl <;> simp -implicitDefEqProofs (maxSteps:=2000000) only [wk,act,asV,↓reduceIte,Nat.reduceEqDiff,reduceCtorEq,Nat.reduceAdd,Nat.reduceLeDiff,Nat.reduceSub,Nat.reduceMul,List.reduceReplicate,Int.reduceEq,Int.reduceLT,Int.reduceLE,Int.reduceAdd,Int.reduceSub,Int.reduceMul,Nat.reduceLT,Int.reduceToNat])⟩ (fun y hy => absurd hy (by simp)) ?_
    repeat' (first | simp -implicitDefEqProofs (maxSteps:=2000000) only [g0,g5,g4,gh,hlt',hlt,h2,drop_vl hlt,vl_length,bl_length,pad4_length,r4,r5,r5',hwl,bl_pur,List.length_append,wk,act,asV,↓reduceIte,Nat.reduceEqDiff,reduceCtorEq,Nat.reduceAdd,Nat.reduceLeDiff,Nat.reduceSub,Nat.reduceMul,List.reduceReplicate,Int.reduceEq,Int.reduceLT,Int.reduceLE,Int.reduceAdd,Int.reduceSub,Int.reduceMul,Nat.reduceLT,Int.reduceToNat] | ((first | ((with_reducible refine CallL.gate ?_); apply CallL.of) | ((with_reducible refine CallP.gate ?_); apply CallP.of)); (case h1 => (simp -implicitDefEqProofs (maxSteps:=2000000) only [g0,g5,g4,gh,hlt',hlt,h2,drop_vl hlt,vl_length,bl_length,pad4_length,r4,r5,r5',hwl,bl_pur,List.length_append,wk,act,asV,↓reduceIte,Nat.reduceEqDiff,reduceCtorEq,Nat.reduceAdd,Nat.reduceLeDiff,Nat.reduceSub,Nat.reduceMul,List.reduceReplicate,Int.reduceEq,Int.reduceLT,Int.reduceLE,Int.reduceAdd,Int.reduceSub,Int.reduceMul,Nat.reduceLT,Int.reduceToNat]; first | done | (with_reducible rfl))); (case h2 => (first | exact cp)); (case h3 => simp -implicitDefEqProofs (maxSteps:=2000000) only [g0,g5,g4,gh,hlt',hlt,h2,drop_vl hlt,vl_length,bl_length,pad4_length,r4,r5,r5',hwl,bl_pur,List.length_append,wk,act,asV,↓reduceIte,Nat.reduceEqDiff,reduceCtorEq,Nat.reduceAdd,Nat.reduceLeDiff,Nat.reduceSub,Nat.reduceMul,List.reduceReplicate,Int.reduceEq,Int.reduceLT,Int.reduceLE,Int.reduceAdd,Int.reduceSub,Int.reduceMul,Nat.reduceLT,Int.reduceToNat])))
    refine encR_in (P ++ pad4 vs[i].name ++ [u8 vs[i].blocks.length]) i f vs hlt (by simp [hPl,pad4_length]; omega) hvi _ _ ?_ (by simp -implicitDefEqProofs (maxSteps:=2000000) only [g0,wk,act,asV,↓reduceIte,Nat.reduceEqDiff,reduceCtorEq,Nat.reduceAdd,Nat.reduceLeDiff,Nat.reduceSub,Nat.reduceMul,List.reduceReplicate,Int.reduceEq,Int.reduceLT,Int.reduceLE,Int.reduceAdd,Int.reduceSub,Int.reduceMul,Nat.reduceLT,Int.reduceToNat]) (by simp -implicitDefEqProofs (maxSteps:=2000000) only [g5,wk,act,asV,↓reduceIte,Nat.reduceEqDiff,reduceCtorEq,Nat.reduceAdd,Nat.reduceLeDiff,Nat.reduceSub,Nat.reduceMul,List.reduceReplicate,Int.reduceEq,Int.reduceLT,Int.reduceLE,Int.reduceAdd,Int.reduceSub,Int.reduceMul,Nat.reduceLT,Int.reduceToNat]) (by simp -implicitDefEqProofs (maxSteps:=2000000) only [wk,act,asV,↓reduceIte,Nat.reduceEqDiff,reduceCtorEq,Nat.reduceAdd,Nat.reduceLeDiff,Nat.reduceSub,Nat.reduceMul,List.reduceReplicate,Int.reduceEq,Int.reduceLT,Int.reduceLE,Int.reduceAdd,Int.reduceSub,Int.reduceMul,Nat.reduceLT,Int.reduceToNat]) ⟨41,_,.inl rfl,by rw [l5]; simp -implicitDefEqProofs (maxSteps:=2000000) only [wk,act,asV,↓reduceIte,Nat.reduceEqDiff,reduceCtorEq,Nat.reduceAdd,Nat.reduceLeDiff,Nat.reduceSub,Nat.reduceMul,List.reduceReplicate,Int.reduceEq,Int.reduceLT,Int.reduceLE,Int.reduceAdd,Int.reduceSub,Int.reduceMul,Nat.reduceLT,Int.reduceToNat]; first | done | rfl,by rw [b5]; simp -implicitDefEqProofs (maxSteps:=2000000) only [wk,act,asV,↓reduceIte,Nat.reduceEqDiff,reduceCtorEq,Nat.reduceAdd,Nat.reduceLeDiff,Nat.reduceSub,Nat.reduceMul,List.reduceReplicate,Int.reduceEq,Int.reduceLT,Int.reduceLE,Int.reduceAdd,Int.reduceSub,Int.reduceMul,Nat.reduceLT,Int.reduceToNat]; first | done | rfl⟩
    intro s2 p0 p5 p2 ph2 pr
    simp -implicitDefEqProofs (maxSteps:=2000000) only [g2,wk,act,asV,↓reduceIte,Nat.reduceEqDiff,reduceCtorEq,Nat.reduceAdd,Nat.reduceLeDiff,Nat.reduceSub,Nat.reduceMul,List.reduceReplicate,Int.reduceEq,Int.reduceLT,Int.reduceLE,Int.reduceAdd,Int.reduceSub,Int.reduceMul,Nat.reduceLT,Int.reduceToNat] at p2
    simp -implicitDefEqProofs (maxSteps:=2000000) only [gh2,wk,act,asV,↓reduceIte,Nat.reduceEqDiff,reduceCtorEq,Nat.reduceAdd,Nat.reduceLeDiff,Nat.reduceSub,Nat.reduceMul,List.reduceReplicate,Int.reduceEq,Int.reduceLT,Int.reduceLE,Int.reduceAdd,Int.reduceSub,Int.reduceMul,Nat.reduceLT,Int.reduceToNat] at ph2
    simp -implicitDefEqProofs (maxSteps:=2000000) only [p0,p5,wrap_nat (show i < 2 ^ 63 - 1 by omega),wk,act,asV,↓reduceIte,Nat.reduceEqDiff,reduceCtorEq,Nat.reduceAdd,Nat.reduceLeDiff,Nat.reduceSub,Nat.reduceMul,List.reduceReplicate,Int.reduceEq,Int.reduceLT,Int.reduceLE,Int.reduceAdd,Int.reduceSub,Int.reduceMul,Nat.reduceLT,Int.reduceToNat]
    refine ⟨vs.length - (i + 1),by omega,i + 1,by omega,rfl,rfl,⟨v2,p2,ph2⟩,?_⟩
    have he : P ++ pad4 vs[i].name ++ [u8 vs[i].blocks.length] ++ bk4 vs[i].blocks = u8 vs.length :: entsV (vs.take (i + 1)):=by
      rw [hPn,entV]; simp
    rw [he] at pr
    obtain ⟨hh,ver,hhh,q4,qh⟩:=pr
    exact .inr ⟨by omega,hh,ver,hhh,by simp -implicitDefEqProofs (maxSteps:=2000000) only [q4,wk,act,asV,↓reduceIte,Nat.reduceEqDiff,reduceCtorEq,Nat.reduceAdd,Nat.reduceLeDiff,Nat.reduceSub,Nat.reduceMul,List.reduceReplicate,Int.reduceEq,Int.reduceLT,Int.reduceLE,Int.reduceAdd,Int.reduceSub,Int.reduceMul,Nat.reduceLT,Int.reduceToNat],by simp -implicitDefEqProofs (maxSteps:=2000000) only [qh,wk,act,asV,↓reduceIte,Nat.reduceEqDiff,reduceCtorEq,Nat.reduceAdd,Nat.reduceLeDiff,Nat.reduceSub,Nat.reduceMul,List.reduceReplicate,Int.reduceEq,Int.reduceLT,Int.reduceLE,Int.reduceAdd,Int.reduceSub,Int.reduceMul,Nat.reduceLT,Int.reduceToNat]⟩

theorem encR_ok (f : Fl) (hf : f ≠ .lit) (vs : List Vol) (hv : VsOk vs) : RC Tryd.prog 52 [.sl f vs.length (vl vs)] [.agg (bl (tabR vs)),.int .i64 (tabE vs)]:=by
  refine RC.of_wp c52 rfl ?_
  have cg:=goodR_ok f hf vs hv
  have zt : List.take 32 (bl (zs 32)) = bl (zs 32):=rfl
  have zd : List.drop 32 (bl (zs 32)) = []:=rfl
  have zl : (bl (zs 32)).length = 32:=rfl
  by_cases hg : goodV vs = true
  · have e1 : tabR vs = tabB vs:=if_pos hg
    have e2 : tabE vs = 0:=if_pos hg
    rw [hg] at cg
    rw [e1,e2]
    have h3:=goodV_len hg
    have gp:=goodV_P hg
    cases f with
    | lit => exact absurd rfl hf
    | _ =>
      repeat' (first | simp -implicitDefEqProofs (maxSteps:=2000000) only [m52_1,m52_2,m52_3,m52_4,m52_5,m52_6,m52_7,m52_8,m52_9,m52_10,m52_11,m52_12,m52_13,m52_14,m52_15,m52_16,m52_17,m52_18,m52_19,m52_20,m52_21,m52_r,m52_b,m52,wrap_u8,wk,act,asV,↓reduceIte,Nat.reduceEqDiff,reduceCtorEq,Nat.reduceAdd,Nat.reduceLeDiff,Nat.reduceSub,Nat.reduceMul,List.reduceReplicate,Int.reduceEq,Int.reduceLT,Int.reduceLE,Int.reduceAdd,Int.reduceSub,Int.reduceMul,Nat.reduceLT,Int.reduceToNat] | ((first | ((with_reducible refine CallL.gate ?_); apply CallL.of) | ((with_reducible refine CallP.gate ?_); apply CallP.of)); (case h1 => (simp -implicitDefEqProofs (maxSteps:=2000000) only [m52_1,m52_2,m52_3,m52_4,m52_5,m52_6,m52_7,m52_8,m52_9,m52_10,m52_11,m52_12,m52_13,m52_14,m52_15,m52_16,m52_17,m52_18,m52_19,m52_20,m52_21,m52_r,m52_b,m52,wrap_u8,wk,act,asV,↓reduceIte,Nat.reduceEqDiff,reduceCtorEq,Nat.reduceAdd,Nat.reduceLeDiff,Nat.reduceSub,Nat.reduceMul,List.reduceReplicate,Int.reduceEq,Int.reduceLT,Int.reduceLE,Int.reduceAdd,Int.reduceSub,Int.reduceMul,Nat.reduceLT,Int.reduceToNat]; first | done | (with_reducible rfl))); (case h2 => (first | exact cg)); (case h3 => simp -implicitDefEqProofs (maxSteps:=2000000) only [m52_1,m52_2,m52_3,m52_4,m52_5,m52_6,m52_7,m52_8,m52_9,m52_10,m52_11,m52_12,m52_13,m52_14,m52_15,m52_16,m52_17,m52_18,m52_19,m52_20,m52_21,m52_r,m52_b,m52,wrap_u8,wk,act,asV,↓reduceIte,Nat.reduceEqDiff,reduceCtorEq,Nat.reduceAdd,Nat.reduceLeDiff,Nat.reduceSub,Nat.reduceMul,List.reduceReplicate,Int.reduceEq,Int.reduceLT,Int.reduceLE,Int.reduceAdd,Int.reduceSub,Int.reduceMul,Nat.reduceLT,Int.reduceToNat])))
      refine Wp_loop (fun k s => ∃ i,i ≤ vs.length ∧ k = vs.length - i ∧ s.t 0 = .sl _ vs.length (vl vs) ∧ s.t 5 = .int .i64 i ∧ (∃ v2,s.t 2 = .ptr 2 0 v2 ∧ s.h 2 = ⟨v2,true,true,false,bl (zs 32)⟩) ∧ ((i = 0 ∧ s.t 4 = .sl .lit 1 [.int .u8 ((u8 vs.length).toNat : Int)]) ∨ (0 < i ∧ rowAt s 66 66 (u8 vs.length :: entsV (vs.take i))))) vs.length ⟨0,by omega,rfl,rfl,rfl,⟨_,rfl,rfl⟩,.inl ⟨rfl,rfl⟩⟩ ?_
      rintro k s ⟨i,hi,rfl,g0,g5,⟨v2,g2,gh2⟩,gr⟩
      by_cases hlt : i < vs.length
      · exact encR_step vs hv gp h3 _ (by decide) hlt g0 g5 g2 gh2 gr
      · have hie : i = vs.length:=by omega
        have hlt' : ¬ (i : Int) < vs.length:=by omega
        have hmin1 : min 1 32 = 1:=rfl
        rcases gr with ⟨hi0,g4⟩ | ⟨hi0,gr⟩
        · have hvs : vs = []:=List.eq_nil_of_length_eq_zero (by omega)
          subst hvs
          have et : tabB [] = zs 32:=rfl
          have e0 : [IV.int .u8 ((u8 (List.length ([] : List Vol))).toNat : Int)] ++ List.drop 1 (bl (zs 32)) = bl (zs 32):=rfl
          have e1' : IV.int .u8 ((u8 (List.length ([] : List Vol))).toNat : Int) :: List.drop 1 (bl (zs 32)) = bl (zs 32):=rfl
          rw [et]
          have hlt' : ¬ (i : Int) < 0:=by omega
          simp -implicitDefEqProofs (maxSteps:=2000000) only [m52_1,m52_2,m52_3,m52_4,m52_5,m52_6,m52_7,m52_8,m52_9,m52_10,m52_11,m52_12,m52_13,m52_14,m52_15,m52_16,m52_17,m52_18,m52_19,m52_20,m52_21,m52_r,m52_b,m52,g0,g5,g2,gh2,g4,hlt',bl_scal,zs_cells,zt,zd,zl,hmin1,e0,e1',bl_pur,bl_length,IV.purL,IV.pur,wk,act,asV,↓reduceIte,Nat.reduceEqDiff,reduceCtorEq,Nat.reduceAdd,Nat.reduceLeDiff,Nat.reduceSub,Nat.reduceMul,List.reduceReplicate,Int.reduceEq,Int.reduceLT,Int.reduceLE,Int.reduceAdd,Int.reduceSub,Int.reduceMul,Nat.reduceLT,Int.reduceToNat]
          first | done | rfl
        · rw [hie,List.take_length] at gr
          obtain ⟨P,hP⟩ : ∃ P,P = u8 vs.length :: entsV vs:=⟨_,rfl⟩
          have hPl : P.length = 1 + 9 * vs.length:=by rw [hP]; simp [entsV_length]; omega
          have htb : bl P ++ List.drop P.length (bl (zs 32)) = bl (tabB vs):=by
            have : tabB vs = P ++ zs (31 - 9 * vs.length):=by rw [hP]; rfl
            rw [this,bl_append,bl_drop]
            unfold zs
            rw [List.drop_replicate]
            congr 3; omega
          have htb' : bl P ++ List.drop P.length [IV.int .u8 0,IV.int .u8 0,IV.int .u8 0,IV.int .u8 0,IV.int .u8 0,IV.int .u8 0,IV.int .u8 0,IV.int .u8 0,IV.int .u8 0,IV.int .u8 0,IV.int .u8 0,IV.int .u8 0,IV.int .u8 0,IV.int .u8 0,IV.int .u8 0,IV.int .u8 0,IV.int .u8 0,IV.int .u8 0,IV.int .u8 0,IV.int .u8 0,IV.int .u8 0,IV.int .u8 0,IV.int .u8 0,IV.int .u8 0,IV.int .u8 0,IV.int .u8 0,IV.int .u8 0,IV.int .u8 0,IV.int .u8 0,IV.int .u8 0,IV.int .u8 0,IV.int .u8 0] = bl (tabB vs):=htb
          rw [← hP] at gr
          obtain ⟨hh,ver,hhh,g4,gh⟩:=gr
          obtain rfl : hh = 66:=by omega
          have hmin : min P.length 32 = P.length:=by omega
          have hl32 : (bl (tabB vs)).length = 32:=by rw [bl_length,tabB_length h3]
          have ht32 : List.take 32 (bl (tabB vs)) = bl (tabB vs):=List.take_of_length_le (by omega)
          have hd32 : List.drop 32 (bl (tabB vs)) = []:=List.drop_of_length_le (by omega)
          simp -implicitDefEqProofs (maxSteps:=2000000) only [m52_1,m52_2,m52_3,m52_4,m52_5,m52_6,m52_7,m52_8,m52_9,m52_10,m52_11,m52_12,m52_13,m52_14,m52_15,m52_16,m52_17,m52_18,m52_19,m52_20,m52_21,m52_r,m52_b,m52,g0,g5,g2,gh2,g4,gh,hlt',hl32,ht32,hd32,bl_scal,zs_cells,zt,zd,zl,hmin,htb,htb',take_bl,bl_pur,bl_length,wk,act,asV,↓reduceIte,Nat.reduceEqDiff,reduceCtorEq,Nat.reduceAdd,Nat.reduceLeDiff,Nat.reduceSub,Nat.reduceMul,List.reduceReplicate,Int.reduceEq,Int.reduceLT,Int.reduceLE,Int.reduceAdd,Int.reduceSub,Int.reduceMul,Nat.reduceLT,Int.reduceToNat]
  · have hg' : goodV vs = false:=by simpa using hg
    have e1 : tabR vs = zs 32:=if_neg hg
    have e2 : tabE vs = 11:=if_neg hg
    rw [hg'] at cg
    rw [e1,e2]
    cases f with
    | lit => exact absurd rfl hf
    | _ => repeat' (first | simp -implicitDefEqProofs (maxSteps:=2000000) only [m52_1,m52_2,m52_3,m52_4,m52_5,m52_6,m52_7,m52_8,m52_9,m52_10,m52_11,m52_12,m52_13,m52_14,m52_15,m52_16,m52_17,m52_18,m52_19,m52_20,m52_21,m52_r,m52_b,m52,zs_cells,zt,zd,zl,bl_scal,wk,act,asV,↓reduceIte,Nat.reduceEqDiff,reduceCtorEq,Nat.reduceAdd,Nat.reduceLeDiff,Nat.reduceSub,Nat.reduceMul,List.reduceReplicate,Int.reduceEq,Int.reduceLT,Int.reduceLE,Int.reduceAdd,Int.reduceSub,Int.reduceMul,Nat.reduceLT,Int.reduceToNat] | ((first | ((with_reducible refine CallL.gate ?_); apply CallL.of) | ((with_reducible refine CallP.gate ?_); apply CallP.of)); (case h1 => (simp -implicitDefEqProofs (maxSteps:=2000000) only [m52_1,m52_2,m52_3,m52_4,m52_5,m52_6,m52_7,m52_8,m52_9,m52_10,m52_11,m52_12,m52_13,m52_14,m52_15,m52_16,m52_17,m52_18,m52_19,m52_20,m52_21,m52_r,m52_b,m52,zs_cells,zt,zd,zl,bl_scal,wk,act,asV,↓reduceIte,Nat.reduceEqDiff,reduceCtorEq,Nat.reduceAdd,Nat.reduceLeDiff,Nat.reduceSub,Nat.reduceMul,List.reduceReplicate,Int.reduceEq,Int.reduceLT,Int.reduceLE,Int.reduceAdd,Int.reduceSub,Int.reduceMul,Nat.reduceLT,Int.reduceToNat]; first | done | (with_reducible rfl))); (case h2 => (first | exact cg)); (case h3 => simp -implicitDefEqProofs (maxSteps:=2000000) only [m52_1,m52_2,m52_3,m52_4,m52_5,m52_6,m52_7,m52_8,m52_9,m52_10,m52_11,m52_12,m52_13,m52_14,m52_15,m52_16,m52_17,m52_18,m52_19,m52_20,m52_21,m52_r,m52_b,m52,zs_cells,zt,zd,zl,bl_scal,wk,act,asV,↓reduceIte,Nat.reduceEqDiff,reduceCtorEq,Nat.reduceAdd,Nat.reduceLeDiff,Nat.reduceSub,Nat.reduceMul,List.reduceReplicate,Int.reduceEq,Int.reduceLT,Int.reduceLE,Int.reduceAdd,Int.reduceSub,Int.reduceMul,Nat.reduceLT,Int.reduceToNat])))
end Go.Proofs.YtilbipknodpmmaaDoor
