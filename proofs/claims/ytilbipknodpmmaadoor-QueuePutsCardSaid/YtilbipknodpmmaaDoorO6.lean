/- Of the ops: a volume that goes. -/
import Derived.Test.YtilbipknodpmmaaDoorO3
import Derived.Test.YtilbipknodpmmaaDoorO5
import Derived.Test.YtilbipknodpmmaaDoorE31
import Derived.Test.YtilbipknodpmmaaDoorM13
set_option linter.unusedVariables false
set_option linter.unusedSimpArgs false
set_option linter.unusedSectionVars false
set_option maxRecDepth 100000
set_option maxHeartbeats 8000000
namespace Go.Proofs.YtilbipknodpmmaaDoor
open Go.RowKit

theorem sub_flat {l m : List Vol} (h : l.Sublist m) : (l.flatMap Vol.blocks).Sublist (m.flatMap Vol.blocks):=by
  induction h with
  | slnil => exact .slnil
  | cons a h ih => rw [List.flatMap_cons]; exact ih.trans (List.sublist_append_right _ _)
  | cons_cons a h ih => rw [List.flatMap_cons,List.flatMap_cons]; exact List.Sublist.append (List.Sublist.refl _) ih
theorem good_erase {vs : List Vol} (h : goodV vs = true) (i : Nat) : goodV (vs.eraseIdx i) = true:=by
  have gp:=goodV_P h
  have hs : (vs.eraseIdx i).Sublist vs:=List.eraseIdx_sublist vs i
  refine goodV_yes (Nat.le_trans hs.length_le (goodV_len h)) ⟨?_,?_,?_⟩
  · exact List.all_eq_true.2 fun v hv => List.all_eq_true.1 gp.each v (hs.subset hv)
  · exact (hs.map _).nodup gp.nms
  · exact (sub_flat hs).nodup gp.bls
theorem vl_erase {vs : List Vol} {i : Nat} (h : i < vs.length) : List.take (i * 2) (vl vs) ++ List.drop ((i + 1) * 2) (vl vs) = vl (vs.eraseIdx i):=by
  have e : vs = vs.take i ++ vs[i] :: vs.drop (i + 1):=by rw [List.getElem_cons_drop h,List.take_append_drop]
  have l1 : (vl (vs.take i)).length = i * 2:=by rw [vl_length,List.length_take]; omega
  have l2 : (vl (vs.take i) ++ vl [vs[i]]).length = (i + 1) * 2:=by rw [List.length_append,l1,vl_length]; simp; omega
  have e2 : vl vs = vl (vs.take i) ++ vl [vs[i]] ++ vl (vs.drop (i + 1)):=by
    rw [← vl_append,← vl_append]
    congr 1
    rw [List.append_assoc]; exact e
  rw [List.eraseIdx_eq_take_drop_succ,vl_append]
  congr 1
  · rw [e2,List.append_assoc,← l1,List.take_left]
  · rw [e2,← l2,List.drop_left]
def gnE (vs : List Vol) (nm : List UInt8) : Int:=if findV nm vs < 0 then 16 else 0
def gnP (vs : List Vol) (nm : List UInt8) : List (Int × List UInt8):=[(0,tabB (vs.eraseIdx (findV nm vs).toNat))]
theorem goneP_ok (b nm : List UInt8) (hb : b.length = 32) (hn : nm.length < 2 ^ 63) : RC Tryd.prog 23 [.agg (bl b),.str nm] [outP (gnE (decV b) nm) (gnP (decV b) nm),.int .i64 (gnE (decV b) nm)]:=by
  refine RC.of_wp c23 rfl ?_
  have c1:=volsP_ok b hb
  have lb : (bl b).length = 32:=by rw [bl_length,hb]
  have tb : List.take 32 (bl b) = bl b:=List.take_of_length_le (by omega)
  have hl:=decV_le b
  have hgv:=decV_good b
  unfold outP
  obtain ⟨vs,hvs⟩ : ∃ vs,vs = decV b:=⟨_,rfl⟩
  rw [← hvs] at c1 hl hgv ⊢
  have tv:=take_vl vs
  have lv:=vl_length vs
  have pv:=vl_pur vs
  rcases ownV_or vs with ⟨h0,e⟩ | ⟨h0,e⟩
  · have c2:=find_ok .full (by simp) nm [] (by simp)
    have ef : findV nm [] = -1:=rfl
    rw [vl_nil,List.length_nil,ef] at c2
    rw [e] at c1
    have e1 : gnE vs nm = 16:=by rw [h0]; rfl
    rw [e1,if_neg (by decide)]
    repeat' (first | simp -implicitDefEqProofs (maxSteps:=2000000) only [m23_1,m23_2,m23_3,m23_4,m23_5,m23_6,m23_7,m23_8,m23_r,m23_b,m23,lb,tb,bl_scal,bl_allO,wk,act,asV,↓reduceIte,Nat.reduceEqDiff,reduceCtorEq,Nat.reduceAdd,Nat.reduceLeDiff,Nat.reduceSub,Nat.reduceMul,List.reduceReplicate,Int.reduceEq,Int.reduceLT,Int.reduceLE,Int.reduceAdd,Int.reduceSub,Int.reduceMul,Nat.reduceLT,Int.reduceToNat] | ((first | ((with_reducible refine CallL.gate ?_); apply CallL.of) | ((with_reducible refine CallP.gate ?_); apply CallP.of)); (case h1 => (simp -implicitDefEqProofs (maxSteps:=2000000) only [m23_1,m23_2,m23_3,m23_4,m23_5,m23_6,m23_7,m23_8,m23_r,m23_b,m23,lb,tb,bl_scal,bl_allO,wk,act,asV,↓reduceIte,Nat.reduceEqDiff,reduceCtorEq,Nat.reduceAdd,Nat.reduceLeDiff,Nat.reduceSub,Nat.reduceMul,List.reduceReplicate,Int.reduceEq,Int.reduceLT,Int.reduceLE,Int.reduceAdd,Int.reduceSub,Int.reduceMul,Nat.reduceLT,Int.reduceToNat]; first | done | (with_reducible rfl))); (case h2 => (first | exact c1 | exact c2)); (case h3 => simp -implicitDefEqProofs (maxSteps:=2000000) only [m23_1,m23_2,m23_3,m23_4,m23_5,m23_6,m23_7,m23_8,m23_r,m23_b,m23,lb,tb,bl_scal,bl_allO,wk,act,asV,↓reduceIte,Nat.reduceEqDiff,reduceCtorEq,Nat.reduceAdd,Nat.reduceLeDiff,Nat.reduceSub,Nat.reduceMul,List.reduceReplicate,Int.reduceEq,Int.reduceLT,Int.reduceLE,Int.reduceAdd,Int.reduceSub,Int.reduceMul,Nat.reduceLT,Int.reduceToNat])))
  · have c2:=find_ok .plain (by simp) nm vs (by omega)
    rw [e] at c1
    rcases findV_cases nm vs with hf | ⟨i,hi,hf⟩
    · rw [hf] at c2
      have e1 : gnE vs nm = 16:=by unfold gnE; rw [if_pos (by omega)]
      rw [e1,if_neg (by decide)]
      repeat' (first | simp -implicitDefEqProofs (maxSteps:=2000000) only [m23_1,m23_2,m23_3,m23_4,m23_5,m23_6,m23_7,m23_8,m23_r,m23_b,m23,lb,tb,tv,lv,pv,bl_scal,bl_allO,wk,act,asV,↓reduceIte,Nat.reduceEqDiff,reduceCtorEq,Nat.reduceAdd,Nat.reduceLeDiff,Nat.reduceSub,Nat.reduceMul,List.reduceReplicate,Int.reduceEq,Int.reduceLT,Int.reduceLE,Int.reduceAdd,Int.reduceSub,Int.reduceMul,Nat.reduceLT,Int.reduceToNat] | ((first | ((with_reducible refine CallL.gate ?_); apply CallL.of) | ((with_reducible refine CallP.gate ?_); apply CallP.of)); (case h1 => (simp -implicitDefEqProofs (maxSteps:=2000000) only [m23_1,m23_2,m23_3,m23_4,m23_5,m23_6,m23_7,m23_8,m23_r,m23_b,m23,lb,tb,tv,lv,pv,bl_scal,bl_allO,wk,act,asV,↓reduceIte,Nat.reduceEqDiff,reduceCtorEq,Nat.reduceAdd,Nat.reduceLeDiff,Nat.reduceSub,Nat.reduceMul,List.reduceReplicate,Int.reduceEq,Int.reduceLT,Int.reduceLE,Int.reduceAdd,Int.reduceSub,Int.reduceMul,Nat.reduceLT,Int.reduceToNat]; first | done | (with_reducible rfl))); (case h2 => (first | exact c1 | exact c2)); (case h3 => simp -implicitDefEqProofs (maxSteps:=2000000) only [m23_1,m23_2,m23_3,m23_4,m23_5,m23_6,m23_7,m23_8,m23_r,m23_b,m23,lb,tb,tv,lv,pv,bl_scal,bl_allO,wk,act,asV,↓reduceIte,Nat.reduceEqDiff,reduceCtorEq,Nat.reduceAdd,Nat.reduceLeDiff,Nat.reduceSub,Nat.reduceMul,List.reduceReplicate,Int.reduceEq,Int.reduceLT,Int.reduceLE,Int.reduceAdd,Int.reduceSub,Int.reduceMul,Nat.reduceLT,Int.reduceToNat])))
    · have e1 : gnE vs nm = 0:=by unfold gnE; rw [if_neg (by omega)]
      rw [e1,if_pos rfl]
      unfold gnP
      rw [hf] at c2
      rw [hf,Int.toNat_natCast]
      have hi0 : ¬ ((i : Nat) : Int) < 0:=by omega
      have wi : IntKind.i64.wrap (((i : Nat) : Int) + 1) = ((i : Nat) : Int) + 1:=by rw [IntKind.wrap_i64]; omega
      have hge:=good_erase hgv i
      have hle : (vs.eraseIdx i).length = vs.length - 1:=List.length_eraseIdx_of_lt hi
      have dB:=tabB_length (goodV_len hge)
      have hd : delC (vl vs) i = vl (vs.eraseIdx i) ++ [.str [],.sl .full 0 []]:=by unfold delC; rw [vl_erase hi]
      have tV : List.take ((vs.eraseIdx i).length * 2) (List.drop 0 (delC (vl vs) i)) = vl (vs.eraseIdx i):=by
        rw [List.drop_zero,hd,List.take_append_of_le_length (by rw [vl_length]; exact Nat.le_refl _),take_vl]
      have lP : (ptL [(0,tabB (vs.eraseIdx i))]).length = 33:=by rw [ptL_length (by simpa using dB)]; rfl
      have tP : List.take 33 (ptL [(0,tabB (vs.eraseIdx i))]) = ptL [(0,tabB (vs.eraseIdx i))]:=List.take_of_length_le (by omega)
      have ct:=fun {H : Nat → Blk} {va : Nat} {rw' : Bool} (hH : H 9 = ⟨va,true,rw',true,delC (vl vs) i⟩) => tabled_ok (a:=9) (oa:=0) (p:=0) (vp:=0) (ps:=[]) (pv:=.sl .full 0 []) (by decide) (by decide) hge hH tV (by simp) (by simp) (.inl ⟨rfl,rfl⟩)
      rw [hle] at ct
      simp only [List.nil_append,List.length_nil,Nat.zero_add] at ct
      repeat' (first | simp -implicitDefEqProofs (maxSteps:=2000000) only [m23_1,m23_2,m23_3,m23_4,m23_5,m23_6,m23_7,m23_8,m23_r,m23_b,m23,lb,tb,tv,lv,pv,hi0,wi,bl_scal,bl_allO,wk,act,asV,↓reduceIte,Nat.reduceEqDiff,reduceCtorEq,Nat.reduceAdd,Nat.reduceLeDiff,Nat.reduceSub,Nat.reduceMul,List.reduceReplicate,Int.reduceEq,Int.reduceLT,Int.reduceLE,Int.reduceAdd,Int.reduceSub,Int.reduceMul,Nat.reduceLT,Int.reduceToNat] | ((first | ((with_reducible refine CallL.gate ?_); apply CallL.of) | ((with_reducible refine CallP.gate ?_); apply CallP.of)); (case h1 => (simp -implicitDefEqProofs (maxSteps:=2000000) only [m23_1,m23_2,m23_3,m23_4,m23_5,m23_6,m23_7,m23_8,m23_r,m23_b,m23,lb,tb,tv,lv,pv,hi0,wi,bl_scal,bl_allO,wk,act,asV,↓reduceIte,Nat.reduceEqDiff,reduceCtorEq,Nat.reduceAdd,Nat.reduceLeDiff,Nat.reduceSub,Nat.reduceMul,List.reduceReplicate,Int.reduceEq,Int.reduceLT,Int.reduceLE,Int.reduceAdd,Int.reduceSub,Int.reduceMul,Nat.reduceLT,Int.reduceToNat]; first | done | (with_reducible rfl))); (case h2 => (first | exact c1 | exact c2)); (case h3 => simp -implicitDefEqProofs (maxSteps:=2000000) only [m23_1,m23_2,m23_3,m23_4,m23_5,m23_6,m23_7,m23_8,m23_r,m23_b,m23,lb,tb,tv,lv,pv,hi0,wi,bl_scal,bl_allO,wk,act,asV,↓reduceIte,Nat.reduceEqDiff,reduceCtorEq,Nat.reduceAdd,Nat.reduceLeDiff,Nat.reduceSub,Nat.reduceMul,List.reduceReplicate,Int.reduceEq,Int.reduceLT,Int.reduceLE,Int.reduceAdd,Int.reduceSub,Int.reduceMul,Nat.reduceLT,Int.reduceToNat])))
      refine CallnL.of (by simp -implicitDefEqProofs (maxSteps:=2000000) only [wk,act,asV,↓reduceIte,Nat.reduceEqDiff,reduceCtorEq,Nat.reduceAdd,Nat.reduceLeDiff,Nat.reduceSub,Nat.reduceMul,List.reduceReplicate,Int.reduceEq,Int.reduceLT,Int.reduceLE,Int.reduceAdd,Int.reduceSub,Int.reduceMul,Nat.reduceLT,Int.reduceToNat]; first | done | rfl) (del_ok (by simp -implicitDefEqProofs (maxSteps:=2000000) only [wk,act,asV,↓reduceIte,Nat.reduceEqDiff,reduceCtorEq,Nat.reduceAdd,Nat.reduceLeDiff,Nat.reduceSub,Nat.reduceMul,List.reduceReplicate,Int.reduceEq,Int.reduceLT,Int.reduceLE,Int.reduceAdd,Int.reduceSub,Int.reduceMul,Nat.reduceLT,Int.reduceToNat]) (by simp -implicitDefEqProofs (maxSteps:=2000000) only [wk,act,asV,↓reduceIte,Nat.reduceEqDiff,reduceCtorEq,Nat.reduceAdd,Nat.reduceLeDiff,Nat.reduceSub,Nat.reduceMul,List.reduceReplicate,Int.reduceEq,Int.reduceLT,Int.reduceLE,Int.reduceAdd,Int.reduceSub,Int.reduceMul,Nat.reduceLT,Int.reduceToNat]) (by simp -implicitDefEqProofs (maxSteps:=2000000) only [wk,act,asV,↓reduceIte,Nat.reduceEqDiff,reduceCtorEq,Nat.reduceAdd,Nat.reduceLeDiff,Nat.reduceSub,Nat.reduceMul,List.reduceReplicate,Int.reduceEq,Int.reduceLT,Int.reduceLE,Int.reduceAdd,Int.reduceSub,Int.reduceMul,Nat.reduceLT,Int.reduceToNat]) (by simp -implicitDefEqProofs (maxSteps:=2000000) only [lv,Nat.zero_add,wk,act,asV,↓reduceIte,Nat.reduceEqDiff,reduceCtorEq,Nat.reduceAdd,Nat.reduceLeDiff,Nat.reduceSub,Nat.reduceMul,List.reduceReplicate,Int.reduceEq,Int.reduceLT,Int.reduceLE,Int.reduceAdd,Int.reduceSub,Int.reduceMul,Nat.reduceLT,Int.reduceToNat]) hi (by omega)) ?_
      rintro _ h2 ⟨rfl,rfl⟩
      simp -implicitDefEqProofs (maxSteps:=2000000) only [wk,act,asV,↓reduceIte,Nat.reduceEqDiff,reduceCtorEq,Nat.reduceAdd,Nat.reduceLeDiff,Nat.reduceSub,Nat.reduceMul,List.reduceReplicate,Int.reduceEq,Int.reduceLT,Int.reduceLE,Int.reduceAdd,Int.reduceSub,Int.reduceMul,Nat.reduceLT,Int.reduceToNat]
      refine CallnL.of (by simp -implicitDefEqProofs (maxSteps:=2000000) only [wk,act,asV,↓reduceIte,Nat.reduceEqDiff,reduceCtorEq,Nat.reduceAdd,Nat.reduceLeDiff,Nat.reduceSub,Nat.reduceMul,List.reduceReplicate,Int.reduceEq,Int.reduceLT,Int.reduceLE,Int.reduceAdd,Int.reduceSub,Int.reduceMul,Nat.reduceLT,Int.reduceToNat]; first | done | rfl) (ct (by simp -implicitDefEqProofs (maxSteps:=2000000) only [delBlk,List.drop_zero,wk,act,asV,↓reduceIte,Nat.reduceEqDiff,reduceCtorEq,Nat.reduceAdd,Nat.reduceLeDiff,Nat.reduceSub,Nat.reduceMul,List.reduceReplicate,Int.reduceEq,Int.reduceLT,Int.reduceLE,Int.reduceAdd,Int.reduceSub,Int.reduceMul,Nat.reduceLT,Int.reduceToNat]; first | done | rfl)) ?_
      rintro _ h3 ⟨w3,rfl,hw3⟩
      simp -implicitDefEqProofs (maxSteps:=2000000) only [hw3,tP,List.length_singleton,wk,act,asV,↓reduceIte,Nat.reduceEqDiff,reduceCtorEq,Nat.reduceAdd,Nat.reduceLeDiff,Nat.reduceSub,Nat.reduceMul,List.reduceReplicate,Int.reduceEq,Int.reduceLT,Int.reduceLE,Int.reduceAdd,Int.reduceSub,Int.reduceMul,Nat.reduceLT,Int.reduceToNat]
theorem goneR_ok (b nm : List UInt8) (hb : b.length = 32) (hn : nm.length < 2 ^ 63) : RC Tryd.prog 24 [.agg (bl b),.str nm] [if gnE (decV b) nm = 0 then .sl .full 1 (ptL (gnP (decV b) nm)) else .sl .full 0 [],.int .i64 (gnE (decV b) nm)]:=by
  refine RC.of_wp c24 rfl ?_
  have c1:=volsR_ok b hb
  have lb : (bl b).length = 32:=by rw [bl_length,hb]
  have tb : List.take 32 (bl b) = bl b:=List.take_of_length_le (by omega)
  have hl:=decV_le b
  have hgv:=decV_good b
  obtain ⟨vs,hvs⟩ : ∃ vs,vs = decV b:=⟨_,rfl⟩
  rw [← hvs] at c1 hl hgv ⊢
  have tv:=take_vl vs
  have lv:=vl_length vs
  have pv:=vl_pur vs
  rcases ownV_or vs with ⟨h0,e⟩ | ⟨h0,e⟩
  · have c2:=rfind_ok .full nm [] (by simp)
    have ef : findV nm [] = -1:=rfl
    rw [vl_nil,List.length_nil,ef] at c2
    rw [e] at c1
    have e1 : gnE vs nm = 16:=by rw [h0]; rfl
    rw [e1,if_neg (by decide)]
    repeat' (first | simp -implicitDefEqProofs (maxSteps:=2000000) only [m24_1,m24_2,m24_3,m24_4,m24_5,m24_6,m24_7,m24_r,m24_b,m24,lb,tb,bl_scal,bl_allO,wk,act,asV,↓reduceIte,Nat.reduceEqDiff,reduceCtorEq,Nat.reduceAdd,Nat.reduceLeDiff,Nat.reduceSub,Nat.reduceMul,List.reduceReplicate,Int.reduceEq,Int.reduceLT,Int.reduceLE,Int.reduceAdd,Int.reduceSub,Int.reduceMul,Nat.reduceLT,Int.reduceToNat] | ((first | ((with_reducible refine CallL.gate ?_); apply CallL.of) | ((with_reducible refine CallP.gate ?_); apply CallP.of)); (case h1 => (simp -implicitDefEqProofs (maxSteps:=2000000) only [m24_1,m24_2,m24_3,m24_4,m24_5,m24_6,m24_7,m24_r,m24_b,m24,lb,tb,bl_scal,bl_allO,wk,act,asV,↓reduceIte,Nat.reduceEqDiff,reduceCtorEq,Nat.reduceAdd,Nat.reduceLeDiff,Nat.reduceSub,Nat.reduceMul,List.reduceReplicate,Int.reduceEq,Int.reduceLT,Int.reduceLE,Int.reduceAdd,Int.reduceSub,Int.reduceMul,Nat.reduceLT,Int.reduceToNat]; first | done | (with_reducible rfl))); (case h2 => (first | exact c1 | exact c2)); (case h3 => simp -implicitDefEqProofs (maxSteps:=2000000) only [m24_1,m24_2,m24_3,m24_4,m24_5,m24_6,m24_7,m24_r,m24_b,m24,lb,tb,bl_scal,bl_allO,wk,act,asV,↓reduceIte,Nat.reduceEqDiff,reduceCtorEq,Nat.reduceAdd,Nat.reduceLeDiff,Nat.reduceSub,Nat.reduceMul,List.reduceReplicate,Int.reduceEq,Int.reduceLT,Int.reduceLE,Int.reduceAdd,Int.reduceSub,Int.reduceMul,Nat.reduceLT,Int.reduceToNat])))
  · have c2:=rfind_ok .plain nm vs (by omega)
    rw [e] at c1
    rcases findV_cases nm vs with hf | ⟨i,hi,hf⟩
    · rw [hf] at c2
      have e1 : gnE vs nm = 16:=by unfold gnE; rw [if_pos (by omega)]
      rw [e1,if_neg (by decide)]
      repeat' (first | simp -implicitDefEqProofs (maxSteps:=2000000) only [m24_1,m24_2,m24_3,m24_4,m24_5,m24_6,m24_7,m24_r,m24_b,m24,lb,tb,tv,lv,pv,bl_scal,bl_allO,wk,act,asV,↓reduceIte,Nat.reduceEqDiff,reduceCtorEq,Nat.reduceAdd,Nat.reduceLeDiff,Nat.reduceSub,Nat.reduceMul,List.reduceReplicate,Int.reduceEq,Int.reduceLT,Int.reduceLE,Int.reduceAdd,Int.reduceSub,Int.reduceMul,Nat.reduceLT,Int.reduceToNat] | ((first | ((with_reducible refine CallL.gate ?_); apply CallL.of) | ((with_reducible refine CallP.gate ?_); apply CallP.of)); (case h1 => (simp -implicitDefEqProofs (maxSteps:=2000000) only [m24_1,m24_2,m24_3,m24_4,m24_5,m24_6,m24_7,m24_r,m24_b,m24,lb,tb,tv,lv,pv,bl_scal,bl_allO,wk,act,asV,↓reduceIte,Nat.reduceEqDiff,reduceCtorEq,Nat.reduceAdd,Nat.reduceLeDiff,Nat.reduceSub,Nat.reduceMul,List.reduceReplicate,Int.reduceEq,Int.reduceLT,Int.reduceLE,Int.reduceAdd,Int.reduceSub,Int.reduceMul,Nat.reduceLT,Int.reduceToNat]; first | done | (with_reducible rfl))); (case h2 => (first | exact c1 | exact c2)); (case h3 => simp -implicitDefEqProofs (maxSteps:=2000000) only [m24_1,m24_2,m24_3,m24_4,m24_5,m24_6,m24_7,m24_r,m24_b,m24,lb,tb,tv,lv,pv,bl_scal,bl_allO,wk,act,asV,↓reduceIte,Nat.reduceEqDiff,reduceCtorEq,Nat.reduceAdd,Nat.reduceLeDiff,Nat.reduceSub,Nat.reduceMul,List.reduceReplicate,Int.reduceEq,Int.reduceLT,Int.reduceLE,Int.reduceAdd,Int.reduceSub,Int.reduceMul,Nat.reduceLT,Int.reduceToNat])))
    · have e1 : gnE vs nm = 0:=by unfold gnE; rw [if_neg (by omega)]
      rw [e1,if_pos rfl]
      unfold gnP
      rw [hf] at c2
      rw [hf,Int.toNat_natCast]
      have hi0 : ¬ ((i : Nat) : Int) < 0:=by omega
      have wi : IntKind.i64.wrap (((i : Nat) : Int) + 1) = ((i + 1 : Nat) : Int):=by rw [IntKind.wrap_i64]; omega
      have hge:=good_erase hgv i
      have hle : (vs.eraseIdx i).length = vs.length - 1:=List.length_eraseIdx_of_lt hi
      have c3:=encR_ok .plain (by simp) (vs.eraseIdx i) (good_vs hge)
      rw [show tabR (vs.eraseIdx i) = tabB (vs.eraseIdx i) from if_pos hge,show tabE (vs.eraseIdx i) = 0 from if_pos hge,hle] at c3
      have dB:=tabB_length (goodV_len hge)
      have tE:=take_vl (vs.eraseIdx i)
      have pE:=vl_pur (vs.eraseIdx i)
      rw [hle] at tE
      have eI:=vl_erase hi
      have tI : List.take (i * 2) (vl vs) = vl (vs.take i):=by
        have e2 : vl vs = vl (vs.take i) ++ vl (vs.drop i):=by rw [← vl_append,List.take_append_drop]
        have l1 : (vl (vs.take i)).length = i * 2:=by rw [vl_length,List.length_take]; omega
        rw [e2,← l1,List.take_left]
      rw [tI] at eI
      have lI : (vl (vs.take i)).length = i * 2:=by rw [vl_length,List.length_take]; omega
      have tD : List.take ((vs.length - (i + 1)) * 2) (List.drop ((i + 1) * 2) (vl vs)) = List.drop ((i + 1) * 2) (vl vs):=List.take_of_length_le (by rw [List.length_drop,lv]; omega)
      have hsum : i + (vs.length - (i + 1)) = vs.length - 1:=by omega
      have r1 : roomy i 40 = true:=roomy40 (by omega)
      have r2 : roomy (vs.length - 1) 40 = true:=roomy40 (by omega)
      have hin1 : i ≤ vs.length:=by omega
      have hin2 : i + 1 ≤ vs.length:=by omega
      have lB' : (bl (tabB (vs.eraseIdx i))).length = 32:=by rw [bl_length,dB]
      have eP : ptL [(0,tabB (vs.eraseIdx i))] = ptC (0,tabB (vs.eraseIdx i)):=by simp [ptL]
      rw [eP]
      obtain ⟨B,hB⟩ : ∃ B,B = tabB (vs.eraseIdx i):=⟨_,rfl⟩
      rw [← hB] at c3 dB lB' ⊢
      have lB:=lB'
      have tB : List.take 32 (bl B) = bl B:=List.take_of_length_le (by omega)
      have xB : List.drop 32 (bl B) = []:=List.drop_of_length_le (by omega)
      have hpl:=placed33d dB
      have lp : (ptC (0,B)).length = 33:=ptC_length dB
      have sp:=ptC_scal (0,B)
      have tp : List.take 33 (ptC (0,B)) = ptC (0,B):=List.take_of_length_le (by omega)
      repeat' (first | simp -implicitDefEqProofs (maxSteps:=2000000) only [m24,m24_r,m24_b,m24_1,m24_2,m24_5,m24_6,m24_7,lb,tb,tv,lv,pv,hi0,bl_scal,bl_allO,wk,act,asV,↓reduceIte,Nat.reduceEqDiff,reduceCtorEq,Nat.reduceAdd,Nat.reduceLeDiff,Nat.reduceSub,Nat.reduceMul,List.reduceReplicate,Int.reduceEq,Int.reduceLT,Int.reduceLE,Int.reduceAdd,Int.reduceSub,Int.reduceMul,Nat.reduceLT,Int.reduceToNat] | ((first | ((with_reducible refine CallL.gate ?_); apply CallL.of) | ((with_reducible refine CallP.gate ?_); apply CallP.of)); (case h1 => (simp -implicitDefEqProofs (maxSteps:=2000000) only [m24,m24_r,m24_b,m24_1,m24_2,m24_5,m24_6,m24_7,lb,tb,tv,lv,pv,hi0,bl_scal,bl_allO,wk,act,asV,↓reduceIte,Nat.reduceEqDiff,reduceCtorEq,Nat.reduceAdd,Nat.reduceLeDiff,Nat.reduceSub,Nat.reduceMul,List.reduceReplicate,Int.reduceEq,Int.reduceLT,Int.reduceLE,Int.reduceAdd,Int.reduceSub,Int.reduceMul,Nat.reduceLT,Int.reduceToNat]; first | done | (with_reducible rfl))); (case h2 => (first | exact c1 | exact c2)); (case h3 => simp -implicitDefEqProofs (maxSteps:=2000000) only [m24,m24_r,m24_b,m24_1,m24_2,m24_5,m24_6,m24_7,lb,tb,tv,lv,pv,hi0,bl_scal,bl_allO,wk,act,asV,↓reduceIte,Nat.reduceEqDiff,reduceCtorEq,Nat.reduceAdd,Nat.reduceLeDiff,Nat.reduceSub,Nat.reduceMul,List.reduceReplicate,Int.reduceEq,Int.reduceLT,Int.reduceLE,Int.reduceAdd,Int.reduceSub,Int.reduceMul,Nat.reduceLT,Int.reduceToNat])))
      obtain ⟨v11,hv11⟩ : ∃ v11,v11 = (deadH 11).ver + 1:=⟨_,rfl⟩
      obtain ⟨w22,hw22⟩ : ∃ w22,w22 = (deadH 22).ver + 1:=⟨_,rfl⟩
      obtain ⟨w27,hw27⟩ : ∃ w27,w27 = (deadH 27).ver + 1:=⟨_,rfl⟩
      simp -implicitDefEqProofs (maxSteps:=2000000) only [m24_4,wk,act,asV,↓reduceIte,Nat.reduceEqDiff,reduceCtorEq,Nat.reduceAdd,Nat.reduceLeDiff,Nat.reduceSub,Nat.reduceMul,List.reduceReplicate,Int.reduceEq,Int.reduceLT,Int.reduceLE,Int.reduceAdd,Int.reduceSub,Int.reduceMul,Nat.reduceLT,Int.reduceToNat]
      obtain ⟨Inv,hInv⟩ : ∃ Inv : (Nat → Bool) → St → Prop,Inv = fun (L : Nat → Bool) (s : St) => s.t 6 = .row 11 0 vs.length 2 v11 ∧ s.t 7 = .int .i64 (i : Nat) ∧ s.h 11 = ⟨v11,true,true,true,vl vs⟩ ∧ (L 9 = false → L 4 = true → s.h 22 = ⟨w22,true,true,true,vl (vs.take i)⟩) ∧ (L 4 = false → (s.h 22).ver + 1 = w22) ∧ (L 9 = true → s.h 27 = ⟨w27,true,true,true,vl (vs.eraseIdx i)⟩) ∧ (L 9 = false → (s.h 27).ver + 1 = w27) ∧ (L 0 = true → s.t 18 = .sl .lit 0 []) ∧ (L 1 = true → s.t 19 = .row 11 0 vs.length 2 v11) ∧ (L 2 = true → s.t 20 = .int .i64 (i : Nat)) ∧ (L 3 = true → s.t 21 = .row 11 0 i 2 v11) ∧ (L 4 = true → s.t 22 = .row 22 0 i 2 w22) ∧ (L 5 = true → s.t 23 = .row 11 0 vs.length 2 v11) ∧ (L 6 = true → s.t 24 = .int .i64 (i : Nat)) ∧ (L 7 = true → s.t 25 = .int .i64 ((i + 1 : Nat) : Int)) ∧ (L 8 = true → s.t 26 = .row 11 ((i + 1) * 2) (vs.length - (i + 1)) 2 v11) ∧ (L 9 = true → s.t 27 = .row 27 0 (vs.length - 1) 2 w27) ∧ (L 10 = true → s.t 28 = .tup [.agg (bl B),.int .i64 0]) ∧ (L 11 = true → s.t 17 = .tup [.agg (bl B),.int .i64 0]) ∧ (L 12 = true → s.t 29 = .agg (bl B)) ∧ (L 13 = true → s.t 30 = .int .i64 0) ∧ (L 14 = true → ∃ v c,s.t 8 = .ptr 8 0 v ∧ s.h 8 = ⟨v,true,true,false,c⟩ ∧ c.length = 32 ∧ (L 15 = true → c = bl B)) ∧ (L 16 = true → s.t 9 = .int .i64 0) ∧ (L 9 = true → L 4 = true) ∧ (L 15 = true → L 14 = true):=⟨_,rfl⟩
      refine Wp_drxI Inv ?_ ?_ ?_
      · rw [hInv]
        exact ⟨by simp -implicitDefEqProofs (maxSteps:=2000000) only [hv11,wk,act,asV,↓reduceIte,Nat.reduceEqDiff,reduceCtorEq,Nat.reduceAdd,Nat.reduceLeDiff,Nat.reduceSub,Nat.reduceMul,List.reduceReplicate,Int.reduceEq,Int.reduceLT,Int.reduceLE,Int.reduceAdd,Int.reduceSub,Int.reduceMul,Nat.reduceLT,Int.reduceToNat]; first | done | rfl,by simp -implicitDefEqProofs (maxSteps:=2000000) only [hv11,wk,act,asV,↓reduceIte,Nat.reduceEqDiff,reduceCtorEq,Nat.reduceAdd,Nat.reduceLeDiff,Nat.reduceSub,Nat.reduceMul,List.reduceReplicate,Int.reduceEq,Int.reduceLT,Int.reduceLE,Int.reduceAdd,Int.reduceSub,Int.reduceMul,Nat.reduceLT,Int.reduceToNat]; first | done | rfl,by simp -implicitDefEqProofs (maxSteps:=2000000) only [hv11,wk,act,asV,↓reduceIte,Nat.reduceEqDiff,reduceCtorEq,Nat.reduceAdd,Nat.reduceLeDiff,Nat.reduceSub,Nat.reduceMul,List.reduceReplicate,Int.reduceEq,Int.reduceLT,Int.reduceLE,Int.reduceAdd,Int.reduceSub,Int.reduceMul,Nat.reduceLT,Int.reduceToNat]; first | done | rfl,fun _ h => Bool.noConfusion (show false = true from h),fun _ => by simp -implicitDefEqProofs (maxSteps:=2000000) only [hw22,wk,act,asV,↓reduceIte,Nat.reduceEqDiff,reduceCtorEq,Nat.reduceAdd,Nat.reduceLeDiff,Nat.reduceSub,Nat.reduceMul,List.reduceReplicate,Int.reduceEq,Int.reduceLT,Int.reduceLE,Int.reduceAdd,Int.reduceSub,Int.reduceMul,Nat.reduceLT,Int.reduceToNat]; first | done | rfl,fun h => Bool.noConfusion (show false = true from h),fun _ => by simp -implicitDefEqProofs (maxSteps:=2000000) only [hw27,wk,act,asV,↓reduceIte,Nat.reduceEqDiff,reduceCtorEq,Nat.reduceAdd,Nat.reduceLeDiff,Nat.reduceSub,Nat.reduceMul,List.reduceReplicate,Int.reduceEq,Int.reduceLT,Int.reduceLE,Int.reduceAdd,Int.reduceSub,Int.reduceMul,Nat.reduceLT,Int.reduceToNat]; first | done | rfl,fun h => absurd (h : false = true) (by decide),fun h => absurd (h : false = true) (by decide),fun h => absurd (h : false = true) (by decide),fun h => absurd (h : false = true) (by decide),fun h => absurd (h : false = true) (by decide),fun h => absurd (h : false = true) (by decide),fun h => absurd (h : false = true) (by decide),fun h => absurd (h : false = true) (by decide),fun h => absurd (h : false = true) (by decide),fun h => absurd (h : false = true) (by decide),fun h => absurd (h : false = true) (by decide),fun h => absurd (h : false = true) (by decide),fun h => absurd (h : false = true) (by decide),fun h => absurd (h : false = true) (by decide),fun h => absurd (h : false = true) (by decide),fun h => absurd (h : false = true) (by decide),fun h => absurd (h : false = true) (by decide),fun h => absurd (h : false = true) (by decide)⟩
      · refine stepsX_cons ?_ (stepsX_cons ?_ (stepsX_cons ?_ (stepsX_cons ?_ (stepsX_cons ?_ (stepsX_cons ?_ (stepsX_cons ?_ (stepsX_cons ?_ (stepsX_cons ?_ (stepsX_cons ?_ (stepsX_cons ?_ (stepsX_cons ?_ (stepsX_cons ?_ (stepsX_cons ?_ (stepsX_cons ?_ (stepsX_cons ?_ (stepsX_cons ?_ (stepsX_nil)))))))))))))))))
        · intro L s hL hp hI
          rw [hInv] at hI
          obtain ⟨k6,k7,kh11,k22,k22v,k27,k27v,f0,f1,f2,f3,f4,f5,f6,f7,f8,f9,f10,f11,f12,f13,f14,f16,g4,g15⟩:=hI
          simp -implicitDefEqProofs (maxSteps:=2000000) only [wk,act,asV,↓reduceIte,Nat.reduceEqDiff,reduceCtorEq,Nat.reduceAdd,Nat.reduceLeDiff,Nat.reduceSub,Nat.reduceMul,List.reduceReplicate,Int.reduceEq,Int.reduceLT,Int.reduceLE,Int.reduceAdd,Int.reduceSub,Int.reduceMul,Nat.reduceLT,Int.reduceToNat]
          rw [hInv]
          exact ⟨k6,k7,kh11,k22,k22v,k27,k27v,fun _ => rfl,f1,f2,f3,f4,f5,f6,f7,f8,f9,f10,f11,f12,f13,f14,f16,g4,g15⟩
        · intro L s hL hp hI
          rw [hInv] at hI
          obtain ⟨k6,k7,kh11,k22,k22v,k27,k27v,f0,f1,f2,f3,f4,f5,f6,f7,f8,f9,f10,f11,f12,f13,f14,f16,g4,g15⟩:=hI
          simp -implicitDefEqProofs (maxSteps:=2000000) only [k6,wk,act,asV,↓reduceIte,Nat.reduceEqDiff,reduceCtorEq,Nat.reduceAdd,Nat.reduceLeDiff,Nat.reduceSub,Nat.reduceMul,List.reduceReplicate,Int.reduceEq,Int.reduceLT,Int.reduceLE,Int.reduceAdd,Int.reduceSub,Int.reduceMul,Nat.reduceLT,Int.reduceToNat]
          rw [hInv]
          exact ⟨k6,k7,kh11,k22,k22v,k27,k27v,f0,fun _ => rfl,f2,f3,f4,f5,f6,f7,f8,f9,f10,f11,f12,f13,f14,f16,g4,g15⟩
        · intro L s hL hp hI
          rw [hInv] at hI
          obtain ⟨k6,k7,kh11,k22,k22v,k27,k27v,f0,f1,f2,f3,f4,f5,f6,f7,f8,f9,f10,f11,f12,f13,f14,f16,g4,g15⟩:=hI
          simp -implicitDefEqProofs (maxSteps:=2000000) only [k7,wk,act,asV,↓reduceIte,Nat.reduceEqDiff,reduceCtorEq,Nat.reduceAdd,Nat.reduceLeDiff,Nat.reduceSub,Nat.reduceMul,List.reduceReplicate,Int.reduceEq,Int.reduceLT,Int.reduceLE,Int.reduceAdd,Int.reduceSub,Int.reduceMul,Nat.reduceLT,Int.reduceToNat]
          rw [hInv]
          exact ⟨k6,k7,kh11,k22,k22v,k27,k27v,f0,f1,fun _ => rfl,f3,f4,f5,f6,f7,f8,f9,f10,f11,f12,f13,f14,f16,g4,g15⟩
        · intro L s hL hp hI
          rw [hInv] at hI
          obtain ⟨k6,k7,kh11,k22,k22v,k27,k27v,f0,f1,f2,f3,f4,f5,f6,f7,f8,f9,f10,f11,f12,f13,f14,f16,g4,g15⟩:=hI
          have p1:=f1 (hp 1 (by simp))
          have p2:=f2 (hp 2 (by simp))
          simp -implicitDefEqProofs (maxSteps:=2000000) only [p1,p2,hin1,Nat.sub_zero,wk,act,asV,↓reduceIte,Nat.reduceEqDiff,reduceCtorEq,Nat.reduceAdd,Nat.reduceLeDiff,Nat.reduceSub,Nat.reduceMul,List.reduceReplicate,Int.reduceEq,Int.reduceLT,Int.reduceLE,Int.reduceAdd,Int.reduceSub,Int.reduceMul,Nat.reduceLT,Int.reduceToNat]
          rw [hInv]
          exact ⟨k6,k7,kh11,k22,k22v,k27,k27v,f0,f1,f2,fun _ => rfl,f4,f5,f6,f7,f8,f9,f10,f11,f12,f13,f14,f16,g4,g15⟩
        · intro L s hL hp hI
          rw [hInv] at hI
          obtain ⟨k6,k7,kh11,k22,k22v,k27,k27v,f0,f1,f2,f3,f4,f5,f6,f7,f8,f9,f10,f11,f12,f13,f14,f16,g4,g15⟩:=hI
          have p0:=f0 (hp 0 (by simp))
          have p3:=f3 (hp 3 (by simp))
          have kv:=k22v hL
          simp -implicitDefEqProofs (maxSteps:=2000000) only [p0,p3,kh11,tI,r1,kv,wk,act,asV,↓reduceIte,Nat.reduceEqDiff,reduceCtorEq,Nat.reduceAdd,Nat.reduceLeDiff,Nat.reduceSub,Nat.reduceMul,List.reduceReplicate,Int.reduceEq,Int.reduceLT,Int.reduceLE,Int.reduceAdd,Int.reduceSub,Int.reduceMul,Nat.reduceLT,Int.reduceToNat]
          rw [hInv]
          exact ⟨k6,k7,kh11,fun _ _ => rfl,fun h => Bool.noConfusion (show true = false from h),k27,k27v,f0,f1,f2,f3,fun _ => rfl,f5,f6,f7,f8,f9,f10,f11,f12,f13,f14,f16,fun _ => rfl,g15⟩
        · intro L s hL hp hI
          rw [hInv] at hI
          obtain ⟨k6,k7,kh11,k22,k22v,k27,k27v,f0,f1,f2,f3,f4,f5,f6,f7,f8,f9,f10,f11,f12,f13,f14,f16,g4,g15⟩:=hI
          simp -implicitDefEqProofs (maxSteps:=2000000) only [k6,wk,act,asV,↓reduceIte,Nat.reduceEqDiff,reduceCtorEq,Nat.reduceAdd,Nat.reduceLeDiff,Nat.reduceSub,Nat.reduceMul,List.reduceReplicate,Int.reduceEq,Int.reduceLT,Int.reduceLE,Int.reduceAdd,Int.reduceSub,Int.reduceMul,Nat.reduceLT,Int.reduceToNat]
          rw [hInv]
          exact ⟨k6,k7,kh11,k22,k22v,k27,k27v,f0,f1,f2,f3,f4,fun _ => rfl,f6,f7,f8,f9,f10,f11,f12,f13,f14,f16,g4,g15⟩
        · intro L s hL hp hI
          rw [hInv] at hI
          obtain ⟨k6,k7,kh11,k22,k22v,k27,k27v,f0,f1,f2,f3,f4,f5,f6,f7,f8,f9,f10,f11,f12,f13,f14,f16,g4,g15⟩:=hI
          simp -implicitDefEqProofs (maxSteps:=2000000) only [k7,wk,act,asV,↓reduceIte,Nat.reduceEqDiff,reduceCtorEq,Nat.reduceAdd,Nat.reduceLeDiff,Nat.reduceSub,Nat.reduceMul,List.reduceReplicate,Int.reduceEq,Int.reduceLT,Int.reduceLE,Int.reduceAdd,Int.reduceSub,Int.reduceMul,Nat.reduceLT,Int.reduceToNat]
          rw [hInv]
          exact ⟨k6,k7,kh11,k22,k22v,k27,k27v,f0,f1,f2,f3,f4,f5,fun _ => rfl,f7,f8,f9,f10,f11,f12,f13,f14,f16,g4,g15⟩
        · intro L s hL hp hI
          rw [hInv] at hI
          obtain ⟨k6,k7,kh11,k22,k22v,k27,k27v,f0,f1,f2,f3,f4,f5,f6,f7,f8,f9,f10,f11,f12,f13,f14,f16,g4,g15⟩:=hI
          have p6:=f6 (hp 6 (by simp))
          simp -implicitDefEqProofs (maxSteps:=2000000) only [p6,wi,wk,act,asV,↓reduceIte,Nat.reduceEqDiff,reduceCtorEq,Nat.reduceAdd,Nat.reduceLeDiff,Nat.reduceSub,Nat.reduceMul,List.reduceReplicate,Int.reduceEq,Int.reduceLT,Int.reduceLE,Int.reduceAdd,Int.reduceSub,Int.reduceMul,Nat.reduceLT,Int.reduceToNat]
          rw [hInv]
          exact ⟨k6,k7,kh11,k22,k22v,k27,k27v,f0,f1,f2,f3,f4,f5,f6,fun _ => rfl,f8,f9,f10,f11,f12,f13,f14,f16,g4,g15⟩
        · intro L s hL hp hI
          rw [hInv] at hI
          obtain ⟨k6,k7,kh11,k22,k22v,k27,k27v,f0,f1,f2,f3,f4,f5,f6,f7,f8,f9,f10,f11,f12,f13,f14,f16,g4,g15⟩:=hI
          have p5:=f5 (hp 5 (by simp))
          have p7:=f7 (hp 7 (by simp))
          simp -implicitDefEqProofs (maxSteps:=2000000) only [p5,p7,hin2,Nat.zero_add,wk,act,asV,↓reduceIte,Nat.reduceEqDiff,reduceCtorEq,Nat.reduceAdd,Nat.reduceLeDiff,Nat.reduceSub,Nat.reduceMul,List.reduceReplicate,Int.reduceEq,Int.reduceLT,Int.reduceLE,Int.reduceAdd,Int.reduceSub,Int.reduceMul,Nat.reduceLT,Int.reduceToNat]
          rw [hInv]
          exact ⟨k6,k7,kh11,k22,k22v,k27,k27v,f0,f1,f2,f3,f4,f5,f6,f7,fun _ => rfl,f9,f10,f11,f12,f13,f14,f16,g4,g15⟩
        · intro L s hL hp hI
          rw [hInv] at hI
          obtain ⟨k6,k7,kh11,k22,k22v,k27,k27v,f0,f1,f2,f3,f4,f5,f6,f7,f8,f9,f10,f11,f12,f13,f14,f16,g4,g15⟩:=hI
          have p4:=f4 (hp 4 (by simp))
          have p8:=f8 (hp 8 (by simp))
          have kh22:=k22 hL (hp 4 (by simp))
          have kv:=k27v hL
          simp -implicitDefEqProofs (maxSteps:=2000000) only [p4,p8,kh11,kh22,tD,lI,r2,kv,eI,hsum,wk,act,asV,↓reduceIte,Nat.reduceEqDiff,reduceCtorEq,Nat.reduceAdd,Nat.reduceLeDiff,Nat.reduceSub,Nat.reduceMul,List.reduceReplicate,Int.reduceEq,Int.reduceLT,Int.reduceLE,Int.reduceAdd,Int.reduceSub,Int.reduceMul,Nat.reduceLT,Int.reduceToNat]
          rw [hInv]
          exact ⟨k6,k7,kh11,fun h => Bool.noConfusion (show true = false from h),fun h => absurd (hp 4 (by simp)) (by rw [show L 4 = false from h]; decide),fun _ => rfl,fun h => Bool.noConfusion (show true = false from h),f0,f1,f2,f3,f4,f5,f6,f7,f8,fun _ => rfl,f10,f11,f12,f13,f14,f16,fun _ => hp 4 (by simp),g15⟩
        · intro L s hL hp hI
          rw [hInv] at hI
          obtain ⟨k6,k7,kh11,k22,k22v,k27,k27v,f0,f1,f2,f3,f4,f5,f6,f7,f8,f9,f10,f11,f12,f13,f14,f16,g4,g15⟩:=hI
          have p9:=f9 (hp 9 (by simp))
          have kh27:=k27 (hp 9 (by simp))
          repeat' (first | simp -implicitDefEqProofs (maxSteps:=2000000) only [p9,kh27,tE,pE,bl_scal,wk,act,asV,↓reduceIte,Nat.reduceEqDiff,reduceCtorEq,Nat.reduceAdd,Nat.reduceLeDiff,Nat.reduceSub,Nat.reduceMul,List.reduceReplicate,Int.reduceEq,Int.reduceLT,Int.reduceLE,Int.reduceAdd,Int.reduceSub,Int.reduceMul,Nat.reduceLT,Int.reduceToNat] | ((first | ((with_reducible refine CallL.gate ?_); apply CallL.of) | ((with_reducible refine CallP.gate ?_); apply CallP.of)); (case h1 => (simp -implicitDefEqProofs (maxSteps:=2000000) only [p9,kh27,tE,pE,bl_scal,wk,act,asV,↓reduceIte,Nat.reduceEqDiff,reduceCtorEq,Nat.reduceAdd,Nat.reduceLeDiff,Nat.reduceSub,Nat.reduceMul,List.reduceReplicate,Int.reduceEq,Int.reduceLT,Int.reduceLE,Int.reduceAdd,Int.reduceSub,Int.reduceMul,Nat.reduceLT,Int.reduceToNat]; first | done | (with_reducible rfl))); (case h2 => (first | exact c3)); (case h3 => simp -implicitDefEqProofs (maxSteps:=2000000) only [p9,kh27,tE,pE,bl_scal,wk,act,asV,↓reduceIte,Nat.reduceEqDiff,reduceCtorEq,Nat.reduceAdd,Nat.reduceLeDiff,Nat.reduceSub,Nat.reduceMul,List.reduceReplicate,Int.reduceEq,Int.reduceLT,Int.reduceLE,Int.reduceAdd,Int.reduceSub,Int.reduceMul,Nat.reduceLT,Int.reduceToNat])))
          rw [hInv]
          exact ⟨k6,k7,kh11,k22,k22v,k27,k27v,f0,f1,f2,f3,f4,f5,f6,f7,f8,f9,fun _ => rfl,f11,f12,f13,f14,f16,g4,g15⟩
        · intro L s hL hp hI
          rw [hInv] at hI
          obtain ⟨k6,k7,kh11,k22,k22v,k27,k27v,f0,f1,f2,f3,f4,f5,f6,f7,f8,f9,f10,f11,f12,f13,f14,f16,g4,g15⟩:=hI
          have p10:=f10 (hp 10 (by simp))
          simp -implicitDefEqProofs (maxSteps:=2000000) only [p10,wk,act,asV,↓reduceIte,Nat.reduceEqDiff,reduceCtorEq,Nat.reduceAdd,Nat.reduceLeDiff,Nat.reduceSub,Nat.reduceMul,List.reduceReplicate,Int.reduceEq,Int.reduceLT,Int.reduceLE,Int.reduceAdd,Int.reduceSub,Int.reduceMul,Nat.reduceLT,Int.reduceToNat]
          rw [hInv]
          exact ⟨k6,k7,kh11,k22,k22v,k27,k27v,f0,f1,f2,f3,f4,f5,f6,f7,f8,f9,f10,fun _ => rfl,f12,f13,f14,f16,g4,g15⟩
        · intro L s hL hp hI
          rw [hInv] at hI
          obtain ⟨k6,k7,kh11,k22,k22v,k27,k27v,f0,f1,f2,f3,f4,f5,f6,f7,f8,f9,f10,f11,f12,f13,f14,f16,g4,g15⟩:=hI
          have p11:=f11 (hp 11 (by simp))
          simp -implicitDefEqProofs (maxSteps:=2000000) only [p11,wk,act,asV,↓reduceIte,Nat.reduceEqDiff,reduceCtorEq,Nat.reduceAdd,Nat.reduceLeDiff,Nat.reduceSub,Nat.reduceMul,List.reduceReplicate,Int.reduceEq,Int.reduceLT,Int.reduceLE,Int.reduceAdd,Int.reduceSub,Int.reduceMul,Nat.reduceLT,Int.reduceToNat]
          rw [hInv]
          exact ⟨k6,k7,kh11,k22,k22v,k27,k27v,f0,f1,f2,f3,f4,f5,f6,f7,f8,f9,f10,f11,fun _ => rfl,f13,f14,f16,g4,g15⟩
        · intro L s hL hp hI
          rw [hInv] at hI
          obtain ⟨k6,k7,kh11,k22,k22v,k27,k27v,f0,f1,f2,f3,f4,f5,f6,f7,f8,f9,f10,f11,f12,f13,f14,f16,g4,g15⟩:=hI
          have p11:=f11 (hp 11 (by simp))
          simp -implicitDefEqProofs (maxSteps:=2000000) only [p11,wk,act,asV,↓reduceIte,Nat.reduceEqDiff,reduceCtorEq,Nat.reduceAdd,Nat.reduceLeDiff,Nat.reduceSub,Nat.reduceMul,List.reduceReplicate,Int.reduceEq,Int.reduceLT,Int.reduceLE,Int.reduceAdd,Int.reduceSub,Int.reduceMul,Nat.reduceLT,Int.reduceToNat]
          rw [hInv]
          exact ⟨k6,k7,kh11,k22,k22v,k27,k27v,f0,f1,f2,f3,f4,f5,f6,f7,f8,f9,f10,f11,f12,fun _ => rfl,f14,f16,g4,g15⟩
        · intro L s hL hp hI
          rw [hInv] at hI
          obtain ⟨k6,k7,kh11,k22,k22v,k27,k27v,f0,f1,f2,f3,f4,f5,f6,f7,f8,f9,f10,f11,f12,f13,f14,f16,g4,g15⟩:=hI
          simp -implicitDefEqProofs (maxSteps:=2000000) only [wk,act,asV,↓reduceIte,Nat.reduceEqDiff,reduceCtorEq,Nat.reduceAdd,Nat.reduceLeDiff,Nat.reduceSub,Nat.reduceMul,List.reduceReplicate,Int.reduceEq,Int.reduceLT,Int.reduceLE,Int.reduceAdd,Int.reduceSub,Int.reduceMul,Nat.reduceLT,Int.reduceToNat]
          rw [hInv]
          exact ⟨k6,k7,kh11,k22,k22v,k27,k27v,f0,f1,f2,f3,f4,f5,f6,f7,f8,f9,f10,f11,f12,f13,fun _ => ⟨_,_,rfl,rfl,rfl,fun h => absurd (g15 h) (by rw [hL]; decide)⟩,f16,g4,fun _ => rfl⟩
        · intro L s hL hp hI
          rw [hInv] at hI
          obtain ⟨k6,k7,kh11,k22,k22v,k27,k27v,f0,f1,f2,f3,f4,f5,f6,f7,f8,f9,f10,f11,f12,f13,f14,f16,g4,g15⟩:=hI
          have p12:=f12 (hp 12 (by simp))
          have p:=hp 14 (by simp)
          obtain ⟨va,ca,q4,qh4,ql,_⟩:=f14 p
          have xc : List.drop 32 ca = []:=List.drop_of_length_le (by omega)
          simp -implicitDefEqProofs (maxSteps:=2000000) only [p12,q4,qh4,ql,xc,lB,tB,wk,act,asV,↓reduceIte,Nat.reduceEqDiff,reduceCtorEq,Nat.reduceAdd,Nat.reduceLeDiff,Nat.reduceSub,Nat.reduceMul,List.reduceReplicate,Int.reduceEq,Int.reduceLT,Int.reduceLE,Int.reduceAdd,Int.reduceSub,Int.reduceMul,Nat.reduceLT,Int.reduceToNat]
          rw [hInv]
          exact ⟨k6,k7,kh11,k22,k22v,k27,k27v,f0,f1,f2,f3,f4,f5,f6,f7,f8,f9,f10,f11,f12,f13,fun _ => ⟨va,bl B,q4,rfl,lB,fun _ => rfl⟩,f16,g4,fun _ => p⟩
        · intro L s hL hp hI
          rw [hInv] at hI
          obtain ⟨k6,k7,kh11,k22,k22v,k27,k27v,f0,f1,f2,f3,f4,f5,f6,f7,f8,f9,f10,f11,f12,f13,f14,f16,g4,g15⟩:=hI
          have p13:=f13 (hp 13 (by simp))
          simp -implicitDefEqProofs (maxSteps:=2000000) only [p13,wk,act,asV,↓reduceIte,Nat.reduceEqDiff,reduceCtorEq,Nat.reduceAdd,Nat.reduceLeDiff,Nat.reduceSub,Nat.reduceMul,List.reduceReplicate,Int.reduceEq,Int.reduceLT,Int.reduceLE,Int.reduceAdd,Int.reduceSub,Int.reduceMul,Nat.reduceLT,Int.reduceToNat]
          rw [hInv]
          exact ⟨k6,k7,kh11,k22,k22v,k27,k27v,f0,f1,f2,f3,f4,f5,f6,f7,f8,f9,f10,f11,f12,f13,f14,fun _ => rfl,g4,g15⟩
      · intro s hI
        rw [hInv] at hI
        obtain ⟨k6,k7,kh11,k22,k22v,k27,k27v,f0,f1,f2,f3,f4,f5,f6,f7,f8,f9,f10,f11,f12,f13,f14,f16,g4,g15⟩:=hI
        obtain ⟨w14,c14_,q14,qh14,_,e14⟩:=f14 (by decide)
        rw [e14 (by decide)] at qh14
        simp -implicitDefEqProofs (maxSteps:=2000000) only [m24_3,q14,qh14,lB,tB,hpl,lp,sp,tp,bl_scal,wk,act,asV,↓reduceIte,Nat.reduceEqDiff,reduceCtorEq,Nat.reduceAdd,Nat.reduceLeDiff,Nat.reduceSub,Nat.reduceMul,List.reduceReplicate,Int.reduceEq,Int.reduceLT,Int.reduceLE,Int.reduceAdd,Int.reduceSub,Int.reduceMul,Nat.reduceLT,Int.reduceToNat]
end Go.Proofs.YtilbipknodpmmaaDoor
