/- Of the ops: a table's volumes, where a block stands, a write. -/
import Derived.Test.YtilbipknodpmmaaDoorB4
import Derived.Test.YtilbipknodpmmaaDoorD5
import Derived.Test.YtilbipknodpmmaaDoorB1
import Derived.Test.YtilbipknodpmmaaDoorE31
import Derived.Test.YtilbipknodpmmaaDoorM13
set_option linter.unusedVariables false
set_option linter.unusedSimpArgs false
set_option linter.unusedSectionVars false
set_option maxRecDepth 100000
set_option maxHeartbeats 8000000
namespace Go.Proofs.YtilbipknodpmmaaDoor
open Go.RowKit

theorem bl_allO {p : IV → Bool} (h : ∀ n : Int,p (.int .u8 n) = true) (xs : List UInt8) : (bl xs).all p = true:=by simp [bl,h]
theorem decV_le (b : List UInt8) : (decV b).length ≤ 3:=by
  by_cases h : isB b = true
  · rw [(decV_yes h).1]
    exact goodV_len (by unfold isB at h; simp only [Bool.and_eq_true] at h; exact h.1.2)
  · rw [(decV_no (by simpa using h)).1]; simp
theorem decV_good (b : List UInt8) : goodV (decV b) = true:=by
  by_cases h : isB b = true
  · rw [(decV_yes h).1]
    unfold isB at h
    simp only [Bool.and_eq_true] at h
    exact h.1.2
  · rw [(decV_no (by simpa using h)).1]; rfl
theorem ownV_or (vs : List Vol) : (vs = [] ∧ ownV vs = .sl .full 0 []) ∨ (vs ≠ [] ∧ ownV vs = .own vs.length 2 (vl vs)):=by
  by_cases h : vs = []
  · exact .inl ⟨h,if_pos h⟩
  · exact .inr ⟨h,if_neg h⟩
theorem volsP_ok (b : List UInt8) (hb : b.length = 32) : RC Tryd.prog 16 [.agg (bl b)] [ownV (decV b)]:=by
  refine RC.of_wp c16 rfl ?_
  have c1:=decTab_ok b hb
  have lb : (bl b).length = 32:=by rw [bl_length,hb]
  have tb : List.take 32 (bl b) = bl b:=List.take_of_length_le (by omega)
  have tv:=take_vl (decV b)
  rcases ownV_or (decV b) with ⟨_,e⟩ | ⟨_,e⟩
  · rw [e] at c1 ⊢
    repeat' (first | simp -implicitDefEqProofs (maxSteps:=2000000) only [m16_1,m16_2,m16_3,m16_r,m16_b,m16,lb,tb,bl_scal,bl_allO,wk,act,asV,↓reduceIte,Nat.reduceEqDiff,reduceCtorEq,Nat.reduceAdd,Nat.reduceLeDiff,Nat.reduceSub,Nat.reduceMul,List.reduceReplicate,Int.reduceEq,Int.reduceLT,Int.reduceLE,Int.reduceAdd,Int.reduceSub,Int.reduceMul,Nat.reduceLT,Int.reduceToNat] | ((first | ((with_reducible refine CallL.gate ?_); apply CallL.of) | ((with_reducible refine CallP.gate ?_); apply CallP.of)); (case h1 => (simp -implicitDefEqProofs (maxSteps:=2000000) only [m16_1,m16_2,m16_3,m16_r,m16_b,m16,lb,tb,bl_scal,bl_allO,wk,act,asV,↓reduceIte,Nat.reduceEqDiff,reduceCtorEq,Nat.reduceAdd,Nat.reduceLeDiff,Nat.reduceSub,Nat.reduceMul,List.reduceReplicate,Int.reduceEq,Int.reduceLT,Int.reduceLE,Int.reduceAdd,Int.reduceSub,Int.reduceMul,Nat.reduceLT,Int.reduceToNat]; first | done | (with_reducible rfl))); (case h2 => (first | exact c1)); (case h3 => simp -implicitDefEqProofs (maxSteps:=2000000) only [m16_1,m16_2,m16_3,m16_r,m16_b,m16,lb,tb,bl_scal,bl_allO,wk,act,asV,↓reduceIte,Nat.reduceEqDiff,reduceCtorEq,Nat.reduceAdd,Nat.reduceLeDiff,Nat.reduceSub,Nat.reduceMul,List.reduceReplicate,Int.reduceEq,Int.reduceLT,Int.reduceLE,Int.reduceAdd,Int.reduceSub,Int.reduceMul,Nat.reduceLT,Int.reduceToNat])))
  · rw [e] at c1 ⊢
    repeat' (first | simp -implicitDefEqProofs (maxSteps:=2000000) only [m16_1,m16_2,m16_3,m16_r,m16_b,m16,lb,tb,tv,bl_scal,bl_allO,wk,act,asV,↓reduceIte,Nat.reduceEqDiff,reduceCtorEq,Nat.reduceAdd,Nat.reduceLeDiff,Nat.reduceSub,Nat.reduceMul,List.reduceReplicate,Int.reduceEq,Int.reduceLT,Int.reduceLE,Int.reduceAdd,Int.reduceSub,Int.reduceMul,Nat.reduceLT,Int.reduceToNat] | ((first | ((with_reducible refine CallL.gate ?_); apply CallL.of) | ((with_reducible refine CallP.gate ?_); apply CallP.of)); (case h1 => (simp -implicitDefEqProofs (maxSteps:=2000000) only [m16_1,m16_2,m16_3,m16_r,m16_b,m16,lb,tb,tv,bl_scal,bl_allO,wk,act,asV,↓reduceIte,Nat.reduceEqDiff,reduceCtorEq,Nat.reduceAdd,Nat.reduceLeDiff,Nat.reduceSub,Nat.reduceMul,List.reduceReplicate,Int.reduceEq,Int.reduceLT,Int.reduceLE,Int.reduceAdd,Int.reduceSub,Int.reduceMul,Nat.reduceLT,Int.reduceToNat]; first | done | (with_reducible rfl))); (case h2 => (first | exact c1)); (case h3 => simp -implicitDefEqProofs (maxSteps:=2000000) only [m16_1,m16_2,m16_3,m16_r,m16_b,m16,lb,tb,tv,bl_scal,bl_allO,wk,act,asV,↓reduceIte,Nat.reduceEqDiff,reduceCtorEq,Nat.reduceAdd,Nat.reduceLeDiff,Nat.reduceSub,Nat.reduceMul,List.reduceReplicate,Int.reduceEq,Int.reduceLT,Int.reduceLE,Int.reduceAdd,Int.reduceSub,Int.reduceMul,Nat.reduceLT,Int.reduceToNat])))
theorem volsR_ok (b : List UInt8) (hb : b.length = 32) : RC Tryd.prog 17 [.agg (bl b)] [ownV (decV b)]:=by
  refine RC.of_wp c17 rfl ?_
  have c1:=decR_ok b hb
  have lb : (bl b).length = 32:=by rw [bl_length,hb]
  have tb : List.take 32 (bl b) = bl b:=List.take_of_length_le (by omega)
  have tv:=take_vl (decV b)
  rcases ownV_or (decV b) with ⟨_,e⟩ | ⟨_,e⟩
  · rw [e] at c1 ⊢
    repeat' (first | simp -implicitDefEqProofs (maxSteps:=2000000) only [m17_1,m17_2,m17_3,m17_r,m17_b,m17,lb,tb,bl_scal,bl_allO,wk,act,asV,↓reduceIte,Nat.reduceEqDiff,reduceCtorEq,Nat.reduceAdd,Nat.reduceLeDiff,Nat.reduceSub,Nat.reduceMul,List.reduceReplicate,Int.reduceEq,Int.reduceLT,Int.reduceLE,Int.reduceAdd,Int.reduceSub,Int.reduceMul,Nat.reduceLT,Int.reduceToNat] | ((first | ((with_reducible refine CallL.gate ?_); apply CallL.of) | ((with_reducible refine CallP.gate ?_); apply CallP.of)); (case h1 => (simp -implicitDefEqProofs (maxSteps:=2000000) only [m17_1,m17_2,m17_3,m17_r,m17_b,m17,lb,tb,bl_scal,bl_allO,wk,act,asV,↓reduceIte,Nat.reduceEqDiff,reduceCtorEq,Nat.reduceAdd,Nat.reduceLeDiff,Nat.reduceSub,Nat.reduceMul,List.reduceReplicate,Int.reduceEq,Int.reduceLT,Int.reduceLE,Int.reduceAdd,Int.reduceSub,Int.reduceMul,Nat.reduceLT,Int.reduceToNat]; first | done | (with_reducible rfl))); (case h2 => (first | exact c1)); (case h3 => simp -implicitDefEqProofs (maxSteps:=2000000) only [m17_1,m17_2,m17_3,m17_r,m17_b,m17,lb,tb,bl_scal,bl_allO,wk,act,asV,↓reduceIte,Nat.reduceEqDiff,reduceCtorEq,Nat.reduceAdd,Nat.reduceLeDiff,Nat.reduceSub,Nat.reduceMul,List.reduceReplicate,Int.reduceEq,Int.reduceLT,Int.reduceLE,Int.reduceAdd,Int.reduceSub,Int.reduceMul,Nat.reduceLT,Int.reduceToNat])))
  · rw [e] at c1 ⊢
    repeat' (first | simp -implicitDefEqProofs (maxSteps:=2000000) only [m17_1,m17_2,m17_3,m17_r,m17_b,m17,lb,tb,tv,bl_scal,bl_allO,wk,act,asV,↓reduceIte,Nat.reduceEqDiff,reduceCtorEq,Nat.reduceAdd,Nat.reduceLeDiff,Nat.reduceSub,Nat.reduceMul,List.reduceReplicate,Int.reduceEq,Int.reduceLT,Int.reduceLE,Int.reduceAdd,Int.reduceSub,Int.reduceMul,Nat.reduceLT,Int.reduceToNat] | ((first | ((with_reducible refine CallL.gate ?_); apply CallL.of) | ((with_reducible refine CallP.gate ?_); apply CallP.of)); (case h1 => (simp -implicitDefEqProofs (maxSteps:=2000000) only [m17_1,m17_2,m17_3,m17_r,m17_b,m17,lb,tb,tv,bl_scal,bl_allO,wk,act,asV,↓reduceIte,Nat.reduceEqDiff,reduceCtorEq,Nat.reduceAdd,Nat.reduceLeDiff,Nat.reduceSub,Nat.reduceMul,List.reduceReplicate,Int.reduceEq,Int.reduceLT,Int.reduceLE,Int.reduceAdd,Int.reduceSub,Int.reduceMul,Nat.reduceLT,Int.reduceToNat]; first | done | (with_reducible rfl))); (case h2 => (first | exact c1)); (case h3 => simp -implicitDefEqProofs (maxSteps:=2000000) only [m17_1,m17_2,m17_3,m17_r,m17_b,m17,lb,tb,tv,bl_scal,bl_allO,wk,act,asV,↓reduceIte,Nat.reduceEqDiff,reduceCtorEq,Nat.reduceAdd,Nat.reduceLeDiff,Nat.reduceSub,Nat.reduceMul,List.reduceReplicate,Int.reduceEq,Int.reduceLT,Int.reduceLE,Int.reduceAdd,Int.reduceSub,Int.reduceMul,Nat.reduceLT,Int.reduceToNat])))

def plE (vs : List Vol) (nm : List UInt8) (n : Int) : Int:=if findV nm vs < 0 then 16 else if n < 0 ∨ ((vs.getD (findV nm vs).toNat ⟨[],[]⟩).blocks.length : Int) ≤ n then 17 else 0
def plP (vs : List Vol) (nm : List UInt8) (n : Int) : Int:=if plE vs nm n = 0 then (vs.getD (findV nm vs).toNat ⟨[],[]⟩).blocks.getD n.toNat 0 else 0
theorem findV_cases (nm : List UInt8) (vs : List Vol) : findV nm vs = -1 ∨ ∃ i,i < vs.length ∧ findV nm vs = (i : Nat):=by
  unfold findV
  split
  · rename_i h
    exact .inr ⟨_,h,rfl⟩
  · exact .inl rfl
theorem drop_vl1 {vs : List Vol} {i : Nat} (h : i < vs.length) : List.drop (i * 2 + 1) (vl vs) = .sl .plain vs[i].blocks.length (il vs[i].blocks) :: (vl vs).drop ((i + 1) * 2):=by
  rw [← List.drop_drop,drop_vl h]; rfl
theorem placeP_ok (b nm : List UInt8) (n : Int) (hb : b.length = 32) (hn : nm.length < 2 ^ 63) : RC Tryd.prog 13 [.agg (bl b),.str nm,.int .i64 n] [.int .i64 (plP (decV b) nm n),.int .i64 (plE (decV b) nm n)]:=by
  refine RC.of_wp c13 rfl ?_
  have c1:=volsP_ok b hb
  have lb : (bl b).length = 32:=by rw [bl_length,hb]
  have tb : List.take 32 (bl b) = bl b:=List.take_of_length_le (by omega)
  have hl:=decV_le b
  obtain ⟨vs,hvs⟩ : ∃ vs,vs = decV b:=⟨_,rfl⟩
  rw [← hvs] at c1 hl ⊢
  have tv:=take_vl vs
  have lv:=vl_length vs
  have pv:=vl_pur vs
  rcases ownV_or vs with ⟨h0,e⟩ | ⟨h0,e⟩
  · have c2:=find_ok .full (by simp) nm [] (by simp)
    have ef : findV nm [] = -1:=rfl
    rw [vl_nil,List.length_nil,ef] at c2
    rw [e] at c1
    have e1 : plE vs nm n = 16:=by rw [h0]; rfl
    have e2 : plP vs nm n = 0:=by unfold plP; rw [e1]; rfl
    rw [e1,e2]
    repeat' (first | simp -implicitDefEqProofs (maxSteps:=2000000) only [m13_1,m13_2,m13_3,m13_4,m13_5,m13_6,m13_7,m13_8,m13_9,m13_r,m13_b,m13,lb,tb,bl_scal,bl_allO,wk,act,asV,↓reduceIte,Nat.reduceEqDiff,reduceCtorEq,Nat.reduceAdd,Nat.reduceLeDiff,Nat.reduceSub,Nat.reduceMul,List.reduceReplicate,Int.reduceEq,Int.reduceLT,Int.reduceLE,Int.reduceAdd,Int.reduceSub,Int.reduceMul,Nat.reduceLT,Int.reduceToNat] | ((first | ((with_reducible refine CallL.gate ?_); apply CallL.of) | ((with_reducible refine CallP.gate ?_); apply CallP.of)); (case h1 => (simp -implicitDefEqProofs (maxSteps:=2000000) only [m13_1,m13_2,m13_3,m13_4,m13_5,m13_6,m13_7,m13_8,m13_9,m13_r,m13_b,m13,lb,tb,bl_scal,bl_allO,wk,act,asV,↓reduceIte,Nat.reduceEqDiff,reduceCtorEq,Nat.reduceAdd,Nat.reduceLeDiff,Nat.reduceSub,Nat.reduceMul,List.reduceReplicate,Int.reduceEq,Int.reduceLT,Int.reduceLE,Int.reduceAdd,Int.reduceSub,Int.reduceMul,Nat.reduceLT,Int.reduceToNat]; first | done | (with_reducible rfl))); (case h2 => (first | exact c1 | exact c2)); (case h3 => simp -implicitDefEqProofs (maxSteps:=2000000) only [m13_1,m13_2,m13_3,m13_4,m13_5,m13_6,m13_7,m13_8,m13_9,m13_r,m13_b,m13,lb,tb,bl_scal,bl_allO,wk,act,asV,↓reduceIte,Nat.reduceEqDiff,reduceCtorEq,Nat.reduceAdd,Nat.reduceLeDiff,Nat.reduceSub,Nat.reduceMul,List.reduceReplicate,Int.reduceEq,Int.reduceLT,Int.reduceLE,Int.reduceAdd,Int.reduceSub,Int.reduceMul,Nat.reduceLT,Int.reduceToNat])))
  · have c2:=find_ok .plain (by simp) nm vs (by omega)
    rw [e] at c1
    rcases findV_cases nm vs with hf | ⟨i,hi,hf⟩
    · rw [hf] at c2
      have e1 : plE vs nm n = 16:=by unfold plE; rw [if_pos (by omega)]
      have e2 : plP vs nm n = 0:=by unfold plP; rw [e1]; rfl
      rw [e1,e2]
      repeat' (first | simp -implicitDefEqProofs (maxSteps:=2000000) only [m13_1,m13_2,m13_3,m13_4,m13_5,m13_6,m13_7,m13_8,m13_9,m13_r,m13_b,m13,lb,tb,tv,lv,pv,bl_scal,bl_allO,wk,act,asV,↓reduceIte,Nat.reduceEqDiff,reduceCtorEq,Nat.reduceAdd,Nat.reduceLeDiff,Nat.reduceSub,Nat.reduceMul,List.reduceReplicate,Int.reduceEq,Int.reduceLT,Int.reduceLE,Int.reduceAdd,Int.reduceSub,Int.reduceMul,Nat.reduceLT,Int.reduceToNat] | ((first | ((with_reducible refine CallL.gate ?_); apply CallL.of) | ((with_reducible refine CallP.gate ?_); apply CallP.of)); (case h1 => (simp -implicitDefEqProofs (maxSteps:=2000000) only [m13_1,m13_2,m13_3,m13_4,m13_5,m13_6,m13_7,m13_8,m13_9,m13_r,m13_b,m13,lb,tb,tv,lv,pv,bl_scal,bl_allO,wk,act,asV,↓reduceIte,Nat.reduceEqDiff,reduceCtorEq,Nat.reduceAdd,Nat.reduceLeDiff,Nat.reduceSub,Nat.reduceMul,List.reduceReplicate,Int.reduceEq,Int.reduceLT,Int.reduceLE,Int.reduceAdd,Int.reduceSub,Int.reduceMul,Nat.reduceLT,Int.reduceToNat]; first | done | (with_reducible rfl))); (case h2 => (first | exact c1 | exact c2)); (case h3 => simp -implicitDefEqProofs (maxSteps:=2000000) only [m13_1,m13_2,m13_3,m13_4,m13_5,m13_6,m13_7,m13_8,m13_9,m13_r,m13_b,m13,lb,tb,tv,lv,pv,bl_scal,bl_allO,wk,act,asV,↓reduceIte,Nat.reduceEqDiff,reduceCtorEq,Nat.reduceAdd,Nat.reduceLeDiff,Nat.reduceSub,Nat.reduceMul,List.reduceReplicate,Int.reduceEq,Int.reduceLT,Int.reduceLE,Int.reduceAdd,Int.reduceSub,Int.reduceMul,Nat.reduceLT,Int.reduceToNat])))
    · rw [hf] at c2
      have hi' : ((i : Nat) : Int) < vs.length:=by omega
      have hi0 : ¬ ((i : Nat) : Int) < 0:=by omega
      have d1:=drop_vl1 hi
      have d0:=drop_vl hi
      have b1 : i * 2 + 1 + 1 ≤ vs.length * 2:=by omega
      have hg : vs.getD (findV nm vs).toNat ⟨[],[]⟩ = vs[i]:=by rw [hf,Int.toNat_natCast,List.getD_eq_getElem?_getD,List.getElem?_eq_getElem hi]; rfl
      obtain ⟨bs,hbs⟩ : ∃ bs,bs = vs[i].blocks:=⟨_,rfl⟩
      by_cases n0 : n < 0
      · have e1 : plE vs nm n = 17:=by unfold plE; rw [if_neg (by omega),if_pos (.inl n0)]
        have e2 : plP vs nm n = 0:=by unfold plP; rw [e1]; rfl
        rw [e1,e2]
        repeat' (first | simp -implicitDefEqProofs (maxSteps:=2000000) only [m13_1,m13_2,m13_3,m13_4,m13_5,m13_6,m13_7,m13_8,m13_9,m13_r,m13_b,m13,lb,tb,tv,lv,pv,hi0,n0,bl_scal,bl_allO,wk,act,asV,↓reduceIte,Nat.reduceEqDiff,reduceCtorEq,Nat.reduceAdd,Nat.reduceLeDiff,Nat.reduceSub,Nat.reduceMul,List.reduceReplicate,Int.reduceEq,Int.reduceLT,Int.reduceLE,Int.reduceAdd,Int.reduceSub,Int.reduceMul,Nat.reduceLT,Int.reduceToNat] | ((first | ((with_reducible refine CallL.gate ?_); apply CallL.of) | ((with_reducible refine CallP.gate ?_); apply CallP.of)); (case h1 => (simp -implicitDefEqProofs (maxSteps:=2000000) only [m13_1,m13_2,m13_3,m13_4,m13_5,m13_6,m13_7,m13_8,m13_9,m13_r,m13_b,m13,lb,tb,tv,lv,pv,hi0,n0,bl_scal,bl_allO,wk,act,asV,↓reduceIte,Nat.reduceEqDiff,reduceCtorEq,Nat.reduceAdd,Nat.reduceLeDiff,Nat.reduceSub,Nat.reduceMul,List.reduceReplicate,Int.reduceEq,Int.reduceLT,Int.reduceLE,Int.reduceAdd,Int.reduceSub,Int.reduceMul,Nat.reduceLT,Int.reduceToNat]; first | done | (with_reducible rfl))); (case h2 => (first | exact c1 | exact c2)); (case h3 => simp -implicitDefEqProofs (maxSteps:=2000000) only [m13_1,m13_2,m13_3,m13_4,m13_5,m13_6,m13_7,m13_8,m13_9,m13_r,m13_b,m13,lb,tb,tv,lv,pv,hi0,n0,bl_scal,bl_allO,wk,act,asV,↓reduceIte,Nat.reduceEqDiff,reduceCtorEq,Nat.reduceAdd,Nat.reduceLeDiff,Nat.reduceSub,Nat.reduceMul,List.reduceReplicate,Int.reduceEq,Int.reduceLT,Int.reduceLE,Int.reduceAdd,Int.reduceSub,Int.reduceMul,Nat.reduceLT,Int.reduceToNat])))
      · by_cases n1 : (bs.length : Int) ≤ n
        · have e1 : plE vs nm n = 17:=by unfold plE; rw [if_neg (by omega),hg,← hbs,if_pos (.inr n1)]
          have e2 : plP vs nm n = 0:=by unfold plP; rw [e1]; rfl
          rw [e1,e2]
          rw [← hbs] at d1
          repeat' (first | simp -implicitDefEqProofs (maxSteps:=2000000) only [m13_1,m13_2,m13_3,m13_4,m13_5,m13_6,m13_7,m13_8,m13_9,m13_r,m13_b,m13,lb,tb,tv,lv,pv,hi0,hi',n0,n1,d0,d1,b1,bl_scal,bl_allO,wk,act,asV,↓reduceIte,Nat.reduceEqDiff,reduceCtorEq,Nat.reduceAdd,Nat.reduceLeDiff,Nat.reduceSub,Nat.reduceMul,List.reduceReplicate,Int.reduceEq,Int.reduceLT,Int.reduceLE,Int.reduceAdd,Int.reduceSub,Int.reduceMul,Nat.reduceLT,Int.reduceToNat] | ((first | ((with_reducible refine CallL.gate ?_); apply CallL.of) | ((with_reducible refine CallP.gate ?_); apply CallP.of)); (case h1 => (simp -implicitDefEqProofs (maxSteps:=2000000) only [m13_1,m13_2,m13_3,m13_4,m13_5,m13_6,m13_7,m13_8,m13_9,m13_r,m13_b,m13,lb,tb,tv,lv,pv,hi0,hi',n0,n1,d0,d1,b1,bl_scal,bl_allO,wk,act,asV,↓reduceIte,Nat.reduceEqDiff,reduceCtorEq,Nat.reduceAdd,Nat.reduceLeDiff,Nat.reduceSub,Nat.reduceMul,List.reduceReplicate,Int.reduceEq,Int.reduceLT,Int.reduceLE,Int.reduceAdd,Int.reduceSub,Int.reduceMul,Nat.reduceLT,Int.reduceToNat]; first | done | (with_reducible rfl))); (case h2 => (first | exact c1 | exact c2)); (case h3 => simp -implicitDefEqProofs (maxSteps:=2000000) only [m13_1,m13_2,m13_3,m13_4,m13_5,m13_6,m13_7,m13_8,m13_9,m13_r,m13_b,m13,lb,tb,tv,lv,pv,hi0,hi',n0,n1,d0,d1,b1,bl_scal,bl_allO,wk,act,asV,↓reduceIte,Nat.reduceEqDiff,reduceCtorEq,Nat.reduceAdd,Nat.reduceLeDiff,Nat.reduceSub,Nat.reduceMul,List.reduceReplicate,Int.reduceEq,Int.reduceLT,Int.reduceLE,Int.reduceAdd,Int.reduceSub,Int.reduceMul,Nat.reduceLT,Int.reduceToNat])))
        · have e1 : plE vs nm n = 0:=by unfold plE; rw [if_neg (by omega),hg,← hbs,if_neg (by omega)]
          have hk : n.toNat < bs.length:=by omega
          have e2 : plP vs nm n = bs[n.toNat]:=by unfold plP; rw [if_pos e1,hg,← hbs,List.getD_eq_getElem?_getD,List.getElem?_eq_getElem hk]; rfl
          rw [e1,e2]
          rw [← hbs] at d1
          obtain ⟨k,rfl⟩ : ∃ k : Nat,n = (k : Int):=⟨n.toNat,by omega⟩
          simp only [Int.toNat_natCast] at hk ⊢
          have hk' : ((k : Nat) : Int) < bs.length:=by omega
          have dk:=drop_il hk
          have lk:=il_length bs
          repeat' (first | simp -implicitDefEqProofs (maxSteps:=2000000) only [m13_1,m13_2,m13_3,m13_4,m13_5,m13_6,m13_7,m13_8,m13_9,m13_r,m13_b,m13,lb,tb,tv,lv,pv,hi0,hi',n0,n1,hk',d0,d1,b1,dk,lk,bl_scal,bl_allO,wk,act,asV,↓reduceIte,Nat.reduceEqDiff,reduceCtorEq,Nat.reduceAdd,Nat.reduceLeDiff,Nat.reduceSub,Nat.reduceMul,List.reduceReplicate,Int.reduceEq,Int.reduceLT,Int.reduceLE,Int.reduceAdd,Int.reduceSub,Int.reduceMul,Nat.reduceLT,Int.reduceToNat] | ((first | ((with_reducible refine CallL.gate ?_); apply CallL.of) | ((with_reducible refine CallP.gate ?_); apply CallP.of)); (case h1 => (simp -implicitDefEqProofs (maxSteps:=2000000) only [m13_1,m13_2,m13_3,m13_4,m13_5,m13_6,m13_7,m13_8,m13_9,m13_r,m13_b,m13,lb,tb,tv,lv,pv,hi0,hi',n0,n1,hk',d0,d1,b1,dk,lk,bl_scal,bl_allO,wk,act,asV,↓reduceIte,Nat.reduceEqDiff,reduceCtorEq,Nat.reduceAdd,Nat.reduceLeDiff,Nat.reduceSub,Nat.reduceMul,List.reduceReplicate,Int.reduceEq,Int.reduceLT,Int.reduceLE,Int.reduceAdd,Int.reduceSub,Int.reduceMul,Nat.reduceLT,Int.reduceToNat]; first | done | (with_reducible rfl))); (case h2 => (first | exact c1 | exact c2)); (case h3 => simp -implicitDefEqProofs (maxSteps:=2000000) only [m13_1,m13_2,m13_3,m13_4,m13_5,m13_6,m13_7,m13_8,m13_9,m13_r,m13_b,m13,lb,tb,tv,lv,pv,hi0,hi',n0,n1,hk',d0,d1,b1,dk,lk,bl_scal,bl_allO,wk,act,asV,↓reduceIte,Nat.reduceEqDiff,reduceCtorEq,Nat.reduceAdd,Nat.reduceLeDiff,Nat.reduceSub,Nat.reduceMul,List.reduceReplicate,Int.reduceEq,Int.reduceLT,Int.reduceLE,Int.reduceAdd,Int.reduceSub,Int.reduceMul,Nat.reduceLT,Int.reduceToNat])))
theorem placeR_ok (b nm : List UInt8) (n : Int) (hb : b.length = 32) (hn : nm.length < 2 ^ 63) : RC Tryd.prog 14 [.agg (bl b),.str nm,.int .i64 n] [.int .i64 (plP (decV b) nm n),.int .i64 (plE (decV b) nm n)]:=by
  refine RC.of_wp c14 rfl ?_
  have c1:=volsR_ok b hb
  have lb : (bl b).length = 32:=by rw [bl_length,hb]
  have tb : List.take 32 (bl b) = bl b:=List.take_of_length_le (by omega)
  have hl:=decV_le b
  obtain ⟨vs,hvs⟩ : ∃ vs,vs = decV b:=⟨_,rfl⟩
  rw [← hvs] at c1 hl ⊢
  have tv:=take_vl vs
  have lv:=vl_length vs
  have pv:=vl_pur vs
  rcases ownV_or vs with ⟨h0,e⟩ | ⟨h0,e⟩
  · have c2:=rfind_ok .full nm [] (by simp)
    have ef : findV nm [] = -1:=rfl
    rw [vl_nil,List.length_nil,ef] at c2
    rw [e] at c1
    have e1 : plE vs nm n = 16:=by rw [h0]; rfl
    have e2 : plP vs nm n = 0:=by unfold plP; rw [e1]; rfl
    rw [e1,e2]
    repeat' (first | simp -implicitDefEqProofs (maxSteps:=2000000) only [m14_1,m14_2,m14_3,m14_4,m14_5,m14_6,m14_7,m14_8,m14_9,m14_r,m14_b,m14,lb,tb,bl_scal,bl_allO,wk,act,asV,↓reduceIte,Nat.reduceEqDiff,reduceCtorEq,Nat.reduceAdd,Nat.reduceLeDiff,Nat.reduceSub,Nat.reduceMul,List.reduceReplicate,Int.reduceEq,Int.reduceLT,Int.reduceLE,Int.reduceAdd,Int.reduceSub,Int.reduceMul,Nat.reduceLT,Int.reduceToNat] | ((first | ((with_reducible refine CallL.gate ?_); apply CallL.of) | ((with_reducible refine CallP.gate ?_); apply CallP.of)); (case h1 => (simp -implicitDefEqProofs (maxSteps:=2000000) only [m14_1,m14_2,m14_3,m14_4,m14_5,m14_6,m14_7,m14_8,m14_9,m14_r,m14_b,m14,lb,tb,bl_scal,bl_allO,wk,act,asV,↓reduceIte,Nat.reduceEqDiff,reduceCtorEq,Nat.reduceAdd,Nat.reduceLeDiff,Nat.reduceSub,Nat.reduceMul,List.reduceReplicate,Int.reduceEq,Int.reduceLT,Int.reduceLE,Int.reduceAdd,Int.reduceSub,Int.reduceMul,Nat.reduceLT,Int.reduceToNat]; first | done | (with_reducible rfl))); (case h2 => (first | exact c1 | exact c2)); (case h3 => simp -implicitDefEqProofs (maxSteps:=2000000) only [m14_1,m14_2,m14_3,m14_4,m14_5,m14_6,m14_7,m14_8,m14_9,m14_r,m14_b,m14,lb,tb,bl_scal,bl_allO,wk,act,asV,↓reduceIte,Nat.reduceEqDiff,reduceCtorEq,Nat.reduceAdd,Nat.reduceLeDiff,Nat.reduceSub,Nat.reduceMul,List.reduceReplicate,Int.reduceEq,Int.reduceLT,Int.reduceLE,Int.reduceAdd,Int.reduceSub,Int.reduceMul,Nat.reduceLT,Int.reduceToNat])))
  · have c2:=rfind_ok .plain nm vs (by omega)
    rw [e] at c1
    rcases findV_cases nm vs with hf | ⟨i,hi,hf⟩
    · rw [hf] at c2
      have e1 : plE vs nm n = 16:=by unfold plE; rw [if_pos (by omega)]
      have e2 : plP vs nm n = 0:=by unfold plP; rw [e1]; rfl
      rw [e1,e2]
      repeat' (first | simp -implicitDefEqProofs (maxSteps:=2000000) only [m14_1,m14_2,m14_3,m14_4,m14_5,m14_6,m14_7,m14_8,m14_9,m14_r,m14_b,m14,lb,tb,tv,lv,pv,bl_scal,bl_allO,wk,act,asV,↓reduceIte,Nat.reduceEqDiff,reduceCtorEq,Nat.reduceAdd,Nat.reduceLeDiff,Nat.reduceSub,Nat.reduceMul,List.reduceReplicate,Int.reduceEq,Int.reduceLT,Int.reduceLE,Int.reduceAdd,Int.reduceSub,Int.reduceMul,Nat.reduceLT,Int.reduceToNat] | ((first | ((with_reducible refine CallL.gate ?_); apply CallL.of) | ((with_reducible refine CallP.gate ?_); apply CallP.of)); (case h1 => (simp -implicitDefEqProofs (maxSteps:=2000000) only [m14_1,m14_2,m14_3,m14_4,m14_5,m14_6,m14_7,m14_8,m14_9,m14_r,m14_b,m14,lb,tb,tv,lv,pv,bl_scal,bl_allO,wk,act,asV,↓reduceIte,Nat.reduceEqDiff,reduceCtorEq,Nat.reduceAdd,Nat.reduceLeDiff,Nat.reduceSub,Nat.reduceMul,List.reduceReplicate,Int.reduceEq,Int.reduceLT,Int.reduceLE,Int.reduceAdd,Int.reduceSub,Int.reduceMul,Nat.reduceLT,Int.reduceToNat]; first | done | (with_reducible rfl))); (case h2 => (first | exact c1 | exact c2)); (case h3 => simp -implicitDefEqProofs (maxSteps:=2000000) only [m14_1,m14_2,m14_3,m14_4,m14_5,m14_6,m14_7,m14_8,m14_9,m14_r,m14_b,m14,lb,tb,tv,lv,pv,bl_scal,bl_allO,wk,act,asV,↓reduceIte,Nat.reduceEqDiff,reduceCtorEq,Nat.reduceAdd,Nat.reduceLeDiff,Nat.reduceSub,Nat.reduceMul,List.reduceReplicate,Int.reduceEq,Int.reduceLT,Int.reduceLE,Int.reduceAdd,Int.reduceSub,Int.reduceMul,Nat.reduceLT,Int.reduceToNat])))
    · rw [hf] at c2
      have hi' : ((i : Nat) : Int) < vs.length:=by omega
      have hi0 : ¬ ((i : Nat) : Int) < 0:=by omega
      have d1:=drop_vl1 hi
      have d0:=drop_vl hi
      have b1 : i * 2 + 1 + 1 ≤ vs.length * 2:=by omega
      have hg : vs.getD (findV nm vs).toNat ⟨[],[]⟩ = vs[i]:=by rw [hf,Int.toNat_natCast,List.getD_eq_getElem?_getD,List.getElem?_eq_getElem hi]; rfl
      obtain ⟨bs,hbs⟩ : ∃ bs,bs = vs[i].blocks:=⟨_,rfl⟩
      by_cases n0 : n < 0
      · have e1 : plE vs nm n = 17:=by unfold plE; rw [if_neg (by omega),if_pos (.inl n0)]
        have e2 : plP vs nm n = 0:=by unfold plP; rw [e1]; rfl
        rw [e1,e2]
        repeat' (first | simp -implicitDefEqProofs (maxSteps:=2000000) only [m14_1,m14_2,m14_3,m14_4,m14_5,m14_6,m14_7,m14_8,m14_9,m14_r,m14_b,m14,lb,tb,tv,lv,pv,hi0,n0,bl_scal,bl_allO,wk,act,asV,↓reduceIte,Nat.reduceEqDiff,reduceCtorEq,Nat.reduceAdd,Nat.reduceLeDiff,Nat.reduceSub,Nat.reduceMul,List.reduceReplicate,Int.reduceEq,Int.reduceLT,Int.reduceLE,Int.reduceAdd,Int.reduceSub,Int.reduceMul,Nat.reduceLT,Int.reduceToNat] | ((first | ((with_reducible refine CallL.gate ?_); apply CallL.of) | ((with_reducible refine CallP.gate ?_); apply CallP.of)); (case h1 => (simp -implicitDefEqProofs (maxSteps:=2000000) only [m14_1,m14_2,m14_3,m14_4,m14_5,m14_6,m14_7,m14_8,m14_9,m14_r,m14_b,m14,lb,tb,tv,lv,pv,hi0,n0,bl_scal,bl_allO,wk,act,asV,↓reduceIte,Nat.reduceEqDiff,reduceCtorEq,Nat.reduceAdd,Nat.reduceLeDiff,Nat.reduceSub,Nat.reduceMul,List.reduceReplicate,Int.reduceEq,Int.reduceLT,Int.reduceLE,Int.reduceAdd,Int.reduceSub,Int.reduceMul,Nat.reduceLT,Int.reduceToNat]; first | done | (with_reducible rfl))); (case h2 => (first | exact c1 | exact c2)); (case h3 => simp -implicitDefEqProofs (maxSteps:=2000000) only [m14_1,m14_2,m14_3,m14_4,m14_5,m14_6,m14_7,m14_8,m14_9,m14_r,m14_b,m14,lb,tb,tv,lv,pv,hi0,n0,bl_scal,bl_allO,wk,act,asV,↓reduceIte,Nat.reduceEqDiff,reduceCtorEq,Nat.reduceAdd,Nat.reduceLeDiff,Nat.reduceSub,Nat.reduceMul,List.reduceReplicate,Int.reduceEq,Int.reduceLT,Int.reduceLE,Int.reduceAdd,Int.reduceSub,Int.reduceMul,Nat.reduceLT,Int.reduceToNat])))
      · by_cases n1 : (bs.length : Int) ≤ n
        · have e1 : plE vs nm n = 17:=by unfold plE; rw [if_neg (by omega),hg,← hbs,if_pos (.inr n1)]
          have e2 : plP vs nm n = 0:=by unfold plP; rw [e1]; rfl
          rw [e1,e2]
          rw [← hbs] at d1
          repeat' (first | simp -implicitDefEqProofs (maxSteps:=2000000) only [m14_1,m14_2,m14_3,m14_4,m14_5,m14_6,m14_7,m14_8,m14_9,m14_r,m14_b,m14,lb,tb,tv,lv,pv,hi0,hi',n0,n1,d0,d1,b1,bl_scal,bl_allO,wk,act,asV,↓reduceIte,Nat.reduceEqDiff,reduceCtorEq,Nat.reduceAdd,Nat.reduceLeDiff,Nat.reduceSub,Nat.reduceMul,List.reduceReplicate,Int.reduceEq,Int.reduceLT,Int.reduceLE,Int.reduceAdd,Int.reduceSub,Int.reduceMul,Nat.reduceLT,Int.reduceToNat] | ((first | ((with_reducible refine CallL.gate ?_); apply CallL.of) | ((with_reducible refine CallP.gate ?_); apply CallP.of)); (case h1 => (simp -implicitDefEqProofs (maxSteps:=2000000) only [m14_1,m14_2,m14_3,m14_4,m14_5,m14_6,m14_7,m14_8,m14_9,m14_r,m14_b,m14,lb,tb,tv,lv,pv,hi0,hi',n0,n1,d0,d1,b1,bl_scal,bl_allO,wk,act,asV,↓reduceIte,Nat.reduceEqDiff,reduceCtorEq,Nat.reduceAdd,Nat.reduceLeDiff,Nat.reduceSub,Nat.reduceMul,List.reduceReplicate,Int.reduceEq,Int.reduceLT,Int.reduceLE,Int.reduceAdd,Int.reduceSub,Int.reduceMul,Nat.reduceLT,Int.reduceToNat]; first | done | (with_reducible rfl))); (case h2 => (first | exact c1 | exact c2)); (case h3 => simp -implicitDefEqProofs (maxSteps:=2000000) only [m14_1,m14_2,m14_3,m14_4,m14_5,m14_6,m14_7,m14_8,m14_9,m14_r,m14_b,m14,lb,tb,tv,lv,pv,hi0,hi',n0,n1,d0,d1,b1,bl_scal,bl_allO,wk,act,asV,↓reduceIte,Nat.reduceEqDiff,reduceCtorEq,Nat.reduceAdd,Nat.reduceLeDiff,Nat.reduceSub,Nat.reduceMul,List.reduceReplicate,Int.reduceEq,Int.reduceLT,Int.reduceLE,Int.reduceAdd,Int.reduceSub,Int.reduceMul,Nat.reduceLT,Int.reduceToNat])))
        · have e1 : plE vs nm n = 0:=by unfold plE; rw [if_neg (by omega),hg,← hbs,if_neg (by omega)]
          have hk : n.toNat < bs.length:=by omega
          have e2 : plP vs nm n = bs[n.toNat]:=by unfold plP; rw [if_pos e1,hg,← hbs,List.getD_eq_getElem?_getD,List.getElem?_eq_getElem hk]; rfl
          rw [e1,e2]
          rw [← hbs] at d1
          obtain ⟨k,rfl⟩ : ∃ k : Nat,n = (k : Int):=⟨n.toNat,by omega⟩
          simp only [Int.toNat_natCast] at hk ⊢
          have hk' : ((k : Nat) : Int) < bs.length:=by omega
          have dk:=drop_il hk
          have lk:=il_length bs
          repeat' (first | simp -implicitDefEqProofs (maxSteps:=2000000) only [m14_1,m14_2,m14_3,m14_4,m14_5,m14_6,m14_7,m14_8,m14_9,m14_r,m14_b,m14,lb,tb,tv,lv,pv,hi0,hi',n0,n1,hk',d0,d1,b1,dk,lk,bl_scal,bl_allO,wk,act,asV,↓reduceIte,Nat.reduceEqDiff,reduceCtorEq,Nat.reduceAdd,Nat.reduceLeDiff,Nat.reduceSub,Nat.reduceMul,List.reduceReplicate,Int.reduceEq,Int.reduceLT,Int.reduceLE,Int.reduceAdd,Int.reduceSub,Int.reduceMul,Nat.reduceLT,Int.reduceToNat] | ((first | ((with_reducible refine CallL.gate ?_); apply CallL.of) | ((with_reducible refine CallP.gate ?_); apply CallP.of)); (case h1 => (simp -implicitDefEqProofs (maxSteps:=2000000) only [m14_1,m14_2,m14_3,m14_4,m14_5,m14_6,m14_7,m14_8,m14_9,m14_r,m14_b,m14,lb,tb,tv,lv,pv,hi0,hi',n0,n1,hk',d0,d1,b1,dk,lk,bl_scal,bl_allO,wk,act,asV,↓reduceIte,Nat.reduceEqDiff,reduceCtorEq,Nat.reduceAdd,Nat.reduceLeDiff,Nat.reduceSub,Nat.reduceMul,List.reduceReplicate,Int.reduceEq,Int.reduceLT,Int.reduceLE,Int.reduceAdd,Int.reduceSub,Int.reduceMul,Nat.reduceLT,Int.reduceToNat]; first | done | (with_reducible rfl))); (case h2 => (first | exact c1 | exact c2)); (case h3 => simp -implicitDefEqProofs (maxSteps:=2000000) only [m14_1,m14_2,m14_3,m14_4,m14_5,m14_6,m14_7,m14_8,m14_9,m14_r,m14_b,m14,lb,tb,tv,lv,pv,hi0,hi',n0,n1,hk',d0,d1,b1,dk,lk,bl_scal,bl_allO,wk,act,asV,↓reduceIte,Nat.reduceEqDiff,reduceCtorEq,Nat.reduceAdd,Nat.reduceLeDiff,Nat.reduceSub,Nat.reduceMul,List.reduceReplicate,Int.reduceEq,Int.reduceLT,Int.reduceLE,Int.reduceAdd,Int.reduceSub,Int.reduceMul,Nat.reduceLT,Int.reduceToNat])))

/-! ### blocks that are written -/
def ptC (p : Int × List UInt8) : List IV:=.int .i64 p.1 :: bl p.2
def ptL (ps : List (Int × List UInt8)) : List IV:=ps.flatMap ptC
theorem ptC_length {p : Int × List UInt8} (h : p.2.length = 32) : (ptC p).length = 33:=by simp [ptC,bl_length,h]
theorem ptL_length {ps : List (Int × List UInt8)} (h : ∀ p ∈ ps,p.2.length = 32) : (ptL ps).length = ps.length * 33:=by
  induction ps with
  | nil => rfl
  | cons p ps ih =>
    have h1:=ptC_length (h p (by simp))
    have h2:=ih fun q hq => h q (by simp [hq])
    simp only [ptL,List.flatMap_cons,List.length_append,List.length_cons] at h2 ⊢
    omega
theorem ptC_scal (p : Int × List UInt8) : (ptC p).all IV.scal = true:=by simp [ptC,IV.scal,bl_scal]
theorem ptL_scal (ps : List (Int × List UInt8)) : (ptL ps).all IV.scal = true:=by
  induction ps with
  | nil => rfl
  | cons p ps ih =>
    simp only [ptL,List.flatMap_cons] at ih ⊢
    rw [List.all_append,ptC_scal,ih]; rfl
theorem purL_app : ∀ (a b : List IV),IV.purL a = true → IV.purL b = true → IV.purL (a ++ b) = true
  | [],_,_,h => h
  | x :: a,b,h1,h2 => by
    simp only [List.cons_append,IV.purL,Bool.and_eq_true] at h1 ⊢
    exact ⟨h1.1,purL_app a b h1.2 h2⟩
theorem ptC_pur (p : Int × List UInt8) : IV.purL (ptC p) = true:=by simp only [ptC,IV.purL,IV.pur,Bool.true_and]; exact bl_pur _
theorem ptL_pur (ps : List (Int × List UInt8)) : IV.purL (ptL ps) = true:=by
  induction ps with
  | nil => rfl
  | cons p ps ih => exact purL_app _ _ (ptC_pur p) ih
theorem placed_pt {D : List IV} (lD : D.length = 32) (i : IV) (Z : List IV) (hZ : Z.length = 33) : placed Z [(0,[i]),(1,D)] = some (i :: D):=by
  have e : List.take 1 ([i] ++ List.drop 1 Z) = [i]:=rfl
  simp only [placed,List.length_cons,List.length_nil,lD,hZ,List.length_append,List.length_take,List.length_drop]
  simp [hZ,lD,List.drop_eq_nil_of_le]
theorem placed_pt2 {D Z : List UInt8} (i : IV) (hD : D.length = 32) (hZ : Z.length = 32) : placed (i :: bl Z) [(1,bl D)] = some (i :: bl D):=by
  simp [placed,bl_length,hZ,hD,List.drop_eq_nil_of_le]
def wrE (b nm : List UInt8) (n : Int) : Int:=plE (decV b) nm n
def wrR (b nm : List UInt8) (n : Int) (d : List UInt8) : IV:=if wrE b nm n = 0 then .sl .full 1 (ptC (plP (decV b) nm n,d)) else .sl .full 0 []
theorem plE_cases (vs : List Vol) (nm : List UInt8) (n : Int) : plE vs nm n = 0 ∨ plE vs nm n = 16 ∨ plE vs nm n = 17:=by
  unfold plE
  split
  · exact .inr (.inl rfl)
  · split
    · exact .inr (.inr rfl)
    · exact .inl rfl
theorem writeP_ok (b nm d : List UInt8) (n : Int) (hb : b.length = 32) (hn : nm.length < 2 ^ 63) (hd : d.length = 32) : RC Tryd.prog 18 [.agg (bl b),.str nm,.int .i64 n,.agg (bl d)] [wrR b nm n d,.int .i64 (wrE b nm n)]:=by
  refine RC.of_wp c18 rfl ?_
  have c1:=placeP_ok b nm n hb hn
  have lb : (bl b).length = 32:=by rw [bl_length,hb]
  have tb : List.take 32 (bl b) = bl b:=List.take_of_length_le (by omega)
  have ld : (bl d).length = 32:=by rw [bl_length,hd]
  have td : List.take 32 (bl d) = bl d:=List.take_of_length_le (by omega)
  have hpl:=fun i Z hZ => placed_pt ld i Z hZ
  have he:=plE_cases (decV b) nm n
  unfold wrR wrE
  obtain ⟨E,hE⟩ : ∃ E,E = plE (decV b) nm n:=⟨_,rfl⟩
  obtain ⟨P,hP⟩ : ∃ P,P = plP (decV b) nm n:=⟨_,rfl⟩
  rw [← hE] at he
  rw [← hE,← hP] at c1 ⊢
  have lp : (IV.int .i64 P :: bl d).length = 33:=by simp [ld]
  have sp : (IV.int .i64 P :: bl d).all IV.scal = true:=ptC_scal (P,d)
  have tp : List.take 33 (IV.int .i64 P :: bl d) = .int .i64 P :: bl d:=List.take_of_length_le (by omega)
  rcases he with he | he | he
  · rw [he] at c1 ⊢
    rw [if_pos rfl]
    unfold ptC
    repeat' (first | simp -implicitDefEqProofs (maxSteps:=2000000) only [m18_1,m18_2,m18_3,m18_4,m18_5,m18_6,m18_r,m18_b,m18,lb,tb,ld,td,hpl,lp,sp,tp,bl_scal,bl_allO,wk,act,asV,↓reduceIte,Nat.reduceEqDiff,reduceCtorEq,Nat.reduceAdd,Nat.reduceLeDiff,Nat.reduceSub,Nat.reduceMul,List.reduceReplicate,Int.reduceEq,Int.reduceLT,Int.reduceLE,Int.reduceAdd,Int.reduceSub,Int.reduceMul,Nat.reduceLT,Int.reduceToNat] | ((first | ((with_reducible refine CallL.gate ?_); apply CallL.of) | ((with_reducible refine CallP.gate ?_); apply CallP.of)); (case h1 => (simp -implicitDefEqProofs (maxSteps:=2000000) only [m18_1,m18_2,m18_3,m18_4,m18_5,m18_6,m18_r,m18_b,m18,lb,tb,ld,td,hpl,lp,sp,tp,bl_scal,bl_allO,wk,act,asV,↓reduceIte,Nat.reduceEqDiff,reduceCtorEq,Nat.reduceAdd,Nat.reduceLeDiff,Nat.reduceSub,Nat.reduceMul,List.reduceReplicate,Int.reduceEq,Int.reduceLT,Int.reduceLE,Int.reduceAdd,Int.reduceSub,Int.reduceMul,Nat.reduceLT,Int.reduceToNat]; first | done | (with_reducible rfl))); (case h2 => (first | exact c1)); (case h3 => simp -implicitDefEqProofs (maxSteps:=2000000) only [m18_1,m18_2,m18_3,m18_4,m18_5,m18_6,m18_r,m18_b,m18,lb,tb,ld,td,hpl,lp,sp,tp,bl_scal,bl_allO,wk,act,asV,↓reduceIte,Nat.reduceEqDiff,reduceCtorEq,Nat.reduceAdd,Nat.reduceLeDiff,Nat.reduceSub,Nat.reduceMul,List.reduceReplicate,Int.reduceEq,Int.reduceLT,Int.reduceLE,Int.reduceAdd,Int.reduceSub,Int.reduceMul,Nat.reduceLT,Int.reduceToNat])))
  all_goals
    rw [he] at c1 ⊢
    rw [if_neg (by decide)]
    repeat' (first | simp -implicitDefEqProofs (maxSteps:=2000000) only [m18_1,m18_2,m18_3,m18_4,m18_5,m18_6,m18_r,m18_b,m18,lb,tb,ld,td,bl_scal,bl_allO,wk,act,asV,↓reduceIte,Nat.reduceEqDiff,reduceCtorEq,Nat.reduceAdd,Nat.reduceLeDiff,Nat.reduceSub,Nat.reduceMul,List.reduceReplicate,Int.reduceEq,Int.reduceLT,Int.reduceLE,Int.reduceAdd,Int.reduceSub,Int.reduceMul,Nat.reduceLT,Int.reduceToNat] | ((first | ((with_reducible refine CallL.gate ?_); apply CallL.of) | ((with_reducible refine CallP.gate ?_); apply CallP.of)); (case h1 => (simp -implicitDefEqProofs (maxSteps:=2000000) only [m18_1,m18_2,m18_3,m18_4,m18_5,m18_6,m18_r,m18_b,m18,lb,tb,ld,td,bl_scal,bl_allO,wk,act,asV,↓reduceIte,Nat.reduceEqDiff,reduceCtorEq,Nat.reduceAdd,Nat.reduceLeDiff,Nat.reduceSub,Nat.reduceMul,List.reduceReplicate,Int.reduceEq,Int.reduceLT,Int.reduceLE,Int.reduceAdd,Int.reduceSub,Int.reduceMul,Nat.reduceLT,Int.reduceToNat]; first | done | (with_reducible rfl))); (case h2 => (first | exact c1)); (case h3 => simp -implicitDefEqProofs (maxSteps:=2000000) only [m18_1,m18_2,m18_3,m18_4,m18_5,m18_6,m18_r,m18_b,m18,lb,tb,ld,td,bl_scal,bl_allO,wk,act,asV,↓reduceIte,Nat.reduceEqDiff,reduceCtorEq,Nat.reduceAdd,Nat.reduceLeDiff,Nat.reduceSub,Nat.reduceMul,List.reduceReplicate,Int.reduceEq,Int.reduceLT,Int.reduceLE,Int.reduceAdd,Int.reduceSub,Int.reduceMul,Nat.reduceLT,Int.reduceToNat])))
theorem writeR_ok (b nm d : List UInt8) (n : Int) (hb : b.length = 32) (hn : nm.length < 2 ^ 63) (hd : d.length = 32) : RC Tryd.prog 19 [.agg (bl b),.str nm,.int .i64 n,.agg (bl d)] [wrR b nm n d,.int .i64 (wrE b nm n)]:=by
  refine RC.of_wp c19 rfl ?_
  have c1:=placeR_ok b nm n hb hn
  have lb : (bl b).length = 32:=by rw [bl_length,hb]
  have tb : List.take 32 (bl b) = bl b:=List.take_of_length_le (by omega)
  have ld : (bl d).length = 32:=by rw [bl_length,hd]
  have td : List.take 32 (bl d) = bl d:=List.take_of_length_le (by omega)
  have hpl:=fun i Z hZ => placed_pt ld i Z hZ
  have he:=plE_cases (decV b) nm n
  unfold wrR wrE
  obtain ⟨E,hE⟩ : ∃ E,E = plE (decV b) nm n:=⟨_,rfl⟩
  obtain ⟨P,hP⟩ : ∃ P,P = plP (decV b) nm n:=⟨_,rfl⟩
  rw [← hE] at he
  rw [← hE,← hP] at c1 ⊢
  have lp : (IV.int .i64 P :: bl d).length = 33:=by simp [ld]
  have sp : (IV.int .i64 P :: bl d).all IV.scal = true:=ptC_scal (P,d)
  have tp : List.take 33 (IV.int .i64 P :: bl d) = .int .i64 P :: bl d:=List.take_of_length_le (by omega)
  rcases he with he | he | he
  · rw [he] at c1 ⊢
    rw [if_pos rfl]
    unfold ptC
    repeat' (first | simp -implicitDefEqProofs (maxSteps:=2000000) only [m19_1,m19_2,m19_3,m19_4,m19_5,m19_6,m19_r,m19_b,m19,lb,tb,ld,td,hpl,lp,sp,tp,bl_scal,bl_allO,wk,act,asV,↓reduceIte,Nat.reduceEqDiff,reduceCtorEq,Nat.reduceAdd,Nat.reduceLeDiff,Nat.reduceSub,Nat.reduceMul,List.reduceReplicate,Int.reduceEq,Int.reduceLT,Int.reduceLE,Int.reduceAdd,Int.reduceSub,Int.reduceMul,Nat.reduceLT,Int.reduceToNat] | ((first | ((with_reducible refine CallL.gate ?_); apply CallL.of) | ((with_reducible refine CallP.gate ?_); apply CallP.of)); (case h1 => (simp -implicitDefEqProofs (maxSteps:=2000000) only [m19_1,m19_2,m19_3,m19_4,m19_5,m19_6,m19_r,m19_b,m19,lb,tb,ld,td,hpl,lp,sp,tp,bl_scal,bl_allO,wk,act,asV,↓reduceIte,Nat.reduceEqDiff,reduceCtorEq,Nat.reduceAdd,Nat.reduceLeDiff,Nat.reduceSub,Nat.reduceMul,List.reduceReplicate,Int.reduceEq,Int.reduceLT,Int.reduceLE,Int.reduceAdd,Int.reduceSub,Int.reduceMul,Nat.reduceLT,Int.reduceToNat]; first | done | (with_reducible rfl))); (case h2 => (first | exact c1)); (case h3 => simp -implicitDefEqProofs (maxSteps:=2000000) only [m19_1,m19_2,m19_3,m19_4,m19_5,m19_6,m19_r,m19_b,m19,lb,tb,ld,td,hpl,lp,sp,tp,bl_scal,bl_allO,wk,act,asV,↓reduceIte,Nat.reduceEqDiff,reduceCtorEq,Nat.reduceAdd,Nat.reduceLeDiff,Nat.reduceSub,Nat.reduceMul,List.reduceReplicate,Int.reduceEq,Int.reduceLT,Int.reduceLE,Int.reduceAdd,Int.reduceSub,Int.reduceMul,Nat.reduceLT,Int.reduceToNat])))
  all_goals
    rw [he] at c1 ⊢
    rw [if_neg (by decide)]
    repeat' (first | simp -implicitDefEqProofs (maxSteps:=2000000) only [m19_1,m19_2,m19_3,m19_4,m19_5,m19_6,m19_r,m19_b,m19,lb,tb,ld,td,bl_scal,bl_allO,wk,act,asV,↓reduceIte,Nat.reduceEqDiff,reduceCtorEq,Nat.reduceAdd,Nat.reduceLeDiff,Nat.reduceSub,Nat.reduceMul,List.reduceReplicate,Int.reduceEq,Int.reduceLT,Int.reduceLE,Int.reduceAdd,Int.reduceSub,Int.reduceMul,Nat.reduceLT,Int.reduceToNat] | ((first | ((with_reducible refine CallL.gate ?_); apply CallL.of) | ((with_reducible refine CallP.gate ?_); apply CallP.of)); (case h1 => (simp -implicitDefEqProofs (maxSteps:=2000000) only [m19_1,m19_2,m19_3,m19_4,m19_5,m19_6,m19_r,m19_b,m19,lb,tb,ld,td,bl_scal,bl_allO,wk,act,asV,↓reduceIte,Nat.reduceEqDiff,reduceCtorEq,Nat.reduceAdd,Nat.reduceLeDiff,Nat.reduceSub,Nat.reduceMul,List.reduceReplicate,Int.reduceEq,Int.reduceLT,Int.reduceLE,Int.reduceAdd,Int.reduceSub,Int.reduceMul,Nat.reduceLT,Int.reduceToNat]; first | done | (with_reducible rfl))); (case h2 => (first | exact c1)); (case h3 => simp -implicitDefEqProofs (maxSteps:=2000000) only [m19_1,m19_2,m19_3,m19_4,m19_5,m19_6,m19_r,m19_b,m19,lb,tb,ld,td,bl_scal,bl_allO,wk,act,asV,↓reduceIte,Nat.reduceEqDiff,reduceCtorEq,Nat.reduceAdd,Nat.reduceLeDiff,Nat.reduceSub,Nat.reduceMul,List.reduceReplicate,Int.reduceEq,Int.reduceLT,Int.reduceLE,Int.reduceAdd,Int.reduceSub,Int.reduceMul,Nat.reduceLT,Int.reduceToNat])))
end Go.Proofs.YtilbipknodpmmaaDoor
