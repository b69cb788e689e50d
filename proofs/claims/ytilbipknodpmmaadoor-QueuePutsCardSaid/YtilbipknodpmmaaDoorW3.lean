/- Of the queue: what an item writes, and the statements' own example. -/
import Derived.Test.YtilbipknodpmmaaDoorB1
import Derived.Test.YtilbipknodpmmaaDoorO2
import Derived.Test.YtilbipknodpmmaaDoorE31
import Derived.Test.YtilbipknodpmmaaDoorM21
set_option linter.unusedVariables false
set_option linter.unusedSimpArgs false
set_option linter.unusedSectionVars false
set_option maxRecDepth 100000
set_option maxHeartbeats 8000000
namespace Go.Proofs.YtilbipknodpmmaaDoor
open Go.RowKit

theorem itC_parts {x : It} (h : x.Ok) : (itC x).length = 36 ∧ List.take 1 (itC x) = [.int .i64 x.id] ∧ List.take 1 (List.drop 1 (itC x)) = [.int .i64 x.kind] ∧ List.take 1 (List.drop 2 (itC x)) = [.str x.name] ∧ List.take 1 (List.drop 3 (itC x)) = [.int .i64 x.n] ∧ List.take 32 (List.drop 4 (itC x)) = bl x.data :=
  ⟨itC_length h,rfl,rfl,rfl,rfl,List.take_of_length_le (by simp [itC,bl_length,h.d])⟩
theorem mk_ptL {b nm : List UInt8} {n : Int} (hE : mkE (decV b) nm n = 0) : List.take ((mkP (decV b) nm n).length * 33) (ptL (mkP (decV b) nm n)) = ptL (mkP (decV b) nm n) ∧ (ptL (mkP (decV b) nm n)).length = (mkP (decV b) nm n).length * 33:=by
  have h : ∀ q ∈ mkP (decV b) nm n,q.2.length = 32:=by
    intro q hq
    unfold mkP at hq
    rcases List.mem_append.1 hq with hq | hq
    · exact zpt_ok _ q hq
    · obtain rfl:=List.mem_singleton.1 hq
      refine tabB_length ?_
      unfold mkE at hE
      unfold mkV
      repeat (first | (split at hE; (first | (exact absurd hE (by decide)) | skip)))
      simp
      omega
  have l:=ptL_length h
  exact ⟨List.take_of_length_le (by omega),l⟩
theorem outP_or (E : Int) (ps : List (Int × List UInt8)) : (E = 0 ∧ outP E ps = .own ps.length 33 (ptL ps)) ∨ (E ≠ 0 ∧ outP E ps = .sl .full 0 []):=by
  by_cases h : E = 0
  · exact .inl ⟨h,if_pos h⟩
  · exact .inr ⟨h,if_neg h⟩
theorem putsP_mk (x : It) (hx : x.Ok) (hk : x.kind = 2) (b : List UInt8) (hb : b.length = 32) : RC Tryd.prog 41 [.agg (itC x),.agg (bl b)] [outP (mkE (decV b) x.name x.n) (mkP (decV b) x.name x.n),.int .i64 (mkE (decV b) x.name x.n)]:=by
  refine RC.of_wp c41 rfl ?_
  obtain ⟨p0,p1,p2,p3,p4,p5⟩:=itC_parts hx
  rw [hk] at p2
  have c1:=makeP_ok b x.name x.n hb hx.nm
  have lb : (bl b).length = 32:=by rw [bl_length,hb]
  have tb : List.take 32 (bl b) = bl b:=List.take_of_length_le (by omega)
  have sx:=itC_scal x
  rcases outP_or (mkE (decV b) x.name x.n) (mkP (decV b) x.name x.n) with ⟨hE,e⟩ | ⟨hE,e⟩
  · obtain ⟨t1,t2⟩:=mk_ptL hE
    rw [e] at c1 ⊢
    have s1:=ptL_scal (mkP (decV b) x.name x.n)
    obtain ⟨ps,hps⟩ : ∃ ps,ps = mkP (decV b) x.name x.n:=⟨_,rfl⟩
    rw [← hps] at c1 t1 t2 s1 ⊢
    obtain ⟨E,hE'⟩ : ∃ E,E = mkE (decV b) x.name x.n:=⟨_,rfl⟩
    rw [← hE'] at c1 ⊢
    repeat' (first | simp -implicitDefEqProofs (maxSteps:=2000000) only [m41_1,m41_2,m41_3,m41_4,m41_5,m41_6,m41_7,m41_8,m41_9,m41_10,m41_11,m41_12,m41_13,m41_14,m41_r,m41_b,m41,p0,p1,p2,p3,p4,p5,lb,tb,sx,t1,t2,s1,bl_scal,bl_allO,wk,act,asV,↓reduceIte,Nat.reduceEqDiff,reduceCtorEq,Nat.reduceAdd,Nat.reduceLeDiff,Nat.reduceSub,Nat.reduceMul,List.reduceReplicate,Int.reduceEq,Int.reduceLT,Int.reduceLE,Int.reduceAdd,Int.reduceSub,Int.reduceMul,Nat.reduceLT,Int.reduceToNat] | ((first | ((with_reducible refine CallL.gate ?_); apply CallL.of) | ((with_reducible refine CallP.gate ?_); apply CallP.of)); (case h1 => (simp -implicitDefEqProofs (maxSteps:=2000000) only [m41_1,m41_2,m41_3,m41_4,m41_5,m41_6,m41_7,m41_8,m41_9,m41_10,m41_11,m41_12,m41_13,m41_14,m41_r,m41_b,m41,p0,p1,p2,p3,p4,p5,lb,tb,sx,t1,t2,s1,bl_scal,bl_allO,wk,act,asV,↓reduceIte,Nat.reduceEqDiff,reduceCtorEq,Nat.reduceAdd,Nat.reduceLeDiff,Nat.reduceSub,Nat.reduceMul,List.reduceReplicate,Int.reduceEq,Int.reduceLT,Int.reduceLE,Int.reduceAdd,Int.reduceSub,Int.reduceMul,Nat.reduceLT,Int.reduceToNat]; first | done | (with_reducible rfl))); (case h2 => (first | exact c1)); (case h3 => simp -implicitDefEqProofs (maxSteps:=2000000) only [m41_1,m41_2,m41_3,m41_4,m41_5,m41_6,m41_7,m41_8,m41_9,m41_10,m41_11,m41_12,m41_13,m41_14,m41_r,m41_b,m41,p0,p1,p2,p3,p4,p5,lb,tb,sx,t1,t2,s1,bl_scal,bl_allO,wk,act,asV,↓reduceIte,Nat.reduceEqDiff,reduceCtorEq,Nat.reduceAdd,Nat.reduceLeDiff,Nat.reduceSub,Nat.reduceMul,List.reduceReplicate,Int.reduceEq,Int.reduceLT,Int.reduceLE,Int.reduceAdd,Int.reduceSub,Int.reduceMul,Nat.reduceLT,Int.reduceToNat])))
  · rw [e] at c1 ⊢
    obtain ⟨E,hE'⟩ : ∃ E,E = mkE (decV b) x.name x.n:=⟨_,rfl⟩
    rw [← hE'] at c1 ⊢
    repeat' (first | simp -implicitDefEqProofs (maxSteps:=2000000) only [m41_1,m41_2,m41_3,m41_4,m41_5,m41_6,m41_7,m41_8,m41_9,m41_10,m41_11,m41_12,m41_13,m41_14,m41_r,m41_b,m41,p0,p1,p2,p3,p4,p5,lb,tb,sx,bl_scal,bl_allO,wk,act,asV,↓reduceIte,Nat.reduceEqDiff,reduceCtorEq,Nat.reduceAdd,Nat.reduceLeDiff,Nat.reduceSub,Nat.reduceMul,List.reduceReplicate,Int.reduceEq,Int.reduceLT,Int.reduceLE,Int.reduceAdd,Int.reduceSub,Int.reduceMul,Nat.reduceLT,Int.reduceToNat] | ((first | ((with_reducible refine CallL.gate ?_); apply CallL.of) | ((with_reducible refine CallP.gate ?_); apply CallP.of)); (case h1 => (simp -implicitDefEqProofs (maxSteps:=2000000) only [m41_1,m41_2,m41_3,m41_4,m41_5,m41_6,m41_7,m41_8,m41_9,m41_10,m41_11,m41_12,m41_13,m41_14,m41_r,m41_b,m41,p0,p1,p2,p3,p4,p5,lb,tb,sx,bl_scal,bl_allO,wk,act,asV,↓reduceIte,Nat.reduceEqDiff,reduceCtorEq,Nat.reduceAdd,Nat.reduceLeDiff,Nat.reduceSub,Nat.reduceMul,List.reduceReplicate,Int.reduceEq,Int.reduceLT,Int.reduceLE,Int.reduceAdd,Int.reduceSub,Int.reduceMul,Nat.reduceLT,Int.reduceToNat]; first | done | (with_reducible rfl))); (case h2 => (first | exact c1)); (case h3 => simp -implicitDefEqProofs (maxSteps:=2000000) only [m41_1,m41_2,m41_3,m41_4,m41_5,m41_6,m41_7,m41_8,m41_9,m41_10,m41_11,m41_12,m41_13,m41_14,m41_r,m41_b,m41,p0,p1,p2,p3,p4,p5,lb,tb,sx,bl_scal,bl_allO,wk,act,asV,↓reduceIte,Nat.reduceEqDiff,reduceCtorEq,Nat.reduceAdd,Nat.reduceLeDiff,Nat.reduceSub,Nat.reduceMul,List.reduceReplicate,Int.reduceEq,Int.reduceLT,Int.reduceLE,Int.reduceAdd,Int.reduceSub,Int.reduceMul,Nat.reduceLT,Int.reduceToNat])))
theorem wrR_or (b nm : List UInt8) (n : Int) (d : List UInt8) (hd : d.length = 32) : ∃ k cs,wrR b nm n d = .sl .full k cs ∧ cs.length = k * 33 ∧ IV.purL cs = true:=by
  unfold wrR
  split
  · exact ⟨1,_,rfl,ptC_length hd,ptC_pur _⟩
  · exact ⟨0,[],rfl,rfl,rfl⟩
theorem putsP_wr (x : It) (hx : x.Ok) (hk : x.kind = 1) (b : List UInt8) (hb : b.length = 32) : RC Tryd.prog 41 [.agg (itC x),.agg (bl b)] [wrR b x.name x.n x.data,.int .i64 (wrE b x.name x.n)]:=by
  refine RC.of_wp c41 rfl ?_
  obtain ⟨p0,p1,p2,p3,p4,p5⟩:=itC_parts hx
  rw [hk] at p2
  have c1:=writeP_ok b x.name x.data x.n hb hx.nm hx.d
  have lb : (bl b).length = 32:=by rw [bl_length,hb]
  have tb : List.take 32 (bl b) = bl b:=List.take_of_length_le (by omega)
  have sx:=itC_scal x
  obtain ⟨k,cs,e,e1,e2⟩:=wrR_or b x.name x.n x.data hx.d
  rw [e] at c1 ⊢
  obtain ⟨E,hE'⟩ : ∃ E,E = wrE b x.name x.n:=⟨_,rfl⟩
  rw [← hE'] at c1 ⊢
  repeat' (first | simp -implicitDefEqProofs (maxSteps:=2000000) only [m41_1,m41_2,m41_3,m41_4,m41_5,m41_6,m41_7,m41_8,m41_9,m41_10,m41_11,m41_12,m41_13,m41_14,m41_r,m41_b,m41,p0,p1,p2,p3,p4,p5,lb,tb,sx,e1,e2,bl_scal,bl_allO,wk,act,asV,↓reduceIte,Nat.reduceEqDiff,reduceCtorEq,Nat.reduceAdd,Nat.reduceLeDiff,Nat.reduceSub,Nat.reduceMul,List.reduceReplicate,Int.reduceEq,Int.reduceLT,Int.reduceLE,Int.reduceAdd,Int.reduceSub,Int.reduceMul,Nat.reduceLT,Int.reduceToNat] | ((first | ((with_reducible refine CallL.gate ?_); apply CallL.of) | ((with_reducible refine CallP.gate ?_); apply CallP.of)); (case h1 => (simp -implicitDefEqProofs (maxSteps:=2000000) only [m41_1,m41_2,m41_3,m41_4,m41_5,m41_6,m41_7,m41_8,m41_9,m41_10,m41_11,m41_12,m41_13,m41_14,m41_r,m41_b,m41,p0,p1,p2,p3,p4,p5,lb,tb,sx,e1,e2,bl_scal,bl_allO,wk,act,asV,↓reduceIte,Nat.reduceEqDiff,reduceCtorEq,Nat.reduceAdd,Nat.reduceLeDiff,Nat.reduceSub,Nat.reduceMul,List.reduceReplicate,Int.reduceEq,Int.reduceLT,Int.reduceLE,Int.reduceAdd,Int.reduceSub,Int.reduceMul,Nat.reduceLT,Int.reduceToNat]; first | done | (with_reducible rfl))); (case h2 => (first | exact c1)); (case h3 => simp -implicitDefEqProofs (maxSteps:=2000000) only [m41_1,m41_2,m41_3,m41_4,m41_5,m41_6,m41_7,m41_8,m41_9,m41_10,m41_11,m41_12,m41_13,m41_14,m41_r,m41_b,m41,p0,p1,p2,p3,p4,p5,lb,tb,sx,e1,e2,bl_scal,bl_allO,wk,act,asV,↓reduceIte,Nat.reduceEqDiff,reduceCtorEq,Nat.reduceAdd,Nat.reduceLeDiff,Nat.reduceSub,Nat.reduceMul,List.reduceReplicate,Int.reduceEq,Int.reduceLT,Int.reduceLE,Int.reduceAdd,Int.reduceSub,Int.reduceMul,Nat.reduceLT,Int.reduceToNat])))
theorem putsP_no (x : It) (hx : x.Ok) (h1 : x.kind ≠ 1) (h2 : x.kind ≠ 2) (h3 : x.kind ≠ 3) (b : List UInt8) (hb : b.length = 32) : RC Tryd.prog 41 [.agg (itC x),.agg (bl b)] [.sl .full 0 [],.int .i64 1]:=by
  refine RC.of_wp c41 rfl ?_
  obtain ⟨p0,p1,p2,p3,p4,p5⟩:=itC_parts hx
  simp -implicitDefEqProofs (maxSteps:=2000000) only [m41_1,m41_2,m41_3,m41_4,m41_5,m41_6,m41_7,m41_8,m41_9,m41_10,m41_11,m41_12,m41_13,m41_14,m41_r,m41_b,m41,p0,p1,p2,p3,p4,p5,h1,h2,h3,wk,act,asV,↓reduceIte,Nat.reduceEqDiff,reduceCtorEq,Nat.reduceAdd,Nat.reduceLeDiff,Nat.reduceSub,Nat.reduceMul,List.reduceReplicate,Int.reduceEq,Int.reduceLT,Int.reduceLE,Int.reduceAdd,Int.reduceSub,Int.reduceMul,Nat.reduceLT,Int.reduceToNat]

def wa : It:=⟨5,2,[97,98],1,zs 32⟩
theorem wa_ok : wa.Ok:=⟨rfl,by decide⟩
def wk4 : It:=⟨0,4,[],0,zs 32⟩
theorem wk4_ok : wk4.Ok:=⟨rfl,by decide⟩
theorem wa_placed : placed [.int .i64 0,.int .i64 0,.str [],.int .i64 0,.int .u8 0,.int .u8 0,.int .u8 0,.int .u8 0,.int .u8 0,.int .u8 0,.int .u8 0,.int .u8 0,.int .u8 0,.int .u8 0,.int .u8 0,.int .u8 0,.int .u8 0,.int .u8 0,.int .u8 0,.int .u8 0,.int .u8 0,.int .u8 0,.int .u8 0,.int .u8 0,.int .u8 0,.int .u8 0,.int .u8 0,.int .u8 0,.int .u8 0,.int .u8 0,.int .u8 0,.int .u8 0,.int .u8 0,.int .u8 0,.int .u8 0,.int .u8 0] [(0,[.int .i64 5]),(1,[.int .i64 2]),(2,[.str [97,98]]),(3,[.int .i64 1])] = some (itC wa):=rfl
theorem wk4_placed : placed [.int .i64 0,.int .i64 0,.str [],.int .i64 0,.int .u8 0,.int .u8 0,.int .u8 0,.int .u8 0,.int .u8 0,.int .u8 0,.int .u8 0,.int .u8 0,.int .u8 0,.int .u8 0,.int .u8 0,.int .u8 0,.int .u8 0,.int .u8 0,.int .u8 0,.int .u8 0,.int .u8 0,.int .u8 0,.int .u8 0,.int .u8 0,.int .u8 0,.int .u8 0,.int .u8 0,.int .u8 0,.int .u8 0,.int .u8 0,.int .u8 0,.int .u8 0,.int .u8 0,.int .u8 0,.int .u8 0,.int .u8 0] [(1,[.int .i64 4])] = some (itC wk4):=rfl
theorem wa_eq : eqL (itC wa) (itC wa) = some true:=by decide +kernel
theorem wa_fit : fitR [(2,.i),(1,.s),(33,.i)] (itC wa) = true:=by decide +kernel
theorem wa_mkE : mkE (decV (zs 32)) wa.name wa.n = 0:=by decide +kernel
theorem wa_mkP : (mkP (decV (zs 32)) wa.name wa.n).length = 2:=by decide +kernel
theorem wakesQ_ok : RC Tryd.prog 29 [] [.bool true]:=by
  refine RC.of_wp c29 rfl ?_
  have l0 : (itC wa).length = 36:=rfl
  have t0 : List.take 36 (itC wa) = itC wa:=rfl
  have d0 : List.drop 36 (itC wa) = []:=rfl
  have s0:=itC_scal wa
  have l1 : (itC wk4).length = 36:=rfl
  have s1:=itC_scal wk4
  have x1 : (itC wa ++ [IV.int .i64 0,IV.int .i64 0,IV.str [],IV.int .i64 0,IV.int .u8 0,IV.int .u8 0,IV.int .u8 0,IV.int .u8 0,IV.int .u8 0,IV.int .u8 0,IV.int .u8 0,IV.int .u8 0,IV.int .u8 0,IV.int .u8 0,IV.int .u8 0,IV.int .u8 0,IV.int .u8 0,IV.int .u8 0,IV.int .u8 0,IV.int .u8 0,IV.int .u8 0,IV.int .u8 0,IV.int .u8 0,IV.int .u8 0,IV.int .u8 0,IV.int .u8 0,IV.int .u8 0,IV.int .u8 0,IV.int .u8 0,IV.int .u8 0,IV.int .u8 0,IV.int .u8 0,IV.int .u8 0,IV.int .u8 0,IV.int .u8 0,IV.int .u8 0]).length = 72:=rfl
  have x2 : List.take 36 (itC wa ++ [IV.int .i64 0,IV.int .i64 0,IV.str [],IV.int .i64 0,IV.int .u8 0,IV.int .u8 0,IV.int .u8 0,IV.int .u8 0,IV.int .u8 0,IV.int .u8 0,IV.int .u8 0,IV.int .u8 0,IV.int .u8 0,IV.int .u8 0,IV.int .u8 0,IV.int .u8 0,IV.int .u8 0,IV.int .u8 0,IV.int .u8 0,IV.int .u8 0,IV.int .u8 0,IV.int .u8 0,IV.int .u8 0,IV.int .u8 0,IV.int .u8 0,IV.int .u8 0,IV.int .u8 0,IV.int .u8 0,IV.int .u8 0,IV.int .u8 0,IV.int .u8 0,IV.int .u8 0,IV.int .u8 0,IV.int .u8 0,IV.int .u8 0,IV.int .u8 0]) = itC wa:=rfl
  have x3 : List.drop 72 (itC wa ++ [IV.int .i64 0,IV.int .i64 0,IV.str [],IV.int .i64 0,IV.int .u8 0,IV.int .u8 0,IV.int .u8 0,IV.int .u8 0,IV.int .u8 0,IV.int .u8 0,IV.int .u8 0,IV.int .u8 0,IV.int .u8 0,IV.int .u8 0,IV.int .u8 0,IV.int .u8 0,IV.int .u8 0,IV.int .u8 0,IV.int .u8 0,IV.int .u8 0,IV.int .u8 0,IV.int .u8 0,IV.int .u8 0,IV.int .u8 0,IV.int .u8 0,IV.int .u8 0,IV.int .u8 0,IV.int .u8 0,IV.int .u8 0,IV.int .u8 0,IV.int .u8 0,IV.int .u8 0,IV.int .u8 0,IV.int .u8 0,IV.int .u8 0,IV.int .u8 0]) = []:=rfl
  have y1 : (itC wa ++ (IV.int .i64 0 :: IV.int .i64 0 :: IV.str [] :: IV.int .i64 0 :: IV.int .u8 0 :: IV.int .u8 0 :: IV.int .u8 0 :: IV.int .u8 0 :: IV.int .u8 0 :: IV.int .u8 0 :: IV.int .u8 0 :: IV.int .u8 0 :: IV.int .u8 0 :: IV.int .u8 0 :: IV.int .u8 0 :: IV.int .u8 0 :: IV.int .u8 0 :: IV.int .u8 0 :: IV.int .u8 0 :: IV.int .u8 0 :: IV.int .u8 0 :: IV.int .u8 0 :: IV.int .u8 0 :: IV.int .u8 0 :: IV.int .u8 0 :: IV.int .u8 0 :: IV.int .u8 0 :: IV.int .u8 0 :: IV.int .u8 0 :: IV.int .u8 0 :: IV.int .u8 0 :: IV.int .u8 0 :: IV.int .u8 0 :: IV.int .u8 0 :: IV.int .u8 0 :: IV.int .u8 0 :: IV.int .i64 0 :: IV.int .i64 0 :: IV.str [] :: IV.int .i64 0 :: IV.int .u8 0 :: IV.int .u8 0 :: IV.int .u8 0 :: IV.int .u8 0 :: IV.int .u8 0 :: IV.int .u8 0 :: IV.int .u8 0 :: IV.int .u8 0 :: IV.int .u8 0 :: IV.int .u8 0 :: IV.int .u8 0 :: IV.int .u8 0 :: IV.int .u8 0 :: IV.int .u8 0 :: IV.int .u8 0 :: IV.int .u8 0 :: IV.int .u8 0 :: IV.int .u8 0 :: IV.int .u8 0 :: IV.int .u8 0 :: IV.int .u8 0 :: IV.int .u8 0 :: IV.int .u8 0 :: IV.int .u8 0 :: IV.int .u8 0 :: IV.int .u8 0 :: IV.int .u8 0 :: IV.int .u8 0 :: IV.int .u8 0 :: IV.int .u8 0 :: IV.int .u8 0 :: IV.int .u8 0 :: [] : List IV)).length = 108:=rfl
  have y2 : List.take 36 (itC wa ++ (IV.int .i64 0 :: IV.int .i64 0 :: IV.str [] :: IV.int .i64 0 :: IV.int .u8 0 :: IV.int .u8 0 :: IV.int .u8 0 :: IV.int .u8 0 :: IV.int .u8 0 :: IV.int .u8 0 :: IV.int .u8 0 :: IV.int .u8 0 :: IV.int .u8 0 :: IV.int .u8 0 :: IV.int .u8 0 :: IV.int .u8 0 :: IV.int .u8 0 :: IV.int .u8 0 :: IV.int .u8 0 :: IV.int .u8 0 :: IV.int .u8 0 :: IV.int .u8 0 :: IV.int .u8 0 :: IV.int .u8 0 :: IV.int .u8 0 :: IV.int .u8 0 :: IV.int .u8 0 :: IV.int .u8 0 :: IV.int .u8 0 :: IV.int .u8 0 :: IV.int .u8 0 :: IV.int .u8 0 :: IV.int .u8 0 :: IV.int .u8 0 :: IV.int .u8 0 :: IV.int .u8 0 :: IV.int .i64 0 :: IV.int .i64 0 :: IV.str [] :: IV.int .i64 0 :: IV.int .u8 0 :: IV.int .u8 0 :: IV.int .u8 0 :: IV.int .u8 0 :: IV.int .u8 0 :: IV.int .u8 0 :: IV.int .u8 0 :: IV.int .u8 0 :: IV.int .u8 0 :: IV.int .u8 0 :: IV.int .u8 0 :: IV.int .u8 0 :: IV.int .u8 0 :: IV.int .u8 0 :: IV.int .u8 0 :: IV.int .u8 0 :: IV.int .u8 0 :: IV.int .u8 0 :: IV.int .u8 0 :: IV.int .u8 0 :: IV.int .u8 0 :: IV.int .u8 0 :: IV.int .u8 0 :: IV.int .u8 0 :: IV.int .u8 0 :: IV.int .u8 0 :: IV.int .u8 0 :: IV.int .u8 0 :: IV.int .u8 0 :: IV.int .u8 0 :: IV.int .u8 0 :: IV.int .u8 0 :: [] : List IV)) = itC wa:=rfl
  have y3 : List.drop 72 (itC wa ++ (IV.int .i64 0 :: IV.int .i64 0 :: IV.str [] :: IV.int .i64 0 :: IV.int .u8 0 :: IV.int .u8 0 :: IV.int .u8 0 :: IV.int .u8 0 :: IV.int .u8 0 :: IV.int .u8 0 :: IV.int .u8 0 :: IV.int .u8 0 :: IV.int .u8 0 :: IV.int .u8 0 :: IV.int .u8 0 :: IV.int .u8 0 :: IV.int .u8 0 :: IV.int .u8 0 :: IV.int .u8 0 :: IV.int .u8 0 :: IV.int .u8 0 :: IV.int .u8 0 :: IV.int .u8 0 :: IV.int .u8 0 :: IV.int .u8 0 :: IV.int .u8 0 :: IV.int .u8 0 :: IV.int .u8 0 :: IV.int .u8 0 :: IV.int .u8 0 :: IV.int .u8 0 :: IV.int .u8 0 :: IV.int .u8 0 :: IV.int .u8 0 :: IV.int .u8 0 :: IV.int .u8 0 :: IV.int .i64 0 :: IV.int .i64 0 :: IV.str [] :: IV.int .i64 0 :: IV.int .u8 0 :: IV.int .u8 0 :: IV.int .u8 0 :: IV.int .u8 0 :: IV.int .u8 0 :: IV.int .u8 0 :: IV.int .u8 0 :: IV.int .u8 0 :: IV.int .u8 0 :: IV.int .u8 0 :: IV.int .u8 0 :: IV.int .u8 0 :: IV.int .u8 0 :: IV.int .u8 0 :: IV.int .u8 0 :: IV.int .u8 0 :: IV.int .u8 0 :: IV.int .u8 0 :: IV.int .u8 0 :: IV.int .u8 0 :: IV.int .u8 0 :: IV.int .u8 0 :: IV.int .u8 0 :: IV.int .u8 0 :: IV.int .u8 0 :: IV.int .u8 0 :: IV.int .u8 0 :: IV.int .u8 0 :: IV.int .u8 0 :: IV.int .u8 0 :: IV.int .u8 0 :: IV.int .u8 0 :: [] : List IV)) = [IV.int .i64 0,IV.int .i64 0,IV.str [],IV.int .i64 0,IV.int .u8 0,IV.int .u8 0,IV.int .u8 0,IV.int .u8 0,IV.int .u8 0,IV.int .u8 0,IV.int .u8 0,IV.int .u8 0,IV.int .u8 0,IV.int .u8 0,IV.int .u8 0,IV.int .u8 0,IV.int .u8 0,IV.int .u8 0,IV.int .u8 0,IV.int .u8 0,IV.int .u8 0,IV.int .u8 0,IV.int .u8 0,IV.int .u8 0,IV.int .u8 0,IV.int .u8 0,IV.int .u8 0,IV.int .u8 0,IV.int .u8 0,IV.int .u8 0,IV.int .u8 0,IV.int .u8 0,IV.int .u8 0,IV.int .u8 0,IV.int .u8 0,IV.int .u8 0]:=rfl
  have z1 : (itC wa ++ itC wa ++ [IV.int .i64 0,IV.int .i64 0,IV.str [],IV.int .i64 0,IV.int .u8 0,IV.int .u8 0,IV.int .u8 0,IV.int .u8 0,IV.int .u8 0,IV.int .u8 0,IV.int .u8 0,IV.int .u8 0,IV.int .u8 0,IV.int .u8 0,IV.int .u8 0,IV.int .u8 0,IV.int .u8 0,IV.int .u8 0,IV.int .u8 0,IV.int .u8 0,IV.int .u8 0,IV.int .u8 0,IV.int .u8 0,IV.int .u8 0,IV.int .u8 0,IV.int .u8 0,IV.int .u8 0,IV.int .u8 0,IV.int .u8 0,IV.int .u8 0,IV.int .u8 0,IV.int .u8 0,IV.int .u8 0,IV.int .u8 0,IV.int .u8 0,IV.int .u8 0]).length = 108:=rfl
  have z2 : List.take 72 (itC wa ++ itC wa ++ [IV.int .i64 0,IV.int .i64 0,IV.str [],IV.int .i64 0,IV.int .u8 0,IV.int .u8 0,IV.int .u8 0,IV.int .u8 0,IV.int .u8 0,IV.int .u8 0,IV.int .u8 0,IV.int .u8 0,IV.int .u8 0,IV.int .u8 0,IV.int .u8 0,IV.int .u8 0,IV.int .u8 0,IV.int .u8 0,IV.int .u8 0,IV.int .u8 0,IV.int .u8 0,IV.int .u8 0,IV.int .u8 0,IV.int .u8 0,IV.int .u8 0,IV.int .u8 0,IV.int .u8 0,IV.int .u8 0,IV.int .u8 0,IV.int .u8 0,IV.int .u8 0,IV.int .u8 0,IV.int .u8 0,IV.int .u8 0,IV.int .u8 0,IV.int .u8 0]) = itC wa ++ itC wa:=rfl
  have z3 : List.drop 108 (itC wa ++ itC wa ++ [IV.int .i64 0,IV.int .i64 0,IV.str [],IV.int .i64 0,IV.int .u8 0,IV.int .u8 0,IV.int .u8 0,IV.int .u8 0,IV.int .u8 0,IV.int .u8 0,IV.int .u8 0,IV.int .u8 0,IV.int .u8 0,IV.int .u8 0,IV.int .u8 0,IV.int .u8 0,IV.int .u8 0,IV.int .u8 0,IV.int .u8 0,IV.int .u8 0,IV.int .u8 0,IV.int .u8 0,IV.int .u8 0,IV.int .u8 0,IV.int .u8 0,IV.int .u8 0,IV.int .u8 0,IV.int .u8 0,IV.int .u8 0,IV.int .u8 0,IV.int .u8 0,IV.int .u8 0,IV.int .u8 0,IV.int .u8 0,IV.int .u8 0,IV.int .u8 0]) = []:=rfl
  have hwa : ∀ x ∈ [wa,wa],x.Ok:=by intro x hx; simp at hx; rw [hx]; exact wa_ok
  have hwa1 : ∀ x ∈ [wa],x.Ok:=by intro x hx; simp at hx; rw [hx]; exact wa_ok
  have hwa3 : ∀ x ∈ [wa,wa,wa],x.Ok:=by intro x hx; simp at hx; rw [hx]; exact wa_ok
  have a1:=fun {H : Nat → Blk} {hv : Nat} (o : ObjQ 10 hv 1024 H []) => qadd_ok (h:=10) (ys:=[wa,wa]) (w:=.sl .lit 2 (itC wa ++ itC wa)) (by decide) (by simp) (by decide) hwa (by decide) (.inl ⟨_,rfl⟩) o
  have a2:=fun {H : Nat → Blk} {hv : Nat} (o : ObjQ 10 hv 1024 H [wa,wa]) => qadd_ok (h:=10) (ys:=[wa,wa,wa]) (w:=.sl .lit 3 (itC wa ++ itC wa ++ itC wa)) (by decide) hwa (by decide) hwa3 (by decide) (.inl ⟨_,rfl⟩) o
  have q1 : qE [] [wa,wa] = 0:=rfl
  have q2 : qL [] [wa,wa] = [wa,wa]:=rfl
  have q3 : qE [wa,wa] [wa,wa,wa] = 19:=rfl
  have q4 : qL [wa,wa] [wa,wa,wa] = [wa,wa]:=rfl
  rw [q1,q2] at a1
  rw [q3,q4] at a2
  have p1:=wa_placed
  have p2:=wk4_placed
  have zc:=zs_cells
  simp -implicitDefEqProofs (maxSteps:=2000000) only [m29_1,m29_2,m29_3,m29_4,m29_5,m29_6,m29_7,m29_8,m29_9,m29_10,m29_11,m29_12,m29_13,m29_14,m29_15,m29_16,m29_17,m29_18,m29_r,m29_b,m29,p1,l0,t0,d0,s0,x1,x2,x3,wk,act,asV,↓reduceIte,Nat.reduceEqDiff,reduceCtorEq,Nat.reduceAdd,Nat.reduceLeDiff,Nat.reduceSub,Nat.reduceMul,List.reduceReplicate,Int.reduceEq,Int.reduceLT,Int.reduceLE,Int.reduceAdd,Int.reduceSub,Int.reduceMul,Nat.reduceLT,Int.reduceToNat]
  refine CallnL.of (by simp -implicitDefEqProofs (maxSteps:=2000000) only [wk,act,asV,↓reduceIte,Nat.reduceEqDiff,reduceCtorEq,Nat.reduceAdd,Nat.reduceLeDiff,Nat.reduceSub,Nat.reduceMul,List.reduceReplicate,Int.reduceEq,Int.reduceLT,Int.reduceLE,Int.reduceAdd,Int.reduceSub,Int.reduceMul,Nat.reduceLT,Int.reduceToNat]; first | done | rfl) (a1 ⟨_,by simp -implicitDefEqProofs (maxSteps:=2000000) only [wk,act,asV,↓reduceIte,Nat.reduceEqDiff,reduceCtorEq,Nat.reduceAdd,Nat.reduceLeDiff,Nat.reduceSub,Nat.reduceMul,List.reduceReplicate,Int.reduceEq,Int.reduceLT,Int.reduceLE,Int.reduceAdd,Int.reduceSub,Int.reduceMul,Nat.reduceLT,Int.reduceToNat]; first | done | rfl,.inl ⟨rfl,rfl⟩⟩) ?_
  rintro _ h1 ⟨rfl,o1,fr1⟩
  have g2:=fr1 2 (by decide) (by decide)
  simp -implicitDefEqProofs (maxSteps:=2000000) only [l0,t0,d0,s0,wk,act,asV,↓reduceIte,Nat.reduceEqDiff,reduceCtorEq,Nat.reduceAdd,Nat.reduceLeDiff,Nat.reduceSub,Nat.reduceMul,List.reduceReplicate,Int.reduceEq,Int.reduceLT,Int.reduceLE,Int.reduceAdd,Int.reduceSub,Int.reduceMul,Nat.reduceLT,Int.reduceToNat] at g2
  simp -implicitDefEqProofs (maxSteps:=2000000) only [g2,l0,t0,d0,s0,y1,y2,y3,z1,z2,z3,wk,act,asV,↓reduceIte,Nat.reduceEqDiff,reduceCtorEq,Nat.reduceAdd,Nat.reduceLeDiff,Nat.reduceSub,Nat.reduceMul,List.reduceReplicate,Int.reduceEq,Int.reduceLT,Int.reduceLE,Int.reduceAdd,Int.reduceSub,Int.reduceMul,Nat.reduceLT,Int.reduceToNat]
  refine CallnL.of (by simp -implicitDefEqProofs (maxSteps:=2000000) only [wk,act,asV,↓reduceIte,Nat.reduceEqDiff,reduceCtorEq,Nat.reduceAdd,Nat.reduceLeDiff,Nat.reduceSub,Nat.reduceMul,List.reduceReplicate,Int.reduceEq,Int.reduceLT,Int.reduceLE,Int.reduceAdd,Int.reduceSub,Int.reduceMul,Nat.reduceLT,Int.reduceToNat]; first | done | rfl) (a2 o1) ?_
  rintro _ h2 ⟨rfl,o2,fr2⟩
  have g3:=(fr2 2 (by decide) (by decide)).trans g2
  simp -implicitDefEqProofs (maxSteps:=2000000) only [g3,wk,act,asV,↓reduceIte,Nat.reduceEqDiff,reduceCtorEq,Nat.reduceAdd,Nat.reduceLeDiff,Nat.reduceSub,Nat.reduceMul,List.reduceReplicate,Int.reduceEq,Int.reduceLT,Int.reduceLE,Int.reduceAdd,Int.reduceSub,Int.reduceMul,Nat.reduceLT,Int.reduceToNat]
  refine CallnL.of (by simp -implicitDefEqProofs (maxSteps:=2000000) only [wk,act,asV,↓reduceIte,Nat.reduceEqDiff,reduceCtorEq,Nat.reduceAdd,Nat.reduceLeDiff,Nat.reduceSub,Nat.reduceMul,List.reduceReplicate,Int.reduceEq,Int.reduceLT,Int.reduceLE,Int.reduceAdd,Int.reduceSub,Int.reduceMul,Nat.reduceLT,Int.reduceToNat]; first | done | rfl) (qlen_ok o2) ?_
  rintro _ _ ⟨rfl,rfl⟩
  have w2 : (([wa,wa].length : Nat) : Int) = 2:=rfl
  simp -implicitDefEqProofs (maxSteps:=2000000) only [w2,wk,act,asV,↓reduceIte,Nat.reduceEqDiff,reduceCtorEq,Nat.reduceAdd,Nat.reduceLeDiff,Nat.reduceSub,Nat.reduceMul,List.reduceReplicate,Int.reduceEq,Int.reduceLT,Int.reduceLE,Int.reduceAdd,Int.reduceSub,Int.reduceMul,Nat.reduceLT,Int.reduceToNat]
  refine CallnL.of (by simp -implicitDefEqProofs (maxSteps:=2000000) only [wk,act,asV,↓reduceIte,Nat.reduceEqDiff,reduceCtorEq,Nat.reduceAdd,Nat.reduceLeDiff,Nat.reduceSub,Nat.reduceMul,List.reduceReplicate,Int.reduceEq,Int.reduceLT,Int.reduceLE,Int.reduceAdd,Int.reduceSub,Int.reduceMul,Nat.reduceLT,Int.reduceToNat]; first | done | rfl) (qhead_ok (by decide) hwa o2) ?_
  rintro _ h3 ⟨rfl,fr3⟩
  have hh : itC ([wa,wa].headD it0) = itC wa:=rfl
  have g4:=(fr3 2 (by decide)).trans g3
  have o3:=o2.fr (fr3 10 (by decide)) (fr3 1024 (by decide))
  have c1:=putsP_mk wa wa_ok rfl (zs 32) rfl
  rw [wa_mkE] at c1
  obtain ⟨m1,m2⟩:=mk_ptL wa_mkE
  have m3:=wa_mkP
  have ms:=ptL_scal (mkP (decV (zs 32)) wa.name wa.n)
  rw [show outP 0 (mkP (decV (zs 32)) wa.name wa.n) = .own (mkP (decV (zs 32)) wa.name wa.n).length 33 (ptL (mkP (decV (zs 32)) wa.name wa.n)) from if_pos rfl] at c1
  obtain ⟨ps,hps⟩ : ∃ ps,ps = mkP (decV (zs 32)) wa.name wa.n:=⟨_,rfl⟩
  rw [← hps] at c1 m1 m2 m3 ms
  rw [m3] at c1 m1 m2
  have c2:=putsP_no wk4 wk4_ok (by decide) (by decide) (by decide) (zs 32) rfl
  have lz : (bl (zs 32)).length = 32:=rfl
  have e1:=wa_eq
  have e2:=wa_fit
  repeat' (first | simp -implicitDefEqProofs (maxSteps:=2000000) only [hh,g4,l0,t0,d0,s0,p2,l1,s1,zc,lz,m1,m2,ms,e1,e2,bl_scal,bl_allO,wk,act,asV,↓reduceIte,Nat.reduceEqDiff,reduceCtorEq,Nat.reduceAdd,Nat.reduceLeDiff,Nat.reduceSub,Nat.reduceMul,List.reduceReplicate,Int.reduceEq,Int.reduceLT,Int.reduceLE,Int.reduceAdd,Int.reduceSub,Int.reduceMul,Nat.reduceLT,Int.reduceToNat] | ((first | ((with_reducible refine CallL.gate ?_); apply CallL.of) | ((with_reducible refine CallP.gate ?_); apply CallP.of)); (case h1 => (simp -implicitDefEqProofs (maxSteps:=2000000) only [hh,g4,l0,t0,d0,s0,p2,l1,s1,zc,lz,m1,m2,ms,e1,e2,bl_scal,bl_allO,wk,act,asV,↓reduceIte,Nat.reduceEqDiff,reduceCtorEq,Nat.reduceAdd,Nat.reduceLeDiff,Nat.reduceSub,Nat.reduceMul,List.reduceReplicate,Int.reduceEq,Int.reduceLT,Int.reduceLE,Int.reduceAdd,Int.reduceSub,Int.reduceMul,Nat.reduceLT,Int.reduceToNat]; first | done | (with_reducible rfl))); (case h2 => (first | exact c1 | exact c2)); (case h3 => simp -implicitDefEqProofs (maxSteps:=2000000) only [hh,g4,l0,t0,d0,s0,p2,l1,s1,zc,lz,m1,m2,ms,e1,e2,bl_scal,bl_allO,wk,act,asV,↓reduceIte,Nat.reduceEqDiff,reduceCtorEq,Nat.reduceAdd,Nat.reduceLeDiff,Nat.reduceSub,Nat.reduceMul,List.reduceReplicate,Int.reduceEq,Int.reduceLT,Int.reduceLE,Int.reduceAdd,Int.reduceSub,Int.reduceMul,Nat.reduceLT,Int.reduceToNat])))
  refine CallnL.of (by simp -implicitDefEqProofs (maxSteps:=2000000) only [wk,act,asV,↓reduceIte,Nat.reduceEqDiff,reduceCtorEq,Nat.reduceAdd,Nat.reduceLeDiff,Nat.reduceSub,Nat.reduceMul,List.reduceReplicate,Int.reduceEq,Int.reduceLT,Int.reduceLE,Int.reduceAdd,Int.reduceSub,Int.reduceMul,Nat.reduceLT,Int.reduceToNat]; first | done | rfl) (qpop_ok (h:=10) (by decide) hwa (o3.fr (by simp -implicitDefEqProofs (maxSteps:=2000000) only [wk,act,asV,↓reduceIte,Nat.reduceEqDiff,reduceCtorEq,Nat.reduceAdd,Nat.reduceLeDiff,Nat.reduceSub,Nat.reduceMul,List.reduceReplicate,Int.reduceEq,Int.reduceLT,Int.reduceLE,Int.reduceAdd,Int.reduceSub,Int.reduceMul,Nat.reduceLT,Int.reduceToNat]) (by simp -implicitDefEqProofs (maxSteps:=2000000) only [wk,act,asV,↓reduceIte,Nat.reduceEqDiff,reduceCtorEq,Nat.reduceAdd,Nat.reduceLeDiff,Nat.reduceSub,Nat.reduceMul,List.reduceReplicate,Int.reduceEq,Int.reduceLT,Int.reduceLE,Int.reduceAdd,Int.reduceSub,Int.reduceMul,Nat.reduceLT,Int.reduceToNat]))) ?_
  rintro _ h4 ⟨rfl,o4,fr4⟩
  have u1 : (![wa,wa].isEmpty) = true:=rfl
  simp -implicitDefEqProofs (maxSteps:=2000000) only [u1,wk,act,asV,↓reduceIte,Nat.reduceEqDiff,reduceCtorEq,Nat.reduceAdd,Nat.reduceLeDiff,Nat.reduceSub,Nat.reduceMul,List.reduceReplicate,Int.reduceEq,Int.reduceLT,Int.reduceLE,Int.reduceAdd,Int.reduceSub,Int.reduceMul,Nat.reduceLT,Int.reduceToNat]
  refine CallnL.of (by simp -implicitDefEqProofs (maxSteps:=2000000) only [wk,act,asV,↓reduceIte,Nat.reduceEqDiff,reduceCtorEq,Nat.reduceAdd,Nat.reduceLeDiff,Nat.reduceSub,Nat.reduceMul,List.reduceReplicate,Int.reduceEq,Int.reduceLT,Int.reduceLE,Int.reduceAdd,Int.reduceSub,Int.reduceMul,Nat.reduceLT,Int.reduceToNat]; first | done | rfl) (qclear_ok (h:=10) (xs:=[wa]) (by decide) hwa1 (by decide) o4) ?_
  rintro _ h5 ⟨⟨v5,rfl,r5⟩,o5,fr5⟩
  have ei : idsL [wa] = [5]:=rfl
  rw [ei] at r5
  rcases r5 with ⟨hn,_⟩ | ⟨_,v6,rfl,r6⟩
  · cases hn
  have c3:=ints_ok .plain .full [5] [5] (by decide)
  rw [decide_eq_true rfl] at c3
  have il5 : il [5] = [.int .i64 5]:=rfl
  rw [il5] at c3 r6
  rw [List.length_cons,List.length_nil] at c3
  repeat' (first | simp -implicitDefEqProofs (maxSteps:=2000000) only [r6,il5,wk,act,asV,↓reduceIte,Nat.reduceEqDiff,reduceCtorEq,Nat.reduceAdd,Nat.reduceLeDiff,Nat.reduceSub,Nat.reduceMul,List.reduceReplicate,Int.reduceEq,Int.reduceLT,Int.reduceLE,Int.reduceAdd,Int.reduceSub,Int.reduceMul,Nat.reduceLT,Int.reduceToNat] | ((first | ((with_reducible refine CallL.gate ?_); apply CallL.of) | ((with_reducible refine CallP.gate ?_); apply CallP.of)); (case h1 => (simp -implicitDefEqProofs (maxSteps:=2000000) only [r6,il5,wk,act,asV,↓reduceIte,Nat.reduceEqDiff,reduceCtorEq,Nat.reduceAdd,Nat.reduceLeDiff,Nat.reduceSub,Nat.reduceMul,List.reduceReplicate,Int.reduceEq,Int.reduceLT,Int.reduceLE,Int.reduceAdd,Int.reduceSub,Int.reduceMul,Nat.reduceLT,Int.reduceToNat]; first | done | (with_reducible rfl))); (case h2 => (first | exact c3)); (case h3 => simp -implicitDefEqProofs (maxSteps:=2000000) only [r6,il5,wk,act,asV,↓reduceIte,Nat.reduceEqDiff,reduceCtorEq,Nat.reduceAdd,Nat.reduceLeDiff,Nat.reduceSub,Nat.reduceMul,List.reduceReplicate,Int.reduceEq,Int.reduceLT,Int.reduceLE,Int.reduceAdd,Int.reduceSub,Int.reduceMul,Nat.reduceLT,Int.reduceToNat])))
  refine CallnL.of (by simp -implicitDefEqProofs (maxSteps:=2000000) only [wk,act,asV,↓reduceIte,Nat.reduceEqDiff,reduceCtorEq,Nat.reduceAdd,Nat.reduceLeDiff,Nat.reduceSub,Nat.reduceMul,List.reduceReplicate,Int.reduceEq,Int.reduceLT,Int.reduceLE,Int.reduceAdd,Int.reduceSub,Int.reduceMul,Nat.reduceLT,Int.reduceToNat]; first | done | rfl) (qpop_ok (h:=10) (xs:=[]) (by decide) (by simp) (o5.fr (by simp -implicitDefEqProofs (maxSteps:=2000000) only [wk,act,asV,↓reduceIte,Nat.reduceEqDiff,reduceCtorEq,Nat.reduceAdd,Nat.reduceLeDiff,Nat.reduceSub,Nat.reduceMul,List.reduceReplicate,Int.reduceEq,Int.reduceLT,Int.reduceLE,Int.reduceAdd,Int.reduceSub,Int.reduceMul,Nat.reduceLT,Int.reduceToNat]) (by simp -implicitDefEqProofs (maxSteps:=2000000) only [wk,act,asV,↓reduceIte,Nat.reduceEqDiff,reduceCtorEq,Nat.reduceAdd,Nat.reduceLeDiff,Nat.reduceSub,Nat.reduceMul,List.reduceReplicate,Int.reduceEq,Int.reduceLT,Int.reduceLE,Int.reduceAdd,Int.reduceSub,Int.reduceMul,Nat.reduceLT,Int.reduceToNat]))) ?_
  rintro _ h6 ⟨rfl,o6,fr6⟩
  simp -implicitDefEqProofs (maxSteps:=2000000) only [List.isEmpty_nil,Bool.not_true,wk,act,asV,↓reduceIte,Nat.reduceEqDiff,reduceCtorEq,Nat.reduceAdd,Nat.reduceLeDiff,Nat.reduceSub,Nat.reduceMul,List.reduceReplicate,Int.reduceEq,Int.reduceLT,Int.reduceLE,Int.reduceAdd,Int.reduceSub,Int.reduceMul,Nat.reduceLT,Int.reduceToNat]
end Go.Proofs.YtilbipknodpmmaaDoor
