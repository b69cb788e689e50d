/- The law QueuePuts. -/
import Derived.Test.YtilbipknodpmmaaDoorO8
import Derived.Test.YtilbipknodpmmaaDoorW7
import Derived.Test.YtilbipknodpmmaaDoorM38
import Derived.Test.YtilbipknodpmmaaDoorE31
import Derived.Test.YtilbipknodpmmaaDoorM21
set_option linter.unusedVariables false
set_option linter.unusedSimpArgs false
set_option linter.unusedSectionVars false
set_option maxRecDepth 100000
set_option maxHeartbeats 8000000
namespace Go.Proofs.YtilbipknodpmmaaDoor
open Go.RowKit

theorem putsR_mk (x : It) (hx : x.Ok) (hk : x.kind = 2) (b : List UInt8) (hb : b.length = 32) : RC Tryd.prog 42 [.agg (itC x),.agg (bl b)] [outP (mkE (decV b) x.name x.n) (mkP (decV b) x.name x.n),.int .i64 (mkE (decV b) x.name x.n)]:=by
  refine RC.of_wp c42 rfl ?_
  obtain ⟨p0,p1,p2,p3,p4,p5⟩:=itC_parts hx
  rw [hk] at p2
  have c1:=makeR_ok b x.name x.n hb hx.nm
  have lb : (bl b).length = 32:=by rw [bl_length,hb]
  have tb : List.take 32 (bl b) = bl b:=List.take_of_length_le (by omega)
  have sx:=itC_scal x
  rcases outP_or (mkE (decV b) x.name x.n) (mkP (decV b) x.name x.n) with ⟨hE,e⟩ | ⟨hE,e⟩
  · obtain ⟨t1,t2⟩:=mk_ptL hE
    rw [e] at c1 ⊢
    have s1:=ptL_scal (mkP (decV b) x.name x.n)
    obtain ⟨ps,hps⟩ : ∃ ps,ps = mkP (decV b) x.name x.n:=⟨_,rfl⟩
    rw [← hps] at c1 t1 t2 s1 ⊢
    obtain ⟨E,hE'⟩ : ∃ E,E = mkE (decV b) x.name x.n:=⟨_,rfl⟩
    rw [← hE'] at c1 ⊢
    repeat' (first | simp -implicitDefEqProofs (maxSteps:=2000000) only [m42_1,m42_2,m42_3,m42_4,m42_5,m42_6,m42_7,m42_8,m42_9,m42_10,m42_11,m42_12,m42_13,m42_14,m42_r,m42_b,m42,p0,p1,p2,p3,p4,p5,lb,tb,sx,t1,t2,s1,bl_scal,bl_allO,wk,act,asV,↓reduceIte,Nat.reduceEqDiff,reduceCtorEq,Nat.reduceAdd,Nat.reduceLeDiff,Nat.reduceSub,Nat.reduceMul,List.reduceReplicate,Int.reduceEq,Int.reduceLT,Int.reduceLE,Int.reduceAdd,Int.reduceSub,Int.reduceMul,Nat.reduceLT,Int.reduceToNat] | ((first | ((with_reducible refine CallL.gate ?_); apply CallL.of) | ((with_reducible refine CallP.gate ?_); apply CallP.of)); (case h1 => (simp -implicitDefEqProofs (maxSteps:=2000000) only [m42_1,m42_2,m42_3,m42_4,m42_5,m42_6,m42_7,m42_8,m42_9,m42_10,m42_11,m42_12,m42_13,m42_14,m42_r,m42_b,m42,p0,p1,p2,p3,p4,p5,lb,tb,sx,t1,t2,s1,bl_scal,bl_allO,wk,act,asV,↓reduceIte,Nat.reduceEqDiff,reduceCtorEq,Nat.reduceAdd,Nat.reduceLeDiff,Nat.reduceSub,Nat.reduceMul,List.reduceReplicate,Int.reduceEq,Int.reduceLT,Int.reduceLE,Int.reduceAdd,Int.reduceSub,Int.reduceMul,Nat.reduceLT,Int.reduceToNat]; first | done | (with_reducible rfl))); (case h2 => (first | exact c1)); (case h3 => simp -implicitDefEqProofs (maxSteps:=2000000) only [m42_1,m42_2,m42_3,m42_4,m42_5,m42_6,m42_7,m42_8,m42_9,m42_10,m42_11,m42_12,m42_13,m42_14,m42_r,m42_b,m42,p0,p1,p2,p3,p4,p5,lb,tb,sx,t1,t2,s1,bl_scal,bl_allO,wk,act,asV,↓reduceIte,Nat.reduceEqDiff,reduceCtorEq,Nat.reduceAdd,Nat.reduceLeDiff,Nat.reduceSub,Nat.reduceMul,List.reduceReplicate,Int.reduceEq,Int.reduceLT,Int.reduceLE,Int.reduceAdd,Int.reduceSub,Int.reduceMul,Nat.reduceLT,Int.reduceToNat])))
  · rw [e] at c1 ⊢
    obtain ⟨E,hE'⟩ : ∃ E,E = mkE (decV b) x.name x.n:=⟨_,rfl⟩
    rw [← hE'] at c1 ⊢
    repeat' (first | simp -implicitDefEqProofs (maxSteps:=2000000) only [m42_1,m42_2,m42_3,m42_4,m42_5,m42_6,m42_7,m42_8,m42_9,m42_10,m42_11,m42_12,m42_13,m42_14,m42_r,m42_b,m42,p0,p1,p2,p3,p4,p5,lb,tb,sx,bl_scal,bl_allO,wk,act,asV,↓reduceIte,Nat.reduceEqDiff,reduceCtorEq,Nat.reduceAdd,Nat.reduceLeDiff,Nat.reduceSub,Nat.reduceMul,List.reduceReplicate,Int.reduceEq,Int.reduceLT,Int.reduceLE,Int.reduceAdd,Int.reduceSub,Int.reduceMul,Nat.reduceLT,Int.reduceToNat] | ((first | ((with_reducible refine CallL.gate ?_); apply CallL.of) | ((with_reducible refine CallP.gate ?_); apply CallP.of)); (case h1 => (simp -implicitDefEqProofs (maxSteps:=2000000) only [m42_1,m42_2,m42_3,m42_4,m42_5,m42_6,m42_7,m42_8,m42_9,m42_10,m42_11,m42_12,m42_13,m42_14,m42_r,m42_b,m42,p0,p1,p2,p3,p4,p5,lb,tb,sx,bl_scal,bl_allO,wk,act,asV,↓reduceIte,Nat.reduceEqDiff,reduceCtorEq,Nat.reduceAdd,Nat.reduceLeDiff,Nat.reduceSub,Nat.reduceMul,List.reduceReplicate,Int.reduceEq,Int.reduceLT,Int.reduceLE,Int.reduceAdd,Int.reduceSub,Int.reduceMul,Nat.reduceLT,Int.reduceToNat]; first | done | (with_reducible rfl))); (case h2 => (first | exact c1)); (case h3 => simp -implicitDefEqProofs (maxSteps:=2000000) only [m42_1,m42_2,m42_3,m42_4,m42_5,m42_6,m42_7,m42_8,m42_9,m42_10,m42_11,m42_12,m42_13,m42_14,m42_r,m42_b,m42,p0,p1,p2,p3,p4,p5,lb,tb,sx,bl_scal,bl_allO,wk,act,asV,↓reduceIte,Nat.reduceEqDiff,reduceCtorEq,Nat.reduceAdd,Nat.reduceLeDiff,Nat.reduceSub,Nat.reduceMul,List.reduceReplicate,Int.reduceEq,Int.reduceLT,Int.reduceLE,Int.reduceAdd,Int.reduceSub,Int.reduceMul,Nat.reduceLT,Int.reduceToNat])))
theorem putsR_wr (x : It) (hx : x.Ok) (hk : x.kind = 1) (b : List UInt8) (hb : b.length = 32) : RC Tryd.prog 42 [.agg (itC x),.agg (bl b)] [wrR b x.name x.n x.data,.int .i64 (wrE b x.name x.n)]:=by
  refine RC.of_wp c42 rfl ?_
  obtain ⟨p0,p1,p2,p3,p4,p5⟩:=itC_parts hx
  rw [hk] at p2
  have c1:=writeR_ok b x.name x.data x.n hb hx.nm hx.d
  have lb : (bl b).length = 32:=by rw [bl_length,hb]
  have tb : List.take 32 (bl b) = bl b:=List.take_of_length_le (by omega)
  have sx:=itC_scal x
  obtain ⟨k,cs,e,e1,e2⟩:=wrR_or b x.name x.n x.data hx.d
  rw [e] at c1 ⊢
  obtain ⟨E,hE'⟩ : ∃ E,E = wrE b x.name x.n:=⟨_,rfl⟩
  rw [← hE'] at c1 ⊢
  repeat' (first | simp -implicitDefEqProofs (maxSteps:=2000000) only [m42_1,m42_2,m42_3,m42_4,m42_5,m42_6,m42_7,m42_8,m42_9,m42_10,m42_11,m42_12,m42_13,m42_14,m42_r,m42_b,m42,p0,p1,p2,p3,p4,p5,lb,tb,sx,e1,e2,bl_scal,bl_allO,wk,act,asV,↓reduceIte,Nat.reduceEqDiff,reduceCtorEq,Nat.reduceAdd,Nat.reduceLeDiff,Nat.reduceSub,Nat.reduceMul,List.reduceReplicate,Int.reduceEq,Int.reduceLT,Int.reduceLE,Int.reduceAdd,Int.reduceSub,Int.reduceMul,Nat.reduceLT,Int.reduceToNat] | ((first | ((with_reducible refine CallL.gate ?_); apply CallL.of) | ((with_reducible refine CallP.gate ?_); apply CallP.of)); (case h1 => (simp -implicitDefEqProofs (maxSteps:=2000000) only [m42_1,m42_2,m42_3,m42_4,m42_5,m42_6,m42_7,m42_8,m42_9,m42_10,m42_11,m42_12,m42_13,m42_14,m42_r,m42_b,m42,p0,p1,p2,p3,p4,p5,lb,tb,sx,e1,e2,bl_scal,bl_allO,wk,act,asV,↓reduceIte,Nat.reduceEqDiff,reduceCtorEq,Nat.reduceAdd,Nat.reduceLeDiff,Nat.reduceSub,Nat.reduceMul,List.reduceReplicate,Int.reduceEq,Int.reduceLT,Int.reduceLE,Int.reduceAdd,Int.reduceSub,Int.reduceMul,Nat.reduceLT,Int.reduceToNat]; first | done | (with_reducible rfl))); (case h2 => (first | exact c1)); (case h3 => simp -implicitDefEqProofs (maxSteps:=2000000) only [m42_1,m42_2,m42_3,m42_4,m42_5,m42_6,m42_7,m42_8,m42_9,m42_10,m42_11,m42_12,m42_13,m42_14,m42_r,m42_b,m42,p0,p1,p2,p3,p4,p5,lb,tb,sx,e1,e2,bl_scal,bl_allO,wk,act,asV,↓reduceIte,Nat.reduceEqDiff,reduceCtorEq,Nat.reduceAdd,Nat.reduceLeDiff,Nat.reduceSub,Nat.reduceMul,List.reduceReplicate,Int.reduceEq,Int.reduceLT,Int.reduceLE,Int.reduceAdd,Int.reduceSub,Int.reduceMul,Nat.reduceLT,Int.reduceToNat])))
theorem putsR_no (x : It) (hx : x.Ok) (h1 : x.kind ≠ 1) (h2 : x.kind ≠ 2) (h3 : x.kind ≠ 3) (b : List UInt8) (hb : b.length = 32) : RC Tryd.prog 42 [.agg (itC x),.agg (bl b)] [.sl .full 0 [],.int .i64 1]:=by
  refine RC.of_wp c42 rfl ?_
  obtain ⟨p0,p1,p2,p3,p4,p5⟩:=itC_parts hx
  simp -implicitDefEqProofs (maxSteps:=2000000) only [m42_1,m42_2,m42_3,m42_4,m42_5,m42_6,m42_7,m42_8,m42_9,m42_10,m42_11,m42_12,m42_13,m42_14,m42_r,m42_b,m42,p0,p1,p2,p3,p4,p5,h1,h2,h3,wk,act,asV,↓reduceIte,Nat.reduceEqDiff,reduceCtorEq,Nat.reduceAdd,Nat.reduceLeDiff,Nat.reduceSub,Nat.reduceMul,List.reduceReplicate,Int.reduceEq,Int.reduceLT,Int.reduceLE,Int.reduceAdd,Int.reduceSub,Int.reduceMul,Nat.reduceLT,Int.reduceToNat]

theorem itC_allO {p : IV → Bool} (h1 : ∀ n : Int,p (.int .i64 n) = true) (h2 : ∀ n : Int,p (.int .u8 n) = true) (h3 : ∀ l,p (.str l) = true) (x : It) : (itC x).all p = true:=by simp [itC,bl,h1,h2,h3]
theorem gn_ok (b nm : List UInt8) : ∀ p ∈ gnP (decV b) nm,p.2.length = 32:=by
  intro p hp
  unfold gnP at hp
  obtain rfl:=List.mem_singleton.1 hp
  exact tabB_length (goodV_len (good_erase (decV_good b) _))
theorem putsP_gn (x : It) (hx : x.Ok) (hk : x.kind = 3) (b : List UInt8) (hb : b.length = 32) : RC Tryd.prog 41 [.agg (itC x),.agg (bl b)] [outP (gnE (decV b) x.name) (gnP (decV b) x.name),.int .i64 (gnE (decV b) x.name)]:=by
  refine RC.of_wp c41 rfl ?_
  obtain ⟨p0,p1,p2,p3,p4,p5⟩:=itC_parts hx
  rw [hk] at p2
  have c1:=goneP_ok b x.name hb hx.nm
  have lb : (bl b).length = 32:=by rw [bl_length,hb]
  have tb : List.take 32 (bl b) = bl b:=List.take_of_length_le (by omega)
  have sx:=itC_scal x
  have lP:=ptL_length (gn_ok b x.name)
  have tP : List.take ((gnP (decV b) x.name).length * 33) (ptL (gnP (decV b) x.name)) = ptL (gnP (decV b) x.name):=List.take_of_length_le (by omega)
  have s1:=ptL_scal (gnP (decV b) x.name)
  rcases outP_or (gnE (decV b) x.name) (gnP (decV b) x.name) with ⟨hE,e⟩ | ⟨hE,e⟩
  · rw [e] at c1 ⊢
    obtain ⟨ps,hps⟩ : ∃ ps,ps = gnP (decV b) x.name:=⟨_,rfl⟩
    rw [← hps] at c1 lP tP s1 ⊢
    obtain ⟨E,hE'⟩ : ∃ E,E = gnE (decV b) x.name:=⟨_,rfl⟩
    rw [← hE'] at c1 ⊢
    repeat' (first | simp -implicitDefEqProofs (maxSteps:=2000000) only [m41_1,m41_2,m41_3,m41_4,m41_5,m41_6,m41_7,m41_8,m41_9,m41_10,m41_11,m41_12,m41_13,m41_14,m41_r,m41_b,m41,p0,p1,p2,p3,p4,p5,lb,tb,sx,lP,tP,s1,bl_scal,bl_allO,wk,act,asV,↓reduceIte,Nat.reduceEqDiff,reduceCtorEq,Nat.reduceAdd,Nat.reduceLeDiff,Nat.reduceSub,Nat.reduceMul,List.reduceReplicate,Int.reduceEq,Int.reduceLT,Int.reduceLE,Int.reduceAdd,Int.reduceSub,Int.reduceMul,Nat.reduceLT,Int.reduceToNat] | ((first | ((with_reducible refine CallL.gate ?_); apply CallL.of) | ((with_reducible refine CallP.gate ?_); apply CallP.of)); (case h1 => (simp -implicitDefEqProofs (maxSteps:=2000000) only [m41_1,m41_2,m41_3,m41_4,m41_5,m41_6,m41_7,m41_8,m41_9,m41_10,m41_11,m41_12,m41_13,m41_14,m41_r,m41_b,m41,p0,p1,p2,p3,p4,p5,lb,tb,sx,lP,tP,s1,bl_scal,bl_allO,wk,act,asV,↓reduceIte,Nat.reduceEqDiff,reduceCtorEq,Nat.reduceAdd,Nat.reduceLeDiff,Nat.reduceSub,Nat.reduceMul,List.reduceReplicate,Int.reduceEq,Int.reduceLT,Int.reduceLE,Int.reduceAdd,Int.reduceSub,Int.reduceMul,Nat.reduceLT,Int.reduceToNat]; first | done | (with_reducible rfl))); (case h2 => (first | exact c1)); (case h3 => simp -implicitDefEqProofs (maxSteps:=2000000) only [m41_1,m41_2,m41_3,m41_4,m41_5,m41_6,m41_7,m41_8,m41_9,m41_10,m41_11,m41_12,m41_13,m41_14,m41_r,m41_b,m41,p0,p1,p2,p3,p4,p5,lb,tb,sx,lP,tP,s1,bl_scal,bl_allO,wk,act,asV,↓reduceIte,Nat.reduceEqDiff,reduceCtorEq,Nat.reduceAdd,Nat.reduceLeDiff,Nat.reduceSub,Nat.reduceMul,List.reduceReplicate,Int.reduceEq,Int.reduceLT,Int.reduceLE,Int.reduceAdd,Int.reduceSub,Int.reduceMul,Nat.reduceLT,Int.reduceToNat])))
  · rw [e] at c1 ⊢
    obtain ⟨E,hE'⟩ : ∃ E,E = gnE (decV b) x.name:=⟨_,rfl⟩
    rw [← hE'] at c1 ⊢
    repeat' (first | simp -implicitDefEqProofs (maxSteps:=2000000) only [m41_1,m41_2,m41_3,m41_4,m41_5,m41_6,m41_7,m41_8,m41_9,m41_10,m41_11,m41_12,m41_13,m41_14,m41_r,m41_b,m41,p0,p1,p2,p3,p4,p5,lb,tb,sx,bl_scal,bl_allO,wk,act,asV,↓reduceIte,Nat.reduceEqDiff,reduceCtorEq,Nat.reduceAdd,Nat.reduceLeDiff,Nat.reduceSub,Nat.reduceMul,List.reduceReplicate,Int.reduceEq,Int.reduceLT,Int.reduceLE,Int.reduceAdd,Int.reduceSub,Int.reduceMul,Nat.reduceLT,Int.reduceToNat] | ((first | ((with_reducible refine CallL.gate ?_); apply CallL.of) | ((with_reducible refine CallP.gate ?_); apply CallP.of)); (case h1 => (simp -implicitDefEqProofs (maxSteps:=2000000) only [m41_1,m41_2,m41_3,m41_4,m41_5,m41_6,m41_7,m41_8,m41_9,m41_10,m41_11,m41_12,m41_13,m41_14,m41_r,m41_b,m41,p0,p1,p2,p3,p4,p5,lb,tb,sx,bl_scal,bl_allO,wk,act,asV,↓reduceIte,Nat.reduceEqDiff,reduceCtorEq,Nat.reduceAdd,Nat.reduceLeDiff,Nat.reduceSub,Nat.reduceMul,List.reduceReplicate,Int.reduceEq,Int.reduceLT,Int.reduceLE,Int.reduceAdd,Int.reduceSub,Int.reduceMul,Nat.reduceLT,Int.reduceToNat]; first | done | (with_reducible rfl))); (case h2 => (first | exact c1)); (case h3 => simp -implicitDefEqProofs (maxSteps:=2000000) only [m41_1,m41_2,m41_3,m41_4,m41_5,m41_6,m41_7,m41_8,m41_9,m41_10,m41_11,m41_12,m41_13,m41_14,m41_r,m41_b,m41,p0,p1,p2,p3,p4,p5,lb,tb,sx,bl_scal,bl_allO,wk,act,asV,↓reduceIte,Nat.reduceEqDiff,reduceCtorEq,Nat.reduceAdd,Nat.reduceLeDiff,Nat.reduceSub,Nat.reduceMul,List.reduceReplicate,Int.reduceEq,Int.reduceLT,Int.reduceLE,Int.reduceAdd,Int.reduceSub,Int.reduceMul,Nat.reduceLT,Int.reduceToNat])))
def gnR (b nm : List UInt8) : List (Int × List UInt8):=if gnE (decV b) nm = 0 then gnP (decV b) nm else []
theorem gnR_eq (b nm : List UInt8) : (if gnE (decV b) nm = 0 then IV.sl .full 1 (ptL (gnP (decV b) nm)) else .sl .full 0 []) = .sl .full (gnR b nm).length (ptL (gnR b nm)):=by
  unfold gnR
  split <;> rfl
theorem putsR_gn (x : It) (hx : x.Ok) (hk : x.kind = 3) (b : List UInt8) (hb : b.length = 32) : RC Tryd.prog 42 [.agg (itC x),.agg (bl b)] [.sl .full (gnR b x.name).length (ptL (gnR b x.name)),.int .i64 (gnE (decV b) x.name)]:=by
  refine RC.of_wp c42 rfl ?_
  obtain ⟨p0,p1,p2,p3,p4,p5⟩:=itC_parts hx
  rw [hk] at p2
  have c1:=goneR_ok b x.name hb hx.nm
  rw [gnR_eq] at c1
  have lb : (bl b).length = 32:=by rw [bl_length,hb]
  have tb : List.take 32 (bl b) = bl b:=List.take_of_length_le (by omega)
  have sx:=itC_scal x
  have hp : ∀ p ∈ gnR b x.name,p.2.length = 32:=fun p h => by
    unfold gnR at h
    split at h
    · exact gn_ok b x.name p h
    · simp at h
  have lP:=ptL_length hp
  have pP:=ptL_pur (gnR b x.name)
  obtain ⟨ps,hps⟩ : ∃ ps,ps = gnR b x.name:=⟨_,rfl⟩
  rw [← hps] at c1 lP pP ⊢
  obtain ⟨E,hE'⟩ : ∃ E,E = gnE (decV b) x.name:=⟨_,rfl⟩
  rw [← hE'] at c1 ⊢
  repeat' (first | simp -implicitDefEqProofs (maxSteps:=2000000) only [m42_1,m42_2,m42_3,m42_4,m42_5,m42_6,m42_7,m42_8,m42_9,m42_10,m42_11,m42_12,m42_13,m42_14,m42_r,m42_b,m42,p0,p1,p2,p3,p4,p5,lb,tb,sx,lP,pP,bl_scal,bl_allO,wk,act,asV,↓reduceIte,Nat.reduceEqDiff,reduceCtorEq,Nat.reduceAdd,Nat.reduceLeDiff,Nat.reduceSub,Nat.reduceMul,List.reduceReplicate,Int.reduceEq,Int.reduceLT,Int.reduceLE,Int.reduceAdd,Int.reduceSub,Int.reduceMul,Nat.reduceLT,Int.reduceToNat] | ((first | ((with_reducible refine CallL.gate ?_); apply CallL.of) | ((with_reducible refine CallP.gate ?_); apply CallP.of)); (case h1 => (simp -implicitDefEqProofs (maxSteps:=2000000) only [m42_1,m42_2,m42_3,m42_4,m42_5,m42_6,m42_7,m42_8,m42_9,m42_10,m42_11,m42_12,m42_13,m42_14,m42_r,m42_b,m42,p0,p1,p2,p3,p4,p5,lb,tb,sx,lP,pP,bl_scal,bl_allO,wk,act,asV,↓reduceIte,Nat.reduceEqDiff,reduceCtorEq,Nat.reduceAdd,Nat.reduceLeDiff,Nat.reduceSub,Nat.reduceMul,List.reduceReplicate,Int.reduceEq,Int.reduceLT,Int.reduceLE,Int.reduceAdd,Int.reduceSub,Int.reduceMul,Nat.reduceLT,Int.reduceToNat]; first | done | (with_reducible rfl))); (case h2 => (first | exact c1)); (case h3 => simp -implicitDefEqProofs (maxSteps:=2000000) only [m42_1,m42_2,m42_3,m42_4,m42_5,m42_6,m42_7,m42_8,m42_9,m42_10,m42_11,m42_12,m42_13,m42_14,m42_r,m42_b,m42,p0,p1,p2,p3,p4,p5,lb,tb,sx,lP,pP,bl_scal,bl_allO,wk,act,asV,↓reduceIte,Nat.reduceEqDiff,reduceCtorEq,Nat.reduceAdd,Nat.reduceLeDiff,Nat.reduceSub,Nat.reduceMul,List.reduceReplicate,Int.reduceEq,Int.reduceLT,Int.reduceLE,Int.reduceAdd,Int.reduceSub,Int.reduceMul,Nat.reduceLT,Int.reduceToNat])))
theorem qp_ff (x : It) (hx : x.Ok) (b : List UInt8) (hb : b.length = 32) (ps : List (Int × List UInt8)) (E : Int) (hp : ∀ p ∈ ps,p.2.length = 32) (hn : ps.length ≤ 5) (c1 : RC Tryd.prog 41 [.agg (itC x),.agg (bl b)] [.sl .full ps.length (ptL ps),.int .i64 E]) (c2 : RC Tryd.prog 42 [.agg (itC x),.agg (bl b)] [.sl .full ps.length (ptL ps),.int .i64 E]) :
    RC Tryd.prog 8 [.agg (itC x),.agg (bl b)] [.bool true]:=by
  refine RC.of_wp c8 rfl ?_
  have c0:=fairI_one .full x hx
  have l0:=itC_length hx
  have t0 : List.take 36 (itC x) = itC x:=List.take_of_length_le (by omega)
  have d0 : List.drop 36 (itC x) = []:=List.drop_of_length_le (by omega)
  have s0:=itC_scal x
  have u0:=itC_pur x
  have lb : (bl b).length = 32:=by rw [bl_length,hb]
  have tb : List.take 32 (bl b) = bl b:=List.take_of_length_le (by omega)
  have co:=own_it x hx
  have c3:=putsC_ok .full .full ps hp (by omega)
  have lP:=ptL_length hp
  have tP : List.take (ps.length * 33) (ptL ps) = ptL ps:=List.take_of_length_le (by omega)
  have sP:=ptL_scal ps
  have pP:=ptL_pur ps
  cases hf : fairI [x] with
  | false =>
    rw [hf] at c0
    repeat' (first | simp -implicitDefEqProofs (maxSteps:=2000000) only [m8_1,m8_2,m8_3,m8_4,m8_5,m8_6,m8_7,m8_8,m8_9,m8_r,m8_b,m8,l0,t0,d0,s0,u0,wk,act,asV,↓reduceIte,Nat.reduceEqDiff,reduceCtorEq,Nat.reduceAdd,Nat.reduceLeDiff,Nat.reduceSub,Nat.reduceMul,List.reduceReplicate,Int.reduceEq,Int.reduceLT,Int.reduceLE,Int.reduceAdd,Int.reduceSub,Int.reduceMul,Nat.reduceLT,Int.reduceToNat] | ((first | ((with_reducible refine CallL.gate ?_); apply CallL.of) | ((with_reducible refine CallP.gate ?_); apply CallP.of)); (case h1 => (simp -implicitDefEqProofs (maxSteps:=2000000) only [m8_1,m8_2,m8_3,m8_4,m8_5,m8_6,m8_7,m8_8,m8_9,m8_r,m8_b,m8,l0,t0,d0,s0,u0,wk,act,asV,↓reduceIte,Nat.reduceEqDiff,reduceCtorEq,Nat.reduceAdd,Nat.reduceLeDiff,Nat.reduceSub,Nat.reduceMul,List.reduceReplicate,Int.reduceEq,Int.reduceLT,Int.reduceLE,Int.reduceAdd,Int.reduceSub,Int.reduceMul,Nat.reduceLT,Int.reduceToNat]; first | done | (with_reducible rfl))); (case h2 => (first | exact c0 | exact wakesQ_ok)); (case h3 => simp -implicitDefEqProofs (maxSteps:=2000000) only [m8_1,m8_2,m8_3,m8_4,m8_5,m8_6,m8_7,m8_8,m8_9,m8_r,m8_b,m8,l0,t0,d0,s0,u0,wk,act,asV,↓reduceIte,Nat.reduceEqDiff,reduceCtorEq,Nat.reduceAdd,Nat.reduceLeDiff,Nat.reduceSub,Nat.reduceMul,List.reduceReplicate,Int.reduceEq,Int.reduceLT,Int.reduceLE,Int.reduceAdd,Int.reduceSub,Int.reduceMul,Nat.reduceLT,Int.reduceToNat])))
  | true =>
    rw [hf] at c0
    repeat' (first | simp -implicitDefEqProofs (maxSteps:=2000000) only [m8_1,m8_2,m8_3,m8_4,m8_5,m8_6,m8_7,m8_8,m8_9,m8_r,m8_b,m8,l0,t0,d0,s0,u0,lb,tb,lP,tP,sP,pP,bl_scal,bl_allO,itC_allO,wk,act,asV,↓reduceIte,Nat.reduceEqDiff,reduceCtorEq,Nat.reduceAdd,Nat.reduceLeDiff,Nat.reduceSub,Nat.reduceMul,List.reduceReplicate,Int.reduceEq,Int.reduceLT,Int.reduceLE,Int.reduceAdd,Int.reduceSub,Int.reduceMul,Nat.reduceLT,Int.reduceToNat] | ((first | ((with_reducible refine CallL.gate ?_); apply CallL.of) | ((with_reducible refine CallP.gate ?_); apply CallP.of)); (case h1 => (simp -implicitDefEqProofs (maxSteps:=2000000) only [m8_1,m8_2,m8_3,m8_4,m8_5,m8_6,m8_7,m8_8,m8_9,m8_r,m8_b,m8,l0,t0,d0,s0,u0,lb,tb,lP,tP,sP,pP,bl_scal,bl_allO,itC_allO,wk,act,asV,↓reduceIte,Nat.reduceEqDiff,reduceCtorEq,Nat.reduceAdd,Nat.reduceLeDiff,Nat.reduceSub,Nat.reduceMul,List.reduceReplicate,Int.reduceEq,Int.reduceLT,Int.reduceLE,Int.reduceAdd,Int.reduceSub,Int.reduceMul,Nat.reduceLT,Int.reduceToNat]; first | done | (with_reducible rfl))); (case h2 => (first | exact c0 | exact c1 | exact co | exact c2 | exact c3 | exact wakesQ_ok)); (case h3 => simp -implicitDefEqProofs (maxSteps:=2000000) only [m8_1,m8_2,m8_3,m8_4,m8_5,m8_6,m8_7,m8_8,m8_9,m8_r,m8_b,m8,l0,t0,d0,s0,u0,lb,tb,lP,tP,sP,pP,bl_scal,bl_allO,itC_allO,wk,act,asV,↓reduceIte,Nat.reduceEqDiff,reduceCtorEq,Nat.reduceAdd,Nat.reduceLeDiff,Nat.reduceSub,Nat.reduceMul,List.reduceReplicate,Int.reduceEq,Int.reduceLT,Int.reduceLE,Int.reduceAdd,Int.reduceSub,Int.reduceMul,Nat.reduceLT,Int.reduceToNat])))
theorem qp_oo (x : It) (hx : x.Ok) (b : List UInt8) (hb : b.length = 32) (ps : List (Int × List UInt8)) (E : Int) (hp : ∀ p ∈ ps,p.2.length = 32) (hn : ps.length ≤ 5) (c1 : RC Tryd.prog 41 [.agg (itC x),.agg (bl b)] [.own ps.length 33 (ptL ps),.int .i64 E]) (c2 : RC Tryd.prog 42 [.agg (itC x),.agg (bl b)] [.own ps.length 33 (ptL ps),.int .i64 E]) :
    RC Tryd.prog 8 [.agg (itC x),.agg (bl b)] [.bool true]:=by
  refine RC.of_wp c8 rfl ?_
  have c0:=fairI_one .full x hx
  have l0:=itC_length hx
  have t0 : List.take 36 (itC x) = itC x:=List.take_of_length_le (by omega)
  have d0 : List.drop 36 (itC x) = []:=List.drop_of_length_le (by omega)
  have s0:=itC_scal x
  have u0:=itC_pur x
  have lb : (bl b).length = 32:=by rw [bl_length,hb]
  have tb : List.take 32 (bl b) = bl b:=List.take_of_length_le (by omega)
  have co:=own_it x hx
  have c3:=putsC_ok .plain .plain ps hp (by omega)
  have lP:=ptL_length hp
  have tP : List.take (ps.length * 33) (ptL ps) = ptL ps:=List.take_of_length_le (by omega)
  have sP:=ptL_scal ps
  have pP:=ptL_pur ps
  cases hf : fairI [x] with
  | false =>
    rw [hf] at c0
    repeat' (first | simp -implicitDefEqProofs (maxSteps:=2000000) only [m8_1,m8_2,m8_3,m8_4,m8_5,m8_6,m8_7,m8_8,m8_9,m8_r,m8_b,m8,l0,t0,d0,s0,u0,wk,act,asV,↓reduceIte,Nat.reduceEqDiff,reduceCtorEq,Nat.reduceAdd,Nat.reduceLeDiff,Nat.reduceSub,Nat.reduceMul,List.reduceReplicate,Int.reduceEq,Int.reduceLT,Int.reduceLE,Int.reduceAdd,Int.reduceSub,Int.reduceMul,Nat.reduceLT,Int.reduceToNat] | ((first | ((with_reducible refine CallL.gate ?_); apply CallL.of) | ((with_reducible refine CallP.gate ?_); apply CallP.of)); (case h1 => (simp -implicitDefEqProofs (maxSteps:=2000000) only [m8_1,m8_2,m8_3,m8_4,m8_5,m8_6,m8_7,m8_8,m8_9,m8_r,m8_b,m8,l0,t0,d0,s0,u0,wk,act,asV,↓reduceIte,Nat.reduceEqDiff,reduceCtorEq,Nat.reduceAdd,Nat.reduceLeDiff,Nat.reduceSub,Nat.reduceMul,List.reduceReplicate,Int.reduceEq,Int.reduceLT,Int.reduceLE,Int.reduceAdd,Int.reduceSub,Int.reduceMul,Nat.reduceLT,Int.reduceToNat]; first | done | (with_reducible rfl))); (case h2 => (first | exact c0 | exact wakesQ_ok)); (case h3 => simp -implicitDefEqProofs (maxSteps:=2000000) only [m8_1,m8_2,m8_3,m8_4,m8_5,m8_6,m8_7,m8_8,m8_9,m8_r,m8_b,m8,l0,t0,d0,s0,u0,wk,act,asV,↓reduceIte,Nat.reduceEqDiff,reduceCtorEq,Nat.reduceAdd,Nat.reduceLeDiff,Nat.reduceSub,Nat.reduceMul,List.reduceReplicate,Int.reduceEq,Int.reduceLT,Int.reduceLE,Int.reduceAdd,Int.reduceSub,Int.reduceMul,Nat.reduceLT,Int.reduceToNat])))
  | true =>
    rw [hf] at c0
    repeat' (first | simp -implicitDefEqProofs (maxSteps:=2000000) only [m8_1,m8_2,m8_3,m8_4,m8_5,m8_6,m8_7,m8_8,m8_9,m8_r,m8_b,m8,l0,t0,d0,s0,u0,lb,tb,lP,tP,sP,pP,bl_scal,bl_allO,itC_allO,wk,act,asV,↓reduceIte,Nat.reduceEqDiff,reduceCtorEq,Nat.reduceAdd,Nat.reduceLeDiff,Nat.reduceSub,Nat.reduceMul,List.reduceReplicate,Int.reduceEq,Int.reduceLT,Int.reduceLE,Int.reduceAdd,Int.reduceSub,Int.reduceMul,Nat.reduceLT,Int.reduceToNat] | ((first | ((with_reducible refine CallL.gate ?_); apply CallL.of) | ((with_reducible refine CallP.gate ?_); apply CallP.of)); (case h1 => (simp -implicitDefEqProofs (maxSteps:=2000000) only [m8_1,m8_2,m8_3,m8_4,m8_5,m8_6,m8_7,m8_8,m8_9,m8_r,m8_b,m8,l0,t0,d0,s0,u0,lb,tb,lP,tP,sP,pP,bl_scal,bl_allO,itC_allO,wk,act,asV,↓reduceIte,Nat.reduceEqDiff,reduceCtorEq,Nat.reduceAdd,Nat.reduceLeDiff,Nat.reduceSub,Nat.reduceMul,List.reduceReplicate,Int.reduceEq,Int.reduceLT,Int.reduceLE,Int.reduceAdd,Int.reduceSub,Int.reduceMul,Nat.reduceLT,Int.reduceToNat]; first | done | (with_reducible rfl))); (case h2 => (first | exact c0 | exact c1 | exact co | exact c2 | exact c3 | exact wakesQ_ok)); (case h3 => simp -implicitDefEqProofs (maxSteps:=2000000) only [m8_1,m8_2,m8_3,m8_4,m8_5,m8_6,m8_7,m8_8,m8_9,m8_r,m8_b,m8,l0,t0,d0,s0,u0,lb,tb,lP,tP,sP,pP,bl_scal,bl_allO,itC_allO,wk,act,asV,↓reduceIte,Nat.reduceEqDiff,reduceCtorEq,Nat.reduceAdd,Nat.reduceLeDiff,Nat.reduceSub,Nat.reduceMul,List.reduceReplicate,Int.reduceEq,Int.reduceLT,Int.reduceLE,Int.reduceAdd,Int.reduceSub,Int.reduceMul,Nat.reduceLT,Int.reduceToNat])))
theorem qp_of (x : It) (hx : x.Ok) (b : List UInt8) (hb : b.length = 32) (ps : List (Int × List UInt8)) (E : Int) (hp : ∀ p ∈ ps,p.2.length = 32) (hn : ps.length ≤ 5) (c1 : RC Tryd.prog 41 [.agg (itC x),.agg (bl b)] [.own ps.length 33 (ptL ps),.int .i64 E]) (c2 : RC Tryd.prog 42 [.agg (itC x),.agg (bl b)] [.sl .full ps.length (ptL ps),.int .i64 E]) :
    RC Tryd.prog 8 [.agg (itC x),.agg (bl b)] [.bool true]:=by
  refine RC.of_wp c8 rfl ?_
  have c0:=fairI_one .full x hx
  have l0:=itC_length hx
  have t0 : List.take 36 (itC x) = itC x:=List.take_of_length_le (by omega)
  have d0 : List.drop 36 (itC x) = []:=List.drop_of_length_le (by omega)
  have s0:=itC_scal x
  have u0:=itC_pur x
  have lb : (bl b).length = 32:=by rw [bl_length,hb]
  have tb : List.take 32 (bl b) = bl b:=List.take_of_length_le (by omega)
  have co:=own_it x hx
  have c3:=putsC_ok .plain .full ps hp (by omega)
  have lP:=ptL_length hp
  have tP : List.take (ps.length * 33) (ptL ps) = ptL ps:=List.take_of_length_le (by omega)
  have sP:=ptL_scal ps
  have pP:=ptL_pur ps
  cases hf : fairI [x] with
  | false =>
    rw [hf] at c0
    repeat' (first | simp -implicitDefEqProofs (maxSteps:=2000000) only [m8_1,m8_2,m8_3,m8_4,m8_5,m8_6,m8_7,m8_8,m8_9,m8_r,m8_b,m8,l0,t0,d0,s0,u0,wk,act,asV,↓reduceIte,Nat.reduceEqDiff,reduceCtorEq,Nat.reduceAdd,Nat.reduceLeDiff,Nat.reduceSub,Nat.reduceMul,List.reduceReplicate,Int.reduceEq,Int.reduceLT,Int.reduceLE,Int.reduceAdd,Int.reduceSub,Int.reduceMul,Nat.reduceLT,Int.reduceToNat] | ((first | ((with_reducible refine CallL.gate ?_); apply CallL.of) | ((with_reducible refine CallP.gate ?_); apply CallP.of)); (case h1 => (simp -implicitDefEqProofs (maxSteps:=2000000) only [m8_1,m8_2,m8_3,m8_4,m8_5,m8_6,m8_7,m8_8,m8_9,m8_r,m8_b,m8,l0,t0,d0,s0,u0,wk,act,asV,↓reduceIte,Nat.reduceEqDiff,reduceCtorEq,Nat.reduceAdd,Nat.reduceLeDiff,Nat.reduceSub,Nat.reduceMul,List.reduceReplicate,Int.reduceEq,Int.reduceLT,Int.reduceLE,Int.reduceAdd,Int.reduceSub,Int.reduceMul,Nat.reduceLT,Int.reduceToNat]; first | done | (with_reducible rfl))); (case h2 => (first | exact c0 | exact wakesQ_ok)); (case h3 => simp -implicitDefEqProofs (maxSteps:=2000000) only [m8_1,m8_2,m8_3,m8_4,m8_5,m8_6,m8_7,m8_8,m8_9,m8_r,m8_b,m8,l0,t0,d0,s0,u0,wk,act,asV,↓reduceIte,Nat.reduceEqDiff,reduceCtorEq,Nat.reduceAdd,Nat.reduceLeDiff,Nat.reduceSub,Nat.reduceMul,List.reduceReplicate,Int.reduceEq,Int.reduceLT,Int.reduceLE,Int.reduceAdd,Int.reduceSub,Int.reduceMul,Nat.reduceLT,Int.reduceToNat])))
  | true =>
    rw [hf] at c0
    repeat' (first | simp -implicitDefEqProofs (maxSteps:=2000000) only [m8_1,m8_2,m8_3,m8_4,m8_5,m8_6,m8_7,m8_8,m8_9,m8_r,m8_b,m8,l0,t0,d0,s0,u0,lb,tb,lP,tP,sP,pP,bl_scal,bl_allO,itC_allO,wk,act,asV,↓reduceIte,Nat.reduceEqDiff,reduceCtorEq,Nat.reduceAdd,Nat.reduceLeDiff,Nat.reduceSub,Nat.reduceMul,List.reduceReplicate,Int.reduceEq,Int.reduceLT,Int.reduceLE,Int.reduceAdd,Int.reduceSub,Int.reduceMul,Nat.reduceLT,Int.reduceToNat] | ((first | ((with_reducible refine CallL.gate ?_); apply CallL.of) | ((with_reducible refine CallP.gate ?_); apply CallP.of)); (case h1 => (simp -implicitDefEqProofs (maxSteps:=2000000) only [m8_1,m8_2,m8_3,m8_4,m8_5,m8_6,m8_7,m8_8,m8_9,m8_r,m8_b,m8,l0,t0,d0,s0,u0,lb,tb,lP,tP,sP,pP,bl_scal,bl_allO,itC_allO,wk,act,asV,↓reduceIte,Nat.reduceEqDiff,reduceCtorEq,Nat.reduceAdd,Nat.reduceLeDiff,Nat.reduceSub,Nat.reduceMul,List.reduceReplicate,Int.reduceEq,Int.reduceLT,Int.reduceLE,Int.reduceAdd,Int.reduceSub,Int.reduceMul,Nat.reduceLT,Int.reduceToNat]; first | done | (with_reducible rfl))); (case h2 => (first | exact c0 | exact c1 | exact co | exact c2 | exact c3 | exact wakesQ_ok)); (case h3 => simp -implicitDefEqProofs (maxSteps:=2000000) only [m8_1,m8_2,m8_3,m8_4,m8_5,m8_6,m8_7,m8_8,m8_9,m8_r,m8_b,m8,l0,t0,d0,s0,u0,lb,tb,lP,tP,sP,pP,bl_scal,bl_allO,itC_allO,wk,act,asV,↓reduceIte,Nat.reduceEqDiff,reduceCtorEq,Nat.reduceAdd,Nat.reduceLeDiff,Nat.reduceSub,Nat.reduceMul,List.reduceReplicate,Int.reduceEq,Int.reduceLT,Int.reduceLE,Int.reduceAdd,Int.reduceSub,Int.reduceMul,Nat.reduceLT,Int.reduceToNat])))
theorem queuePuts (x : It) (hx : x.Ok) (b : List UInt8) (hb : b.length = 32) : RC Tryd.prog 8 [.agg (itC x),.agg (bl b)] [.bool true]:=by
  by_cases k1 : x.kind = 1
  · have c1:=putsP_wr x hx k1 b hb
    have c2:=putsR_wr x hx k1 b hb
    obtain ⟨ps,hw,hp,hl⟩ : ∃ ps,wrR b x.name x.n x.data = .sl .full ps.length (ptL ps) ∧ (∀ p ∈ ps,p.2.length = 32) ∧ ps.length ≤ 1:=by
      unfold wrR
      split
      · exact ⟨[(plP (decV b) x.name x.n,x.data)],by simp [ptL],by simpa using hx.d,by simp⟩
      · exact ⟨[],rfl,by simp,by simp⟩
    rw [hw] at c1 c2
    exact qp_ff x hx b hb ps _ hp (by omega) c1 c2
  · by_cases k2 : x.kind = 2
    · have c1:=putsP_mk x hx k2 b hb
      have c2:=putsR_mk x hx k2 b hb
      rcases outP_or' (mkE (decV b) x.name x.n) (mkP (decV b) x.name x.n) with ⟨hE,e⟩ | ⟨hE,e⟩
      · obtain ⟨t1,t2,t3,t4⟩:=mk_ptL' hE
        rw [e] at c1 c2
        exact qp_oo x hx b hb _ _ t3 t4 c1 c2
      · rw [e] at c1 c2
        exact qp_ff x hx b hb [] _ (by simp) (by simp) c1 c2
    · by_cases k3 : x.kind = 3
      · have c1:=putsP_gn x hx k3 b hb
        have c2:=putsR_gn x hx k3 b hb
        rcases outP_or' (gnE (decV b) x.name) (gnP (decV b) x.name) with ⟨hE,e⟩ | ⟨hE,e⟩
        · rw [e] at c1
          rw [show gnR b x.name = gnP (decV b) x.name from if_pos hE] at c2
          exact qp_of x hx b hb _ _ (gn_ok b x.name) (by unfold gnP; simp) c1 c2
        · rw [e] at c1
          rw [show gnR b x.name = [] from if_neg hE] at c2
          exact qp_ff x hx b hb [] _ (by simp) (by simp) c1 c2
      · exact qp_ff x hx b hb [] _ (by simp) (by simp) (putsP_no x hx k1 k2 k3 b hb) (putsR_no x hx k1 k2 k3 b hb)
end Go.Proofs.YtilbipknodpmmaaDoor
