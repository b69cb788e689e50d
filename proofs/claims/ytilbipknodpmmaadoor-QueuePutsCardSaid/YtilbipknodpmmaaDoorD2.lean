/- Of the table: the program's Decode. -/
import Derived.Test.YtilbipknodpmmaaDoorE31
import Derived.Test.YtilbipknodpmmaaDoorM6
import Derived.Test.YtilbipknodpmmaaDoorD1
set_option linter.unusedVariables false
set_option linter.unusedSimpArgs false
set_option maxRecDepth 100000
set_option maxHeartbeats 8000000
namespace Go.Proofs.YtilbipknodpmmaaDoor
open Go.RowKit

theorem decT_step (b : List UInt8) (hb : b.length = 32) {n i v1 : Nat} (hn : n ≤ 3) (hn0 : n = (b.getD 0 0).toNat) (hlt : i < n) {s : St} {Q : Ex → St → Prop}
    (q2 : isB b = false → ∀ s2 : St,s2.t 2 = .sl .full 0 [] → s2.t 3 = .int .i64 11 → Q .ret s2)
    (k1 : s.t 1 = .ptr 1 0 v1) (kh1 : s.h 1 = ⟨v1,true,true,false,bl b⟩) (k20 : s.t 20 = .int .i64 n) (k21 : s.t 21 = .int .i64 i)
    (k4 : (i = 0 ∧ s.t 4 = .sl .full 0 []) ∨ (0 < i ∧ ∃ w,s.t 4 = .row 72 0 i 2 w ∧ s.h 72 = ⟨w,true,true,true,vl (volsTo b i)⟩)) :
    Wp (RCs Tryd.prog) m28_20 (fun e s' => match e with | .normal => ∃ k',k' < n - i ∧ ∃ i,i ≤ n ∧ k' = n - i ∧ s'.t 1 = .ptr 1 0 v1 ∧ s'.h 1 = ⟨v1,true,true,false,bl b⟩ ∧ s'.t 20 = .int .i64 n ∧ s'.t 21 = .int .i64 i ∧ ((i = 0 ∧ s'.t 4 = .sl .full 0 []) ∨ (0 < i ∧ ∃ w,s'.t 4 = .row 72 0 i 2 w ∧ s'.h 72 = ⟨w,true,true,true,vl (volsTo b i)⟩)) | e => Q e s') s:=by
  have wr : ∀ m : Int,0 ≤ m ∧ m ≤ 28 → IntKind.i64.wrap m = m:=by intro m h; rw [IntKind.wrap_i64]; omega
  have wr0:=wr 0 (by omega)
  have wr1:=wr 1 (by omega)
  have wr2:=wr 2 (by omega)
  have wr3:=wr 3 (by omega)
  have wr9:=wr 9 (by omega)
  have wr10:=wr 10 (by omega)
  have wr18:=wr 18 (by omega)
  have wr19:=wr 19 (by omega)
  have wr27:=wr 27 (by omega)
  have wr28:=wr 28 (by omega)
  have hbl : (bl b).length = 32:=by rw [bl_length,hb]
  obtain ⟨c,hc⟩ : ∃ c,c = cntAt b i:=⟨_,rfl⟩
  have hc255 : c < 256:=by rw [hc]; exact UInt8.toNat_lt _
  have hi3 : i = 0 ∨ i = 1 ∨ i = 2:=by omega
  rcases hi3 with rfl | rfl | rfl
  · have hn' : (0 : Int) < n:=by omega
    have hat:=at_bl (b:=b) (k:=5) (by omega)
    have h4:=at4_bl (b:=b) (k:=1) (by omega)
    have hat' : List.take 1 (List.drop 5 (bl b)) = [.int .u8 (c : Int)]:=by rw [hc]; exact hat
    have hwc : IntKind.i64.wrap (c : Int) = c:=by rw [IntKind.wrap_i64]; omega
    have cc:=cut_ok (nm4 b 1) rfl
    have lnm : (bl (nm4 b 1)).length = 4:=rfl
    have tnm : List.take 4 (bl (nm4 b 1)) = bl (nm4 b 1):=rfl
    cases hco : cutO (nm4 b 1) with
    | false =>
      have hno : isB b = false:=by
        cases hb' : isB b with
        | false => rfl
        | true => have:=(isB_at hb' (i:=0) (by omega)).1; rw [show 1 + 9 * 0 = 1 from rfl,hco] at this; cases this
      rw [hco] at cc
      repeat' (first | simp -implicitDefEqProofs (maxSteps:=2000000) only [k1,kh1,k20,k21,hn',hbl,hat',h4,lnm,tnm,hwc,wr0,wr1,wr2,wr3,wr9,wr10,wr18,wr19,wr27,wr28,bl_scal,m28_20,m28_19,m28_18,m28_17,m28_16,m28_15,m28_14,m28_5,m28_4,m28_3,wk,act,asV,↓reduceIte,Nat.reduceEqDiff,reduceCtorEq,Nat.reduceAdd,Nat.reduceLeDiff,Nat.reduceSub,Nat.reduceMul,List.reduceReplicate,Int.reduceEq,Int.reduceLT,Int.reduceLE,Int.reduceAdd,Int.reduceSub,Int.reduceMul,Nat.reduceLT,Int.reduceToNat] | ((first | ((with_reducible refine CallL.gate ?_); apply CallL.of) | ((with_reducible refine CallP.gate ?_); apply CallP.of)); (case h1 => (simp -implicitDefEqProofs (maxSteps:=2000000) only [k1,kh1,k20,k21,hn',hbl,hat',h4,lnm,tnm,hwc,wr0,wr1,wr2,wr3,wr9,wr10,wr18,wr19,wr27,wr28,bl_scal,m28_20,m28_19,m28_18,m28_17,m28_16,m28_15,m28_14,m28_5,m28_4,m28_3,wk,act,asV,↓reduceIte,Nat.reduceEqDiff,reduceCtorEq,Nat.reduceAdd,Nat.reduceLeDiff,Nat.reduceSub,Nat.reduceMul,List.reduceReplicate,Int.reduceEq,Int.reduceLT,Int.reduceLE,Int.reduceAdd,Int.reduceSub,Int.reduceMul,Nat.reduceLT,Int.reduceToNat]; first | done | (with_reducible rfl))); (case h2 => (first | exact cc)); (case h3 => simp -implicitDefEqProofs (maxSteps:=2000000) only [k1,kh1,k20,k21,hn',hbl,hat',h4,lnm,tnm,hwc,wr0,wr1,wr2,wr3,wr9,wr10,wr18,wr19,wr27,wr28,bl_scal,m28_20,m28_19,m28_18,m28_17,m28_16,m28_15,m28_14,m28_5,m28_4,m28_3,wk,act,asV,↓reduceIte,Nat.reduceEqDiff,reduceCtorEq,Nat.reduceAdd,Nat.reduceLeDiff,Nat.reduceSub,Nat.reduceMul,List.reduceReplicate,Int.reduceEq,Int.reduceLT,Int.reduceLE,Int.reduceAdd,Int.reduceSub,Int.reduceMul,Nat.reduceLT,Int.reduceToNat])))
      exact q2 hno _ (by simp -implicitDefEqProofs (maxSteps:=2000000) only [wk,act,asV,↓reduceIte,Nat.reduceEqDiff,reduceCtorEq,Nat.reduceAdd,Nat.reduceLeDiff,Nat.reduceSub,Nat.reduceMul,List.reduceReplicate,Int.reduceEq,Int.reduceLT,Int.reduceLE,Int.reduceAdd,Int.reduceSub,Int.reduceMul,Nat.reduceLT,Int.reduceToNat]) (by simp -implicitDefEqProofs (maxSteps:=2000000) only [wk,act,asV,↓reduceIte,Nat.reduceEqDiff,reduceCtorEq,Nat.reduceAdd,Nat.reduceLeDiff,Nat.reduceSub,Nat.reduceMul,List.reduceReplicate,Int.reduceEq,Int.reduceLT,Int.reduceLE,Int.reduceAdd,Int.reduceSub,Int.reduceMul,Nat.reduceLT,Int.reduceToNat])
    | true =>
      rw [hco] at cc
      by_cases hc4 : 4 < c
      · have hno : isB b = false:=by
          cases hb' : isB b with
          | false => rfl
          | true => have:=(isB_at hb' (i:=0) (by omega)).2; rw [← hc] at this; omega
        have hc4' : (4 : Int) < c:=by omega
        repeat' (first | simp -implicitDefEqProofs (maxSteps:=2000000) only [k1,kh1,k20,k21,hn',hbl,hat',h4,lnm,tnm,hwc,hc4',wr0,wr1,wr2,wr3,wr9,wr10,wr18,wr19,wr27,wr28,bl_scal,m28_20,m28_19,m28_18,m28_17,m28_16,m28_15,m28_14,m28_5,m28_4,m28_3,wk,act,asV,↓reduceIte,Nat.reduceEqDiff,reduceCtorEq,Nat.reduceAdd,Nat.reduceLeDiff,Nat.reduceSub,Nat.reduceMul,List.reduceReplicate,Int.reduceEq,Int.reduceLT,Int.reduceLE,Int.reduceAdd,Int.reduceSub,Int.reduceMul,Nat.reduceLT,Int.reduceToNat] | ((first | ((with_reducible refine CallL.gate ?_); apply CallL.of) | ((with_reducible refine CallP.gate ?_); apply CallP.of)); (case h1 => (simp -implicitDefEqProofs (maxSteps:=2000000) only [k1,kh1,k20,k21,hn',hbl,hat',h4,lnm,tnm,hwc,hc4',wr0,wr1,wr2,wr3,wr9,wr10,wr18,wr19,wr27,wr28,bl_scal,m28_20,m28_19,m28_18,m28_17,m28_16,m28_15,m28_14,m28_5,m28_4,m28_3,wk,act,asV,↓reduceIte,Nat.reduceEqDiff,reduceCtorEq,Nat.reduceAdd,Nat.reduceLeDiff,Nat.reduceSub,Nat.reduceMul,List.reduceReplicate,Int.reduceEq,Int.reduceLT,Int.reduceLE,Int.reduceAdd,Int.reduceSub,Int.reduceMul,Nat.reduceLT,Int.reduceToNat]; first | done | (with_reducible rfl))); (case h2 => (first | exact cc)); (case h3 => simp -implicitDefEqProofs (maxSteps:=2000000) only [k1,kh1,k20,k21,hn',hbl,hat',h4,lnm,tnm,hwc,hc4',wr0,wr1,wr2,wr3,wr9,wr10,wr18,wr19,wr27,wr28,bl_scal,m28_20,m28_19,m28_18,m28_17,m28_16,m28_15,m28_14,m28_5,m28_4,m28_3,wk,act,asV,↓reduceIte,Nat.reduceEqDiff,reduceCtorEq,Nat.reduceAdd,Nat.reduceLeDiff,Nat.reduceSub,Nat.reduceMul,List.reduceReplicate,Int.reduceEq,Int.reduceLT,Int.reduceLE,Int.reduceAdd,Int.reduceSub,Int.reduceMul,Nat.reduceLT,Int.reduceToNat])))
        exact q2 hno _ (by simp -implicitDefEqProofs (maxSteps:=2000000) only [wk,act,asV,↓reduceIte,Nat.reduceEqDiff,reduceCtorEq,Nat.reduceAdd,Nat.reduceLeDiff,Nat.reduceSub,Nat.reduceMul,List.reduceReplicate,Int.reduceEq,Int.reduceLT,Int.reduceLE,Int.reduceAdd,Int.reduceSub,Int.reduceMul,Nat.reduceLT,Int.reduceToNat]) (by simp -implicitDefEqProofs (maxSteps:=2000000) only [wk,act,asV,↓reduceIte,Nat.reduceEqDiff,reduceCtorEq,Nat.reduceAdd,Nat.reduceLeDiff,Nat.reduceSub,Nat.reduceMul,List.reduceReplicate,Int.reduceEq,Int.reduceLT,Int.reduceLE,Int.reduceAdd,Int.reduceSub,Int.reduceMul,Nat.reduceLT,Int.reduceToNat])
      · have hc4' : ¬ (4 : Int) < c:=by omega
        have hw5 : IntKind.i64.wrap (5 + (c : Int)) = ((5 + c : Nat) : Int):=by rw [IntKind.wrap_i64]; omega
        have hc9 : 5 + c ≤ 9:=by omega
        have hc9' : c ≤ 4:=by omega
        have hc5 : 5 + c - 5 = c:=by omega
        have hv : volAt b 0 = ⟨cutS (nm4 b 1),blksAt b 6 c⟩:=by
          unfold volAt; rw [← hc,Nat.min_eq_left hc9']
        repeat' (first | simp -implicitDefEqProofs (maxSteps:=2000000) only [k1,kh1,k20,k21,hn',hbl,hat',h4,lnm,tnm,hwc,hc4',hw5,hc9,hc9',hc5,wr0,wr1,wr2,wr3,wr9,wr10,wr18,wr19,wr27,wr28,bl_scal,m28_20,m28_19,m28_18,m28_17,m28_16,m28_15,m28_14,m28_13,m28_12,m28_11,m28_10,m28_5,m28_4,m28_3,wk,act,asV,↓reduceIte,Nat.reduceEqDiff,reduceCtorEq,Nat.reduceAdd,Nat.reduceLeDiff,Nat.reduceSub,Nat.reduceMul,List.reduceReplicate,Int.reduceEq,Int.reduceLT,Int.reduceLE,Int.reduceAdd,Int.reduceSub,Int.reduceMul,Nat.reduceLT,Int.reduceToNat] | ((first | ((with_reducible refine CallL.gate ?_); apply CallL.of) | ((with_reducible refine CallP.gate ?_); apply CallP.of)); (case h1 => (simp -implicitDefEqProofs (maxSteps:=2000000) only [k1,kh1,k20,k21,hn',hbl,hat',h4,lnm,tnm,hwc,hc4',hw5,hc9,hc9',hc5,wr0,wr1,wr2,wr3,wr9,wr10,wr18,wr19,wr27,wr28,bl_scal,m28_20,m28_19,m28_18,m28_17,m28_16,m28_15,m28_14,m28_13,m28_12,m28_11,m28_10,m28_5,m28_4,m28_3,wk,act,asV,↓reduceIte,Nat.reduceEqDiff,reduceCtorEq,Nat.reduceAdd,Nat.reduceLeDiff,Nat.reduceSub,Nat.reduceMul,List.reduceReplicate,Int.reduceEq,Int.reduceLT,Int.reduceLE,Int.reduceAdd,Int.reduceSub,Int.reduceMul,Nat.reduceLT,Int.reduceToNat]; first | done | (with_reducible rfl))); (case h2 => (first | exact cc)); (case h3 => simp -implicitDefEqProofs (maxSteps:=2000000) only [k1,kh1,k20,k21,hn',hbl,hat',h4,lnm,tnm,hwc,hc4',hw5,hc9,hc9',hc5,wr0,wr1,wr2,wr3,wr9,wr10,wr18,wr19,wr27,wr28,bl_scal,m28_20,m28_19,m28_18,m28_17,m28_16,m28_15,m28_14,m28_13,m28_12,m28_11,m28_10,m28_5,m28_4,m28_3,wk,act,asV,↓reduceIte,Nat.reduceEqDiff,reduceCtorEq,Nat.reduceAdd,Nat.reduceLeDiff,Nat.reduceSub,Nat.reduceMul,List.reduceReplicate,Int.reduceEq,Int.reduceLT,Int.reduceLE,Int.reduceAdd,Int.reduceSub,Int.reduceMul,Nat.reduceLT,Int.reduceToNat])))
        refine decT_in b hb 6 c 0 n v1 (by omega) (cutS (nm4 b 1)) _ _ ?_ (by simp -implicitDefEqProofs (maxSteps:=2000000) only [k1,wk,act,asV,↓reduceIte,Nat.reduceEqDiff,reduceCtorEq,Nat.reduceAdd,Nat.reduceLeDiff,Nat.reduceSub,Nat.reduceMul,List.reduceReplicate,Int.reduceEq,Int.reduceLT,Int.reduceLE,Int.reduceAdd,Int.reduceSub,Int.reduceMul,Nat.reduceLT,Int.reduceToNat]) (by simp -implicitDefEqProofs (maxSteps:=2000000) only [kh1,wk,act,asV,↓reduceIte,Nat.reduceEqDiff,reduceCtorEq,Nat.reduceAdd,Nat.reduceLeDiff,Nat.reduceSub,Nat.reduceMul,List.reduceReplicate,Int.reduceEq,Int.reduceLT,Int.reduceLE,Int.reduceAdd,Int.reduceSub,Int.reduceMul,Nat.reduceLT,Int.reduceToNat]) (by simp -implicitDefEqProofs (maxSteps:=2000000) only [k20,wk,act,asV,↓reduceIte,Nat.reduceEqDiff,reduceCtorEq,Nat.reduceAdd,Nat.reduceLeDiff,Nat.reduceSub,Nat.reduceMul,List.reduceReplicate,Int.reduceEq,Int.reduceLT,Int.reduceLE,Int.reduceAdd,Int.reduceSub,Int.reduceMul,Nat.reduceLT,Int.reduceToNat]) (by simp -implicitDefEqProofs (maxSteps:=2000000) only [k21,wk,act,asV,↓reduceIte,Nat.reduceEqDiff,reduceCtorEq,Nat.reduceAdd,Nat.reduceLeDiff,Nat.reduceSub,Nat.reduceMul,List.reduceReplicate,Int.reduceEq,Int.reduceLT,Int.reduceLE,Int.reduceAdd,Int.reduceSub,Int.reduceMul,Nat.reduceLT,Int.reduceToNat]) (by simp -implicitDefEqProofs (maxSteps:=2000000) only [wk,act,asV,↓reduceIte,Nat.reduceEqDiff,reduceCtorEq,Nat.reduceAdd,Nat.reduceLeDiff,Nat.reduceSub,Nat.reduceMul,List.reduceReplicate,Int.reduceEq,Int.reduceLT,Int.reduceLE,Int.reduceAdd,Int.reduceSub,Int.reduceMul,Nat.reduceLT,Int.reduceToNat]; first | done | rfl) (by simp -implicitDefEqProofs (maxSteps:=2000000) only [wk,act,asV,↓reduceIte,Nat.reduceEqDiff,reduceCtorEq,Nat.reduceAdd,Nat.reduceLeDiff,Nat.reduceSub,Nat.reduceMul,List.reduceReplicate,Int.reduceEq,Int.reduceLT,Int.reduceLE,Int.reduceAdd,Int.reduceSub,Int.reduceMul,Nat.reduceLT,Int.reduceToNat]) (by simp -implicitDefEqProofs (maxSteps:=2000000) only [wk,act,asV,↓reduceIte,Nat.reduceEqDiff,reduceCtorEq,Nat.reduceAdd,Nat.reduceLeDiff,Nat.reduceSub,Nat.reduceMul,List.reduceReplicate,Int.reduceEq,Int.reduceLT,Int.reduceLE,Int.reduceAdd,Int.reduceSub,Int.reduceMul,Nat.reduceLT,Int.reduceToNat]) ⟨_,by simp -implicitDefEqProofs (maxSteps:=2000000) only [wk,act,asV,↓reduceIte,Nat.reduceEqDiff,reduceCtorEq,Nat.reduceAdd,Nat.reduceLeDiff,Nat.reduceSub,Nat.reduceMul,List.reduceReplicate,Int.reduceEq,Int.reduceLT,Int.reduceLE,Int.reduceAdd,Int.reduceSub,Int.reduceMul,Nat.reduceLT,Int.reduceToNat]; first | done | rfl,.inl ⟨rfl,by simp -implicitDefEqProofs (maxSteps:=2000000) only [wk,act,asV,↓reduceIte,Nat.reduceEqDiff,reduceCtorEq,Nat.reduceAdd,Nat.reduceLeDiff,Nat.reduceSub,Nat.reduceMul,List.reduceReplicate,Int.reduceEq,Int.reduceLT,Int.reduceLE,Int.reduceAdd,Int.reduceSub,Int.reduceMul,Nat.reduceLT,Int.reduceToNat]; first | done | rfl⟩⟩
        intro s2 p1 ph1 p4 ph72 p20 p21 pb
        simp -implicitDefEqProofs (maxSteps:=2000000) only [wk,act,asV,↓reduceIte,Nat.reduceEqDiff,reduceCtorEq,Nat.reduceAdd,Nat.reduceLeDiff,Nat.reduceSub,Nat.reduceMul,List.reduceReplicate,Int.reduceEq,Int.reduceLT,Int.reduceLE,Int.reduceAdd,Int.reduceSub,Int.reduceMul,Nat.reduceLT,Int.reduceToNat] at p4
        simp -implicitDefEqProofs (maxSteps:=2000000) only [wk,act,asV,↓reduceIte,Nat.reduceEqDiff,reduceCtorEq,Nat.reduceAdd,Nat.reduceLeDiff,Nat.reduceSub,Nat.reduceMul,List.reduceReplicate,Int.reduceEq,Int.reduceLT,Int.reduceLE,Int.reduceAdd,Int.reduceSub,Int.reduceMul,Nat.reduceLT,Int.reduceToNat] at ph72
        obtain ⟨v,p10,pb⟩:=pb
        have hsn:=vl_snoc (volsTo b 0) (volAt b 0)
        rw [← volsTo_succ,hv] at hsn
        simp only [blksAt_length] at hsn
        have hlen : (blksAt b 6 c).length = c:=blksAt_length ..
        have htk : List.take c (il (blksAt b 6 c)) = il (blksAt b 6 c):=List.take_of_length_le (by rw [il_length,hlen]; exact Nat.le_refl _)
        have hvl : (vl (volsTo b 0)).length = 0 * 2:=by rw [vl_length,volsTo_length]
        have hvl' : (vl (volsTo b 0)).length = 0:=hvl
        have hr1 : roomy 1 40 = true:=by decide
        have hr2 : roomy 2 40 = true:=by decide
        have hr3 : roomy 3 40 = true:=by decide
        have e0':=il_nil
        rcases k4 with ⟨hi0,k4⟩ | ⟨hi0,w4,k4,kh72⟩
        · have hvn : vl (volsTo b 0) = []:=rfl
          rcases pb with ⟨e0,pk⟩ | ⟨e0,w,pk,pr⟩
          · have ec : c = 0:=by rw [← hlen,e0]; rfl
            simp -implicitDefEqProofs (maxSteps:=2000000) only [p1,ph1,p4,k4,p20,p21,p10,pk,hvl,hvl',hr1,hr2,hr3,wr1,wr2,wr3,List.length_append,wk,act,asV,↓reduceIte,Nat.reduceEqDiff,reduceCtorEq,Nat.reduceAdd,Nat.reduceLeDiff,Nat.reduceSub,Nat.reduceMul,List.reduceReplicate,Int.reduceEq,Int.reduceLT,Int.reduceLE,Int.reduceAdd,Int.reduceSub,Int.reduceMul,Nat.reduceLT,Int.reduceToNat]
            refine ⟨n - (0 + 1),by omega,0 + 1,by omega,rfl,rfl,by omega,_,rfl,?_⟩
            rw [← hsn,e0,ec]; rfl
          · rw [hlen] at pk
            simp -implicitDefEqProofs (maxSteps:=2000000) only [p1,ph1,p4,k4,p20,p21,p10,pk,pr,hlen,hvl,hvl',hr1,hr2,hr3,wr1,wr2,wr3,il_length,il_scal,il_pur,htk,List.length_append,wk,act,asV,↓reduceIte,Nat.reduceEqDiff,reduceCtorEq,Nat.reduceAdd,Nat.reduceLeDiff,Nat.reduceSub,Nat.reduceMul,List.reduceReplicate,Int.reduceEq,Int.reduceLT,Int.reduceLE,Int.reduceAdd,Int.reduceSub,Int.reduceMul,Nat.reduceLT,Int.reduceToNat]
            refine ⟨n - (0 + 1),by omega,0 + 1,by omega,rfl,rfl,by omega,_,rfl,?_⟩
            rw [← hsn]; first | done | rfl
        · omega
  · have hn' : (1 : Int) < n:=by omega
    have hat:=at_bl (b:=b) (k:=14) (by omega)
    have h4:=at4_bl (b:=b) (k:=10) (by omega)
    have hat' : List.take 1 (List.drop 14 (bl b)) = [.int .u8 (c : Int)]:=by rw [hc]; exact hat
    have hwc : IntKind.i64.wrap (c : Int) = c:=by rw [IntKind.wrap_i64]; omega
    have cc:=cut_ok (nm4 b 10) rfl
    have lnm : (bl (nm4 b 10)).length = 4:=rfl
    have tnm : List.take 4 (bl (nm4 b 10)) = bl (nm4 b 10):=rfl
    cases hco : cutO (nm4 b 10) with
    | false =>
      have hno : isB b = false:=by
        cases hb' : isB b with
        | false => rfl
        | true => have:=(isB_at hb' (i:=1) (by omega)).1; rw [show 1 + 9 * 1 = 10 from rfl,hco] at this; cases this
      rw [hco] at cc
      repeat' (first | simp -implicitDefEqProofs (maxSteps:=2000000) only [k1,kh1,k20,k21,hn',hbl,hat',h4,lnm,tnm,hwc,wr0,wr1,wr2,wr3,wr9,wr10,wr18,wr19,wr27,wr28,bl_scal,m28_20,m28_19,m28_18,m28_17,m28_16,m28_15,m28_14,m28_5,m28_4,m28_3,wk,act,asV,↓reduceIte,Nat.reduceEqDiff,reduceCtorEq,Nat.reduceAdd,Nat.reduceLeDiff,Nat.reduceSub,Nat.reduceMul,List.reduceReplicate,Int.reduceEq,Int.reduceLT,Int.reduceLE,Int.reduceAdd,Int.reduceSub,Int.reduceMul,Nat.reduceLT,Int.reduceToNat] | ((first | ((with_reducible refine CallL.gate ?_); apply CallL.of) | ((with_reducible refine CallP.gate ?_); apply CallP.of)); (case h1 => (simp -implicitDefEqProofs (maxSteps:=2000000) only [k1,kh1,k20,k21,hn',hbl,hat',h4,lnm,tnm,hwc,wr0,wr1,wr2,wr3,wr9,wr10,wr18,wr19,wr27,wr28,bl_scal,m28_20,m28_19,m28_18,m28_17,m28_16,m28_15,m28_14,m28_5,m28_4,m28_3,wk,act,asV,↓reduceIte,Nat.reduceEqDiff,reduceCtorEq,Nat.reduceAdd,Nat.reduceLeDiff,Nat.reduceSub,Nat.reduceMul,List.reduceReplicate,Int.reduceEq,Int.reduceLT,Int.reduceLE,Int.reduceAdd,Int.reduceSub,Int.reduceMul,Nat.reduceLT,Int.reduceToNat]; first | done | (with_reducible rfl))); (case h2 => (first | exact cc)); (case h3 => simp -implicitDefEqProofs (maxSteps:=2000000) only [k1,kh1,k20,k21,hn',hbl,hat',h4,lnm,tnm,hwc,wr0,wr1,wr2,wr3,wr9,wr10,wr18,wr19,wr27,wr28,bl_scal,m28_20,m28_19,m28_18,m28_17,m28_16,m28_15,m28_14,m28_5,m28_4,m28_3,wk,act,asV,↓reduceIte,Nat.reduceEqDiff,reduceCtorEq,Nat.reduceAdd,Nat.reduceLeDiff,Nat.reduceSub,Nat.reduceMul,List.reduceReplicate,Int.reduceEq,Int.reduceLT,Int.reduceLE,Int.reduceAdd,Int.reduceSub,Int.reduceMul,Nat.reduceLT,Int.reduceToNat])))
      exact q2 hno _ (by simp -implicitDefEqProofs (maxSteps:=2000000) only [wk,act,asV,↓reduceIte,Nat.reduceEqDiff,reduceCtorEq,Nat.reduceAdd,Nat.reduceLeDiff,Nat.reduceSub,Nat.reduceMul,List.reduceReplicate,Int.reduceEq,Int.reduceLT,Int.reduceLE,Int.reduceAdd,Int.reduceSub,Int.reduceMul,Nat.reduceLT,Int.reduceToNat]) (by simp -implicitDefEqProofs (maxSteps:=2000000) only [wk,act,asV,↓reduceIte,Nat.reduceEqDiff,reduceCtorEq,Nat.reduceAdd,Nat.reduceLeDiff,Nat.reduceSub,Nat.reduceMul,List.reduceReplicate,Int.reduceEq,Int.reduceLT,Int.reduceLE,Int.reduceAdd,Int.reduceSub,Int.reduceMul,Nat.reduceLT,Int.reduceToNat])
    | true =>
      rw [hco] at cc
      by_cases hc4 : 4 < c
      · have hno : isB b = false:=by
          cases hb' : isB b with
          | false => rfl
          | true => have:=(isB_at hb' (i:=1) (by omega)).2; rw [← hc] at this; omega
        have hc4' : (4 : Int) < c:=by omega
        repeat' (first | simp -implicitDefEqProofs (maxSteps:=2000000) only [k1,kh1,k20,k21,hn',hbl,hat',h4,lnm,tnm,hwc,hc4',wr0,wr1,wr2,wr3,wr9,wr10,wr18,wr19,wr27,wr28,bl_scal,m28_20,m28_19,m28_18,m28_17,m28_16,m28_15,m28_14,m28_5,m28_4,m28_3,wk,act,asV,↓reduceIte,Nat.reduceEqDiff,reduceCtorEq,Nat.reduceAdd,Nat.reduceLeDiff,Nat.reduceSub,Nat.reduceMul,List.reduceReplicate,Int.reduceEq,Int.reduceLT,Int.reduceLE,Int.reduceAdd,Int.reduceSub,Int.reduceMul,Nat.reduceLT,Int.reduceToNat] | ((first | ((with_reducible refine CallL.gate ?_); apply CallL.of) | ((with_reducible refine CallP.gate ?_); apply CallP.of)); (case h1 => (simp -implicitDefEqProofs (maxSteps:=2000000) only [k1,kh1,k20,k21,hn',hbl,hat',h4,lnm,tnm,hwc,hc4',wr0,wr1,wr2,wr3,wr9,wr10,wr18,wr19,wr27,wr28,bl_scal,m28_20,m28_19,m28_18,m28_17,m28_16,m28_15,m28_14,m28_5,m28_4,m28_3,wk,act,asV,↓reduceIte,Nat.reduceEqDiff,reduceCtorEq,Nat.reduceAdd,Nat.reduceLeDiff,Nat.reduceSub,Nat.reduceMul,List.reduceReplicate,Int.reduceEq,Int.reduceLT,Int.reduceLE,Int.reduceAdd,Int.reduceSub,Int.reduceMul,Nat.reduceLT,Int.reduceToNat]; first | done | (with_reducible rfl))); (case h2 => (first | exact cc)); (case h3 => simp -implicitDefEqProofs (maxSteps:=2000000) only [k1,kh1,k20,k21,hn',hbl,hat',h4,lnm,tnm,hwc,hc4',wr0,wr1,wr2,wr3,wr9,wr10,wr18,wr19,wr27,wr28,bl_scal,m28_20,m28_19,m28_18,m28_17,m28_16,m28_15,m28_14,m28_5,m28_4,m28_3,wk,act,asV,↓reduceIte,Nat.reduceEqDiff,reduceCtorEq,Nat.reduceAdd,Nat.reduceLeDiff,Nat.reduceSub,Nat.reduceMul,List.reduceReplicate,Int.reduceEq,Int.reduceLT,Int.reduceLE,Int.reduceAdd,Int.reduceSub,Int.reduceMul,Nat.reduceLT,Int.reduceToNat])))
        exact q2 hno _ (by simp -implicitDefEqProofs (maxSteps:=2000000) only [wk,act,asV,↓reduceIte,Nat.reduceEqDiff,reduceCtorEq,Nat.reduceAdd,Nat.reduceLeDiff,Nat.reduceSub,Nat.reduceMul,List.reduceReplicate,Int.reduceEq,Int.reduceLT,Int.reduceLE,Int.reduceAdd,Int.reduceSub,Int.reduceMul,Nat.reduceLT,Int.reduceToNat]) (by simp -implicitDefEqProofs (maxSteps:=2000000) only [wk,act,asV,↓reduceIte,Nat.reduceEqDiff,reduceCtorEq,Nat.reduceAdd,Nat.reduceLeDiff,Nat.reduceSub,Nat.reduceMul,List.reduceReplicate,Int.reduceEq,Int.reduceLT,Int.reduceLE,Int.reduceAdd,Int.reduceSub,Int.reduceMul,Nat.reduceLT,Int.reduceToNat])
      · have hc4' : ¬ (4 : Int) < c:=by omega
        have hw5 : IntKind.i64.wrap (5 + (c : Int)) = ((5 + c : Nat) : Int):=by rw [IntKind.wrap_i64]; omega
        have hc9 : 5 + c ≤ 9:=by omega
        have hc9' : c ≤ 4:=by omega
        have hc5 : 5 + c - 5 = c:=by omega
        have hv : volAt b 1 = ⟨cutS (nm4 b 10),blksAt b 15 c⟩:=by
          unfold volAt; rw [← hc,Nat.min_eq_left hc9']
        repeat' (first | simp -implicitDefEqProofs (maxSteps:=2000000) only [k1,kh1,k20,k21,hn',hbl,hat',h4,lnm,tnm,hwc,hc4',hw5,hc9,hc9',hc5,wr0,wr1,wr2,wr3,wr9,wr10,wr18,wr19,wr27,wr28,bl_scal,m28_20,m28_19,m28_18,m28_17,m28_16,m28_15,m28_14,m28_13,m28_12,m28_11,m28_10,m28_5,m28_4,m28_3,wk,act,asV,↓reduceIte,Nat.reduceEqDiff,reduceCtorEq,Nat.reduceAdd,Nat.reduceLeDiff,Nat.reduceSub,Nat.reduceMul,List.reduceReplicate,Int.reduceEq,Int.reduceLT,Int.reduceLE,Int.reduceAdd,Int.reduceSub,Int.reduceMul,Nat.reduceLT,Int.reduceToNat] | ((first | ((with_reducible refine CallL.gate ?_); apply CallL.of) | ((with_reducible refine CallP.gate ?_); apply CallP.of)); (case h1 => (simp -implicitDefEqProofs (maxSteps:=2000000) only [k1,kh1,k20,k21,hn',hbl,hat',h4,lnm,tnm,hwc,hc4',hw5,hc9,hc9',hc5,wr0,wr1,wr2,wr3,wr9,wr10,wr18,wr19,wr27,wr28,bl_scal,m28_20,m28_19,m28_18,m28_17,m28_16,m28_15,m28_14,m28_13,m28_12,m28_11,m28_10,m28_5,m28_4,m28_3,wk,act,asV,↓reduceIte,Nat.reduceEqDiff,reduceCtorEq,Nat.reduceAdd,Nat.reduceLeDiff,Nat.reduceSub,Nat.reduceMul,List.reduceReplicate,Int.reduceEq,Int.reduceLT,Int.reduceLE,Int.reduceAdd,Int.reduceSub,Int.reduceMul,Nat.reduceLT,Int.reduceToNat]; first | done | (with_reducible rfl))); (case h2 => (first | exact cc)); (case h3 => simp -implicitDefEqProofs (maxSteps:=2000000) only [k1,kh1,k20,k21,hn',hbl,hat',h4,lnm,tnm,hwc,hc4',hw5,hc9,hc9',hc5,wr0,wr1,wr2,wr3,wr9,wr10,wr18,wr19,wr27,wr28,bl_scal,m28_20,m28_19,m28_18,m28_17,m28_16,m28_15,m28_14,m28_13,m28_12,m28_11,m28_10,m28_5,m28_4,m28_3,wk,act,asV,↓reduceIte,Nat.reduceEqDiff,reduceCtorEq,Nat.reduceAdd,Nat.reduceLeDiff,Nat.reduceSub,Nat.reduceMul,List.reduceReplicate,Int.reduceEq,Int.reduceLT,Int.reduceLE,Int.reduceAdd,Int.reduceSub,Int.reduceMul,Nat.reduceLT,Int.reduceToNat])))
        refine decT_in b hb 15 c 1 n v1 (by omega) (cutS (nm4 b 10)) _ _ ?_ (by simp -implicitDefEqProofs (maxSteps:=2000000) only [k1,wk,act,asV,↓reduceIte,Nat.reduceEqDiff,reduceCtorEq,Nat.reduceAdd,Nat.reduceLeDiff,Nat.reduceSub,Nat.reduceMul,List.reduceReplicate,Int.reduceEq,Int.reduceLT,Int.reduceLE,Int.reduceAdd,Int.reduceSub,Int.reduceMul,Nat.reduceLT,Int.reduceToNat]) (by simp -implicitDefEqProofs (maxSteps:=2000000) only [kh1,wk,act,asV,↓reduceIte,Nat.reduceEqDiff,reduceCtorEq,Nat.reduceAdd,Nat.reduceLeDiff,Nat.reduceSub,Nat.reduceMul,List.reduceReplicate,Int.reduceEq,Int.reduceLT,Int.reduceLE,Int.reduceAdd,Int.reduceSub,Int.reduceMul,Nat.reduceLT,Int.reduceToNat]) (by simp -implicitDefEqProofs (maxSteps:=2000000) only [k20,wk,act,asV,↓reduceIte,Nat.reduceEqDiff,reduceCtorEq,Nat.reduceAdd,Nat.reduceLeDiff,Nat.reduceSub,Nat.reduceMul,List.reduceReplicate,Int.reduceEq,Int.reduceLT,Int.reduceLE,Int.reduceAdd,Int.reduceSub,Int.reduceMul,Nat.reduceLT,Int.reduceToNat]) (by simp -implicitDefEqProofs (maxSteps:=2000000) only [k21,wk,act,asV,↓reduceIte,Nat.reduceEqDiff,reduceCtorEq,Nat.reduceAdd,Nat.reduceLeDiff,Nat.reduceSub,Nat.reduceMul,List.reduceReplicate,Int.reduceEq,Int.reduceLT,Int.reduceLE,Int.reduceAdd,Int.reduceSub,Int.reduceMul,Nat.reduceLT,Int.reduceToNat]) (by simp -implicitDefEqProofs (maxSteps:=2000000) only [wk,act,asV,↓reduceIte,Nat.reduceEqDiff,reduceCtorEq,Nat.reduceAdd,Nat.reduceLeDiff,Nat.reduceSub,Nat.reduceMul,List.reduceReplicate,Int.reduceEq,Int.reduceLT,Int.reduceLE,Int.reduceAdd,Int.reduceSub,Int.reduceMul,Nat.reduceLT,Int.reduceToNat]; first | done | rfl) (by simp -implicitDefEqProofs (maxSteps:=2000000) only [wk,act,asV,↓reduceIte,Nat.reduceEqDiff,reduceCtorEq,Nat.reduceAdd,Nat.reduceLeDiff,Nat.reduceSub,Nat.reduceMul,List.reduceReplicate,Int.reduceEq,Int.reduceLT,Int.reduceLE,Int.reduceAdd,Int.reduceSub,Int.reduceMul,Nat.reduceLT,Int.reduceToNat]) (by simp -implicitDefEqProofs (maxSteps:=2000000) only [wk,act,asV,↓reduceIte,Nat.reduceEqDiff,reduceCtorEq,Nat.reduceAdd,Nat.reduceLeDiff,Nat.reduceSub,Nat.reduceMul,List.reduceReplicate,Int.reduceEq,Int.reduceLT,Int.reduceLE,Int.reduceAdd,Int.reduceSub,Int.reduceMul,Nat.reduceLT,Int.reduceToNat]) ⟨_,by simp -implicitDefEqProofs (maxSteps:=2000000) only [wk,act,asV,↓reduceIte,Nat.reduceEqDiff,reduceCtorEq,Nat.reduceAdd,Nat.reduceLeDiff,Nat.reduceSub,Nat.reduceMul,List.reduceReplicate,Int.reduceEq,Int.reduceLT,Int.reduceLE,Int.reduceAdd,Int.reduceSub,Int.reduceMul,Nat.reduceLT,Int.reduceToNat]; first | done | rfl,.inl ⟨rfl,by simp -implicitDefEqProofs (maxSteps:=2000000) only [wk,act,asV,↓reduceIte,Nat.reduceEqDiff,reduceCtorEq,Nat.reduceAdd,Nat.reduceLeDiff,Nat.reduceSub,Nat.reduceMul,List.reduceReplicate,Int.reduceEq,Int.reduceLT,Int.reduceLE,Int.reduceAdd,Int.reduceSub,Int.reduceMul,Nat.reduceLT,Int.reduceToNat]; first | done | rfl⟩⟩
        intro s2 p1 ph1 p4 ph72 p20 p21 pb
        simp -implicitDefEqProofs (maxSteps:=2000000) only [wk,act,asV,↓reduceIte,Nat.reduceEqDiff,reduceCtorEq,Nat.reduceAdd,Nat.reduceLeDiff,Nat.reduceSub,Nat.reduceMul,List.reduceReplicate,Int.reduceEq,Int.reduceLT,Int.reduceLE,Int.reduceAdd,Int.reduceSub,Int.reduceMul,Nat.reduceLT,Int.reduceToNat] at p4
        simp -implicitDefEqProofs (maxSteps:=2000000) only [wk,act,asV,↓reduceIte,Nat.reduceEqDiff,reduceCtorEq,Nat.reduceAdd,Nat.reduceLeDiff,Nat.reduceSub,Nat.reduceMul,List.reduceReplicate,Int.reduceEq,Int.reduceLT,Int.reduceLE,Int.reduceAdd,Int.reduceSub,Int.reduceMul,Nat.reduceLT,Int.reduceToNat] at ph72
        obtain ⟨v,p10,pb⟩:=pb
        have hsn:=vl_snoc (volsTo b 1) (volAt b 1)
        rw [← volsTo_succ,hv] at hsn
        simp only [blksAt_length] at hsn
        have hlen : (blksAt b 15 c).length = c:=blksAt_length ..
        have htk : List.take c (il (blksAt b 15 c)) = il (blksAt b 15 c):=List.take_of_length_le (by rw [il_length,hlen]; exact Nat.le_refl _)
        have hvl : (vl (volsTo b 1)).length = 1 * 2:=by rw [vl_length,volsTo_length]
        have hvl' : (vl (volsTo b 1)).length = 2:=hvl
        have hr1 : roomy 1 40 = true:=by decide
        have hr2 : roomy 2 40 = true:=by decide
        have hr3 : roomy 3 40 = true:=by decide
        have e0':=il_nil
        rcases k4 with ⟨hi0,k4⟩ | ⟨hi0,w4,k4,kh72⟩
        · omega
        · rw [k4] at p4; rw [kh72] at ph72
          rcases pb with ⟨e0,pk⟩ | ⟨e0,w,pk,pr⟩
          · have ec : c = 0:=by rw [← hlen,e0]; rfl
            simp -implicitDefEqProofs (maxSteps:=2000000) only [p1,ph1,p4,ph72,p20,p21,p10,pk,hvl,hvl',hr1,hr2,hr3,wr1,wr2,wr3,List.length_append,wk,act,asV,↓reduceIte,Nat.reduceEqDiff,reduceCtorEq,Nat.reduceAdd,Nat.reduceLeDiff,Nat.reduceSub,Nat.reduceMul,List.reduceReplicate,Int.reduceEq,Int.reduceLT,Int.reduceLE,Int.reduceAdd,Int.reduceSub,Int.reduceMul,Nat.reduceLT,Int.reduceToNat]
            refine ⟨n - (1 + 1),by omega,1 + 1,by omega,rfl,rfl,by omega,_,rfl,?_⟩
            rw [← hsn,e0,ec]; rfl
          · rw [hlen] at pk
            simp -implicitDefEqProofs (maxSteps:=2000000) only [p1,ph1,p4,ph72,p20,p21,p10,pk,pr,hlen,hvl,hvl',hr1,hr2,hr3,wr1,wr2,wr3,il_length,il_scal,il_pur,htk,List.length_append,wk,act,asV,↓reduceIte,Nat.reduceEqDiff,reduceCtorEq,Nat.reduceAdd,Nat.reduceLeDiff,Nat.reduceSub,Nat.reduceMul,List.reduceReplicate,Int.reduceEq,Int.reduceLT,Int.reduceLE,Int.reduceAdd,Int.reduceSub,Int.reduceMul,Nat.reduceLT,Int.reduceToNat]
            refine ⟨n - (1 + 1),by omega,1 + 1,by omega,rfl,rfl,by omega,_,rfl,?_⟩
            rw [← hsn]; first | done | rfl
  · have hn' : (2 : Int) < n:=by omega
    have hat:=at_bl (b:=b) (k:=23) (by omega)
    have h4:=at4_bl (b:=b) (k:=19) (by omega)
    have hat' : List.take 1 (List.drop 23 (bl b)) = [.int .u8 (c : Int)]:=by rw [hc]; exact hat
    have hwc : IntKind.i64.wrap (c : Int) = c:=by rw [IntKind.wrap_i64]; omega
    have cc:=cut_ok (nm4 b 19) rfl
    have lnm : (bl (nm4 b 19)).length = 4:=rfl
    have tnm : List.take 4 (bl (nm4 b 19)) = bl (nm4 b 19):=rfl
    cases hco : cutO (nm4 b 19) with
    | false =>
      have hno : isB b = false:=by
        cases hb' : isB b with
        | false => rfl
        | true => have:=(isB_at hb' (i:=2) (by omega)).1; rw [show 1 + 9 * 2 = 19 from rfl,hco] at this; cases this
      rw [hco] at cc
      repeat' (first | simp -implicitDefEqProofs (maxSteps:=2000000) only [k1,kh1,k20,k21,hn',hbl,hat',h4,lnm,tnm,hwc,wr0,wr1,wr2,wr3,wr9,wr10,wr18,wr19,wr27,wr28,bl_scal,m28_20,m28_19,m28_18,m28_17,m28_16,m28_15,m28_14,m28_5,m28_4,m28_3,wk,act,asV,↓reduceIte,Nat.reduceEqDiff,reduceCtorEq,Nat.reduceAdd,Nat.reduceLeDiff,Nat.reduceSub,Nat.reduceMul,List.reduceReplicate,Int.reduceEq,Int.reduceLT,Int.reduceLE,Int.reduceAdd,Int.reduceSub,Int.reduceMul,Nat.reduceLT,Int.reduceToNat] | ((first | ((with_reducible refine CallL.gate ?_); apply CallL.of) | ((with_reducible refine CallP.gate ?_); apply CallP.of)); (case h1 => (simp -implicitDefEqProofs (maxSteps:=2000000) only [k1,kh1,k20,k21,hn',hbl,hat',h4,lnm,tnm,hwc,wr0,wr1,wr2,wr3,wr9,wr10,wr18,wr19,wr27,wr28,bl_scal,m28_20,m28_19,m28_18,m28_17,m28_16,m28_15,m28_14,m28_5,m28_4,m28_3,wk,act,asV,↓reduceIte,Nat.reduceEqDiff,reduceCtorEq,Nat.reduceAdd,Nat.reduceLeDiff,Nat.reduceSub,Nat.reduceMul,List.reduceReplicate,Int.reduceEq,Int.reduceLT,Int.reduceLE,Int.reduceAdd,Int.reduceSub,Int.reduceMul,Nat.reduceLT,Int.reduceToNat]; first | done | (with_reducible rfl))); (case h2 => (first | exact cc)); (case h3 => simp -implicitDefEqProofs (maxSteps:=2000000) only [k1,kh1,k20,k21,hn',hbl,hat',h4,lnm,tnm,hwc,wr0,wr1,wr2,wr3,wr9,wr10,wr18,wr19,wr27,wr28,bl_scal,m28_20,m28_19,m28_18,m28_17,m28_16,m28_15,m28_14,m28_5,m28_4,m28_3,wk,act,asV,↓reduceIte,Nat.reduceEqDiff,reduceCtorEq,Nat.reduceAdd,Nat.reduceLeDiff,Nat.reduceSub,Nat.reduceMul,List.reduceReplicate,Int.reduceEq,Int.reduceLT,Int.reduceLE,Int.reduceAdd,Int.reduceSub,Int.reduceMul,Nat.reduceLT,Int.reduceToNat])))
      exact q2 hno _ (by simp -implicitDefEqProofs (maxSteps:=2000000) only [wk,act,asV,↓reduceIte,Nat.reduceEqDiff,reduceCtorEq,Nat.reduceAdd,Nat.reduceLeDiff,Nat.reduceSub,Nat.reduceMul,List.reduceReplicate,Int.reduceEq,Int.reduceLT,Int.reduceLE,Int.reduceAdd,Int.reduceSub,Int.reduceMul,Nat.reduceLT,Int.reduceToNat]) (by simp -implicitDefEqProofs (maxSteps:=2000000) only [wk,act,asV,↓reduceIte,Nat.reduceEqDiff,reduceCtorEq,Nat.reduceAdd,Nat.reduceLeDiff,Nat.reduceSub,Nat.reduceMul,List.reduceReplicate,Int.reduceEq,Int.reduceLT,Int.reduceLE,Int.reduceAdd,Int.reduceSub,Int.reduceMul,Nat.reduceLT,Int.reduceToNat])
    | true =>
      rw [hco] at cc
      by_cases hc4 : 4 < c
      · have hno : isB b = false:=by
          cases hb' : isB b with
          | false => rfl
          | true => have:=(isB_at hb' (i:=2) (by omega)).2; rw [← hc] at this; omega
        have hc4' : (4 : Int) < c:=by omega
        repeat' (first | simp -implicitDefEqProofs (maxSteps:=2000000) only [k1,kh1,k20,k21,hn',hbl,hat',h4,lnm,tnm,hwc,hc4',wr0,wr1,wr2,wr3,wr9,wr10,wr18,wr19,wr27,wr28,bl_scal,m28_20,m28_19,m28_18,m28_17,m28_16,m28_15,m28_14,m28_5,m28_4,m28_3,wk,act,asV,↓reduceIte,Nat.reduceEqDiff,reduceCtorEq,Nat.reduceAdd,Nat.reduceLeDiff,Nat.reduceSub,Nat.reduceMul,List.reduceReplicate,Int.reduceEq,Int.reduceLT,Int.reduceLE,Int.reduceAdd,Int.reduceSub,Int.reduceMul,Nat.reduceLT,Int.reduceToNat] | ((first | ((with_reducible refine CallL.gate ?_); apply CallL.of) | ((with_reducible refine CallP.gate ?_); apply CallP.of)); (case h1 => (simp -implicitDefEqProofs (maxSteps:=2000000) only [k1,kh1,k20,k21,hn',hbl,hat',h4,lnm,tnm,hwc,hc4',wr0,wr1,wr2,wr3,wr9,wr10,wr18,wr19,wr27,wr28,bl_scal,m28_20,m28_19,m28_18,m28_17,m28_16,m28_15,m28_14,m28_5,m28_4,m28_3,wk,act,asV,↓reduceIte,Nat.reduceEqDiff,reduceCtorEq,Nat.reduceAdd,Nat.reduceLeDiff,Nat.reduceSub,Nat.reduceMul,List.reduceReplicate,Int.reduceEq,Int.reduceLT,Int.reduceLE,Int.reduceAdd,Int.reduceSub,Int.reduceMul,Nat.reduceLT,Int.reduceToNat]; first | done | (with_reducible rfl))); (case h2 => (first | exact cc)); (case h3 => simp -implicitDefEqProofs (maxSteps:=2000000) only [k1,kh1,k20,k21,hn',hbl,hat',h4,lnm,tnm,hwc,hc4',wr0,wr1,wr2,wr3,wr9,wr10,wr18,wr19,wr27,wr28,bl_scal,m28_20,m28_19,m28_18,m28_17,m28_16,m28_15,m28_14,m28_5,m28_4,m28_3,wk,act,asV,↓reduceIte,Nat.reduceEqDiff,reduceCtorEq,Nat.reduceAdd,Nat.reduceLeDiff,Nat.reduceSub,Nat.reduceMul,List.reduceReplicate,Int.reduceEq,Int.reduceLT,Int.reduceLE,Int.reduceAdd,Int.reduceSub,Int.reduceMul,Nat.reduceLT,Int.reduceToNat])))
        exact q2 hno _ (by simp -implicitDefEqProofs (maxSteps:=2000000) only [wk,act,asV,↓reduceIte,Nat.reduceEqDiff,reduceCtorEq,Nat.reduceAdd,Nat.reduceLeDiff,Nat.reduceSub,Nat.reduceMul,List.reduceReplicate,Int.reduceEq,Int.reduceLT,Int.reduceLE,Int.reduceAdd,Int.reduceSub,Int.reduceMul,Nat.reduceLT,Int.reduceToNat]) (by simp -implicitDefEqProofs (maxSteps:=2000000) only [wk,act,asV,↓reduceIte,Nat.reduceEqDiff,reduceCtorEq,Nat.reduceAdd,Nat.reduceLeDiff,Nat.reduceSub,Nat.reduceMul,List.reduceReplicate,Int.reduceEq,Int.reduceLT,Int.reduceLE,Int.reduceAdd,Int.reduceSub,Int.reduceMul,Nat.reduceLT,Int.reduceToNat])
      · have hc4' : ¬ (4 : Int) < c:=by omega
        have hw5 : IntKind.i64.wrap (5 + (c : Int)) = ((5 + c : Nat) : Int):=by rw [IntKind.wrap_i64]; omega
        have hc9 : 5 + c ≤ 9:=by omega
        have hc9' : c ≤ 4:=by omega
        have hc5 : 5 + c - 5 = c:=by omega
        have hv : volAt b 2 = ⟨cutS (nm4 b 19),blksAt b 24 c⟩:=by
          unfold volAt; rw [← hc,Nat.min_eq_left hc9']
        repeat' (first | simp -implicitDefEqProofs (maxSteps:=2000000) only [k1,kh1,k20,k21,hn',hbl,hat',h4,lnm,tnm,hwc,hc4',hw5,hc9,hc9',hc5,wr0,wr1,wr2,wr3,wr9,wr10,wr18,wr19,wr27,wr28,bl_scal,m28_20,m28_19,m28_18,m28_17,m28_16,m28_15,m28_14,m28_13,m28_12,m28_11,m28_10,m28_5,m28_4,m28_3,wk,act,asV,↓reduceIte,Nat.reduceEqDiff,reduceCtorEq,Nat.reduceAdd,Nat.reduceLeDiff,Nat.reduceSub,Nat.reduceMul,List.reduceReplicate,Int.reduceEq,Int.reduceLT,Int.reduceLE,Int.reduceAdd,Int.reduceSub,Int.reduceMul,Nat.reduceLT,Int.reduceToNat] | ((first | ((with_reducible refine CallL.gate ?_); apply CallL.of) | ((with_reducible refine CallP.gate ?_); apply CallP.of)); (case h1 => (simp -implicitDefEqProofs (maxSteps:=2000000) only [k1,kh1,k20,k21,hn',hbl,hat',h4,lnm,tnm,hwc,hc4',hw5,hc9,hc9',hc5,wr0,wr1,wr2,wr3,wr9,wr10,wr18,wr19,wr27,wr28,bl_scal,m28_20,m28_19,m28_18,m28_17,m28_16,m28_15,m28_14,m28_13,m28_12,m28_11,m28_10,m28_5,m28_4,m28_3,wk,act,asV,↓reduceIte,Nat.reduceEqDiff,reduceCtorEq,Nat.reduceAdd,Nat.reduceLeDiff,Nat.reduceSub,Nat.reduceMul,List.reduceReplicate,Int.reduceEq,Int.reduceLT,Int.reduceLE,Int.reduceAdd,Int.reduceSub,Int.reduceMul,Nat.reduceLT,Int.reduceToNat]; first | done | (with_reducible rfl))); (case h2 => (first | exact cc)); (case h3 => simp -implicitDefEqProofs (maxSteps:=2000000) only [k1,kh1,k20,k21,hn',hbl,hat',h4,lnm,tnm,hwc,hc4',hw5,hc9,hc9',hc5,wr0,wr1,wr2,wr3,wr9,wr10,wr18,wr19,wr27,wr28,bl_scal,m28_20,m28_19,m28_18,m28_17,m28_16,m28_15,m28_14,m28_13,m28_12,m28_11,m28_10,m28_5,m28_4,m28_3,wk,act,asV,↓reduceIte,Nat.reduceEqDiff,reduceCtorEq,Nat.reduceAdd,Nat.reduceLeDiff,Nat.reduceSub,Nat.reduceMul,List.reduceReplicate,Int.reduceEq,Int.reduceLT,Int.reduceLE,Int.reduceAdd,Int.reduceSub,Int.reduceMul,Nat.reduceLT,Int.reduceToNat])))
        refine decT_in b hb 24 c 2 n v1 (by omega) (cutS (nm4 b 19)) _ _ ?_ (by simp -implicitDefEqProofs (maxSteps:=2000000) only [k1,wk,act,asV,↓reduceIte,Nat.reduceEqDiff,reduceCtorEq,Nat.reduceAdd,Nat.reduceLeDiff,Nat.reduceSub,Nat.reduceMul,List.reduceReplicate,Int.reduceEq,Int.reduceLT,Int.reduceLE,Int.reduceAdd,Int.reduceSub,Int.reduceMul,Nat.reduceLT,Int.reduceToNat]) (by simp -implicitDefEqProofs (maxSteps:=2000000) only [kh1,wk,act,asV,↓reduceIte,Nat.reduceEqDiff,reduceCtorEq,Nat.reduceAdd,Nat.reduceLeDiff,Nat.reduceSub,Nat.reduceMul,List.reduceReplicate,Int.reduceEq,Int.reduceLT,Int.reduceLE,Int.reduceAdd,Int.reduceSub,Int.reduceMul,Nat.reduceLT,Int.reduceToNat]) (by simp -implicitDefEqProofs (maxSteps:=2000000) only [k20,wk,act,asV,↓reduceIte,Nat.reduceEqDiff,reduceCtorEq,Nat.reduceAdd,Nat.reduceLeDiff,Nat.reduceSub,Nat.reduceMul,List.reduceReplicate,Int.reduceEq,Int.reduceLT,Int.reduceLE,Int.reduceAdd,Int.reduceSub,Int.reduceMul,Nat.reduceLT,Int.reduceToNat]) (by simp -implicitDefEqProofs (maxSteps:=2000000) only [k21,wk,act,asV,↓reduceIte,Nat.reduceEqDiff,reduceCtorEq,Nat.reduceAdd,Nat.reduceLeDiff,Nat.reduceSub,Nat.reduceMul,List.reduceReplicate,Int.reduceEq,Int.reduceLT,Int.reduceLE,Int.reduceAdd,Int.reduceSub,Int.reduceMul,Nat.reduceLT,Int.reduceToNat]) (by simp -implicitDefEqProofs (maxSteps:=2000000) only [wk,act,asV,↓reduceIte,Nat.reduceEqDiff,reduceCtorEq,Nat.reduceAdd,Nat.reduceLeDiff,Nat.reduceSub,Nat.reduceMul,List.reduceReplicate,Int.reduceEq,Int.reduceLT,Int.reduceLE,Int.reduceAdd,Int.reduceSub,Int.reduceMul,Nat.reduceLT,Int.reduceToNat]; first | done | rfl) (by simp -implicitDefEqProofs (maxSteps:=2000000) only [wk,act,asV,↓reduceIte,Nat.reduceEqDiff,reduceCtorEq,Nat.reduceAdd,Nat.reduceLeDiff,Nat.reduceSub,Nat.reduceMul,List.reduceReplicate,Int.reduceEq,Int.reduceLT,Int.reduceLE,Int.reduceAdd,Int.reduceSub,Int.reduceMul,Nat.reduceLT,Int.reduceToNat]) (by simp -implicitDefEqProofs (maxSteps:=2000000) only [wk,act,asV,↓reduceIte,Nat.reduceEqDiff,reduceCtorEq,Nat.reduceAdd,Nat.reduceLeDiff,Nat.reduceSub,Nat.reduceMul,List.reduceReplicate,Int.reduceEq,Int.reduceLT,Int.reduceLE,Int.reduceAdd,Int.reduceSub,Int.reduceMul,Nat.reduceLT,Int.reduceToNat]) ⟨_,by simp -implicitDefEqProofs (maxSteps:=2000000) only [wk,act,asV,↓reduceIte,Nat.reduceEqDiff,reduceCtorEq,Nat.reduceAdd,Nat.reduceLeDiff,Nat.reduceSub,Nat.reduceMul,List.reduceReplicate,Int.reduceEq,Int.reduceLT,Int.reduceLE,Int.reduceAdd,Int.reduceSub,Int.reduceMul,Nat.reduceLT,Int.reduceToNat]; first | done | rfl,.inl ⟨rfl,by simp -implicitDefEqProofs (maxSteps:=2000000) only [wk,act,asV,↓reduceIte,Nat.reduceEqDiff,reduceCtorEq,Nat.reduceAdd,Nat.reduceLeDiff,Nat.reduceSub,Nat.reduceMul,List.reduceReplicate,Int.reduceEq,Int.reduceLT,Int.reduceLE,Int.reduceAdd,Int.reduceSub,Int.reduceMul,Nat.reduceLT,Int.reduceToNat]; first | done | rfl⟩⟩
        intro s2 p1 ph1 p4 ph72 p20 p21 pb
        simp -implicitDefEqProofs (maxSteps:=2000000) only [wk,act,asV,↓reduceIte,Nat.reduceEqDiff,reduceCtorEq,Nat.reduceAdd,Nat.reduceLeDiff,Nat.reduceSub,Nat.reduceMul,List.reduceReplicate,Int.reduceEq,Int.reduceLT,Int.reduceLE,Int.reduceAdd,Int.reduceSub,Int.reduceMul,Nat.reduceLT,Int.reduceToNat] at p4
        simp -implicitDefEqProofs (maxSteps:=2000000) only [wk,act,asV,↓reduceIte,Nat.reduceEqDiff,reduceCtorEq,Nat.reduceAdd,Nat.reduceLeDiff,Nat.reduceSub,Nat.reduceMul,List.reduceReplicate,Int.reduceEq,Int.reduceLT,Int.reduceLE,Int.reduceAdd,Int.reduceSub,Int.reduceMul,Nat.reduceLT,Int.reduceToNat] at ph72
        obtain ⟨v,p10,pb⟩:=pb
        have hsn:=vl_snoc (volsTo b 2) (volAt b 2)
        rw [← volsTo_succ,hv] at hsn
        simp only [blksAt_length] at hsn
        have hlen : (blksAt b 24 c).length = c:=blksAt_length ..
        have htk : List.take c (il (blksAt b 24 c)) = il (blksAt b 24 c):=List.take_of_length_le (by rw [il_length,hlen]; exact Nat.le_refl _)
        have hvl : (vl (volsTo b 2)).length = 2 * 2:=by rw [vl_length,volsTo_length]
        have hvl' : (vl (volsTo b 2)).length = 4:=hvl
        have hr1 : roomy 1 40 = true:=by decide
        have hr2 : roomy 2 40 = true:=by decide
        have hr3 : roomy 3 40 = true:=by decide
        have e0':=il_nil
        rcases k4 with ⟨hi0,k4⟩ | ⟨hi0,w4,k4,kh72⟩
        · omega
        · rw [k4] at p4; rw [kh72] at ph72
          rcases pb with ⟨e0,pk⟩ | ⟨e0,w,pk,pr⟩
          · have ec : c = 0:=by rw [← hlen,e0]; rfl
            simp -implicitDefEqProofs (maxSteps:=2000000) only [p1,ph1,p4,ph72,p20,p21,p10,pk,hvl,hvl',hr1,hr2,hr3,wr1,wr2,wr3,List.length_append,wk,act,asV,↓reduceIte,Nat.reduceEqDiff,reduceCtorEq,Nat.reduceAdd,Nat.reduceLeDiff,Nat.reduceSub,Nat.reduceMul,List.reduceReplicate,Int.reduceEq,Int.reduceLT,Int.reduceLE,Int.reduceAdd,Int.reduceSub,Int.reduceMul,Nat.reduceLT,Int.reduceToNat]
            refine ⟨n - (2 + 1),by omega,2 + 1,by omega,rfl,rfl,by omega,_,rfl,?_⟩
            rw [← hsn,e0,ec]; rfl
          · rw [hlen] at pk
            simp -implicitDefEqProofs (maxSteps:=2000000) only [p1,ph1,p4,ph72,p20,p21,p10,pk,pr,hlen,hvl,hvl',hr1,hr2,hr3,wr1,wr2,wr3,il_length,il_scal,il_pur,htk,List.length_append,wk,act,asV,↓reduceIte,Nat.reduceEqDiff,reduceCtorEq,Nat.reduceAdd,Nat.reduceLeDiff,Nat.reduceSub,Nat.reduceMul,List.reduceReplicate,Int.reduceEq,Int.reduceLT,Int.reduceLE,Int.reduceAdd,Int.reduceSub,Int.reduceMul,Nat.reduceLT,Int.reduceToNat]
            refine ⟨n - (2 + 1),by omega,2 + 1,by omega,rfl,rfl,by omega,_,rfl,?_⟩
            rw [← hsn]; first | done | rfl
end Go.Proofs.YtilbipknodpmmaaDoor
