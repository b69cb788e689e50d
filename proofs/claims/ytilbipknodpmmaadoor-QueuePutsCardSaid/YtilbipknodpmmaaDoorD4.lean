/- Of the table: the reference's Decode. -/
import Derived.Test.YtilbipknodpmmaaDoorE31
import Derived.Test.YtilbipknodpmmaaDoorM6
import Derived.Test.YtilbipknodpmmaaDoorD1
import Derived.Test.YtilbipknodpmmaaDoorB8
set_option linter.unusedVariables false
set_option linter.unusedSimpArgs false
set_option maxRecDepth 100000
set_option maxHeartbeats 8000000
namespace Go.Proofs.YtilbipknodpmmaaDoor
open Go.RowKit

theorem decR_in (b : List UInt8) (hb : b.length = 32) (o i v1 : Nat) (ho : o + 9 ≤ 32) (nm : List UInt8) (Q : Ex → St → Prop) (s1 : St)
    (q1 : ∀ s2 : St,s2.t 1 = .ptr 1 0 v1 → s2.h 1 = ⟨v1,true,true,false,bl b⟩ → s2.t 4 = s1.t 4 → s2.h 73 = s1.h 73 → s2.t 5 = .int .i64 i → boxV s2 8 68 nm (blksAt b (o + 5) (min (b.getD (o + 4) 0).toNat 4)) → Q (.exit 2) s2)
    (k1 : s1.t 1 = .ptr 1 0 v1) (kh1 : s1.h 1 = ⟨v1,true,true,false,bl b⟩) (k5 : s1.t 5 = .int .i64 i) (k6 : s1.t 6 = .int .i64 o) (k9 : s1.t 9 = .int .i64 0) (kb : boxV s1 8 68 nm []) :
    Wp (RCs Tryd.prog) (.loop m46_4) Q s1:=by
  obtain ⟨c,hc⟩ : ∃ c,c = (b.getD (o + 4) 0).toNat:=⟨_,rfl⟩
  have hc255 : c < 256:=by rw [hc]; exact UInt8.toNat_lt _
  rw [← hc] at q1
  have hat4:=at_bl (b:=b) (k:=o + 4) (by omega)
  rw [← hc] at hat4
  have hwc : IntKind.i64.wrap (c : Int) = c:=by rw [IntKind.wrap_i64]; omega
  have hw4 : IntKind.i64.wrap ((o : Int) + 4) = ((o + 4 : Nat) : Int):=by rw [IntKind.wrap_i64]; omega
  have hw5 : IntKind.i64.wrap ((o : Int) + 5) = ((o + 5 : Nat) : Int):=by rw [IntKind.wrap_i64]; omega
  have hbl : (bl b).length = 32:=by rw [bl_length,hb]
  have ho4 : o + 4 < 32:=by omega
  have ho4' : ((o + 4 : Nat) : Int) < 32:=by omega
  have ho4e : o + 4 + 1 ≤ 32:=by omega
  have ho4f : o + 4 ≤ 31:=by omega
  have ho27 : o ≤ 27:=by omega
  refine Wp_loop (fun m s => ∃ j,j ≤ min c 4 ∧ m = min c 4 - j ∧ s.t 1 = .ptr 1 0 v1 ∧ s.h 1 = ⟨v1,true,true,false,bl b⟩ ∧ s.t 4 = s1.t 4 ∧ s.h 73 = s1.h 73 ∧ s.t 5 = .int .i64 i ∧ s.t 6 = .int .i64 o ∧ s.t 9 = .int .i64 j ∧ boxV s 8 68 nm (blksAt b (o + 5) j)) (min c 4) ⟨0,by omega,rfl,k1,kh1,rfl,rfl,k5,k6,k9,kb⟩ ?_
  clear k1 kh1 k5 k6 k9 kb
  rintro m s ⟨j,hj,rfl,k1,kh1,k4,kh73,k5,k6,k9,v,k8,kb⟩
  by_cases hjl : j < min c 4
  · have hjc : (j : Int) < c:=by omega
    have hj4 : (j : Int) < 4:=by omega
    have hw5j : IntKind.i64.wrap (((o + 5 : Nat) : Int) + (j : Int)) = ((o + 5 + j : Nat) : Int):=by rw [IntKind.wrap_i64]; omega
    have hat:=at_bl (b:=b) (k:=o + 5 + j) (by omega)
    have hw : IntKind.i64.wrap ((b.getD (o + 5 + j) 0).toNat : Int) = (b.getD (o + 5 + j) 0).toNat:=by
      have:=(b.getD (o + 5 + j) 0).toNat_lt
      rw [IntKind.wrap_i64]; omega
    obtain ⟨x,hx⟩ : ∃ x,x = b.getD (o + 5 + j) 0:=⟨_,rfl⟩
    have es:=blksAt_succ b (o + 5) j
    rw [← hx] at hat hw es
    have hle : o + 5 + j < 32:=by omega
    have hle1 : ((o + 5 + j : Nat) : Int) < 32:=by omega
    have hle' : o + 5 + j ≤ 31:=by omega
    have hsn:=il_snoc (blksAt b (o + 5) j) (x.toNat : Int)
    have hle2 : (blksAt b (o + 5) j).length = j:=blksAt_length ..
    rcases kb with ⟨e0,kh⟩ | ⟨e0,w,kh,kr⟩
    · have hr : roomy 1 8 = true:=by decide
      simp -implicitDefEqProofs (maxSteps:=2000000) only [k1,kh1,k4,kh73,k5,k6,k9,k8,kh,hjc,hj4,hat,hat4,hwc,hw4,hw5,hw5j,ho4,ho4',ho4f,ho27,hbl,hw,hle,hle1,hle',hr,m46_1,m46_2,m46_3,m46_4,m46_5,m46_6,m46_7,m46_8,m46_9,m46_10,m46_11,m46_12,m46_13,m46_14,m46_15,m46_16,m46_17,m46_18,m46_19,m46_20,m46_21,m46_r,m46_b,m46,wrap_nat (show j < 2 ^ 63 - 1 by omega),wk,act,asV,↓reduceIte,Nat.reduceEqDiff,reduceCtorEq,Nat.reduceAdd,Nat.reduceLeDiff,Nat.reduceSub,Nat.reduceMul,List.reduceReplicate,Int.reduceEq,Int.reduceLT,Int.reduceLE,Int.reduceAdd,Int.reduceSub,Int.reduceMul,Nat.reduceLT,Int.reduceToNat]
      refine ⟨min c 4 - (j + 1),by omega,j + 1,by omega,rfl,rfl,v,by simp -implicitDefEqProofs (maxSteps:=2000000) only [k8,wk,act,asV,↓reduceIte,Nat.reduceEqDiff,reduceCtorEq,Nat.reduceAdd,Nat.reduceLeDiff,Nat.reduceSub,Nat.reduceMul,List.reduceReplicate,Int.reduceEq,Int.reduceLT,Int.reduceLE,Int.reduceAdd,Int.reduceSub,Int.reduceMul,Nat.reduceLT,Int.reduceToNat],.inr ⟨by rw [es]; simp,?_⟩⟩
      rw [es,e0]
      exact ⟨_,rfl,rfl⟩
    · have hr : roomy (j + 1) 8 = true:=roomy8 (by omega)
      rw [hle2] at kh
      simp -implicitDefEqProofs (maxSteps:=2000000) only [k1,kh1,k4,kh73,k5,k6,k9,k8,kh,kr,hjc,hj4,hat,hat4,hwc,hw4,hw5,hw5j,ho4,ho4',ho4f,ho27,hbl,hw,hle,hle1,hle',hr,hle2,il_length,m46_1,m46_2,m46_3,m46_4,m46_5,m46_6,m46_7,m46_8,m46_9,m46_10,m46_11,m46_12,m46_13,m46_14,m46_15,m46_16,m46_17,m46_18,m46_19,m46_20,m46_21,m46_r,m46_b,m46,wrap_nat (show j < 2 ^ 63 - 1 by omega),wk,act,asV,↓reduceIte,Nat.reduceEqDiff,reduceCtorEq,Nat.reduceAdd,Nat.reduceLeDiff,Nat.reduceSub,Nat.reduceMul,List.reduceReplicate,Int.reduceEq,Int.reduceLT,Int.reduceLE,Int.reduceAdd,Int.reduceSub,Int.reduceMul,Nat.reduceLT,Int.reduceToNat]
      refine ⟨min c 4 - (j + 1),by omega,j + 1,by omega,rfl,rfl,v,by simp -implicitDefEqProofs (maxSteps:=2000000) only [k8,wk,act,asV,↓reduceIte,Nat.reduceEqDiff,reduceCtorEq,Nat.reduceAdd,Nat.reduceLeDiff,Nat.reduceSub,Nat.reduceMul,List.reduceReplicate,Int.reduceEq,Int.reduceLT,Int.reduceLE,Int.reduceAdd,Int.reduceSub,Int.reduceMul,Nat.reduceLT,Int.reduceToNat],.inr ⟨by rw [es]; simp,?_⟩⟩
      rw [es,List.length_append,hle2,← hsn]
      exact ⟨_,rfl,rfl⟩
  · have hje : j = min c 4:=by omega
    rw [hje] at kb
    by_cases hjc : (j : Int) < c
    · have hj4 : ¬ (j : Int) < 4:=by omega
      simp -implicitDefEqProofs (maxSteps:=2000000) only [k1,kh1,k6,k9,hjc,hj4,hat4,hwc,hw4,ho4,ho4',ho4f,ho27,hbl,m46_1,m46_2,m46_3,m46_4,m46_5,m46_6,m46_7,m46_8,m46_9,m46_10,m46_11,m46_12,m46_13,m46_14,m46_15,m46_16,m46_17,m46_18,m46_19,m46_20,m46_21,m46_r,m46_b,m46,wk,act,asV,↓reduceIte,Nat.reduceEqDiff,reduceCtorEq,Nat.reduceAdd,Nat.reduceLeDiff,Nat.reduceSub,Nat.reduceMul,List.reduceReplicate,Int.reduceEq,Int.reduceLT,Int.reduceLE,Int.reduceAdd,Int.reduceSub,Int.reduceMul,Nat.reduceLT,Int.reduceToNat]
      exact q1 _ (by simp -implicitDefEqProofs (maxSteps:=2000000) only [k1,wk,act,asV,↓reduceIte,Nat.reduceEqDiff,reduceCtorEq,Nat.reduceAdd,Nat.reduceLeDiff,Nat.reduceSub,Nat.reduceMul,List.reduceReplicate,Int.reduceEq,Int.reduceLT,Int.reduceLE,Int.reduceAdd,Int.reduceSub,Int.reduceMul,Nat.reduceLT,Int.reduceToNat]) (by simp -implicitDefEqProofs (maxSteps:=2000000) only [kh1,wk,act,asV,↓reduceIte,Nat.reduceEqDiff,reduceCtorEq,Nat.reduceAdd,Nat.reduceLeDiff,Nat.reduceSub,Nat.reduceMul,List.reduceReplicate,Int.reduceEq,Int.reduceLT,Int.reduceLE,Int.reduceAdd,Int.reduceSub,Int.reduceMul,Nat.reduceLT,Int.reduceToNat]) (by simp -implicitDefEqProofs (maxSteps:=2000000) only [k4,wk,act,asV,↓reduceIte,Nat.reduceEqDiff,reduceCtorEq,Nat.reduceAdd,Nat.reduceLeDiff,Nat.reduceSub,Nat.reduceMul,List.reduceReplicate,Int.reduceEq,Int.reduceLT,Int.reduceLE,Int.reduceAdd,Int.reduceSub,Int.reduceMul,Nat.reduceLT,Int.reduceToNat]) (by simp -implicitDefEqProofs (maxSteps:=2000000) only [kh73,wk,act,asV,↓reduceIte,Nat.reduceEqDiff,reduceCtorEq,Nat.reduceAdd,Nat.reduceLeDiff,Nat.reduceSub,Nat.reduceMul,List.reduceReplicate,Int.reduceEq,Int.reduceLT,Int.reduceLE,Int.reduceAdd,Int.reduceSub,Int.reduceMul,Nat.reduceLT,Int.reduceToNat]) (by simp -implicitDefEqProofs (maxSteps:=2000000) only [k5,wk,act,asV,↓reduceIte,Nat.reduceEqDiff,reduceCtorEq,Nat.reduceAdd,Nat.reduceLeDiff,Nat.reduceSub,Nat.reduceMul,List.reduceReplicate,Int.reduceEq,Int.reduceLT,Int.reduceLE,Int.reduceAdd,Int.reduceSub,Int.reduceMul,Nat.reduceLT,Int.reduceToNat]) ⟨v,by simp -implicitDefEqProofs (maxSteps:=2000000) only [k8,wk,act,asV,↓reduceIte,Nat.reduceEqDiff,reduceCtorEq,Nat.reduceAdd,Nat.reduceLeDiff,Nat.reduceSub,Nat.reduceMul,List.reduceReplicate,Int.reduceEq,Int.reduceLT,Int.reduceLE,Int.reduceAdd,Int.reduceSub,Int.reduceMul,Nat.reduceLT,Int.reduceToNat],by simp -implicitDefEqProofs (maxSteps:=2000000) only [wk,act,asV,↓reduceIte,Nat.reduceEqDiff,reduceCtorEq,Nat.reduceAdd,Nat.reduceLeDiff,Nat.reduceSub,Nat.reduceMul,List.reduceReplicate,Int.reduceEq,Int.reduceLT,Int.reduceLE,Int.reduceAdd,Int.reduceSub,Int.reduceMul,Nat.reduceLT,Int.reduceToNat]; exact kb⟩
    · simp -implicitDefEqProofs (maxSteps:=2000000) only [k1,kh1,k6,k9,hjc,hat4,hwc,hw4,ho4,ho4',ho4f,ho27,hbl,m46_1,m46_2,m46_3,m46_4,m46_5,m46_6,m46_7,m46_8,m46_9,m46_10,m46_11,m46_12,m46_13,m46_14,m46_15,m46_16,m46_17,m46_18,m46_19,m46_20,m46_21,m46_r,m46_b,m46,wk,act,asV,↓reduceIte,Nat.reduceEqDiff,reduceCtorEq,Nat.reduceAdd,Nat.reduceLeDiff,Nat.reduceSub,Nat.reduceMul,List.reduceReplicate,Int.reduceEq,Int.reduceLT,Int.reduceLE,Int.reduceAdd,Int.reduceSub,Int.reduceMul,Nat.reduceLT,Int.reduceToNat]
      exact q1 _ (by simp -implicitDefEqProofs (maxSteps:=2000000) only [k1,wk,act,asV,↓reduceIte,Nat.reduceEqDiff,reduceCtorEq,Nat.reduceAdd,Nat.reduceLeDiff,Nat.reduceSub,Nat.reduceMul,List.reduceReplicate,Int.reduceEq,Int.reduceLT,Int.reduceLE,Int.reduceAdd,Int.reduceSub,Int.reduceMul,Nat.reduceLT,Int.reduceToNat]) (by simp -implicitDefEqProofs (maxSteps:=2000000) only [kh1,wk,act,asV,↓reduceIte,Nat.reduceEqDiff,reduceCtorEq,Nat.reduceAdd,Nat.reduceLeDiff,Nat.reduceSub,Nat.reduceMul,List.reduceReplicate,Int.reduceEq,Int.reduceLT,Int.reduceLE,Int.reduceAdd,Int.reduceSub,Int.reduceMul,Nat.reduceLT,Int.reduceToNat]) (by simp -implicitDefEqProofs (maxSteps:=2000000) only [k4,wk,act,asV,↓reduceIte,Nat.reduceEqDiff,reduceCtorEq,Nat.reduceAdd,Nat.reduceLeDiff,Nat.reduceSub,Nat.reduceMul,List.reduceReplicate,Int.reduceEq,Int.reduceLT,Int.reduceLE,Int.reduceAdd,Int.reduceSub,Int.reduceMul,Nat.reduceLT,Int.reduceToNat]) (by simp -implicitDefEqProofs (maxSteps:=2000000) only [kh73,wk,act,asV,↓reduceIte,Nat.reduceEqDiff,reduceCtorEq,Nat.reduceAdd,Nat.reduceLeDiff,Nat.reduceSub,Nat.reduceMul,List.reduceReplicate,Int.reduceEq,Int.reduceLT,Int.reduceLE,Int.reduceAdd,Int.reduceSub,Int.reduceMul,Nat.reduceLT,Int.reduceToNat]) (by simp -implicitDefEqProofs (maxSteps:=2000000) only [k5,wk,act,asV,↓reduceIte,Nat.reduceEqDiff,reduceCtorEq,Nat.reduceAdd,Nat.reduceLeDiff,Nat.reduceSub,Nat.reduceMul,List.reduceReplicate,Int.reduceEq,Int.reduceLT,Int.reduceLE,Int.reduceAdd,Int.reduceSub,Int.reduceMul,Nat.reduceLT,Int.reduceToNat]) ⟨v,by simp -implicitDefEqProofs (maxSteps:=2000000) only [k8,wk,act,asV,↓reduceIte,Nat.reduceEqDiff,reduceCtorEq,Nat.reduceAdd,Nat.reduceLeDiff,Nat.reduceSub,Nat.reduceMul,List.reduceReplicate,Int.reduceEq,Int.reduceLT,Int.reduceLE,Int.reduceAdd,Int.reduceSub,Int.reduceMul,Nat.reduceLT,Int.reduceToNat],by simp -implicitDefEqProofs (maxSteps:=2000000) only [wk,act,asV,↓reduceIte,Nat.reduceEqDiff,reduceCtorEq,Nat.reduceAdd,Nat.reduceLeDiff,Nat.reduceSub,Nat.reduceMul,List.reduceReplicate,Int.reduceEq,Int.reduceLT,Int.reduceLE,Int.reduceAdd,Int.reduceSub,Int.reduceMul,Nat.reduceLT,Int.reduceToNat]; exact kb⟩

theorem decR_step (b : List UInt8) (hb : b.length = 32) {n i v1 : Nat} (hn : n ≤ 3) (hn0 : n = (b.getD 0 0).toNat) (hlt : i < n) {s : St} {Q : Ex → St → Prop}
    (k1 : s.t 1 = .ptr 1 0 v1) (kh1 : s.h 1 = ⟨v1,true,true,false,bl b⟩) (k5 : s.t 5 = .int .i64 i)
    (k4 : (i = 0 ∧ s.t 4 = .sl .full 0 []) ∨ (0 < i ∧ ∃ w,s.t 4 = .row 73 0 i 2 w ∧ s.h 73 = ⟨w,true,true,true,vl (volsTo b i)⟩)) :
    Wp (RCs Tryd.prog) m46_11 (fun e s' => match e with | .normal => ∃ k',k' < n - i ∧ ∃ i,i ≤ n ∧ k' = n - i ∧ s'.t 1 = .ptr 1 0 v1 ∧ s'.h 1 = ⟨v1,true,true,false,bl b⟩ ∧ s'.t 5 = .int .i64 i ∧ ((i = 0 ∧ s'.t 4 = .sl .full 0 []) ∨ (0 < i ∧ ∃ w,s'.t 4 = .row 73 0 i 2 w ∧ s'.h 73 = ⟨w,true,true,true,vl (volsTo b i)⟩)) | e => Q e s') s:=by
  have wr : ∀ m : Int,0 ≤ m ∧ m ≤ 28 → IntKind.i64.wrap m = m:=by intro m h; rw [IntKind.wrap_i64]; omega
  have wr0:=wr 0 (by omega)
  have wr9:=wr 9 (by omega)
  have wr18:=wr 18 (by omega)
  have hbl : (bl b).length = 32:=by rw [bl_length,hb]
  have hat:=at_bl (b:=b) (k:=0) (by omega)
  rw [List.drop_zero,← hn0] at hat
  have hwn : IntKind.i64.wrap (n : Int) = n:=by rw [IntKind.wrap_i64]; omega
  have hi3 : i = 0 ∨ i = 1 ∨ i = 2:=by omega
  rcases hi3 with rfl | rfl | rfl
  · have hn' : (0 : Int) < n:=by omega
    have w1:=wr 1 (by omega)
    have w2:=wr 2 (by omega)
    have w3:=wr 3 (by omega)
    have w4:=wr 4 (by omega)
    have w5:=wr 5 (by omega)
    have w6:=wr 6 (by omega)
    have a0:=at_bl (b:=b) (k:=1) (by omega)
    have a1:=at_bl (b:=b) (k:=2) (by omega)
    have a2:=at_bl (b:=b) (k:=3) (by omega)
    have a3:=at_bl (b:=b) (k:=4) (by omega)
    have cc:=rcut_ok (nm4 b 1) rfl
    have hat0 : List.take 1 (bl b) = [.int .u8 (n : Int)]:=hat
    have hv : volAt b 0 = ⟨cutS (nm4 b 1),blksAt b 6 (min (cntAt b 0) 4)⟩:=rfl
    repeat' (first | simp -implicitDefEqProofs (maxSteps:=2000000) only [k1,kh1,k5,hn',hbl,hat0,hwn,wr0,wr9,wr18,w1,w2,w3,w4,w5,w6,a0,a1,a2,a3,bl_scal,m46_11,m46_10,m46_9,m46_8,m46_7,m46_6,m46_5,wk,act,asV,↓reduceIte,Nat.reduceEqDiff,reduceCtorEq,Nat.reduceAdd,Nat.reduceLeDiff,Nat.reduceSub,Nat.reduceMul,List.reduceReplicate,Int.reduceEq,Int.reduceLT,Int.reduceLE,Int.reduceAdd,Int.reduceSub,Int.reduceMul,Nat.reduceLT,Int.reduceToNat] | ((first | ((with_reducible refine CallL.gate ?_); apply CallL.of) | ((with_reducible refine CallP.gate ?_); apply CallP.of)); (case h1 => (simp -implicitDefEqProofs (maxSteps:=2000000) only [k1,kh1,k5,hn',hbl,hat0,hwn,wr0,wr9,wr18,w1,w2,w3,w4,w5,w6,a0,a1,a2,a3,bl_scal,m46_11,m46_10,m46_9,m46_8,m46_7,m46_6,m46_5,wk,act,asV,↓reduceIte,Nat.reduceEqDiff,reduceCtorEq,Nat.reduceAdd,Nat.reduceLeDiff,Nat.reduceSub,Nat.reduceMul,List.reduceReplicate,Int.reduceEq,Int.reduceLT,Int.reduceLE,Int.reduceAdd,Int.reduceSub,Int.reduceMul,Nat.reduceLT,Int.reduceToNat]; first | done | (with_reducible rfl))); (case h2 => (first | exact cc)); (case h3 => simp -implicitDefEqProofs (maxSteps:=2000000) only [k1,kh1,k5,hn',hbl,hat0,hwn,wr0,wr9,wr18,w1,w2,w3,w4,w5,w6,a0,a1,a2,a3,bl_scal,m46_11,m46_10,m46_9,m46_8,m46_7,m46_6,m46_5,wk,act,asV,↓reduceIte,Nat.reduceEqDiff,reduceCtorEq,Nat.reduceAdd,Nat.reduceLeDiff,Nat.reduceSub,Nat.reduceMul,List.reduceReplicate,Int.reduceEq,Int.reduceLT,Int.reduceLE,Int.reduceAdd,Int.reduceSub,Int.reduceMul,Nat.reduceLT,Int.reduceToNat])))
    refine decR_in b hb 1 0 v1 (by omega) (cutS (nm4 b 1)) _ _ ?_ (by simp -implicitDefEqProofs (maxSteps:=2000000) only [k1,wk,act,asV,↓reduceIte,Nat.reduceEqDiff,reduceCtorEq,Nat.reduceAdd,Nat.reduceLeDiff,Nat.reduceSub,Nat.reduceMul,List.reduceReplicate,Int.reduceEq,Int.reduceLT,Int.reduceLE,Int.reduceAdd,Int.reduceSub,Int.reduceMul,Nat.reduceLT,Int.reduceToNat]) (by simp -implicitDefEqProofs (maxSteps:=2000000) only [kh1,wk,act,asV,↓reduceIte,Nat.reduceEqDiff,reduceCtorEq,Nat.reduceAdd,Nat.reduceLeDiff,Nat.reduceSub,Nat.reduceMul,List.reduceReplicate,Int.reduceEq,Int.reduceLT,Int.reduceLE,Int.reduceAdd,Int.reduceSub,Int.reduceMul,Nat.reduceLT,Int.reduceToNat]) (by simp -implicitDefEqProofs (maxSteps:=2000000) only [k5,wk,act,asV,↓reduceIte,Nat.reduceEqDiff,reduceCtorEq,Nat.reduceAdd,Nat.reduceLeDiff,Nat.reduceSub,Nat.reduceMul,List.reduceReplicate,Int.reduceEq,Int.reduceLT,Int.reduceLE,Int.reduceAdd,Int.reduceSub,Int.reduceMul,Nat.reduceLT,Int.reduceToNat]) (by simp -implicitDefEqProofs (maxSteps:=2000000) only [wk,act,asV,↓reduceIte,Nat.reduceEqDiff,reduceCtorEq,Nat.reduceAdd,Nat.reduceLeDiff,Nat.reduceSub,Nat.reduceMul,List.reduceReplicate,Int.reduceEq,Int.reduceLT,Int.reduceLE,Int.reduceAdd,Int.reduceSub,Int.reduceMul,Nat.reduceLT,Int.reduceToNat]) (by simp -implicitDefEqProofs (maxSteps:=2000000) only [wk,act,asV,↓reduceIte,Nat.reduceEqDiff,reduceCtorEq,Nat.reduceAdd,Nat.reduceLeDiff,Nat.reduceSub,Nat.reduceMul,List.reduceReplicate,Int.reduceEq,Int.reduceLT,Int.reduceLE,Int.reduceAdd,Int.reduceSub,Int.reduceMul,Nat.reduceLT,Int.reduceToNat]) ⟨_,by simp -implicitDefEqProofs (maxSteps:=2000000) only [wk,act,asV,↓reduceIte,Nat.reduceEqDiff,reduceCtorEq,Nat.reduceAdd,Nat.reduceLeDiff,Nat.reduceSub,Nat.reduceMul,List.reduceReplicate,Int.reduceEq,Int.reduceLT,Int.reduceLE,Int.reduceAdd,Int.reduceSub,Int.reduceMul,Nat.reduceLT,Int.reduceToNat]; first | done | rfl,.inl ⟨rfl,by simp -implicitDefEqProofs (maxSteps:=2000000) only [wk,act,asV,↓reduceIte,Nat.reduceEqDiff,reduceCtorEq,Nat.reduceAdd,Nat.reduceLeDiff,Nat.reduceSub,Nat.reduceMul,List.reduceReplicate,Int.reduceEq,Int.reduceLT,Int.reduceLE,Int.reduceAdd,Int.reduceSub,Int.reduceMul,Nat.reduceLT,Int.reduceToNat]; first | done | rfl⟩⟩
    intro s2 p1 ph1 p4 ph73 p5 pb
    simp -implicitDefEqProofs (maxSteps:=2000000) only [wk,act,asV,↓reduceIte,Nat.reduceEqDiff,reduceCtorEq,Nat.reduceAdd,Nat.reduceLeDiff,Nat.reduceSub,Nat.reduceMul,List.reduceReplicate,Int.reduceEq,Int.reduceLT,Int.reduceLE,Int.reduceAdd,Int.reduceSub,Int.reduceMul,Nat.reduceLT,Int.reduceToNat] at p4
    simp -implicitDefEqProofs (maxSteps:=2000000) only [wk,act,asV,↓reduceIte,Nat.reduceEqDiff,reduceCtorEq,Nat.reduceAdd,Nat.reduceLeDiff,Nat.reduceSub,Nat.reduceMul,List.reduceReplicate,Int.reduceEq,Int.reduceLT,Int.reduceLE,Int.reduceAdd,Int.reduceSub,Int.reduceMul,Nat.reduceLT,Int.reduceToNat] at ph73
    obtain ⟨v,p8,pb⟩:=pb
    have hsn:=vl_snoc (volsTo b 0) (volAt b 0)
    rw [← volsTo_succ,hv] at hsn
    simp only [blksAt_length] at hsn
    obtain ⟨c,hc⟩ : ∃ c,c = min (cntAt b 0) 4:=⟨_,rfl⟩
    have hc4 : c ≤ 4:=by omega
    have pb':=pb
    rw [show (b.getD (1 + 4) 0).toNat = cntAt b 0 from rfl,← hc] at pb
    rw [← hc] at hsn
    have hlen : (blksAt b 6 c).length = c:=blksAt_length ..
    have hlen' : (blksAt b (1 + 5) c).length = c:=blksAt_length ..
    have htk : List.take c (il (blksAt b 6 c)) = il (blksAt b 6 c):=List.take_of_length_le (by rw [il_length,hlen]; exact Nat.le_refl _)
    have hvl : (vl (volsTo b 0)).length = 0 * 2:=by rw [vl_length,volsTo_length]
    have hvl' : (vl (volsTo b 0)).length = 0:=hvl
    have hr1 : roomy 1 40 = true:=by decide
    have hr2 : roomy 2 40 = true:=by decide
    have hr3 : roomy 3 40 = true:=by decide
    have wn:=wr 1 (by omega)
    rcases k4 with ⟨hi0,k4⟩ | ⟨hi0,w4,k4,kh73⟩
    · have hvn : vl (volsTo b 0) = []:=rfl
      rcases pb with ⟨e0,pk⟩ | ⟨e0,w,pk,pr⟩
      · have ec : c = 0:=by rw [← hlen',e0]; rfl
        simp -implicitDefEqProofs (maxSteps:=2000000) only [p1,ph1,p4,k4,p5,p8,pk,hvl,hvl',hr1,hr2,hr3,wn,List.length_append,wk,act,asV,↓reduceIte,Nat.reduceEqDiff,reduceCtorEq,Nat.reduceAdd,Nat.reduceLeDiff,Nat.reduceSub,Nat.reduceMul,List.reduceReplicate,Int.reduceEq,Int.reduceLT,Int.reduceLE,Int.reduceAdd,Int.reduceSub,Int.reduceMul,Nat.reduceLT,Int.reduceToNat]
        refine ⟨n - (0 + 1),by omega,0 + 1,by omega,rfl,rfl,by omega,_,rfl,?_⟩
        rw [← hsn,ec]; first | done | rfl
      · rw [hlen'] at pk
        have pr : s2.h 68 = ⟨w,true,true,true,il (blksAt b 6 c)⟩:=pr
        simp -implicitDefEqProofs (maxSteps:=2000000) only [p1,ph1,p4,k4,p5,p8,pk,pr,hlen,hvl,hvl',hr1,hr2,hr3,wn,il_length,il_scal,il_pur,htk,List.length_append,wk,act,asV,↓reduceIte,Nat.reduceEqDiff,reduceCtorEq,Nat.reduceAdd,Nat.reduceLeDiff,Nat.reduceSub,Nat.reduceMul,List.reduceReplicate,Int.reduceEq,Int.reduceLT,Int.reduceLE,Int.reduceAdd,Int.reduceSub,Int.reduceMul,Nat.reduceLT,Int.reduceToNat]
        refine ⟨n - (0 + 1),by omega,0 + 1,by omega,rfl,rfl,by omega,_,rfl,?_⟩
        rw [← hsn]; first | done | rfl
    · omega
  · have hn' : (1 : Int) < n:=by omega
    have w10:=wr 10 (by omega)
    have w11:=wr 11 (by omega)
    have w12:=wr 12 (by omega)
    have w13:=wr 13 (by omega)
    have w14:=wr 14 (by omega)
    have w15:=wr 15 (by omega)
    have a0:=at_bl (b:=b) (k:=10) (by omega)
    have a1:=at_bl (b:=b) (k:=11) (by omega)
    have a2:=at_bl (b:=b) (k:=12) (by omega)
    have a3:=at_bl (b:=b) (k:=13) (by omega)
    have cc:=rcut_ok (nm4 b 10) rfl
    have hat0 : List.take 1 (bl b) = [.int .u8 (n : Int)]:=hat
    have hv : volAt b 1 = ⟨cutS (nm4 b 10),blksAt b 15 (min (cntAt b 1) 4)⟩:=rfl
    repeat' (first | simp -implicitDefEqProofs (maxSteps:=2000000) only [k1,kh1,k5,hn',hbl,hat0,hwn,wr0,wr9,wr18,w10,w11,w12,w13,w14,w15,a0,a1,a2,a3,bl_scal,m46_11,m46_10,m46_9,m46_8,m46_7,m46_6,m46_5,wk,act,asV,↓reduceIte,Nat.reduceEqDiff,reduceCtorEq,Nat.reduceAdd,Nat.reduceLeDiff,Nat.reduceSub,Nat.reduceMul,List.reduceReplicate,Int.reduceEq,Int.reduceLT,Int.reduceLE,Int.reduceAdd,Int.reduceSub,Int.reduceMul,Nat.reduceLT,Int.reduceToNat] | ((first | ((with_reducible refine CallL.gate ?_); apply CallL.of) | ((with_reducible refine CallP.gate ?_); apply CallP.of)); (case h1 => (simp -implicitDefEqProofs (maxSteps:=2000000) only [k1,kh1,k5,hn',hbl,hat0,hwn,wr0,wr9,wr18,w10,w11,w12,w13,w14,w15,a0,a1,a2,a3,bl_scal,m46_11,m46_10,m46_9,m46_8,m46_7,m46_6,m46_5,wk,act,asV,↓reduceIte,Nat.reduceEqDiff,reduceCtorEq,Nat.reduceAdd,Nat.reduceLeDiff,Nat.reduceSub,Nat.reduceMul,List.reduceReplicate,Int.reduceEq,Int.reduceLT,Int.reduceLE,Int.reduceAdd,Int.reduceSub,Int.reduceMul,Nat.reduceLT,Int.reduceToNat]; first | done | (with_reducible rfl))); (case h2 => (first | exact cc)); (case h3 => simp -implicitDefEqProofs (maxSteps:=2000000) only [k1,kh1,k5,hn',hbl,hat0,hwn,wr0,wr9,wr18,w10,w11,w12,w13,w14,w15,a0,a1,a2,a3,bl_scal,m46_11,m46_10,m46_9,m46_8,m46_7,m46_6,m46_5,wk,act,asV,↓reduceIte,Nat.reduceEqDiff,reduceCtorEq,Nat.reduceAdd,Nat.reduceLeDiff,Nat.reduceSub,Nat.reduceMul,List.reduceReplicate,Int.reduceEq,Int.reduceLT,Int.reduceLE,Int.reduceAdd,Int.reduceSub,Int.reduceMul,Nat.reduceLT,Int.reduceToNat])))
    refine decR_in b hb 10 1 v1 (by omega) (cutS (nm4 b 10)) _ _ ?_ (by simp -implicitDefEqProofs (maxSteps:=2000000) only [k1,wk,act,asV,↓reduceIte,Nat.reduceEqDiff,reduceCtorEq,Nat.reduceAdd,Nat.reduceLeDiff,Nat.reduceSub,Nat.reduceMul,List.reduceReplicate,Int.reduceEq,Int.reduceLT,Int.reduceLE,Int.reduceAdd,Int.reduceSub,Int.reduceMul,Nat.reduceLT,Int.reduceToNat]) (by simp -implicitDefEqProofs (maxSteps:=2000000) only [kh1,wk,act,asV,↓reduceIte,Nat.reduceEqDiff,reduceCtorEq,Nat.reduceAdd,Nat.reduceLeDiff,Nat.reduceSub,Nat.reduceMul,List.reduceReplicate,Int.reduceEq,Int.reduceLT,Int.reduceLE,Int.reduceAdd,Int.reduceSub,Int.reduceMul,Nat.reduceLT,Int.reduceToNat]) (by simp -implicitDefEqProofs (maxSteps:=2000000) only [k5,wk,act,asV,↓reduceIte,Nat.reduceEqDiff,reduceCtorEq,Nat.reduceAdd,Nat.reduceLeDiff,Nat.reduceSub,Nat.reduceMul,List.reduceReplicate,Int.reduceEq,Int.reduceLT,Int.reduceLE,Int.reduceAdd,Int.reduceSub,Int.reduceMul,Nat.reduceLT,Int.reduceToNat]) (by simp -implicitDefEqProofs (maxSteps:=2000000) only [wk,act,asV,↓reduceIte,Nat.reduceEqDiff,reduceCtorEq,Nat.reduceAdd,Nat.reduceLeDiff,Nat.reduceSub,Nat.reduceMul,List.reduceReplicate,Int.reduceEq,Int.reduceLT,Int.reduceLE,Int.reduceAdd,Int.reduceSub,Int.reduceMul,Nat.reduceLT,Int.reduceToNat]) (by simp -implicitDefEqProofs (maxSteps:=2000000) only [wk,act,asV,↓reduceIte,Nat.reduceEqDiff,reduceCtorEq,Nat.reduceAdd,Nat.reduceLeDiff,Nat.reduceSub,Nat.reduceMul,List.reduceReplicate,Int.reduceEq,Int.reduceLT,Int.reduceLE,Int.reduceAdd,Int.reduceSub,Int.reduceMul,Nat.reduceLT,Int.reduceToNat]) ⟨_,by simp -implicitDefEqProofs (maxSteps:=2000000) only [wk,act,asV,↓reduceIte,Nat.reduceEqDiff,reduceCtorEq,Nat.reduceAdd,Nat.reduceLeDiff,Nat.reduceSub,Nat.reduceMul,List.reduceReplicate,Int.reduceEq,Int.reduceLT,Int.reduceLE,Int.reduceAdd,Int.reduceSub,Int.reduceMul,Nat.reduceLT,Int.reduceToNat]; first | done | rfl,.inl ⟨rfl,by simp -implicitDefEqProofs (maxSteps:=2000000) only [wk,act,asV,↓reduceIte,Nat.reduceEqDiff,reduceCtorEq,Nat.reduceAdd,Nat.reduceLeDiff,Nat.reduceSub,Nat.reduceMul,List.reduceReplicate,Int.reduceEq,Int.reduceLT,Int.reduceLE,Int.reduceAdd,Int.reduceSub,Int.reduceMul,Nat.reduceLT,Int.reduceToNat]; first | done | rfl⟩⟩
    intro s2 p1 ph1 p4 ph73 p5 pb
    simp -implicitDefEqProofs (maxSteps:=2000000) only [wk,act,asV,↓reduceIte,Nat.reduceEqDiff,reduceCtorEq,Nat.reduceAdd,Nat.reduceLeDiff,Nat.reduceSub,Nat.reduceMul,List.reduceReplicate,Int.reduceEq,Int.reduceLT,Int.reduceLE,Int.reduceAdd,Int.reduceSub,Int.reduceMul,Nat.reduceLT,Int.reduceToNat] at p4
    simp -implicitDefEqProofs (maxSteps:=2000000) only [wk,act,asV,↓reduceIte,Nat.reduceEqDiff,reduceCtorEq,Nat.reduceAdd,Nat.reduceLeDiff,Nat.reduceSub,Nat.reduceMul,List.reduceReplicate,Int.reduceEq,Int.reduceLT,Int.reduceLE,Int.reduceAdd,Int.reduceSub,Int.reduceMul,Nat.reduceLT,Int.reduceToNat] at ph73
    obtain ⟨v,p8,pb⟩:=pb
    have hsn:=vl_snoc (volsTo b 1) (volAt b 1)
    rw [← volsTo_succ,hv] at hsn
    simp only [blksAt_length] at hsn
    obtain ⟨c,hc⟩ : ∃ c,c = min (cntAt b 1) 4:=⟨_,rfl⟩
    have hc4 : c ≤ 4:=by omega
    have pb':=pb
    rw [show (b.getD (10 + 4) 0).toNat = cntAt b 1 from rfl,← hc] at pb
    rw [← hc] at hsn
    have hlen : (blksAt b 15 c).length = c:=blksAt_length ..
    have hlen' : (blksAt b (10 + 5) c).length = c:=blksAt_length ..
    have htk : List.take c (il (blksAt b 15 c)) = il (blksAt b 15 c):=List.take_of_length_le (by rw [il_length,hlen]; exact Nat.le_refl _)
    have hvl : (vl (volsTo b 1)).length = 1 * 2:=by rw [vl_length,volsTo_length]
    have hvl' : (vl (volsTo b 1)).length = 2:=hvl
    have hr1 : roomy 1 40 = true:=by decide
    have hr2 : roomy 2 40 = true:=by decide
    have hr3 : roomy 3 40 = true:=by decide
    have wn:=wr 2 (by omega)
    rcases k4 with ⟨hi0,k4⟩ | ⟨hi0,w4,k4,kh73⟩
    · omega
    · rw [k4] at p4; rw [kh73] at ph73
      rcases pb with ⟨e0,pk⟩ | ⟨e0,w,pk,pr⟩
      · have ec : c = 0:=by rw [← hlen',e0]; rfl
        simp -implicitDefEqProofs (maxSteps:=2000000) only [p1,ph1,p4,ph73,p5,p8,pk,hvl,hvl',hr1,hr2,hr3,wn,List.length_append,wk,act,asV,↓reduceIte,Nat.reduceEqDiff,reduceCtorEq,Nat.reduceAdd,Nat.reduceLeDiff,Nat.reduceSub,Nat.reduceMul,List.reduceReplicate,Int.reduceEq,Int.reduceLT,Int.reduceLE,Int.reduceAdd,Int.reduceSub,Int.reduceMul,Nat.reduceLT,Int.reduceToNat]
        refine ⟨n - (1 + 1),by omega,1 + 1,by omega,rfl,rfl,by omega,_,rfl,?_⟩
        rw [← hsn,ec]; first | done | rfl
      · rw [hlen'] at pk
        have pr : s2.h 68 = ⟨w,true,true,true,il (blksAt b 15 c)⟩:=pr
        simp -implicitDefEqProofs (maxSteps:=2000000) only [p1,ph1,p4,ph73,p5,p8,pk,pr,hlen,hvl,hvl',hr1,hr2,hr3,wn,il_length,il_scal,il_pur,htk,List.length_append,wk,act,asV,↓reduceIte,Nat.reduceEqDiff,reduceCtorEq,Nat.reduceAdd,Nat.reduceLeDiff,Nat.reduceSub,Nat.reduceMul,List.reduceReplicate,Int.reduceEq,Int.reduceLT,Int.reduceLE,Int.reduceAdd,Int.reduceSub,Int.reduceMul,Nat.reduceLT,Int.reduceToNat]
        refine ⟨n - (1 + 1),by omega,1 + 1,by omega,rfl,rfl,by omega,_,rfl,?_⟩
        rw [← hsn]; first | done | rfl
  · have hn' : (2 : Int) < n:=by omega
    have w19:=wr 19 (by omega)
    have w20:=wr 20 (by omega)
    have w21:=wr 21 (by omega)
    have w22:=wr 22 (by omega)
    have w23:=wr 23 (by omega)
    have w24:=wr 24 (by omega)
    have a0:=at_bl (b:=b) (k:=19) (by omega)
    have a1:=at_bl (b:=b) (k:=20) (by omega)
    have a2:=at_bl (b:=b) (k:=21) (by omega)
    have a3:=at_bl (b:=b) (k:=22) (by omega)
    have cc:=rcut_ok (nm4 b 19) rfl
    have hat0 : List.take 1 (bl b) = [.int .u8 (n : Int)]:=hat
    have hv : volAt b 2 = ⟨cutS (nm4 b 19),blksAt b 24 (min (cntAt b 2) 4)⟩:=rfl
    repeat' (first | simp -implicitDefEqProofs (maxSteps:=2000000) only [k1,kh1,k5,hn',hbl,hat0,hwn,wr0,wr9,wr18,w19,w20,w21,w22,w23,w24,a0,a1,a2,a3,bl_scal,m46_11,m46_10,m46_9,m46_8,m46_7,m46_6,m46_5,wk,act,asV,↓reduceIte,Nat.reduceEqDiff,reduceCtorEq,Nat.reduceAdd,Nat.reduceLeDiff,Nat.reduceSub,Nat.reduceMul,List.reduceReplicate,Int.reduceEq,Int.reduceLT,Int.reduceLE,Int.reduceAdd,Int.reduceSub,Int.reduceMul,Nat.reduceLT,Int.reduceToNat] | ((first | ((with_reducible refine CallL.gate ?_); apply CallL.of) | ((with_reducible refine CallP.gate ?_); apply CallP.of)); (case h1 => (simp -implicitDefEqProofs (maxSteps:=2000000) only [k1,kh1,k5,hn',hbl,hat0,hwn,wr0,wr9,wr18,w19,w20,w21,w22,w23,w24,a0,a1,a2,a3,bl_scal,m46_11,m46_10,m46_9,m46_8,m46_7,m46_6,m46_5,wk,act,asV,↓reduceIte,Nat.reduceEqDiff,reduceCtorEq,Nat.reduceAdd,Nat.reduceLeDiff,Nat.reduceSub,Nat.reduceMul,List.reduceReplicate,Int.reduceEq,Int.reduceLT,Int.reduceLE,Int.reduceAdd,Int.reduceSub,Int.reduceMul,Nat.reduceLT,Int.reduceToNat]; first | done | (with_reducible rfl))); (case h2 => (first | exact cc)); (case h3 => simp -implicitDefEqProofs (maxSteps:=2000000) only [k1,kh1,k5,hn',hbl,hat0,hwn,wr0,wr9,wr18,w19,w20,w21,w22,w23,w24,a0,a1,a2,a3,bl_scal,m46_11,m46_10,m46_9,m46_8,m46_7,m46_6,m46_5,wk,act,asV,↓reduceIte,Nat.reduceEqDiff,reduceCtorEq,Nat.reduceAdd,Nat.reduceLeDiff,Nat.reduceSub,Nat.reduceMul,List.reduceReplicate,Int.reduceEq,Int.reduceLT,Int.reduceLE,Int.reduceAdd,Int.reduceSub,Int.reduceMul,Nat.reduceLT,Int.reduceToNat])))
    refine decR_in b hb 19 2 v1 (by omega) (cutS (nm4 b 19)) _ _ ?_ (by simp -implicitDefEqProofs (maxSteps:=2000000) only [k1,wk,act,asV,↓reduceIte,Nat.reduceEqDiff,reduceCtorEq,Nat.reduceAdd,Nat.reduceLeDiff,Nat.reduceSub,Nat.reduceMul,List.reduceReplicate,Int.reduceEq,Int.reduceLT,Int.reduceLE,Int.reduceAdd,Int.reduceSub,Int.reduceMul,Nat.reduceLT,Int.reduceToNat]) (by simp -implicitDefEqProofs (maxSteps:=2000000) only [kh1,wk,act,asV,↓reduceIte,Nat.reduceEqDiff,reduceCtorEq,Nat.reduceAdd,Nat.reduceLeDiff,Nat.reduceSub,Nat.reduceMul,List.reduceReplicate,Int.reduceEq,Int.reduceLT,Int.reduceLE,Int.reduceAdd,Int.reduceSub,Int.reduceMul,Nat.reduceLT,Int.reduceToNat]) (by simp -implicitDefEqProofs (maxSteps:=2000000) only [k5,wk,act,asV,↓reduceIte,Nat.reduceEqDiff,reduceCtorEq,Nat.reduceAdd,Nat.reduceLeDiff,Nat.reduceSub,Nat.reduceMul,List.reduceReplicate,Int.reduceEq,Int.reduceLT,Int.reduceLE,Int.reduceAdd,Int.reduceSub,Int.reduceMul,Nat.reduceLT,Int.reduceToNat]) (by simp -implicitDefEqProofs (maxSteps:=2000000) only [wk,act,asV,↓reduceIte,Nat.reduceEqDiff,reduceCtorEq,Nat.reduceAdd,Nat.reduceLeDiff,Nat.reduceSub,Nat.reduceMul,List.reduceReplicate,Int.reduceEq,Int.reduceLT,Int.reduceLE,Int.reduceAdd,Int.reduceSub,Int.reduceMul,Nat.reduceLT,Int.reduceToNat]) (by simp -implicitDefEqProofs (maxSteps:=2000000) only [wk,act,asV,↓reduceIte,Nat.reduceEqDiff,reduceCtorEq,Nat.reduceAdd,Nat.reduceLeDiff,Nat.reduceSub,Nat.reduceMul,List.reduceReplicate,Int.reduceEq,Int.reduceLT,Int.reduceLE,Int.reduceAdd,Int.reduceSub,Int.reduceMul,Nat.reduceLT,Int.reduceToNat]) ⟨_,by simp -implicitDefEqProofs (maxSteps:=2000000) only [wk,act,asV,↓reduceIte,Nat.reduceEqDiff,reduceCtorEq,Nat.reduceAdd,Nat.reduceLeDiff,Nat.reduceSub,Nat.reduceMul,List.reduceReplicate,Int.reduceEq,Int.reduceLT,Int.reduceLE,Int.reduceAdd,Int.reduceSub,Int.reduceMul,Nat.reduceLT,Int.reduceToNat]; first | done | rfl,.inl ⟨rfl,by simp -implicitDefEqProofs (maxSteps:=2000000) only [wk,act,asV,↓reduceIte,Nat.reduceEqDiff,reduceCtorEq,Nat.reduceAdd,Nat.reduceLeDiff,Nat.reduceSub,Nat.reduceMul,List.reduceReplicate,Int.reduceEq,Int.reduceLT,Int.reduceLE,Int.reduceAdd,Int.reduceSub,Int.reduceMul,Nat.reduceLT,Int.reduceToNat]; first | done | rfl⟩⟩
    intro s2 p1 ph1 p4 ph73 p5 pb
    simp -implicitDefEqProofs (maxSteps:=2000000) only [wk,act,asV,↓reduceIte,Nat.reduceEqDiff,reduceCtorEq,Nat.reduceAdd,Nat.reduceLeDiff,Nat.reduceSub,Nat.reduceMul,List.reduceReplicate,Int.reduceEq,Int.reduceLT,Int.reduceLE,Int.reduceAdd,Int.reduceSub,Int.reduceMul,Nat.reduceLT,Int.reduceToNat] at p4
    simp -implicitDefEqProofs (maxSteps:=2000000) only [wk,act,asV,↓reduceIte,Nat.reduceEqDiff,reduceCtorEq,Nat.reduceAdd,Nat.reduceLeDiff,Nat.reduceSub,Nat.reduceMul,List.reduceReplicate,Int.reduceEq,Int.reduceLT,Int.reduceLE,Int.reduceAdd,Int.reduceSub,Int.reduceMul,Nat.reduceLT,Int.reduceToNat] at ph73
    obtain ⟨v,p8,pb⟩:=pb
    have hsn:=vl_snoc (volsTo b 2) (volAt b 2)
    rw [← volsTo_succ,hv] at hsn
    simp only [blksAt_length] at hsn
    obtain ⟨c,hc⟩ : ∃ c,c = min (cntAt b 2) 4:=⟨_,rfl⟩
    have hc4 : c ≤ 4:=by omega
    have pb':=pb
    rw [show (b.getD (19 + 4) 0).toNat = cntAt b 2 from rfl,← hc] at pb
    rw [← hc] at hsn
    have hlen : (blksAt b 24 c).length = c:=blksAt_length ..
    have hlen' : (blksAt b (19 + 5) c).length = c:=blksAt_length ..
    have htk : List.take c (il (blksAt b 24 c)) = il (blksAt b 24 c):=List.take_of_length_le (by rw [il_length,hlen]; exact Nat.le_refl _)
    have hvl : (vl (volsTo b 2)).length = 2 * 2:=by rw [vl_length,volsTo_length]
    have hvl' : (vl (volsTo b 2)).length = 4:=hvl
    have hr1 : roomy 1 40 = true:=by decide
    have hr2 : roomy 2 40 = true:=by decide
    have hr3 : roomy 3 40 = true:=by decide
    have wn:=wr 3 (by omega)
    rcases k4 with ⟨hi0,k4⟩ | ⟨hi0,w4,k4,kh73⟩
    · omega
    · rw [k4] at p4; rw [kh73] at ph73
      rcases pb with ⟨e0,pk⟩ | ⟨e0,w,pk,pr⟩
      · have ec : c = 0:=by rw [← hlen',e0]; rfl
        simp -implicitDefEqProofs (maxSteps:=2000000) only [p1,ph1,p4,ph73,p5,p8,pk,hvl,hvl',hr1,hr2,hr3,wn,List.length_append,wk,act,asV,↓reduceIte,Nat.reduceEqDiff,reduceCtorEq,Nat.reduceAdd,Nat.reduceLeDiff,Nat.reduceSub,Nat.reduceMul,List.reduceReplicate,Int.reduceEq,Int.reduceLT,Int.reduceLE,Int.reduceAdd,Int.reduceSub,Int.reduceMul,Nat.reduceLT,Int.reduceToNat]
        refine ⟨n - (2 + 1),by omega,2 + 1,by omega,rfl,rfl,by omega,_,rfl,?_⟩
        rw [← hsn,ec]; first | done | rfl
      · rw [hlen'] at pk
        have pr : s2.h 68 = ⟨w,true,true,true,il (blksAt b 24 c)⟩:=pr
        simp -implicitDefEqProofs (maxSteps:=2000000) only [p1,ph1,p4,ph73,p5,p8,pk,pr,hlen,hvl,hvl',hr1,hr2,hr3,wn,il_length,il_scal,il_pur,htk,List.length_append,wk,act,asV,↓reduceIte,Nat.reduceEqDiff,reduceCtorEq,Nat.reduceAdd,Nat.reduceLeDiff,Nat.reduceSub,Nat.reduceMul,List.reduceReplicate,Int.reduceEq,Int.reduceLT,Int.reduceLE,Int.reduceAdd,Int.reduceSub,Int.reduceMul,Nat.reduceLT,Int.reduceToNat]
        refine ⟨n - (2 + 1),by omega,2 + 1,by omega,rfl,rfl,by omega,_,rfl,?_⟩
        rw [← hsn]; first | done | rfl
end Go.Proofs.YtilbipknodpmmaaDoor
