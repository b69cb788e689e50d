/- Of the ops: a volume that is made, by the reference. -/
import Derived.Test.YtilbipknodpmmaaDoorO2
import Derived.Test.YtilbipknodpmmaaDoorE31
import Derived.Test.YtilbipknodpmmaaDoorP2
import Derived.Test.YtilbipknodpmmaaDoorM13
import Derived.Test.YtilbipknodpmmaaDoorM6
set_option linter.unusedVariables false
set_option linter.unusedSimpArgs false
set_option linter.unusedSectionVars false
set_option maxRecDepth 100000
set_option maxHeartbeats 8000000
namespace Go.Proofs.YtilbipknodpmmaaDoor
open Go.RowKit

theorem makeR_walk {nm : List UInt8} {n : Nat} {vs : List Vol} {s : St} {v41 v16 : Nat} {bs : List Int} (hg : goodV (vs ++ [⟨nm,bs⟩]) = true) (hbs : bs.length = n) (h1 : 1 ≤ n) (h4 : n ≤ 4) (hvl : vs.length < 3)
    (k1 : s.t 1 = .str nm) (k2 : s.t 2 = .int .i64 (n : Nat)) (k9 : s.t 9 = .row 41 0 n 1 v41) (kh9 : s.h 41 = ⟨v41,true,true,true,il bs⟩) (k8 : (vs = [] ∧ s.t 8 = .sl .full 0 []) ∨ (vs ≠ [] ∧ s.t 8 = .row 16 0 vs.length 2 v16 ∧ s.h 16 = ⟨v16,true,true,true,vl vs⟩)) :
    Wp (RCs Tryd.prog) m22_24 (Post [.tmp 6,.tmp 7] [.own (n + 1) 33 (ptL (zpt bs ++ [(0,tabB (vs ++ [⟨nm,bs⟩]))])),.int .i64 0]) s:=by
  have lb:=il_length bs
  simp -implicitDefEqProofs (maxSteps:=2000000) only [m22_24,m22_23,m22_19,m22_18,m22_17,k1,k2,k9,kh9,wk,act,asV,↓reduceIte,Nat.reduceEqDiff,reduceCtorEq,Nat.reduceAdd,Nat.reduceLeDiff,Nat.reduceSub,Nat.reduceMul,List.reduceReplicate,Int.reduceEq,Int.reduceLT,Int.reduceLE,Int.reduceAdd,Int.reduceSub,Int.reduceMul,Nat.reduceLT,Int.reduceToNat]
  refine Wp_loop (fun m s => ∃ i,i ≤ n ∧ m = n - i ∧ s.t 1 = .str nm ∧ s.t 2 = .int .i64 (n : Nat) ∧ s.t 9 = .row 41 0 n 1 v41 ∧ s.t 12 = .int .i64 (i : Nat) ∧ s.h 41 = ⟨v41,true,true,true,il bs⟩ ∧ ((vs = [] ∧ s.t 8 = .sl .full 0 []) ∨ (vs ≠ [] ∧ s.t 8 = .row 16 0 vs.length 2 v16 ∧ s.h 16 = ⟨v16,true,true,true,vl vs⟩)) ∧ ((i = 0 ∧ s.t 11 = .sl .full 0 []) ∨ (0 < i ∧ ∃ w,s.t 11 = .row 58 0 i 33 w ∧ s.h 58 = ⟨w,true,true,true,ptL (zpt (bs.take i))⟩))) n ⟨0,by omega,rfl,k1,k2,k9,rfl,kh9,k8,.inl ⟨rfl,rfl⟩⟩ ?_
  clear k1 k2 k9 kh9 k8
  rintro m s ⟨i,hi,rfl,k1,k2,k9,k12,kh9,k8,k11⟩
  by_cases hin : i < n
  · have hin' : (i : Int) < n:=by omega
    have hib : i < bs.length:=by omega
    have di:=drop_il hib
    have wi : IntKind.i64.wrap (((i : Nat) : Int) + 1) = ((i + 1 : Nat) : Int):=by rw [IntKind.wrap_i64]; omega
    have b1 : i + 1 ≤ n:=by omega
    have et : bs.take (i + 1) = bs.take i ++ [bs[i]]:=List.take_succ_eq_append_getElem hib
    obtain ⟨x,hx⟩ : ∃ x,x = bs[i]:=⟨_,rfl⟩
    rw [← hx] at di et
    have hpl:=placed33 x
    have lp : (ptC (x,zs 32)).length = 33:=ptC_length rfl
    have sp:=ptC_scal (x,zs 32)
    have tp : List.take 33 (ptC (x,zs 32)) = ptC (x,zs 32):=List.take_of_length_le (by omega)
    have r1 : roomy 1 40 = true:=by decide
    have r2 : roomy (i + 1) 40 = true:=roomy40 (by omega)
    have es:=zpt_snoc (bs.take i) x
    rw [← et] at es
    have lt : (ptL (zpt (bs.take i))).length = i * 33:=by rw [ptL_length (zpt_ok _)]; simp [zpt]; omega
    rcases k11 with ⟨hi0,k11⟩ | ⟨hi0,w,k11,kh11⟩
    · simp -implicitDefEqProofs (maxSteps:=2000000) only [k1,k2,k9,k12,kh9,k11,hin',di,lb,hbs,wi,b1,hpl,lp,sp,tp,r1,wk,act,asV,↓reduceIte,Nat.reduceEqDiff,reduceCtorEq,Nat.reduceAdd,Nat.reduceLeDiff,Nat.reduceSub,Nat.reduceMul,List.reduceReplicate,Int.reduceEq,Int.reduceLT,Int.reduceLE,Int.reduceAdd,Int.reduceSub,Int.reduceMul,Nat.reduceLT,Int.reduceToNat]
      subst hi0
      have es' : ptC (x,zs 32) = ptL (zpt (bs.take (0 + 1))):=by rw [← es]; simp [ptL,zpt]
      exact ⟨n - (0 + 1),by omega,0 + 1,by omega,rfl,rfl,k8,by omega,_,rfl,by rw [es']⟩
    · simp -implicitDefEqProofs (maxSteps:=2000000) only [k1,k2,k9,k12,kh9,k11,kh11,hin',di,lb,hbs,wi,b1,hpl,lp,sp,tp,r2,lt,wk,act,asV,↓reduceIte,Nat.reduceEqDiff,reduceCtorEq,Nat.reduceAdd,Nat.reduceLeDiff,Nat.reduceSub,Nat.reduceMul,List.reduceReplicate,Int.reduceEq,Int.reduceLT,Int.reduceLE,Int.reduceAdd,Int.reduceSub,Int.reduceMul,Nat.reduceLT,Int.reduceToNat]
      exact ⟨n - (i + 1),by omega,i + 1,by omega,rfl,rfl,k8,by omega,_,rfl,by rw [es]⟩
  · obtain rfl : i = n:=by omega
    have hin' : ¬ ((i : Nat) : Int) < i:=by omega
    rw [List.take_of_length_le (by omega)] at k11
    rcases k11 with ⟨hi0,k11⟩ | ⟨hi0,w,k11,kh11⟩
    · omega
    obtain ⟨V,hV⟩ : ∃ V,V = vs ++ [⟨nm,bs⟩]:=⟨_,rfl⟩
    have hVl : V.length = vs.length + 1:=by rw [hV]; simp
    have lz : (zpt bs).length = i:=by simp [zpt,hbs]
    have pb:=il_pur bs
    have tb : List.take i (il bs) = il bs:=List.take_of_length_le (by omega)
    have rv : roomy (vs.length + 1) 40 = true:=roomy40 (by omega)
    have rv0 : roomy vs.length 40 = true:=roomy40 (by omega)
    have r0 : roomy 0 40 = true:=by decide
    have r1 : roomy 1 40 = true:=by decide
    have lv:=vl_length vs
    have tv:=take_vl vs
    have es : vl vs ++ [.str nm,.sl .plain i (il bs)] = vl V:=by rw [hV,← hbs]; exact vl_snoc vs ⟨nm,bs⟩
    have tV:=take_vl V
    have pV:=vl_pur V
    rw [hVl] at tV
    rw [← hV] at hg ⊢
    have c1:=encR_ok .plain (by simp) V (good_vs hg)
    rw [show tabR V = tabB V from if_pos hg,show tabE V = 0 from if_pos hg,hVl] at c1
    have dB:=tabB_length (goodV_len hg)
    obtain ⟨B,hB⟩ : ∃ B,B = tabB V:=⟨_,rfl⟩
    rw [← hB] at c1 dB ⊢
    have lB : (bl B).length = 32:=by rw [bl_length,dB]
    have tB : List.take 32 (bl B) = bl B:=List.take_of_length_le (by omega)
    have hpl:=placed33d dB
    have lp : (ptC (0,B)).length = 33:=ptC_length dB
    have sp:=ptC_scal (0,B)
    have tp : List.take 33 (ptC (0,B)) = ptC (0,B):=List.take_of_length_le (by omega)
    have lPz : (ptL (zpt bs)).length = i * 33:=by rw [ptL_length (zpt_ok _),lz]
    have rP : roomy (i + 1) 40 = true:=roomy40 (by omega)
    have ea : ptL (zpt bs) ++ ptC (0,B) = ptL (zpt bs ++ [(0,B)]):=by simp [ptL]
    have lP : (ptL (zpt bs ++ [(0,B)])).length = (i + 1) * 33:=by rw [← ea,List.length_append,lPz,lp]; omega
    have tP : List.take ((i + 1) * 33) (ptL (zpt bs ++ [(0,B)])) = ptL (zpt bs ++ [(0,B)]):=List.take_of_length_le (by omega)
    rcases k8 with ⟨h0,k8⟩ | ⟨h0,k8,kh8⟩
    · have es' : [IV.str nm,.sl .plain i (il bs)] = vl V:=by rw [← es,h0]; rfl
      have hl0 : vs.length = 0:=by rw [h0]; rfl
      rw [hl0] at c1 tV
      simp only [Nat.zero_add] at c1 tV
      rw [← es'] at c1
      repeat' (first | simp -implicitDefEqProofs (maxSteps:=2000000) only [m22_22,m22_20,m22_21,k1,k2,k9,k12,kh9,k11,kh11,k8,hin',pb,tb,r0,r1,lB,tB,hpl,lp,sp,tp,lPz,rP,ea,tP,bl_scal,bl_allO,wk,act,asV,↓reduceIte,Nat.reduceEqDiff,reduceCtorEq,Nat.reduceAdd,Nat.reduceLeDiff,Nat.reduceSub,Nat.reduceMul,List.reduceReplicate,Int.reduceEq,Int.reduceLT,Int.reduceLE,Int.reduceAdd,Int.reduceSub,Int.reduceMul,Nat.reduceLT,Int.reduceToNat] | ((first | ((with_reducible refine CallL.gate ?_); apply CallL.of) | ((with_reducible refine CallP.gate ?_); apply CallP.of)); (case h1 => (simp -implicitDefEqProofs (maxSteps:=2000000) only [m22_22,m22_20,m22_21,k1,k2,k9,k12,kh9,k11,kh11,k8,hin',pb,tb,r0,r1,lB,tB,hpl,lp,sp,tp,lPz,rP,ea,tP,bl_scal,bl_allO,wk,act,asV,↓reduceIte,Nat.reduceEqDiff,reduceCtorEq,Nat.reduceAdd,Nat.reduceLeDiff,Nat.reduceSub,Nat.reduceMul,List.reduceReplicate,Int.reduceEq,Int.reduceLT,Int.reduceLE,Int.reduceAdd,Int.reduceSub,Int.reduceMul,Nat.reduceLT,Int.reduceToNat]; first | done | (with_reducible rfl))); (case h2 => (first | exact c1)); (case h3 => simp -implicitDefEqProofs (maxSteps:=2000000) only [m22_22,m22_20,m22_21,k1,k2,k9,k12,kh9,k11,kh11,k8,hin',pb,tb,r0,r1,lB,tB,hpl,lp,sp,tp,lPz,rP,ea,tP,bl_scal,bl_allO,wk,act,asV,↓reduceIte,Nat.reduceEqDiff,reduceCtorEq,Nat.reduceAdd,Nat.reduceLeDiff,Nat.reduceSub,Nat.reduceMul,List.reduceReplicate,Int.reduceEq,Int.reduceLT,Int.reduceLE,Int.reduceAdd,Int.reduceSub,Int.reduceMul,Nat.reduceLT,Int.reduceToNat])))
    · repeat' (first | simp -implicitDefEqProofs (maxSteps:=2000000) only [m22_22,m22_20,m22_21,k1,k2,k9,k12,kh9,k11,kh11,k8,kh8,hin',pb,tb,rv,rv0,lv,tv,es,tV,pV,lB,tB,hpl,lp,sp,tp,lPz,rP,ea,tP,bl_scal,bl_allO,wk,act,asV,↓reduceIte,Nat.reduceEqDiff,reduceCtorEq,Nat.reduceAdd,Nat.reduceLeDiff,Nat.reduceSub,Nat.reduceMul,List.reduceReplicate,Int.reduceEq,Int.reduceLT,Int.reduceLE,Int.reduceAdd,Int.reduceSub,Int.reduceMul,Nat.reduceLT,Int.reduceToNat] | ((first | ((with_reducible refine CallL.gate ?_); apply CallL.of) | ((with_reducible refine CallP.gate ?_); apply CallP.of)); (case h1 => (simp -implicitDefEqProofs (maxSteps:=2000000) only [m22_22,m22_20,m22_21,k1,k2,k9,k12,kh9,k11,kh11,k8,kh8,hin',pb,tb,rv,rv0,lv,tv,es,tV,pV,lB,tB,hpl,lp,sp,tp,lPz,rP,ea,tP,bl_scal,bl_allO,wk,act,asV,↓reduceIte,Nat.reduceEqDiff,reduceCtorEq,Nat.reduceAdd,Nat.reduceLeDiff,Nat.reduceSub,Nat.reduceMul,List.reduceReplicate,Int.reduceEq,Int.reduceLT,Int.reduceLE,Int.reduceAdd,Int.reduceSub,Int.reduceMul,Nat.reduceLT,Int.reduceToNat]; first | done | (with_reducible rfl))); (case h2 => (first | exact c1)); (case h3 => simp -implicitDefEqProofs (maxSteps:=2000000) only [m22_22,m22_20,m22_21,k1,k2,k9,k12,kh9,k11,kh11,k8,kh8,hin',pb,tb,rv,rv0,lv,tv,es,tV,pV,lB,tB,hpl,lp,sp,tp,lPz,rP,ea,tP,bl_scal,bl_allO,wk,act,asV,↓reduceIte,Nat.reduceEqDiff,reduceCtorEq,Nat.reduceAdd,Nat.reduceLeDiff,Nat.reduceSub,Nat.reduceMul,List.reduceReplicate,Int.reduceEq,Int.reduceLT,Int.reduceLE,Int.reduceAdd,Int.reduceSub,Int.reduceMul,Nat.reduceLT,Int.reduceToNat])))
theorem makeR_ok (b nm : List UInt8) (n : Int) (hb : b.length = 32) (hn : nm.length < 2 ^ 63) : RC Tryd.prog 22 [.agg (bl b),.str nm,.int .i64 n] [outP (mkE (decV b) nm n) (mkP (decV b) nm n),.int .i64 (mkE (decV b) nm n)]:=by
  refine RC.of_wp c22 rfl ?_
  have c1:=volsR_ok b hb
  have lb : (bl b).length = 32:=by rw [bl_length,hb]
  have tb : List.take 32 (bl b) = bl b:=List.take_of_length_le (by omega)
  have hl:=decV_le b
  have hgv:=decV_good b
  have hv0:=good_vs hgv
  unfold outP mkP mkV
  obtain ⟨vs,hvs⟩ : ∃ vs,vs = decV b:=⟨_,rfl⟩
  rw [← hvs] at c1 hl hgv hv0 ⊢
  have tv:=take_vl vs
  have lv:=vl_length vs
  have pv:=vl_pur vs
  have cg:=rgood_ok .full [nm] (by simp)
  rw [sl1,List.length_cons,List.length_nil,List.all_cons,List.all_nil,Bool.and_true] at cg
  have cf : ∃ f : Fl,(vs = [] ∧ f = .full ∨ vs ≠ [] ∧ f = .plain) ∧ RC Tryd.prog 45 [.str nm,.sl f vs.length (vl vs)] [.int .i64 (findV nm vs)] ∧ RC Tryd.prog 51 [.int .i64 n,.sl f vs.length (vl vs)] (takeR n (used vs)):=by
    by_cases h0 : vs = []
    · exact ⟨.full,.inl ⟨h0,rfl⟩,rfind_ok .full nm vs (by omega),takeR_ok n .full vs (by simp) (by omega) hv0.bl⟩
    · exact ⟨.plain,.inr ⟨h0,rfl⟩,rfind_ok .plain nm vs (by omega),takeR_ok n .plain vs (by simp) (by omega) hv0.bl⟩
  obtain ⟨f,hf,cf,cp⟩:=cf
  cases hg : goodN nm with
  | false =>
    have e : mkE vs nm n = 11:=by unfold mkE; rw [if_pos hg]
    rw [e,if_neg (by decide)]
    rw [hg] at cg
    rcases ownV_or vs with ⟨h0,eo⟩ | ⟨h0,eo⟩ <;> rw [eo] at c1 <;> repeat' (first | simp -implicitDefEqProofs (maxSteps:=2000000) only [m22_1,m22_2,m22_3,m22_4,m22_5,m22_6,m22_7,m22_8,m22_9,m22_10,m22_11,m22_12,m22_13,m22_14,m22_15,m22_16,m22_17,m22_18,m22_19,m22_20,m22_21,m22_22,m22_23,m22_24,m22_25,m22_26,m22_27,m22_28,m22_r,m22_b,m22,lb,tb,bl_scal,bl_allO,wk,act,asV,↓reduceIte,Nat.reduceEqDiff,reduceCtorEq,Nat.reduceAdd,Nat.reduceLeDiff,Nat.reduceSub,Nat.reduceMul,List.reduceReplicate,Int.reduceEq,Int.reduceLT,Int.reduceLE,Int.reduceAdd,Int.reduceSub,Int.reduceMul,Nat.reduceLT,Int.reduceToNat] | ((first | ((with_reducible refine CallL.gate ?_); apply CallL.of) | ((with_reducible refine CallP.gate ?_); apply CallP.of)); (case h1 => (simp -implicitDefEqProofs (maxSteps:=2000000) only [m22_1,m22_2,m22_3,m22_4,m22_5,m22_6,m22_7,m22_8,m22_9,m22_10,m22_11,m22_12,m22_13,m22_14,m22_15,m22_16,m22_17,m22_18,m22_19,m22_20,m22_21,m22_22,m22_23,m22_24,m22_25,m22_26,m22_27,m22_28,m22_r,m22_b,m22,lb,tb,bl_scal,bl_allO,wk,act,asV,↓reduceIte,Nat.reduceEqDiff,reduceCtorEq,Nat.reduceAdd,Nat.reduceLeDiff,Nat.reduceSub,Nat.reduceMul,List.reduceReplicate,Int.reduceEq,Int.reduceLT,Int.reduceLE,Int.reduceAdd,Int.reduceSub,Int.reduceMul,Nat.reduceLT,Int.reduceToNat]; first | done | (with_reducible rfl))); (case h2 => (first | exact c1 | exact cg)); (case h3 => simp -implicitDefEqProofs (maxSteps:=2000000) only [m22_1,m22_2,m22_3,m22_4,m22_5,m22_6,m22_7,m22_8,m22_9,m22_10,m22_11,m22_12,m22_13,m22_14,m22_15,m22_16,m22_17,m22_18,m22_19,m22_20,m22_21,m22_22,m22_23,m22_24,m22_25,m22_26,m22_27,m22_28,m22_r,m22_b,m22,lb,tb,bl_scal,bl_allO,wk,act,asV,↓reduceIte,Nat.reduceEqDiff,reduceCtorEq,Nat.reduceAdd,Nat.reduceLeDiff,Nat.reduceSub,Nat.reduceMul,List.reduceReplicate,Int.reduceEq,Int.reduceLT,Int.reduceLE,Int.reduceAdd,Int.reduceSub,Int.reduceMul,Nat.reduceLT,Int.reduceToNat])))
  | true =>
    rw [hg] at cg
    by_cases hfi : 0 ≤ findV nm vs
    · have e : mkE vs nm n = 16:=by unfold mkE; rw [if_neg (by rw [hg]; decide),if_pos hfi]
      rw [e,if_neg (by decide)]
      rcases ownV_or vs with ⟨h0,eo⟩ | ⟨h0,eo⟩
      · exfalso
        rw [h0,show findV nm [] = -1 from rfl] at hfi
        omega
      · rw [eo] at c1
        obtain rfl : f = .plain:=by rcases hf with ⟨a,_⟩ | ⟨_,a⟩; exact absurd a h0; exact a
        repeat' (first | simp -implicitDefEqProofs (maxSteps:=2000000) only [m22_1,m22_2,m22_3,m22_4,m22_5,m22_6,m22_7,m22_8,m22_9,m22_10,m22_11,m22_12,m22_13,m22_14,m22_15,m22_16,m22_17,m22_18,m22_19,m22_20,m22_21,m22_22,m22_23,m22_24,m22_25,m22_26,m22_27,m22_28,m22_r,m22_b,m22,lb,tb,tv,lv,pv,hfi,bl_scal,bl_allO,wk,act,asV,↓reduceIte,Nat.reduceEqDiff,reduceCtorEq,Nat.reduceAdd,Nat.reduceLeDiff,Nat.reduceSub,Nat.reduceMul,List.reduceReplicate,Int.reduceEq,Int.reduceLT,Int.reduceLE,Int.reduceAdd,Int.reduceSub,Int.reduceMul,Nat.reduceLT,Int.reduceToNat] | ((first | ((with_reducible refine CallL.gate ?_); apply CallL.of) | ((with_reducible refine CallP.gate ?_); apply CallP.of)); (case h1 => (simp -implicitDefEqProofs (maxSteps:=2000000) only [m22_1,m22_2,m22_3,m22_4,m22_5,m22_6,m22_7,m22_8,m22_9,m22_10,m22_11,m22_12,m22_13,m22_14,m22_15,m22_16,m22_17,m22_18,m22_19,m22_20,m22_21,m22_22,m22_23,m22_24,m22_25,m22_26,m22_27,m22_28,m22_r,m22_b,m22,lb,tb,tv,lv,pv,hfi,bl_scal,bl_allO,wk,act,asV,↓reduceIte,Nat.reduceEqDiff,reduceCtorEq,Nat.reduceAdd,Nat.reduceLeDiff,Nat.reduceSub,Nat.reduceMul,List.reduceReplicate,Int.reduceEq,Int.reduceLT,Int.reduceLE,Int.reduceAdd,Int.reduceSub,Int.reduceMul,Nat.reduceLT,Int.reduceToNat]; first | done | (with_reducible rfl))); (case h2 => (first | exact c1 | exact cg | exact cf)); (case h3 => simp -implicitDefEqProofs (maxSteps:=2000000) only [m22_1,m22_2,m22_3,m22_4,m22_5,m22_6,m22_7,m22_8,m22_9,m22_10,m22_11,m22_12,m22_13,m22_14,m22_15,m22_16,m22_17,m22_18,m22_19,m22_20,m22_21,m22_22,m22_23,m22_24,m22_25,m22_26,m22_27,m22_28,m22_r,m22_b,m22,lb,tb,tv,lv,pv,hfi,bl_scal,bl_allO,wk,act,asV,↓reduceIte,Nat.reduceEqDiff,reduceCtorEq,Nat.reduceAdd,Nat.reduceLeDiff,Nat.reduceSub,Nat.reduceMul,List.reduceReplicate,Int.reduceEq,Int.reduceLT,Int.reduceLE,Int.reduceAdd,Int.reduceSub,Int.reduceMul,Nat.reduceLT,Int.reduceToNat])))
    · by_cases hr : n < 1 ∨ 4 < n
      · have e : mkE vs nm n = 17:=by unfold mkE; rw [if_neg (by rw [hg]; decide),if_neg hfi,if_pos hr]
        rw [e,if_neg (by decide)]
        by_cases hr1 : n < 1
        · rcases ownV_or vs with ⟨h0,eo⟩ | ⟨h0,eo⟩
          · rw [eo] at c1
            obtain rfl : f = .full:=by rcases hf with ⟨_,a⟩ | ⟨a,_⟩; exact a; exact absurd h0 a
            rw [h0] at cf hfi
            rw [vl_nil,List.length_nil] at cf
            repeat' (first | simp -implicitDefEqProofs (maxSteps:=2000000) only [m22_1,m22_2,m22_3,m22_4,m22_5,m22_6,m22_7,m22_8,m22_9,m22_10,m22_11,m22_12,m22_13,m22_14,m22_15,m22_16,m22_17,m22_18,m22_19,m22_20,m22_21,m22_22,m22_23,m22_24,m22_25,m22_26,m22_27,m22_28,m22_r,m22_b,m22,lb,tb,hfi,hr1,bl_scal,bl_allO,wk,act,asV,↓reduceIte,Nat.reduceEqDiff,reduceCtorEq,Nat.reduceAdd,Nat.reduceLeDiff,Nat.reduceSub,Nat.reduceMul,List.reduceReplicate,Int.reduceEq,Int.reduceLT,Int.reduceLE,Int.reduceAdd,Int.reduceSub,Int.reduceMul,Nat.reduceLT,Int.reduceToNat] | ((first | ((with_reducible refine CallL.gate ?_); apply CallL.of) | ((with_reducible refine CallP.gate ?_); apply CallP.of)); (case h1 => (simp -implicitDefEqProofs (maxSteps:=2000000) only [m22_1,m22_2,m22_3,m22_4,m22_5,m22_6,m22_7,m22_8,m22_9,m22_10,m22_11,m22_12,m22_13,m22_14,m22_15,m22_16,m22_17,m22_18,m22_19,m22_20,m22_21,m22_22,m22_23,m22_24,m22_25,m22_26,m22_27,m22_28,m22_r,m22_b,m22,lb,tb,hfi,hr1,bl_scal,bl_allO,wk,act,asV,↓reduceIte,Nat.reduceEqDiff,reduceCtorEq,Nat.reduceAdd,Nat.reduceLeDiff,Nat.reduceSub,Nat.reduceMul,List.reduceReplicate,Int.reduceEq,Int.reduceLT,Int.reduceLE,Int.reduceAdd,Int.reduceSub,Int.reduceMul,Nat.reduceLT,Int.reduceToNat]; first | done | (with_reducible rfl))); (case h2 => (first | exact c1 | exact cg | exact cf)); (case h3 => simp -implicitDefEqProofs (maxSteps:=2000000) only [m22_1,m22_2,m22_3,m22_4,m22_5,m22_6,m22_7,m22_8,m22_9,m22_10,m22_11,m22_12,m22_13,m22_14,m22_15,m22_16,m22_17,m22_18,m22_19,m22_20,m22_21,m22_22,m22_23,m22_24,m22_25,m22_26,m22_27,m22_28,m22_r,m22_b,m22,lb,tb,hfi,hr1,bl_scal,bl_allO,wk,act,asV,↓reduceIte,Nat.reduceEqDiff,reduceCtorEq,Nat.reduceAdd,Nat.reduceLeDiff,Nat.reduceSub,Nat.reduceMul,List.reduceReplicate,Int.reduceEq,Int.reduceLT,Int.reduceLE,Int.reduceAdd,Int.reduceSub,Int.reduceMul,Nat.reduceLT,Int.reduceToNat])))
          · rw [eo] at c1
            obtain rfl : f = .plain:=by rcases hf with ⟨a,_⟩ | ⟨_,a⟩; exact absurd a h0; exact a
            repeat' (first | simp -implicitDefEqProofs (maxSteps:=2000000) only [m22_1,m22_2,m22_3,m22_4,m22_5,m22_6,m22_7,m22_8,m22_9,m22_10,m22_11,m22_12,m22_13,m22_14,m22_15,m22_16,m22_17,m22_18,m22_19,m22_20,m22_21,m22_22,m22_23,m22_24,m22_25,m22_26,m22_27,m22_28,m22_r,m22_b,m22,lb,tb,tv,lv,pv,hfi,hr1,bl_scal,bl_allO,wk,act,asV,↓reduceIte,Nat.reduceEqDiff,reduceCtorEq,Nat.reduceAdd,Nat.reduceLeDiff,Nat.reduceSub,Nat.reduceMul,List.reduceReplicate,Int.reduceEq,Int.reduceLT,Int.reduceLE,Int.reduceAdd,Int.reduceSub,Int.reduceMul,Nat.reduceLT,Int.reduceToNat] | ((first | ((with_reducible refine CallL.gate ?_); apply CallL.of) | ((with_reducible refine CallP.gate ?_); apply CallP.of)); (case h1 => (simp -implicitDefEqProofs (maxSteps:=2000000) only [m22_1,m22_2,m22_3,m22_4,m22_5,m22_6,m22_7,m22_8,m22_9,m22_10,m22_11,m22_12,m22_13,m22_14,m22_15,m22_16,m22_17,m22_18,m22_19,m22_20,m22_21,m22_22,m22_23,m22_24,m22_25,m22_26,m22_27,m22_28,m22_r,m22_b,m22,lb,tb,tv,lv,pv,hfi,hr1,bl_scal,bl_allO,wk,act,asV,↓reduceIte,Nat.reduceEqDiff,reduceCtorEq,Nat.reduceAdd,Nat.reduceLeDiff,Nat.reduceSub,Nat.reduceMul,List.reduceReplicate,Int.reduceEq,Int.reduceLT,Int.reduceLE,Int.reduceAdd,Int.reduceSub,Int.reduceMul,Nat.reduceLT,Int.reduceToNat]; first | done | (with_reducible rfl))); (case h2 => (first | exact c1 | exact cg | exact cf)); (case h3 => simp -implicitDefEqProofs (maxSteps:=2000000) only [m22_1,m22_2,m22_3,m22_4,m22_5,m22_6,m22_7,m22_8,m22_9,m22_10,m22_11,m22_12,m22_13,m22_14,m22_15,m22_16,m22_17,m22_18,m22_19,m22_20,m22_21,m22_22,m22_23,m22_24,m22_25,m22_26,m22_27,m22_28,m22_r,m22_b,m22,lb,tb,tv,lv,pv,hfi,hr1,bl_scal,bl_allO,wk,act,asV,↓reduceIte,Nat.reduceEqDiff,reduceCtorEq,Nat.reduceAdd,Nat.reduceLeDiff,Nat.reduceSub,Nat.reduceMul,List.reduceReplicate,Int.reduceEq,Int.reduceLT,Int.reduceLE,Int.reduceAdd,Int.reduceSub,Int.reduceMul,Nat.reduceLT,Int.reduceToNat])))
        · have hr2 : 4 < n:=by omega
          rcases ownV_or vs with ⟨h0,eo⟩ | ⟨h0,eo⟩
          · rw [eo] at c1
            obtain rfl : f = .full:=by rcases hf with ⟨_,a⟩ | ⟨a,_⟩; exact a; exact absurd h0 a
            rw [h0] at cf hfi
            rw [vl_nil,List.length_nil] at cf
            repeat' (first | simp -implicitDefEqProofs (maxSteps:=2000000) only [m22_1,m22_2,m22_3,m22_4,m22_5,m22_6,m22_7,m22_8,m22_9,m22_10,m22_11,m22_12,m22_13,m22_14,m22_15,m22_16,m22_17,m22_18,m22_19,m22_20,m22_21,m22_22,m22_23,m22_24,m22_25,m22_26,m22_27,m22_28,m22_r,m22_b,m22,lb,tb,hfi,hr1,hr2,bl_scal,bl_allO,wk,act,asV,↓reduceIte,Nat.reduceEqDiff,reduceCtorEq,Nat.reduceAdd,Nat.reduceLeDiff,Nat.reduceSub,Nat.reduceMul,List.reduceReplicate,Int.reduceEq,Int.reduceLT,Int.reduceLE,Int.reduceAdd,Int.reduceSub,Int.reduceMul,Nat.reduceLT,Int.reduceToNat] | ((first | ((with_reducible refine CallL.gate ?_); apply CallL.of) | ((with_reducible refine CallP.gate ?_); apply CallP.of)); (case h1 => (simp -implicitDefEqProofs (maxSteps:=2000000) only [m22_1,m22_2,m22_3,m22_4,m22_5,m22_6,m22_7,m22_8,m22_9,m22_10,m22_11,m22_12,m22_13,m22_14,m22_15,m22_16,m22_17,m22_18,m22_19,m22_20,m22_21,m22_22,m22_23,m22_24,m22_25,m22_26,m22_27,m22_28,m22_r,m22_b,m22,lb,tb,hfi,hr1,hr2,bl_scal,bl_allO,wk,act,asV,↓reduceIte,Nat.reduceEqDiff,reduceCtorEq,Nat.reduceAdd,Nat.reduceLeDiff,Nat.reduceSub,Nat.reduceMul,List.reduceReplicate,Int.reduceEq,Int.reduceLT,Int.reduceLE,Int.reduceAdd,Int.reduceSub,Int.reduceMul,Nat.reduceLT,Int.reduceToNat]; first | done | (with_reducible rfl))); (case h2 => (first | exact c1 | exact cg | exact cf)); (case h3 => simp -implicitDefEqProofs (maxSteps:=2000000) only [m22_1,m22_2,m22_3,m22_4,m22_5,m22_6,m22_7,m22_8,m22_9,m22_10,m22_11,m22_12,m22_13,m22_14,m22_15,m22_16,m22_17,m22_18,m22_19,m22_20,m22_21,m22_22,m22_23,m22_24,m22_25,m22_26,m22_27,m22_28,m22_r,m22_b,m22,lb,tb,hfi,hr1,hr2,bl_scal,bl_allO,wk,act,asV,↓reduceIte,Nat.reduceEqDiff,reduceCtorEq,Nat.reduceAdd,Nat.reduceLeDiff,Nat.reduceSub,Nat.reduceMul,List.reduceReplicate,Int.reduceEq,Int.reduceLT,Int.reduceLE,Int.reduceAdd,Int.reduceSub,Int.reduceMul,Nat.reduceLT,Int.reduceToNat])))
          · rw [eo] at c1
            obtain rfl : f = .plain:=by rcases hf with ⟨a,_⟩ | ⟨_,a⟩; exact absurd a h0; exact a
            repeat' (first | simp -implicitDefEqProofs (maxSteps:=2000000) only [m22_1,m22_2,m22_3,m22_4,m22_5,m22_6,m22_7,m22_8,m22_9,m22_10,m22_11,m22_12,m22_13,m22_14,m22_15,m22_16,m22_17,m22_18,m22_19,m22_20,m22_21,m22_22,m22_23,m22_24,m22_25,m22_26,m22_27,m22_28,m22_r,m22_b,m22,lb,tb,tv,lv,pv,hfi,hr1,hr2,bl_scal,bl_allO,wk,act,asV,↓reduceIte,Nat.reduceEqDiff,reduceCtorEq,Nat.reduceAdd,Nat.reduceLeDiff,Nat.reduceSub,Nat.reduceMul,List.reduceReplicate,Int.reduceEq,Int.reduceLT,Int.reduceLE,Int.reduceAdd,Int.reduceSub,Int.reduceMul,Nat.reduceLT,Int.reduceToNat] | ((first | ((with_reducible refine CallL.gate ?_); apply CallL.of) | ((with_reducible refine CallP.gate ?_); apply CallP.of)); (case h1 => (simp -implicitDefEqProofs (maxSteps:=2000000) only [m22_1,m22_2,m22_3,m22_4,m22_5,m22_6,m22_7,m22_8,m22_9,m22_10,m22_11,m22_12,m22_13,m22_14,m22_15,m22_16,m22_17,m22_18,m22_19,m22_20,m22_21,m22_22,m22_23,m22_24,m22_25,m22_26,m22_27,m22_28,m22_r,m22_b,m22,lb,tb,tv,lv,pv,hfi,hr1,hr2,bl_scal,bl_allO,wk,act,asV,↓reduceIte,Nat.reduceEqDiff,reduceCtorEq,Nat.reduceAdd,Nat.reduceLeDiff,Nat.reduceSub,Nat.reduceMul,List.reduceReplicate,Int.reduceEq,Int.reduceLT,Int.reduceLE,Int.reduceAdd,Int.reduceSub,Int.reduceMul,Nat.reduceLT,Int.reduceToNat]; first | done | (with_reducible rfl))); (case h2 => (first | exact c1 | exact cg | exact cf)); (case h3 => simp -implicitDefEqProofs (maxSteps:=2000000) only [m22_1,m22_2,m22_3,m22_4,m22_5,m22_6,m22_7,m22_8,m22_9,m22_10,m22_11,m22_12,m22_13,m22_14,m22_15,m22_16,m22_17,m22_18,m22_19,m22_20,m22_21,m22_22,m22_23,m22_24,m22_25,m22_26,m22_27,m22_28,m22_r,m22_b,m22,lb,tb,tv,lv,pv,hfi,hr1,hr2,bl_scal,bl_allO,wk,act,asV,↓reduceIte,Nat.reduceEqDiff,reduceCtorEq,Nat.reduceAdd,Nat.reduceLeDiff,Nat.reduceSub,Nat.reduceMul,List.reduceReplicate,Int.reduceEq,Int.reduceLT,Int.reduceLE,Int.reduceAdd,Int.reduceSub,Int.reduceMul,Nat.reduceLT,Int.reduceToNat])))
      · have hr1 : ¬ n < 1:=by omega
        have hr2 : ¬ 4 < n:=by omega
        by_cases h3 : 3 ≤ vs.length
        · have e : mkE vs nm n = 18:=by unfold mkE; rw [if_neg (by rw [hg]; decide),if_neg hfi,if_neg hr,if_pos h3]
          rw [e,if_neg (by decide)]
          have h3' : (3 : Int) ≤ vs.length:=by omega
          rcases ownV_or vs with ⟨h0,eo⟩ | ⟨h0,eo⟩
          · rw [h0] at h3; simp at h3
          · rw [eo] at c1
            obtain rfl : f = .plain:=by rcases hf with ⟨a,_⟩ | ⟨_,a⟩; exact absurd a h0; exact a
            repeat' (first | simp -implicitDefEqProofs (maxSteps:=2000000) only [m22_1,m22_2,m22_3,m22_4,m22_5,m22_6,m22_7,m22_8,m22_9,m22_10,m22_11,m22_12,m22_13,m22_14,m22_15,m22_16,m22_17,m22_18,m22_19,m22_20,m22_21,m22_22,m22_23,m22_24,m22_25,m22_26,m22_27,m22_28,m22_r,m22_b,m22,lb,tb,tv,lv,pv,hfi,hr1,hr2,h3',bl_scal,bl_allO,wk,act,asV,↓reduceIte,Nat.reduceEqDiff,reduceCtorEq,Nat.reduceAdd,Nat.reduceLeDiff,Nat.reduceSub,Nat.reduceMul,List.reduceReplicate,Int.reduceEq,Int.reduceLT,Int.reduceLE,Int.reduceAdd,Int.reduceSub,Int.reduceMul,Nat.reduceLT,Int.reduceToNat] | ((first | ((with_reducible refine CallL.gate ?_); apply CallL.of) | ((with_reducible refine CallP.gate ?_); apply CallP.of)); (case h1 => (simp -implicitDefEqProofs (maxSteps:=2000000) only [m22_1,m22_2,m22_3,m22_4,m22_5,m22_6,m22_7,m22_8,m22_9,m22_10,m22_11,m22_12,m22_13,m22_14,m22_15,m22_16,m22_17,m22_18,m22_19,m22_20,m22_21,m22_22,m22_23,m22_24,m22_25,m22_26,m22_27,m22_28,m22_r,m22_b,m22,lb,tb,tv,lv,pv,hfi,hr1,hr2,h3',bl_scal,bl_allO,wk,act,asV,↓reduceIte,Nat.reduceEqDiff,reduceCtorEq,Nat.reduceAdd,Nat.reduceLeDiff,Nat.reduceSub,Nat.reduceMul,List.reduceReplicate,Int.reduceEq,Int.reduceLT,Int.reduceLE,Int.reduceAdd,Int.reduceSub,Int.reduceMul,Nat.reduceLT,Int.reduceToNat]; first | done | (with_reducible rfl))); (case h2 => (first | exact c1 | exact cg | exact cf)); (case h3 => simp -implicitDefEqProofs (maxSteps:=2000000) only [m22_1,m22_2,m22_3,m22_4,m22_5,m22_6,m22_7,m22_8,m22_9,m22_10,m22_11,m22_12,m22_13,m22_14,m22_15,m22_16,m22_17,m22_18,m22_19,m22_20,m22_21,m22_22,m22_23,m22_24,m22_25,m22_26,m22_27,m22_28,m22_r,m22_b,m22,lb,tb,tv,lv,pv,hfi,hr1,hr2,h3',bl_scal,bl_allO,wk,act,asV,↓reduceIte,Nat.reduceEqDiff,reduceCtorEq,Nat.reduceAdd,Nat.reduceLeDiff,Nat.reduceSub,Nat.reduceMul,List.reduceReplicate,Int.reduceEq,Int.reduceLT,Int.reduceLE,Int.reduceAdd,Int.reduceSub,Int.reduceMul,Nat.reduceLT,Int.reduceToNat])))
        · have h3' : ¬ (3 : Int) ≤ vs.length:=by omega
          by_cases hq : ((frees (used vs)).length : Int) < n
          · have e : mkE vs nm n = 18:=by unfold mkE; rw [if_neg (by rw [hg]; decide),if_neg hfi,if_neg hr,if_neg h3,if_pos hq]
            rw [e,if_neg (by decide)]
            rw [show takeR n (used vs) = [.sl .full 0 [],.int .i64 18] by unfold takeR; rw [if_neg hr,if_pos hq]] at cp
            rcases ownV_or vs with ⟨h0,eo⟩ | ⟨h0,eo⟩
            · rw [eo] at c1
              obtain rfl : f = .full:=by rcases hf with ⟨_,a⟩ | ⟨a,_⟩; exact a; exact absurd h0 a
              have hl0 : vs.length = 0:=by rw [h0]; rfl
              have hv0' : vl vs = []:=by rw [h0]; rfl
              rw [hv0',hl0] at cf cp
              repeat' (first | simp -implicitDefEqProofs (maxSteps:=2000000) only [m22_1,m22_2,m22_3,m22_4,m22_5,m22_6,m22_7,m22_8,m22_9,m22_10,m22_11,m22_12,m22_13,m22_14,m22_15,m22_16,m22_17,m22_18,m22_19,m22_20,m22_21,m22_22,m22_23,m22_24,m22_25,m22_26,m22_27,m22_28,m22_r,m22_b,m22,lb,tb,hfi,hr1,hr2,bl_scal,bl_allO,wk,act,asV,↓reduceIte,Nat.reduceEqDiff,reduceCtorEq,Nat.reduceAdd,Nat.reduceLeDiff,Nat.reduceSub,Nat.reduceMul,List.reduceReplicate,Int.reduceEq,Int.reduceLT,Int.reduceLE,Int.reduceAdd,Int.reduceSub,Int.reduceMul,Nat.reduceLT,Int.reduceToNat] | ((first | ((with_reducible refine CallL.gate ?_); apply CallL.of) | ((with_reducible refine CallP.gate ?_); apply CallP.of)); (case h1 => (simp -implicitDefEqProofs (maxSteps:=2000000) only [m22_1,m22_2,m22_3,m22_4,m22_5,m22_6,m22_7,m22_8,m22_9,m22_10,m22_11,m22_12,m22_13,m22_14,m22_15,m22_16,m22_17,m22_18,m22_19,m22_20,m22_21,m22_22,m22_23,m22_24,m22_25,m22_26,m22_27,m22_28,m22_r,m22_b,m22,lb,tb,hfi,hr1,hr2,bl_scal,bl_allO,wk,act,asV,↓reduceIte,Nat.reduceEqDiff,reduceCtorEq,Nat.reduceAdd,Nat.reduceLeDiff,Nat.reduceSub,Nat.reduceMul,List.reduceReplicate,Int.reduceEq,Int.reduceLT,Int.reduceLE,Int.reduceAdd,Int.reduceSub,Int.reduceMul,Nat.reduceLT,Int.reduceToNat]; first | done | (with_reducible rfl))); (case h2 => (first | exact c1 | exact cg | exact cf | exact cp)); (case h3 => simp -implicitDefEqProofs (maxSteps:=2000000) only [m22_1,m22_2,m22_3,m22_4,m22_5,m22_6,m22_7,m22_8,m22_9,m22_10,m22_11,m22_12,m22_13,m22_14,m22_15,m22_16,m22_17,m22_18,m22_19,m22_20,m22_21,m22_22,m22_23,m22_24,m22_25,m22_26,m22_27,m22_28,m22_r,m22_b,m22,lb,tb,hfi,hr1,hr2,bl_scal,bl_allO,wk,act,asV,↓reduceIte,Nat.reduceEqDiff,reduceCtorEq,Nat.reduceAdd,Nat.reduceLeDiff,Nat.reduceSub,Nat.reduceMul,List.reduceReplicate,Int.reduceEq,Int.reduceLT,Int.reduceLE,Int.reduceAdd,Int.reduceSub,Int.reduceMul,Nat.reduceLT,Int.reduceToNat])))
            · rw [eo] at c1
              obtain rfl : f = .plain:=by rcases hf with ⟨a,_⟩ | ⟨_,a⟩; exact absurd a h0; exact a
              repeat' (first | simp -implicitDefEqProofs (maxSteps:=2000000) only [m22_1,m22_2,m22_3,m22_4,m22_5,m22_6,m22_7,m22_8,m22_9,m22_10,m22_11,m22_12,m22_13,m22_14,m22_15,m22_16,m22_17,m22_18,m22_19,m22_20,m22_21,m22_22,m22_23,m22_24,m22_25,m22_26,m22_27,m22_28,m22_r,m22_b,m22,lb,tb,tv,lv,pv,hfi,hr1,hr2,h3',bl_scal,bl_allO,wk,act,asV,↓reduceIte,Nat.reduceEqDiff,reduceCtorEq,Nat.reduceAdd,Nat.reduceLeDiff,Nat.reduceSub,Nat.reduceMul,List.reduceReplicate,Int.reduceEq,Int.reduceLT,Int.reduceLE,Int.reduceAdd,Int.reduceSub,Int.reduceMul,Nat.reduceLT,Int.reduceToNat] | ((first | ((with_reducible refine CallL.gate ?_); apply CallL.of) | ((with_reducible refine CallP.gate ?_); apply CallP.of)); (case h1 => (simp -implicitDefEqProofs (maxSteps:=2000000) only [m22_1,m22_2,m22_3,m22_4,m22_5,m22_6,m22_7,m22_8,m22_9,m22_10,m22_11,m22_12,m22_13,m22_14,m22_15,m22_16,m22_17,m22_18,m22_19,m22_20,m22_21,m22_22,m22_23,m22_24,m22_25,m22_26,m22_27,m22_28,m22_r,m22_b,m22,lb,tb,tv,lv,pv,hfi,hr1,hr2,h3',bl_scal,bl_allO,wk,act,asV,↓reduceIte,Nat.reduceEqDiff,reduceCtorEq,Nat.reduceAdd,Nat.reduceLeDiff,Nat.reduceSub,Nat.reduceMul,List.reduceReplicate,Int.reduceEq,Int.reduceLT,Int.reduceLE,Int.reduceAdd,Int.reduceSub,Int.reduceMul,Nat.reduceLT,Int.reduceToNat]; first | done | (with_reducible rfl))); (case h2 => (first | exact c1 | exact cg | exact cf | exact cp)); (case h3 => simp -implicitDefEqProofs (maxSteps:=2000000) only [m22_1,m22_2,m22_3,m22_4,m22_5,m22_6,m22_7,m22_8,m22_9,m22_10,m22_11,m22_12,m22_13,m22_14,m22_15,m22_16,m22_17,m22_18,m22_19,m22_20,m22_21,m22_22,m22_23,m22_24,m22_25,m22_26,m22_27,m22_28,m22_r,m22_b,m22,lb,tb,tv,lv,pv,hfi,hr1,hr2,h3',bl_scal,bl_allO,wk,act,asV,↓reduceIte,Nat.reduceEqDiff,reduceCtorEq,Nat.reduceAdd,Nat.reduceLeDiff,Nat.reduceSub,Nat.reduceMul,List.reduceReplicate,Int.reduceEq,Int.reduceLT,Int.reduceLE,Int.reduceAdd,Int.reduceSub,Int.reduceMul,Nat.reduceLT,Int.reduceToNat])))
          · have e : mkE vs nm n = 0:=by unfold mkE; rw [if_neg (by rw [hg]; decide),if_neg hfi,if_neg hr,if_neg h3,if_neg hq]
            rw [e,if_pos rfl]
            rw [show takeR n (used vs) = [.own n.toNat 1 (il ((frees (used vs)).take n.toNat)),.int .i64 0] by unfold takeR; rw [if_neg hr,if_neg hq]] at cp
            obtain ⟨k,rfl⟩ : ∃ k : Nat,n = (k : Int):=⟨n.toNat,by omega⟩
            rw [Int.toNat_natCast] at cp ⊢
            have hgm:=good_make (nm:=nm) (n:=k) hgv (by omega) hg (by omega) (by omega) (by omega) (by omega)
            have hbl : ((frees (used vs)).take k).length = k:=by rw [List.length_take]; omega
            obtain ⟨bs,hbs⟩ : ∃ bs,bs = (frees (used vs)).take k:=⟨_,rfl⟩
            rw [← hbs] at cp hgm hbl ⊢
            have hPl : (zpt bs ++ [(0,tabB (vs ++ [(⟨nm,bs⟩ : Vol)]))]).length = k + 1:=by simp [zpt,hbl]
            rw [hPl]
            rcases ownV_or vs with ⟨h0,eo⟩ | ⟨h0,eo⟩
            · rw [eo] at c1
              obtain rfl : f = .full:=by rcases hf with ⟨_,a⟩ | ⟨a,_⟩; exact a; exact absurd h0 a
              have hl0 : vs.length = 0:=by rw [h0]; rfl
              have hv0' : vl vs = []:=by rw [h0]; rfl
              rw [hv0',hl0] at cf cp
              repeat' (first | simp -implicitDefEqProofs (maxSteps:=2000000) only [m22,m22_r,m22_b,m22_1,m22_2,m22_3,m22_4,m22_5,m22_6,m22_7,m22_8,m22_9,m22_10,m22_11,m22_12,m22_13,m22_14,m22_15,m22_16,m22_25,m22_26,m22_27,m22_28,lb,tb,hfi,hr1,hr2,il_scal,bl_scal,bl_allO,wk,act,asV,↓reduceIte,Nat.reduceEqDiff,reduceCtorEq,Nat.reduceAdd,Nat.reduceLeDiff,Nat.reduceSub,Nat.reduceMul,List.reduceReplicate,Int.reduceEq,Int.reduceLT,Int.reduceLE,Int.reduceAdd,Int.reduceSub,Int.reduceMul,Nat.reduceLT,Int.reduceToNat] | ((first | ((with_reducible refine CallL.gate ?_); apply CallL.of) | ((with_reducible refine CallP.gate ?_); apply CallP.of)); (case h1 => (simp -implicitDefEqProofs (maxSteps:=2000000) only [m22,m22_r,m22_b,m22_1,m22_2,m22_3,m22_4,m22_5,m22_6,m22_7,m22_8,m22_9,m22_10,m22_11,m22_12,m22_13,m22_14,m22_15,m22_16,m22_25,m22_26,m22_27,m22_28,lb,tb,hfi,hr1,hr2,il_scal,bl_scal,bl_allO,wk,act,asV,↓reduceIte,Nat.reduceEqDiff,reduceCtorEq,Nat.reduceAdd,Nat.reduceLeDiff,Nat.reduceSub,Nat.reduceMul,List.reduceReplicate,Int.reduceEq,Int.reduceLT,Int.reduceLE,Int.reduceAdd,Int.reduceSub,Int.reduceMul,Nat.reduceLT,Int.reduceToNat]; first | done | (with_reducible rfl))); (case h2 => (first | exact c1 | exact cg | exact cf | exact cp)); (case h3 => simp -implicitDefEqProofs (maxSteps:=2000000) only [m22,m22_r,m22_b,m22_1,m22_2,m22_3,m22_4,m22_5,m22_6,m22_7,m22_8,m22_9,m22_10,m22_11,m22_12,m22_13,m22_14,m22_15,m22_16,m22_25,m22_26,m22_27,m22_28,lb,tb,hfi,hr1,hr2,il_scal,bl_scal,bl_allO,wk,act,asV,↓reduceIte,Nat.reduceEqDiff,reduceCtorEq,Nat.reduceAdd,Nat.reduceLeDiff,Nat.reduceSub,Nat.reduceMul,List.reduceReplicate,Int.reduceEq,Int.reduceLT,Int.reduceLE,Int.reduceAdd,Int.reduceSub,Int.reduceMul,Nat.reduceLT,Int.reduceToNat])))
              exact makeR_walk (v41:=_) (v16:=0) hgm hbl (by omega) (by omega) (by omega) (by simp -implicitDefEqProofs (maxSteps:=2000000) only [wk,act,asV,↓reduceIte,Nat.reduceEqDiff,reduceCtorEq,Nat.reduceAdd,Nat.reduceLeDiff,Nat.reduceSub,Nat.reduceMul,List.reduceReplicate,Int.reduceEq,Int.reduceLT,Int.reduceLE,Int.reduceAdd,Int.reduceSub,Int.reduceMul,Nat.reduceLT,Int.reduceToNat]) (by simp -implicitDefEqProofs (maxSteps:=2000000) only [wk,act,asV,↓reduceIte,Nat.reduceEqDiff,reduceCtorEq,Nat.reduceAdd,Nat.reduceLeDiff,Nat.reduceSub,Nat.reduceMul,List.reduceReplicate,Int.reduceEq,Int.reduceLT,Int.reduceLE,Int.reduceAdd,Int.reduceSub,Int.reduceMul,Nat.reduceLT,Int.reduceToNat]) (by simp -implicitDefEqProofs (maxSteps:=2000000) only [wk,act,asV,↓reduceIte,Nat.reduceEqDiff,reduceCtorEq,Nat.reduceAdd,Nat.reduceLeDiff,Nat.reduceSub,Nat.reduceMul,List.reduceReplicate,Int.reduceEq,Int.reduceLT,Int.reduceLE,Int.reduceAdd,Int.reduceSub,Int.reduceMul,Nat.reduceLT,Int.reduceToNat]; first | done | rfl) (by simp -implicitDefEqProofs (maxSteps:=2000000) only [wk,act,asV,↓reduceIte,Nat.reduceEqDiff,reduceCtorEq,Nat.reduceAdd,Nat.reduceLeDiff,Nat.reduceSub,Nat.reduceMul,List.reduceReplicate,Int.reduceEq,Int.reduceLT,Int.reduceLE,Int.reduceAdd,Int.reduceSub,Int.reduceMul,Nat.reduceLT,Int.reduceToNat]; first | done | rfl) (.inl ⟨h0,by simp -implicitDefEqProofs (maxSteps:=2000000) only [wk,act,asV,↓reduceIte,Nat.reduceEqDiff,reduceCtorEq,Nat.reduceAdd,Nat.reduceLeDiff,Nat.reduceSub,Nat.reduceMul,List.reduceReplicate,Int.reduceEq,Int.reduceLT,Int.reduceLE,Int.reduceAdd,Int.reduceSub,Int.reduceMul,Nat.reduceLT,Int.reduceToNat]⟩)
            · rw [eo] at c1
              obtain rfl : f = .plain:=by rcases hf with ⟨a,_⟩ | ⟨_,a⟩; exact absurd a h0; exact a
              repeat' (first | simp -implicitDefEqProofs (maxSteps:=2000000) only [m22,m22_r,m22_b,m22_1,m22_2,m22_3,m22_4,m22_5,m22_6,m22_7,m22_8,m22_9,m22_10,m22_11,m22_12,m22_13,m22_14,m22_15,m22_16,m22_25,m22_26,m22_27,m22_28,lb,tb,tv,lv,pv,hfi,hr1,hr2,h3',il_scal,bl_scal,bl_allO,wk,act,asV,↓reduceIte,Nat.reduceEqDiff,reduceCtorEq,Nat.reduceAdd,Nat.reduceLeDiff,Nat.reduceSub,Nat.reduceMul,List.reduceReplicate,Int.reduceEq,Int.reduceLT,Int.reduceLE,Int.reduceAdd,Int.reduceSub,Int.reduceMul,Nat.reduceLT,Int.reduceToNat] | ((first | ((with_reducible refine CallL.gate ?_); apply CallL.of) | ((with_reducible refine CallP.gate ?_); apply CallP.of)); (case h1 => (simp -implicitDefEqProofs (maxSteps:=2000000) only [m22,m22_r,m22_b,m22_1,m22_2,m22_3,m22_4,m22_5,m22_6,m22_7,m22_8,m22_9,m22_10,m22_11,m22_12,m22_13,m22_14,m22_15,m22_16,m22_25,m22_26,m22_27,m22_28,lb,tb,tv,lv,pv,hfi,hr1,hr2,h3',il_scal,bl_scal,bl_allO,wk,act,asV,↓reduceIte,Nat.reduceEqDiff,reduceCtorEq,Nat.reduceAdd,Nat.reduceLeDiff,Nat.reduceSub,Nat.reduceMul,List.reduceReplicate,Int.reduceEq,Int.reduceLT,Int.reduceLE,Int.reduceAdd,Int.reduceSub,Int.reduceMul,Nat.reduceLT,Int.reduceToNat]; first | done | (with_reducible rfl))); (case h2 => (first | exact c1 | exact cg | exact cf | exact cp)); (case h3 => simp -implicitDefEqProofs (maxSteps:=2000000) only [m22,m22_r,m22_b,m22_1,m22_2,m22_3,m22_4,m22_5,m22_6,m22_7,m22_8,m22_9,m22_10,m22_11,m22_12,m22_13,m22_14,m22_15,m22_16,m22_25,m22_26,m22_27,m22_28,lb,tb,tv,lv,pv,hfi,hr1,hr2,h3',il_scal,bl_scal,bl_allO,wk,act,asV,↓reduceIte,Nat.reduceEqDiff,reduceCtorEq,Nat.reduceAdd,Nat.reduceLeDiff,Nat.reduceSub,Nat.reduceMul,List.reduceReplicate,Int.reduceEq,Int.reduceLT,Int.reduceLE,Int.reduceAdd,Int.reduceSub,Int.reduceMul,Nat.reduceLT,Int.reduceToNat])))
              exact makeR_walk (v41:=_) (v16:=_) hgm hbl (by omega) (by omega) (by omega) (by simp -implicitDefEqProofs (maxSteps:=2000000) only [wk,act,asV,↓reduceIte,Nat.reduceEqDiff,reduceCtorEq,Nat.reduceAdd,Nat.reduceLeDiff,Nat.reduceSub,Nat.reduceMul,List.reduceReplicate,Int.reduceEq,Int.reduceLT,Int.reduceLE,Int.reduceAdd,Int.reduceSub,Int.reduceMul,Nat.reduceLT,Int.reduceToNat]) (by simp -implicitDefEqProofs (maxSteps:=2000000) only [wk,act,asV,↓reduceIte,Nat.reduceEqDiff,reduceCtorEq,Nat.reduceAdd,Nat.reduceLeDiff,Nat.reduceSub,Nat.reduceMul,List.reduceReplicate,Int.reduceEq,Int.reduceLT,Int.reduceLE,Int.reduceAdd,Int.reduceSub,Int.reduceMul,Nat.reduceLT,Int.reduceToNat]) (by simp -implicitDefEqProofs (maxSteps:=2000000) only [wk,act,asV,↓reduceIte,Nat.reduceEqDiff,reduceCtorEq,Nat.reduceAdd,Nat.reduceLeDiff,Nat.reduceSub,Nat.reduceMul,List.reduceReplicate,Int.reduceEq,Int.reduceLT,Int.reduceLE,Int.reduceAdd,Int.reduceSub,Int.reduceMul,Nat.reduceLT,Int.reduceToNat]; first | done | rfl) (by simp -implicitDefEqProofs (maxSteps:=2000000) only [wk,act,asV,↓reduceIte,Nat.reduceEqDiff,reduceCtorEq,Nat.reduceAdd,Nat.reduceLeDiff,Nat.reduceSub,Nat.reduceMul,List.reduceReplicate,Int.reduceEq,Int.reduceLT,Int.reduceLE,Int.reduceAdd,Int.reduceSub,Int.reduceMul,Nat.reduceLT,Int.reduceToNat]; first | done | rfl) (.inr ⟨h0,by simp -implicitDefEqProofs (maxSteps:=2000000) only [wk,act,asV,↓reduceIte,Nat.reduceEqDiff,reduceCtorEq,Nat.reduceAdd,Nat.reduceLeDiff,Nat.reduceSub,Nat.reduceMul,List.reduceReplicate,Int.reduceEq,Int.reduceLT,Int.reduceLE,Int.reduceAdd,Int.reduceSub,Int.reduceMul,Nat.reduceLT,Int.reduceToNat]; first | done | rfl,by simp -implicitDefEqProofs (maxSteps:=2000000) only [wk,act,asV,↓reduceIte,Nat.reduceEqDiff,reduceCtorEq,Nat.reduceAdd,Nat.reduceLeDiff,Nat.reduceSub,Nat.reduceMul,List.reduceReplicate,Int.reduceEq,Int.reduceLT,Int.reduceLE,Int.reduceAdd,Int.reduceSub,Int.reduceMul,Nat.reduceLT,Int.reduceToNat]; first | done | rfl⟩)
end Go.Proofs.YtilbipknodpmmaaDoor
