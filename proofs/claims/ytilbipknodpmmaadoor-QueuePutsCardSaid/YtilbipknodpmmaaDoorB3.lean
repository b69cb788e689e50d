/- Of the table: the program's Good. -/
import Derived.Test.YtilbipknodpmmaaDoorE31
import Derived.Test.YtilbipknodpmmaaDoorM6
import Derived.Test.YtilbipknodpmmaaDoorB2
set_option linter.unusedVariables false
set_option linter.unusedSimpArgs false
set_option maxRecDepth 100000
set_option maxHeartbeats 8000000
namespace Go.Proofs.YtilbipknodpmmaaDoor
open Go.RowKit

structure VsOk (vs : List Vol) : Prop where
  len : vs.length < 2 ^ 63
  nm : ∀ v ∈ vs,v.name.length < 2 ^ 63
  bl : ∀ v ∈ vs,v.blocks.length < 2 ^ 63
theorem inB_of {b : Int} (h1 : ¬ b < 1) (h2 : ¬ 12 ≤ b) : inB b = true:=by
  simp [inB]; omega
theorem inB_no {b : Int} (h : b < 1 ∨ 12 ≤ b) : inB b = false:=by
  simp [inB]; omega
theorem not_each {vs : List Vol} {i : Nat} (hi : i < vs.length) (h : ¬ volP vs[i] = true) : goodV vs = false:=goodV_no fun g => h (g.at hi)
theorem not_bls {vs : List Vol} {i k : Nat} (hi : i < vs.length) (hk : k < vs[i].blocks.length) (h : vs[i].blocks[k] ∈ allB (vs.take i) ++ vs[i].blocks.take k) : goodV vs = false:=goodV_no fun g => by
  have hn:=g.bls
  obtain ⟨l,hl⟩:=allB_sub vs (i + 1)
  rw [hl,allB_take hi] at hn
  have hn:=(List.nodup_append.1 hn).1
  have he : vs[i].blocks = vs[i].blocks.take k ++ vs[i].blocks.drop k:=(List.take_append_drop k _).symm
  rw [he,← List.append_assoc] at hn
  have h3:=(List.nodup_append.1 hn).2.2
  rw [List.drop_eq_getElem_cons hk] at h3
  exact h3 _ h _ (List.mem_cons_self ..) rfl

theorem goodT_ok (f : Fl) (hf : f ≠ .lit) (vs : List Vol) (hv : VsOk vs) : RC Tryd.prog 54 [.sl f vs.length (vl vs)] [.bool (goodV vs)]:=by
  refine RC.of_wp c54 rfl ?_
  by_cases h3 : (3 : Int) < vs.length
  · rw [goodV_long (by omega)]
    simp -implicitDefEqProofs (maxSteps:=2000000) only [m54_1,m54_2,m54_3,m54_4,m54_5,m54_6,m54_7,m54_8,m54_9,m54_10,m54_11,m54_12,m54_13,m54_14,m54_15,m54_16,m54_17,m54_18,m54_19,m54_20,m54_r,m54_b,m54,h3,wk,act,asV,↓reduceIte,Nat.reduceEqDiff,reduceCtorEq,Nat.reduceAdd,Nat.reduceLeDiff,Nat.reduceSub,Nat.reduceMul,List.reduceReplicate,Int.reduceEq,Int.reduceLT,Int.reduceLE,Int.reduceAdd,Int.reduceSub,Int.reduceMul,Nat.reduceLT,Int.reduceToNat]
  simp -implicitDefEqProofs (maxSteps:=2000000) only [m54_1,m54_2,m54_3,m54_4,m54_5,m54_6,m54_7,m54_8,m54_9,m54_10,m54_11,m54_12,m54_13,m54_14,m54_15,m54_16,m54_17,m54_18,m54_19,m54_20,m54_r,m54_b,m54,h3,wk,act,asV,↓reduceIte,Nat.reduceEqDiff,reduceCtorEq,Nat.reduceAdd,Nat.reduceLeDiff,Nat.reduceSub,Nat.reduceMul,List.reduceReplicate,Int.reduceEq,Int.reduceLT,Int.reduceLE,Int.reduceAdd,Int.reduceSub,Int.reduceMul,Nat.reduceLT,Int.reduceToNat]
  refine Wp_loop (fun k s => ∃ i,i ≤ vs.length ∧ k = vs.length - i ∧ s.t 0 = .sl f vs.length (vl vs) ∧ s.t 11 = .sl f vs.length (vl vs) ∧ s.t 12 = .int .i64 vs.length ∧ s.t 13 = .int .i64 i ∧ GoodP (vs.take i) ∧ ((allB (vs.take i) = [] ∧ s.t 3 = .sl .full 0 []) ∨ (allB (vs.take i) ≠ [] ∧ ∃ ver,s.t 3 = .row 64 0 (allB (vs.take i)).length 1 ver ∧ s.h 64 = ⟨ver,true,true,true,il (allB (vs.take i))⟩))) vs.length ⟨0,by omega,rfl,rfl,rfl,rfl,rfl,GoodP.nil,.inl ⟨rfl,rfl⟩⟩ ?_
  rintro k s ⟨i,hi,rfl,g0,g11,g12,g13,hg,g3⟩
  by_cases hlt : i < vs.length
  · have hlt' : (i : Int) < vs.length:=by omega
    have h2 : (0 : Nat) < 2:=by omega
    have hn:=hv.nm _ (List.getElem_mem hlt)
    have cg:=good_ok .full [vs[i].name] (by simp) (by simpa using hn)
    simp only [List.all_cons,List.all_nil,Bool.and_true] at cg
    have cf:=find_ok f hf vs[i].name vs hv.len
    by_cases hnm : goodN vs[i].name = true
    · rw [hnm] at cg
      by_cases hfi : findV vs[i].name vs = (i : Nat)
      · by_cases hb1 : (vs[i].blocks.length : Int) < 1
        · rw [not_each hlt (by intro h; have:=volP_bl h; omega)]
          cases f with
          | lit => exact absurd rfl hf
          | _ => repeat' (first | simp -implicitDefEqProofs (maxSteps:=2000000) only [m54_1,m54_2,m54_3,m54_4,m54_5,m54_6,m54_7,m54_8,m54_9,m54_10,m54_11,m54_12,m54_13,m54_14,m54_15,m54_16,m54_17,m54_18,m54_19,m54_20,m54_r,m54_b,m54,g0,g11,g12,g13,hlt',hlt,h2,drop_vl hlt,vl_length,hfi,hb1,wk,act,asV,↓reduceIte,Nat.reduceEqDiff,reduceCtorEq,Nat.reduceAdd,Nat.reduceLeDiff,Nat.reduceSub,Nat.reduceMul,List.reduceReplicate,Int.reduceEq,Int.reduceLT,Int.reduceLE,Int.reduceAdd,Int.reduceSub,Int.reduceMul,Nat.reduceLT,Int.reduceToNat] | ((first | ((with_reducible refine CallL.gate ?_); apply CallL.of) | ((with_reducible refine CallP.gate ?_); apply CallP.of)); (case h1 => (simp -implicitDefEqProofs (maxSteps:=2000000) only [m54_1,m54_2,m54_3,m54_4,m54_5,m54_6,m54_7,m54_8,m54_9,m54_10,m54_11,m54_12,m54_13,m54_14,m54_15,m54_16,m54_17,m54_18,m54_19,m54_20,m54_r,m54_b,m54,g0,g11,g12,g13,hlt',hlt,h2,drop_vl hlt,vl_length,hfi,hb1,wk,act,asV,↓reduceIte,Nat.reduceEqDiff,reduceCtorEq,Nat.reduceAdd,Nat.reduceLeDiff,Nat.reduceSub,Nat.reduceMul,List.reduceReplicate,Int.reduceEq,Int.reduceLT,Int.reduceLE,Int.reduceAdd,Int.reduceSub,Int.reduceMul,Nat.reduceLT,Int.reduceToNat]; first | done | (with_reducible rfl))); (case h2 => (first | exact cg | exact cf)); (case h3 => simp -implicitDefEqProofs (maxSteps:=2000000) only [m54_1,m54_2,m54_3,m54_4,m54_5,m54_6,m54_7,m54_8,m54_9,m54_10,m54_11,m54_12,m54_13,m54_14,m54_15,m54_16,m54_17,m54_18,m54_19,m54_20,m54_r,m54_b,m54,g0,g11,g12,g13,hlt',hlt,h2,drop_vl hlt,vl_length,hfi,hb1,wk,act,asV,↓reduceIte,Nat.reduceEqDiff,reduceCtorEq,Nat.reduceAdd,Nat.reduceLeDiff,Nat.reduceSub,Nat.reduceMul,List.reduceReplicate,Int.reduceEq,Int.reduceLT,Int.reduceLE,Int.reduceAdd,Int.reduceSub,Int.reduceMul,Nat.reduceLT,Int.reduceToNat])))
        by_cases hb4 : (4 : Int) < vs[i].blocks.length
        · rw [not_each hlt (by intro h; have:=volP_bl h; omega)]
          cases f with
          | lit => exact absurd rfl hf
          | _ => repeat' (first | simp -implicitDefEqProofs (maxSteps:=2000000) only [m54_1,m54_2,m54_3,m54_4,m54_5,m54_6,m54_7,m54_8,m54_9,m54_10,m54_11,m54_12,m54_13,m54_14,m54_15,m54_16,m54_17,m54_18,m54_19,m54_20,m54_r,m54_b,m54,g0,g11,g12,g13,hlt',hlt,h2,drop_vl hlt,vl_length,hfi,hb1,hb4,wk,act,asV,↓reduceIte,Nat.reduceEqDiff,reduceCtorEq,Nat.reduceAdd,Nat.reduceLeDiff,Nat.reduceSub,Nat.reduceMul,List.reduceReplicate,Int.reduceEq,Int.reduceLT,Int.reduceLE,Int.reduceAdd,Int.reduceSub,Int.reduceMul,Nat.reduceLT,Int.reduceToNat] | ((first | ((with_reducible refine CallL.gate ?_); apply CallL.of) | ((with_reducible refine CallP.gate ?_); apply CallP.of)); (case h1 => (simp -implicitDefEqProofs (maxSteps:=2000000) only [m54_1,m54_2,m54_3,m54_4,m54_5,m54_6,m54_7,m54_8,m54_9,m54_10,m54_11,m54_12,m54_13,m54_14,m54_15,m54_16,m54_17,m54_18,m54_19,m54_20,m54_r,m54_b,m54,g0,g11,g12,g13,hlt',hlt,h2,drop_vl hlt,vl_length,hfi,hb1,hb4,wk,act,asV,↓reduceIte,Nat.reduceEqDiff,reduceCtorEq,Nat.reduceAdd,Nat.reduceLeDiff,Nat.reduceSub,Nat.reduceMul,List.reduceReplicate,Int.reduceEq,Int.reduceLT,Int.reduceLE,Int.reduceAdd,Int.reduceSub,Int.reduceMul,Nat.reduceLT,Int.reduceToNat]; first | done | (with_reducible rfl))); (case h2 => (first | exact cg | exact cf)); (case h3 => simp -implicitDefEqProofs (maxSteps:=2000000) only [m54_1,m54_2,m54_3,m54_4,m54_5,m54_6,m54_7,m54_8,m54_9,m54_10,m54_11,m54_12,m54_13,m54_14,m54_15,m54_16,m54_17,m54_18,m54_19,m54_20,m54_r,m54_b,m54,g0,g11,g12,g13,hlt',hlt,h2,drop_vl hlt,vl_length,hfi,hb1,hb4,wk,act,asV,↓reduceIte,Nat.reduceEqDiff,reduceCtorEq,Nat.reduceAdd,Nat.reduceLeDiff,Nat.reduceSub,Nat.reduceMul,List.reduceReplicate,Int.reduceEq,Int.reduceLT,Int.reduceLE,Int.reduceAdd,Int.reduceSub,Int.reduceMul,Nat.reduceLT,Int.reduceToNat])))
        have hfr:=find_fresh hlt hfi
        have inner : ∀ (Q : Ex → St → Prop) (s1 : St),(∀ s2 : St,s2.t 0 = .sl f vs.length (vl vs) → s2.t 11 = .sl f vs.length (vl vs) → s2.t 12 = .int .i64 vs.length → s2.t 13 = .int .i64 i → GoodP (vs.take (i + 1)) → (allB (vs.take (i + 1)) ≠ [] ∧ ∃ ver,s2.t 3 = .row 64 0 (allB (vs.take (i + 1))).length 1 ver ∧ s2.h 64 = ⟨ver,true,true,true,il (allB (vs.take (i + 1)))⟩) → Q (.exit 2) s2) →
            (goodV vs = false → ∀ s2 : St,s2.t 2 = .bool false → Q .ret s2) →
            s1.t 0 = .sl f vs.length (vl vs) → s1.t 11 = .sl f vs.length (vl vs) → s1.t 12 = .int .i64 vs.length → s1.t 13 = .int .i64 i → s1.t 44 = .sl .plain vs[i].blocks.length (il vs[i].blocks) → s1.t 45 = .int .i64 vs[i].blocks.length → s1.t 46 = .int .i64 0 →
            ((allB (vs.take i) = [] ∧ s1.t 3 = .sl .full 0 []) ∨ (allB (vs.take i) ≠ [] ∧ ∃ ver,s1.t 3 = .row 64 0 (allB (vs.take i)).length 1 ver ∧ s1.h 64 = ⟨ver,true,true,true,il (allB (vs.take i))⟩)) →
            Wp (RCs Tryd.prog) (.loop m54_10) Q s1:=by
          intro Q s1 q1 q2 k0 k11 k12 k13 k44 k45 k46 k3
          refine Wp_loop (fun m s => ∃ j,j ≤ vs[i].blocks.length ∧ m = vs[i].blocks.length - j ∧ s.t 0 = .sl f vs.length (vl vs) ∧ s.t 11 = .sl f vs.length (vl vs) ∧ s.t 12 = .int .i64 vs.length ∧ s.t 13 = .int .i64 i ∧ s.t 44 = .sl .plain vs[i].blocks.length (il vs[i].blocks) ∧ s.t 45 = .int .i64 vs[i].blocks.length ∧ s.t 46 = .int .i64 j ∧ (vs[i].blocks.take j).all inB = true ∧ (allB (vs.take i) ++ vs[i].blocks.take j).Nodup ∧ ((allB (vs.take i) ++ vs[i].blocks.take j = [] ∧ s.t 3 = .sl .full 0 []) ∨ (allB (vs.take i) ++ vs[i].blocks.take j ≠ [] ∧ ∃ ver,s.t 3 = .row 64 0 (allB (vs.take i) ++ vs[i].blocks.take j).length 1 ver ∧ s.h 64 = ⟨ver,true,true,true,il (allB (vs.take i) ++ vs[i].blocks.take j)⟩))) vs[i].blocks.length ⟨0,by omega,rfl,k0,k11,k12,k13,k44,k45,k46,rfl,by simpa using hg.bls,by simpa using k3⟩ ?_
          clear k0 k11 k12 k13 k44 k45 k46 k3 g0 g11 g12 g13 g3 s1
          rintro m s ⟨j,hj,rfl,k0,k11,k12,k13,k44,k45,k46,hin,hnd,k3⟩
          by_cases hjl : j < vs[i].blocks.length
          · have hjl' : (j : Int) < vs[i].blocks.length:=by omega
            by_cases hx1 : vs[i].blocks[j] < 1
            · have hno : goodV vs = false:=not_each hlt (by
                intro h
                have:=List.all_eq_true.1 (volP_bl h).2.2.2 _ (List.getElem_mem hjl)
                rw [inB_no (.inl hx1)] at this; cases this)
              simp -implicitDefEqProofs (maxSteps:=2000000) only [k44,k45,k46,hjl',hjl,drop_il hjl,hx1,m54_1,m54_2,m54_3,m54_4,m54_5,m54_6,m54_7,m54_8,m54_9,m54_10,m54_11,m54_12,m54_13,m54_14,m54_15,m54_16,m54_17,m54_18,m54_19,m54_20,m54_r,m54_b,m54,wk,act,asV,↓reduceIte,Nat.reduceEqDiff,reduceCtorEq,Nat.reduceAdd,Nat.reduceLeDiff,Nat.reduceSub,Nat.reduceMul,List.reduceReplicate,Int.reduceEq,Int.reduceLT,Int.reduceLE,Int.reduceAdd,Int.reduceSub,Int.reduceMul,Nat.reduceLT,Int.reduceToNat]
              exact q2 hno _ (by simp -implicitDefEqProofs (maxSteps:=2000000) only [wk,act,asV,↓reduceIte,Nat.reduceEqDiff,reduceCtorEq,Nat.reduceAdd,Nat.reduceLeDiff,Nat.reduceSub,Nat.reduceMul,List.reduceReplicate,Int.reduceEq,Int.reduceLT,Int.reduceLE,Int.reduceAdd,Int.reduceSub,Int.reduceMul,Nat.reduceLT,Int.reduceToNat])
            by_cases hx2 : 12 ≤ vs[i].blocks[j]
            · have hno : goodV vs = false:=not_each hlt (by
                intro h
                have:=List.all_eq_true.1 (volP_bl h).2.2.2 _ (List.getElem_mem hjl)
                rw [inB_no (.inr hx2)] at this; cases this)
              simp -implicitDefEqProofs (maxSteps:=2000000) only [k44,k45,k46,hjl',hjl,drop_il hjl,hx1,hx2,m54_1,m54_2,m54_3,m54_4,m54_5,m54_6,m54_7,m54_8,m54_9,m54_10,m54_11,m54_12,m54_13,m54_14,m54_15,m54_16,m54_17,m54_18,m54_19,m54_20,m54_r,m54_b,m54,wk,act,asV,↓reduceIte,Nat.reduceEqDiff,reduceCtorEq,Nat.reduceAdd,Nat.reduceLeDiff,Nat.reduceSub,Nat.reduceMul,List.reduceReplicate,Int.reduceEq,Int.reduceLT,Int.reduceLE,Int.reduceAdd,Int.reduceSub,Int.reduceMul,Nat.reduceLT,Int.reduceToNat]
              exact q2 hno _ (by simp -implicitDefEqProofs (maxSteps:=2000000) only [wk,act,asV,↓reduceIte,Nat.reduceEqDiff,reduceCtorEq,Nat.reduceAdd,Nat.reduceLeDiff,Nat.reduceSub,Nat.reduceMul,List.reduceReplicate,Int.reduceEq,Int.reduceLT,Int.reduceLE,Int.reduceAdd,Int.reduceSub,Int.reduceMul,Nat.reduceLT,Int.reduceToNat])
            have hin' : (vs[i].blocks.take (j + 1)).all inB = true:=by
              rw [List.take_succ_eq_append_getElem hjl,List.all_append,hin]
              simp [inB_of hx1 hx2]
            have hll : (allB (vs.take i) ++ vs[i].blocks.take j).length ≤ 16:=by
              have h1:=allB_le hg.each
              rw [List.length_append,List.length_take]
              rw [List.length_take] at h1
              omega
            have etk : allB (vs.take i) ++ vs[i].blocks.take (j + 1) = (allB (vs.take i) ++ vs[i].blocks.take j) ++ [vs[i].blocks[j]]:=by
              rw [List.take_succ_eq_append_getElem hjl,List.append_assoc]
            obtain ⟨L,hL⟩ : ∃ L,L = allB (vs.take i) ++ vs[i].blocks.take j:=⟨_,rfl⟩
            by_cases hm : vs[i].blocks[j] ∈ L
            · have hno : goodV vs = false:=not_bls hlt hjl (by rw [← hL]; exact hm)
              rw [← hL] at k3 hll
              rcases k3 with ⟨e0,k3⟩ | ⟨e0,ver,k3,kh⟩
              · rw [e0] at hm; cases hm
              · have cc:=contains52_ok .plain (by decide) L vs[i].blocks[j] (by omega)
                rw [decide_eq_true hm] at cc
                repeat' (first | simp -implicitDefEqProofs (maxSteps:=2000000) only [k3,kh,k44,k45,k46,hjl',hjl,drop_il hjl,hx1,hx2,take_il,m54_1,m54_2,m54_3,m54_4,m54_5,m54_6,m54_7,m54_8,m54_9,m54_10,m54_11,m54_12,m54_13,m54_14,m54_15,m54_16,m54_17,m54_18,m54_19,m54_20,m54_r,m54_b,m54,wk,act,asV,↓reduceIte,Nat.reduceEqDiff,reduceCtorEq,Nat.reduceAdd,Nat.reduceLeDiff,Nat.reduceSub,Nat.reduceMul,List.reduceReplicate,Int.reduceEq,Int.reduceLT,Int.reduceLE,Int.reduceAdd,Int.reduceSub,Int.reduceMul,Nat.reduceLT,Int.reduceToNat] | ((first | ((with_reducible refine CallL.gate ?_); apply CallL.of) | ((with_reducible refine CallP.gate ?_); apply CallP.of)); (case h1 => (simp -implicitDefEqProofs (maxSteps:=2000000) only [k3,kh,k44,k45,k46,hjl',hjl,drop_il hjl,hx1,hx2,take_il,m54_1,m54_2,m54_3,m54_4,m54_5,m54_6,m54_7,m54_8,m54_9,m54_10,m54_11,m54_12,m54_13,m54_14,m54_15,m54_16,m54_17,m54_18,m54_19,m54_20,m54_r,m54_b,m54,wk,act,asV,↓reduceIte,Nat.reduceEqDiff,reduceCtorEq,Nat.reduceAdd,Nat.reduceLeDiff,Nat.reduceSub,Nat.reduceMul,List.reduceReplicate,Int.reduceEq,Int.reduceLT,Int.reduceLE,Int.reduceAdd,Int.reduceSub,Int.reduceMul,Nat.reduceLT,Int.reduceToNat]; first | done | (with_reducible rfl))); (case h2 => (first | exact cc)); (case h3 => simp -implicitDefEqProofs (maxSteps:=2000000) only [k3,kh,k44,k45,k46,hjl',hjl,drop_il hjl,hx1,hx2,take_il,m54_1,m54_2,m54_3,m54_4,m54_5,m54_6,m54_7,m54_8,m54_9,m54_10,m54_11,m54_12,m54_13,m54_14,m54_15,m54_16,m54_17,m54_18,m54_19,m54_20,m54_r,m54_b,m54,wk,act,asV,↓reduceIte,Nat.reduceEqDiff,reduceCtorEq,Nat.reduceAdd,Nat.reduceLeDiff,Nat.reduceSub,Nat.reduceMul,List.reduceReplicate,Int.reduceEq,Int.reduceLT,Int.reduceLE,Int.reduceAdd,Int.reduceSub,Int.reduceMul,Nat.reduceLT,Int.reduceToNat])))
                exact q2 hno _ (by simp -implicitDefEqProofs (maxSteps:=2000000) only [wk,act,asV,↓reduceIte,Nat.reduceEqDiff,reduceCtorEq,Nat.reduceAdd,Nat.reduceLeDiff,Nat.reduceSub,Nat.reduceMul,List.reduceReplicate,Int.reduceEq,Int.reduceLT,Int.reduceLE,Int.reduceAdd,Int.reduceSub,Int.reduceMul,Nat.reduceLT,Int.reduceToNat])
            · have hnd' : (allB (vs.take i) ++ vs[i].blocks.take (j + 1)).Nodup:=by
                rw [etk]; exact nodup_snoc hnd (by rw [← hL]; exact hm)
              rw [← hL] at k3 hll etk
              rcases k3 with ⟨e0,k3⟩ | ⟨e0,ver,k3,kh⟩
              · have cc:=contains52_ok .full (by decide) [] vs[i].blocks[j] (by decide)
                rw [decide_eq_false (by simp)] at cc
                have hr : roomy 1 8 = true:=by decide
                repeat' (first | simp -implicitDefEqProofs (maxSteps:=2000000) only [k0,k11,k12,k13,k3,k44,k45,k46,hjl',hjl,drop_il hjl,hx1,hx2,hr,m54_1,m54_2,m54_3,m54_4,m54_5,m54_6,m54_7,m54_8,m54_9,m54_10,m54_11,m54_12,m54_13,m54_14,m54_15,m54_16,m54_17,m54_18,m54_19,m54_20,m54_r,m54_b,m54,wrap_nat (show j < 2 ^ 63 - 1 by have:=hv.bl _ (List.getElem_mem hlt); omega),wk,act,asV,↓reduceIte,Nat.reduceEqDiff,reduceCtorEq,Nat.reduceAdd,Nat.reduceLeDiff,Nat.reduceSub,Nat.reduceMul,List.reduceReplicate,Int.reduceEq,Int.reduceLT,Int.reduceLE,Int.reduceAdd,Int.reduceSub,Int.reduceMul,Nat.reduceLT,Int.reduceToNat] | ((first | ((with_reducible refine CallL.gate ?_); apply CallL.of) | ((with_reducible refine CallP.gate ?_); apply CallP.of)); (case h1 => (simp -implicitDefEqProofs (maxSteps:=2000000) only [k0,k11,k12,k13,k3,k44,k45,k46,hjl',hjl,drop_il hjl,hx1,hx2,hr,m54_1,m54_2,m54_3,m54_4,m54_5,m54_6,m54_7,m54_8,m54_9,m54_10,m54_11,m54_12,m54_13,m54_14,m54_15,m54_16,m54_17,m54_18,m54_19,m54_20,m54_r,m54_b,m54,wrap_nat (show j < 2 ^ 63 - 1 by have:=hv.bl _ (List.getElem_mem hlt); omega),wk,act,asV,↓reduceIte,Nat.reduceEqDiff,reduceCtorEq,Nat.reduceAdd,Nat.reduceLeDiff,Nat.reduceSub,Nat.reduceMul,List.reduceReplicate,Int.reduceEq,Int.reduceLT,Int.reduceLE,Int.reduceAdd,Int.reduceSub,Int.reduceMul,Nat.reduceLT,Int.reduceToNat]; first | done | (with_reducible rfl))); (case h2 => (first | exact cc)); (case h3 => simp -implicitDefEqProofs (maxSteps:=2000000) only [k0,k11,k12,k13,k3,k44,k45,k46,hjl',hjl,drop_il hjl,hx1,hx2,hr,m54_1,m54_2,m54_3,m54_4,m54_5,m54_6,m54_7,m54_8,m54_9,m54_10,m54_11,m54_12,m54_13,m54_14,m54_15,m54_16,m54_17,m54_18,m54_19,m54_20,m54_r,m54_b,m54,wrap_nat (show j < 2 ^ 63 - 1 by have:=hv.bl _ (List.getElem_mem hlt); omega),wk,act,asV,↓reduceIte,Nat.reduceEqDiff,reduceCtorEq,Nat.reduceAdd,Nat.reduceLeDiff,Nat.reduceSub,Nat.reduceMul,List.reduceReplicate,Int.reduceEq,Int.reduceLT,Int.reduceLE,Int.reduceAdd,Int.reduceSub,Int.reduceMul,Nat.reduceLT,Int.reduceToNat])))
                refine ⟨vs[i].blocks.length - (j + 1),by omega,j + 1,by omega,rfl,rfl,hin',hnd',?_⟩
                rw [etk,e0]
                exact ⟨by simp,_,rfl,rfl⟩
              · have cc:=contains52_ok .plain (by decide) L vs[i].blocks[j] (by omega)
                rw [decide_eq_false hm] at cc
                have hr : roomy (L.length + 1) 8 = true:=roomy8 (by omega)
                repeat' (first | simp -implicitDefEqProofs (maxSteps:=2000000) only [k0,k11,k12,k13,k3,kh,k44,k45,k46,hjl',hjl,drop_il hjl,hx1,hx2,hr,take_il,il_length,m54_1,m54_2,m54_3,m54_4,m54_5,m54_6,m54_7,m54_8,m54_9,m54_10,m54_11,m54_12,m54_13,m54_14,m54_15,m54_16,m54_17,m54_18,m54_19,m54_20,m54_r,m54_b,m54,wrap_nat (show j < 2 ^ 63 - 1 by have:=hv.bl _ (List.getElem_mem hlt); omega),wk,act,asV,↓reduceIte,Nat.reduceEqDiff,reduceCtorEq,Nat.reduceAdd,Nat.reduceLeDiff,Nat.reduceSub,Nat.reduceMul,List.reduceReplicate,Int.reduceEq,Int.reduceLT,Int.reduceLE,Int.reduceAdd,Int.reduceSub,Int.reduceMul,Nat.reduceLT,Int.reduceToNat] | ((first | ((with_reducible refine CallL.gate ?_); apply CallL.of) | ((with_reducible refine CallP.gate ?_); apply CallP.of)); (case h1 => (simp -implicitDefEqProofs (maxSteps:=2000000) only [k0,k11,k12,k13,k3,kh,k44,k45,k46,hjl',hjl,drop_il hjl,hx1,hx2,hr,take_il,il_length,m54_1,m54_2,m54_3,m54_4,m54_5,m54_6,m54_7,m54_8,m54_9,m54_10,m54_11,m54_12,m54_13,m54_14,m54_15,m54_16,m54_17,m54_18,m54_19,m54_20,m54_r,m54_b,m54,wrap_nat (show j < 2 ^ 63 - 1 by have:=hv.bl _ (List.getElem_mem hlt); omega),wk,act,asV,↓reduceIte,Nat.reduceEqDiff,reduceCtorEq,Nat.reduceAdd,Nat.reduceLeDiff,Nat.reduceSub,Nat.reduceMul,List.reduceReplicate,Int.reduceEq,Int.reduceLT,Int.reduceLE,Int.reduceAdd,Int.reduceSub,Int.reduceMul,Nat.reduceLT,Int.reduceToNat]; first | done | (with_reducible rfl))); (case h2 => (first | exact cc)); (case h3 => simp -implicitDefEqProofs (maxSteps:=2000000) only [k0,k11,k12,k13,k3,kh,k44,k45,k46,hjl',hjl,drop_il hjl,hx1,hx2,hr,take_il,il_length,m54_1,m54_2,m54_3,m54_4,m54_5,m54_6,m54_7,m54_8,m54_9,m54_10,m54_11,m54_12,m54_13,m54_14,m54_15,m54_16,m54_17,m54_18,m54_19,m54_20,m54_r,m54_b,m54,wrap_nat (show j < 2 ^ 63 - 1 by have:=hv.bl _ (List.getElem_mem hlt); omega),wk,act,asV,↓reduceIte,Nat.reduceEqDiff,reduceCtorEq,Nat.reduceAdd,Nat.reduceLeDiff,Nat.reduceSub,Nat.reduceMul,List.reduceReplicate,Int.reduceEq,Int.reduceLT,Int.reduceLE,Int.reduceAdd,Int.reduceSub,Int.reduceMul,Nat.reduceLT,Int.reduceToNat])))
                refine ⟨vs[i].blocks.length - (j + 1),by omega,j + 1,by omega,rfl,rfl,hin',hnd',?_⟩
                rw [etk,List.length_append]
                refine ⟨by simp,_,rfl,?_⟩
                rw [il_snoc]
          · have hje : j = vs[i].blocks.length:=by omega
            have hjl' : ¬ (j : Int) < vs[i].blocks.length:=by omega
            rw [hje,List.take_length,← allB_take hlt] at hnd k3
            rw [hje,List.take_length] at hin
            have hg' : GoodP (vs.take (i + 1)):=by
              refine ⟨?_,?_,hnd⟩
              · rw [List.take_succ_eq_append_getElem hlt,List.all_append,hg.each]
                simp only [List.all_cons,List.all_nil,Bool.and_true,Bool.true_and]
                exact volP_of hnm (by omega) (by omega) hin
              · rw [nmsV_take hlt]; exact nodup_snoc hg.nms hfr
            have hne : allB (vs.take (i + 1)) ≠ []:=by
              rw [allB_take hlt]
              intro h
              have:=(List.append_eq_nil_iff.1 h).2
              rw [this] at hb1
              simp at hb1
            rcases k3 with ⟨e0,_⟩ | ⟨e0,ver,k3,kh⟩
            · exact absurd e0 hne
            · simp -implicitDefEqProofs (maxSteps:=2000000) only [k44,k45,k46,hjl',m54_1,m54_2,m54_3,m54_4,m54_5,m54_6,m54_7,m54_8,m54_9,m54_10,m54_11,m54_12,m54_13,m54_14,m54_15,m54_16,m54_17,m54_18,m54_19,m54_20,m54_r,m54_b,m54,wk,act,asV,↓reduceIte,Nat.reduceEqDiff,reduceCtorEq,Nat.reduceAdd,Nat.reduceLeDiff,Nat.reduceSub,Nat.reduceMul,List.reduceReplicate,Int.reduceEq,Int.reduceLT,Int.reduceLE,Int.reduceAdd,Int.reduceSub,Int.reduceMul,Nat.reduceLT,Int.reduceToNat]
              exact q1 _ (by simp -implicitDefEqProofs (maxSteps:=2000000) only [k0,wk,act,asV,↓reduceIte,Nat.reduceEqDiff,reduceCtorEq,Nat.reduceAdd,Nat.reduceLeDiff,Nat.reduceSub,Nat.reduceMul,List.reduceReplicate,Int.reduceEq,Int.reduceLT,Int.reduceLE,Int.reduceAdd,Int.reduceSub,Int.reduceMul,Nat.reduceLT,Int.reduceToNat]) (by simp -implicitDefEqProofs (maxSteps:=2000000) only [k11,wk,act,asV,↓reduceIte,Nat.reduceEqDiff,reduceCtorEq,Nat.reduceAdd,Nat.reduceLeDiff,Nat.reduceSub,Nat.reduceMul,List.reduceReplicate,Int.reduceEq,Int.reduceLT,Int.reduceLE,Int.reduceAdd,Int.reduceSub,Int.reduceMul,Nat.reduceLT,Int.reduceToNat]) (by simp -implicitDefEqProofs (maxSteps:=2000000) only [k12,wk,act,asV,↓reduceIte,Nat.reduceEqDiff,reduceCtorEq,Nat.reduceAdd,Nat.reduceLeDiff,Nat.reduceSub,Nat.reduceMul,List.reduceReplicate,Int.reduceEq,Int.reduceLT,Int.reduceLE,Int.reduceAdd,Int.reduceSub,Int.reduceMul,Nat.reduceLT,Int.reduceToNat]) (by simp -implicitDefEqProofs (maxSteps:=2000000) only [k13,wk,act,asV,↓reduceIte,Nat.reduceEqDiff,reduceCtorEq,Nat.reduceAdd,Nat.reduceLeDiff,Nat.reduceSub,Nat.reduceMul,List.reduceReplicate,Int.reduceEq,Int.reduceLT,Int.reduceLE,Int.reduceAdd,Int.reduceSub,Int.reduceMul,Nat.reduceLT,Int.reduceToNat]) hg' ⟨hne,ver,by simp -implicitDefEqProofs (maxSteps:=2000000) only [k3,wk,act,asV,↓reduceIte,Nat.reduceEqDiff,reduceCtorEq,Nat.reduceAdd,Nat.reduceLeDiff,Nat.reduceSub,Nat.reduceMul,List.reduceReplicate,Int.reduceEq,Int.reduceLT,Int.reduceLE,Int.reduceAdd,Int.reduceSub,Int.reduceMul,Nat.reduceLT,Int.reduceToNat],by simp -implicitDefEqProofs (maxSteps:=2000000) only [kh,wk,act,asV,↓reduceIte,Nat.reduceEqDiff,reduceCtorEq,Nat.reduceAdd,Nat.reduceLeDiff,Nat.reduceSub,Nat.reduceMul,List.reduceReplicate,Int.reduceEq,Int.reduceLT,Int.reduceLE,Int.reduceAdd,Int.reduceSub,Int.reduceMul,Nat.reduceLT,Int.reduceToNat]⟩
        cases f with
        | lit => exact absurd rfl hf
        | _ =>
          repeat' (first | simp -implicitDefEqProofs (maxSteps:=2000000) only [m54_11,m54_12,m54_13,m54_14,m54_15,m54_16,m54_2,m54_3,m54_4,g0,g11,g12,g13,hlt',hlt,h2,drop_vl hlt,vl_length,hfi,hb1,hb4,wk,act,asV,↓reduceIte,Nat.reduceEqDiff,reduceCtorEq,Nat.reduceAdd,Nat.reduceLeDiff,Nat.reduceSub,Nat.reduceMul,List.reduceReplicate,Int.reduceEq,Int.reduceLT,Int.reduceLE,Int.reduceAdd,Int.reduceSub,Int.reduceMul,Nat.reduceLT,Int.reduceToNat] | ((first | ((with_reducible refine CallL.gate ?_); apply CallL.of) | ((with_reducible refine CallP.gate ?_); apply CallP.of)); (case h1 => (simp -implicitDefEqProofs (maxSteps:=2000000) only [m54_11,m54_12,m54_13,m54_14,m54_15,m54_16,m54_2,m54_3,m54_4,g0,g11,g12,g13,hlt',hlt,h2,drop_vl hlt,vl_length,hfi,hb1,hb4,wk,act,asV,↓reduceIte,Nat.reduceEqDiff,reduceCtorEq,Nat.reduceAdd,Nat.reduceLeDiff,Nat.reduceSub,Nat.reduceMul,List.reduceReplicate,Int.reduceEq,Int.reduceLT,Int.reduceLE,Int.reduceAdd,Int.reduceSub,Int.reduceMul,Nat.reduceLT,Int.reduceToNat]; first | done | (with_reducible rfl))); (case h2 => (first | exact cg | exact cf)); (case h3 => simp -implicitDefEqProofs (maxSteps:=2000000) only [m54_11,m54_12,m54_13,m54_14,m54_15,m54_16,m54_2,m54_3,m54_4,g0,g11,g12,g13,hlt',hlt,h2,drop_vl hlt,vl_length,hfi,hb1,hb4,wk,act,asV,↓reduceIte,Nat.reduceEqDiff,reduceCtorEq,Nat.reduceAdd,Nat.reduceLeDiff,Nat.reduceSub,Nat.reduceMul,List.reduceReplicate,Int.reduceEq,Int.reduceLT,Int.reduceLE,Int.reduceAdd,Int.reduceSub,Int.reduceMul,Nat.reduceLT,Int.reduceToNat])))
          refine inner _ _ ?_ ?_ (by simp -implicitDefEqProofs (maxSteps:=2000000) only [g0,wk,act,asV,↓reduceIte,Nat.reduceEqDiff,reduceCtorEq,Nat.reduceAdd,Nat.reduceLeDiff,Nat.reduceSub,Nat.reduceMul,List.reduceReplicate,Int.reduceEq,Int.reduceLT,Int.reduceLE,Int.reduceAdd,Int.reduceSub,Int.reduceMul,Nat.reduceLT,Int.reduceToNat]) (by simp -implicitDefEqProofs (maxSteps:=2000000) only [g11,wk,act,asV,↓reduceIte,Nat.reduceEqDiff,reduceCtorEq,Nat.reduceAdd,Nat.reduceLeDiff,Nat.reduceSub,Nat.reduceMul,List.reduceReplicate,Int.reduceEq,Int.reduceLT,Int.reduceLE,Int.reduceAdd,Int.reduceSub,Int.reduceMul,Nat.reduceLT,Int.reduceToNat]) (by simp -implicitDefEqProofs (maxSteps:=2000000) only [g12,wk,act,asV,↓reduceIte,Nat.reduceEqDiff,reduceCtorEq,Nat.reduceAdd,Nat.reduceLeDiff,Nat.reduceSub,Nat.reduceMul,List.reduceReplicate,Int.reduceEq,Int.reduceLT,Int.reduceLE,Int.reduceAdd,Int.reduceSub,Int.reduceMul,Nat.reduceLT,Int.reduceToNat]) (by simp -implicitDefEqProofs (maxSteps:=2000000) only [g13,wk,act,asV,↓reduceIte,Nat.reduceEqDiff,reduceCtorEq,Nat.reduceAdd,Nat.reduceLeDiff,Nat.reduceSub,Nat.reduceMul,List.reduceReplicate,Int.reduceEq,Int.reduceLT,Int.reduceLE,Int.reduceAdd,Int.reduceSub,Int.reduceMul,Nat.reduceLT,Int.reduceToNat]) (by simp -implicitDefEqProofs (maxSteps:=2000000) only [wk,act,asV,↓reduceIte,Nat.reduceEqDiff,reduceCtorEq,Nat.reduceAdd,Nat.reduceLeDiff,Nat.reduceSub,Nat.reduceMul,List.reduceReplicate,Int.reduceEq,Int.reduceLT,Int.reduceLE,Int.reduceAdd,Int.reduceSub,Int.reduceMul,Nat.reduceLT,Int.reduceToNat]) (by simp -implicitDefEqProofs (maxSteps:=2000000) only [wk,act,asV,↓reduceIte,Nat.reduceEqDiff,reduceCtorEq,Nat.reduceAdd,Nat.reduceLeDiff,Nat.reduceSub,Nat.reduceMul,List.reduceReplicate,Int.reduceEq,Int.reduceLT,Int.reduceLE,Int.reduceAdd,Int.reduceSub,Int.reduceMul,Nat.reduceLT,Int.reduceToNat]) (by simp -implicitDefEqProofs (maxSteps:=2000000) only [wk,act,asV,↓reduceIte,Nat.reduceEqDiff,reduceCtorEq,Nat.reduceAdd,Nat.reduceLeDiff,Nat.reduceSub,Nat.reduceMul,List.reduceReplicate,Int.reduceEq,Int.reduceLT,Int.reduceLE,Int.reduceAdd,Int.reduceSub,Int.reduceMul,Nat.reduceLT,Int.reduceToNat]) (by simp -implicitDefEqProofs (maxSteps:=2000000) only [wk,act,asV,↓reduceIte,Nat.reduceEqDiff,reduceCtorEq,Nat.reduceAdd,Nat.reduceLeDiff,Nat.reduceSub,Nat.reduceMul,List.reduceReplicate,Int.reduceEq,Int.reduceLT,Int.reduceLE,Int.reduceAdd,Int.reduceSub,Int.reduceMul,Nat.reduceLT,Int.reduceToNat]; exact g3)
          · intro s2 p0 p11 p12 p13 pg p3
            simp -implicitDefEqProofs (maxSteps:=2000000) only [p0,p11,p12,p13,wrap_nat (show i < 2 ^ 63 - 1 by omega),wk,act,asV,↓reduceIte,Nat.reduceEqDiff,reduceCtorEq,Nat.reduceAdd,Nat.reduceLeDiff,Nat.reduceSub,Nat.reduceMul,List.reduceReplicate,Int.reduceEq,Int.reduceLT,Int.reduceLE,Int.reduceAdd,Int.reduceSub,Int.reduceMul,Nat.reduceLT,Int.reduceToNat]
            exact ⟨vs.length - (i + 1),by omega,i + 1,by omega,rfl,rfl,pg,.inr p3⟩
          · intro hno s2 p2
            rw [hno]
            simp -implicitDefEqProofs (maxSteps:=2000000) only [p2,wk,act,asV,↓reduceIte,Nat.reduceEqDiff,reduceCtorEq,Nat.reduceAdd,Nat.reduceLeDiff,Nat.reduceSub,Nat.reduceMul,List.reduceReplicate,Int.reduceEq,Int.reduceLT,Int.reduceLE,Int.reduceAdd,Int.reduceSub,Int.reduceMul,Nat.reduceLT,Int.reduceToNat]
      · have hno : goodV vs = false:=goodV_no fun g => hfi (find_self_nodup hlt g.nms)
        rw [hno]
        have hfi:=eq_false hfi
        cases f with
        | lit => exact absurd rfl hf
        | _ => repeat' (first | simp -implicitDefEqProofs (maxSteps:=2000000) only [m54_1,m54_2,m54_3,m54_4,m54_5,m54_6,m54_7,m54_8,m54_9,m54_10,m54_11,m54_12,m54_13,m54_14,m54_15,m54_16,m54_17,m54_18,m54_19,m54_20,m54_r,m54_b,m54,g0,g11,g12,g13,hlt',hlt,h2,drop_vl hlt,vl_length,hfi,wk,act,asV,↓reduceIte,Nat.reduceEqDiff,reduceCtorEq,Nat.reduceAdd,Nat.reduceLeDiff,Nat.reduceSub,Nat.reduceMul,List.reduceReplicate,Int.reduceEq,Int.reduceLT,Int.reduceLE,Int.reduceAdd,Int.reduceSub,Int.reduceMul,Nat.reduceLT,Int.reduceToNat] | ((first | ((with_reducible refine CallL.gate ?_); apply CallL.of) | ((with_reducible refine CallP.gate ?_); apply CallP.of)); (case h1 => (simp -implicitDefEqProofs (maxSteps:=2000000) only [m54_1,m54_2,m54_3,m54_4,m54_5,m54_6,m54_7,m54_8,m54_9,m54_10,m54_11,m54_12,m54_13,m54_14,m54_15,m54_16,m54_17,m54_18,m54_19,m54_20,m54_r,m54_b,m54,g0,g11,g12,g13,hlt',hlt,h2,drop_vl hlt,vl_length,hfi,wk,act,asV,↓reduceIte,Nat.reduceEqDiff,reduceCtorEq,Nat.reduceAdd,Nat.reduceLeDiff,Nat.reduceSub,Nat.reduceMul,List.reduceReplicate,Int.reduceEq,Int.reduceLT,Int.reduceLE,Int.reduceAdd,Int.reduceSub,Int.reduceMul,Nat.reduceLT,Int.reduceToNat]; first | done | (with_reducible rfl))); (case h2 => (first | exact cg | exact cf)); (case h3 => simp -implicitDefEqProofs (maxSteps:=2000000) only [m54_1,m54_2,m54_3,m54_4,m54_5,m54_6,m54_7,m54_8,m54_9,m54_10,m54_11,m54_12,m54_13,m54_14,m54_15,m54_16,m54_17,m54_18,m54_19,m54_20,m54_r,m54_b,m54,g0,g11,g12,g13,hlt',hlt,h2,drop_vl hlt,vl_length,hfi,wk,act,asV,↓reduceIte,Nat.reduceEqDiff,reduceCtorEq,Nat.reduceAdd,Nat.reduceLeDiff,Nat.reduceSub,Nat.reduceMul,List.reduceReplicate,Int.reduceEq,Int.reduceLT,Int.reduceLE,Int.reduceAdd,Int.reduceSub,Int.reduceMul,Nat.reduceLT,Int.reduceToNat])))
    · have hnm' : goodN vs[i].name = false:=by simpa using hnm
      rw [hnm'] at cg
      rw [not_each hlt (by intro h; exact hnm (volP_bl h).1)]
      repeat' (first | simp -implicitDefEqProofs (maxSteps:=2000000) only [m54_1,m54_2,m54_3,m54_4,m54_5,m54_6,m54_7,m54_8,m54_9,m54_10,m54_11,m54_12,m54_13,m54_14,m54_15,m54_16,m54_17,m54_18,m54_19,m54_20,m54_r,m54_b,m54,g0,g11,g12,g13,hlt',hlt,h2,drop_vl hlt,vl_length,wk,act,asV,↓reduceIte,Nat.reduceEqDiff,reduceCtorEq,Nat.reduceAdd,Nat.reduceLeDiff,Nat.reduceSub,Nat.reduceMul,List.reduceReplicate,Int.reduceEq,Int.reduceLT,Int.reduceLE,Int.reduceAdd,Int.reduceSub,Int.reduceMul,Nat.reduceLT,Int.reduceToNat] | ((first | ((with_reducible refine CallL.gate ?_); apply CallL.of) | ((with_reducible refine CallP.gate ?_); apply CallP.of)); (case h1 => (simp -implicitDefEqProofs (maxSteps:=2000000) only [m54_1,m54_2,m54_3,m54_4,m54_5,m54_6,m54_7,m54_8,m54_9,m54_10,m54_11,m54_12,m54_13,m54_14,m54_15,m54_16,m54_17,m54_18,m54_19,m54_20,m54_r,m54_b,m54,g0,g11,g12,g13,hlt',hlt,h2,drop_vl hlt,vl_length,wk,act,asV,↓reduceIte,Nat.reduceEqDiff,reduceCtorEq,Nat.reduceAdd,Nat.reduceLeDiff,Nat.reduceSub,Nat.reduceMul,List.reduceReplicate,Int.reduceEq,Int.reduceLT,Int.reduceLE,Int.reduceAdd,Int.reduceSub,Int.reduceMul,Nat.reduceLT,Int.reduceToNat]; first | done | (with_reducible rfl))); (case h2 => (first | exact cg)); (case h3 => simp -implicitDefEqProofs (maxSteps:=2000000) only [m54_1,m54_2,m54_3,m54_4,m54_5,m54_6,m54_7,m54_8,m54_9,m54_10,m54_11,m54_12,m54_13,m54_14,m54_15,m54_16,m54_17,m54_18,m54_19,m54_20,m54_r,m54_b,m54,g0,g11,g12,g13,hlt',hlt,h2,drop_vl hlt,vl_length,wk,act,asV,↓reduceIte,Nat.reduceEqDiff,reduceCtorEq,Nat.reduceAdd,Nat.reduceLeDiff,Nat.reduceSub,Nat.reduceMul,List.reduceReplicate,Int.reduceEq,Int.reduceLT,Int.reduceLE,Int.reduceAdd,Int.reduceSub,Int.reduceMul,Nat.reduceLT,Int.reduceToNat])))
  · have hie : i = vs.length:=by omega
    have hlt' : ¬ (i : Int) < vs.length:=by omega
    rw [hie,List.take_length] at hg
    rw [goodV_yes (by omega) hg]
    simp -implicitDefEqProofs (maxSteps:=2000000) only [m54_1,m54_2,m54_3,m54_4,m54_5,m54_6,m54_7,m54_8,m54_9,m54_10,m54_11,m54_12,m54_13,m54_14,m54_15,m54_16,m54_17,m54_18,m54_19,m54_20,m54_r,m54_b,m54,g0,g11,g12,g13,hlt',wk,act,asV,↓reduceIte,Nat.reduceEqDiff,reduceCtorEq,Nat.reduceAdd,Nat.reduceLeDiff,Nat.reduceSub,Nat.reduceMul,List.reduceReplicate,Int.reduceEq,Int.reduceLT,Int.reduceLE,Int.reduceAdd,Int.reduceSub,Int.reduceMul,Nat.reduceLT,Int.reduceToNat]
end Go.Proofs.YtilbipknodpmmaaDoor
