/- Of the pool: which blocks are free. -/
import Derived.Test.YtilbipknodpmmaaDoorE31
import Derived.Test.YtilbipknodpmmaaDoorP2
import Derived.Test.YtilbipknodpmmaaDoorB2
set_option linter.unusedSectionVars false
set_option linter.unusedVariables false
set_option linter.unusedSimpArgs false
set_option maxRecDepth 100000
namespace Go.Proofs.YtilbipknodpmmaaDoor
open Go.RowKit

def freesTo (u b : Nat) : List Int:=((List.range b).filter fun k => (u >>> k) &&& 1 == 0).map fun k : Nat => (k : Int)
def frees (u : Nat) : List Int:=freesTo u 12
theorem freesTo_succ (u b : Nat) : freesTo u (b + 1) = freesTo u b ++ if (u >>> b) &&& 1 = 0 then [(b : Int)] else []:=by
  simp only [freesTo,List.range_succ,List.filter_append,List.map_append]
  congr 1
  by_cases h : (u >>> b) &&& 1 = 0
  · simp only [List.filter_cons,h,BEq.rfl,if_true,List.filter_nil,List.map_cons,List.map_nil]
  · have h' : ((u >>> b) &&& 1 == 0) = false:=by simpa using h
    simp only [List.filter_cons,h,h',Bool.false_eq_true,if_false,List.filter_nil,List.map_nil]
theorem freesTo_le (u b : Nat) : (freesTo u b).length ≤ b:=by
  induction b with
  | zero => simp [freesTo]
  | succ b ih =>
    rw [freesTo_succ,List.length_append]
    split <;> simp <;> omega
def outR (xs : List Int) : IV:=if xs = [] then .sl .full 0 [] else .own xs.length 1 (il xs)

theorem roomy8P {n : Nat} (h : n < 2 ^ 40) : roomy n 8 = true:=by simp [roomy]; omega

theorem bit_step {u b : Nat} (hu : u < 65536) (hb : b < 16) : shI .shr .u16 (u : Int) (b : Int) = some (.int .u16 ((u >>> b : Nat) : Int)) ∧ bitsI .and .u16 ((u >>> b : Nat) : Int) 1 = some (((u >>> b) &&& 1 : Nat) : Int):=by
  constructor
  · exact shI_shr .u16 (y:=b) (by have : IntKind.u16.bits = 16:=rfl; omega)
  · have : u >>> b ≤ u:=by rw [Nat.shiftRight_eq_div_pow]; exact Nat.div_le_self _ _
    exact bitsI_and .u16 (y:=1) (by have : 2 ^ vbits .u16 = 65536:=rfl; omega) (by decide)

theorem freesR_ok (f : Fl) (vs : List Vol) (hf : f ≠ .lit) (hb : vs.length < 2 ^ 63) (hbb : ∀ v ∈ vs,v.blocks.length < 2 ^ 63) : RC Tryd.prog 63 [.sl f vs.length (vl vs)] [outR (frees (used vs))]:=by
  refine RC.of_wp c63 rfl ?_
  have hu:=used_lt vs
  simp -implicitDefEqProofs (maxSteps:=2000000) only [m63_1,m63_2,m63_3,m63_4,m63_5,m63_6,m63_7,m63_8,m63_9,m63_r,m63_b,m63,wk,act,asV,↓reduceIte,Nat.reduceEqDiff,reduceCtorEq,Nat.reduceAdd,Nat.reduceLeDiff,Nat.reduceSub,Nat.reduceMul,List.reduceReplicate,Int.reduceEq,Int.reduceLT,Int.reduceLE,Int.reduceAdd,Int.reduceSub,Int.reduceMul,Nat.reduceLT,Int.reduceToNat]
  refine CallL.mk (usedR_ok f vs hb hbb) (by cases f <;> first | exact absurd rfl hf | simp -implicitDefEqProofs (maxSteps:=2000000) only [wk,act,asV,↓reduceIte,Nat.reduceEqDiff,reduceCtorEq,Nat.reduceAdd,Nat.reduceLeDiff,Nat.reduceSub,Nat.reduceMul,List.reduceReplicate,Int.reduceEq,Int.reduceLT,Int.reduceLE,Int.reduceAdd,Int.reduceSub,Int.reduceMul,Nat.reduceLT,Int.reduceToNat]) (by simp -implicitDefEqProofs (maxSteps:=2000000) only [wk,act,asV,↓reduceIte,Nat.reduceEqDiff,reduceCtorEq,Nat.reduceAdd,Nat.reduceLeDiff,Nat.reduceSub,Nat.reduceMul,List.reduceReplicate,Int.reduceEq,Int.reduceLT,Int.reduceLE,Int.reduceAdd,Int.reduceSub,Int.reduceMul,Nat.reduceLT,Int.reduceToNat]) ?_
  simp -implicitDefEqProofs (maxSteps:=2000000) only [wk,act,asV,↓reduceIte,Nat.reduceEqDiff,reduceCtorEq,Nat.reduceAdd,Nat.reduceLeDiff,Nat.reduceSub,Nat.reduceMul,List.reduceReplicate,Int.reduceEq,Int.reduceLT,Int.reduceLE,Int.reduceAdd,Int.reduceSub,Int.reduceMul,Nat.reduceLT,Int.reduceToNat]
  refine Wp_loop (fun k s => ∃ b,b ≤ 12 ∧ k = 12 - b ∧ s.t 3 = .int .u16 (used vs) ∧ s.t 5 = .int .i64 b ∧ ((freesTo (used vs) b = [] ∧ s.t 4 = .sl .full 0 []) ∨ (freesTo (used vs) b ≠ [] ∧ ∃ ver,s.t 4 = .row 21 0 (freesTo (used vs) b).length 1 ver ∧ s.h 21 = ⟨ver,true,true,true,il (freesTo (used vs) b)⟩))) 12 ⟨0,by omega,rfl,rfl,rfl,.inl ⟨rfl,rfl⟩⟩ ?_
  rintro k s ⟨b,hb,rfl,h3,h5,h4⟩
  by_cases hlt : b < 12
  · obtain ⟨o1,o2⟩:=bit_step (u:=used vs) (b:=b) (by omega) (by omega)
    have hlt' : (b : Int) < 12:=by omega
    have hw : IntKind.u64.wrap (b : Int) = b:=wrapN .u64 (by have : 2 ^ vbits .u64 = 18446744073709551616:=rfl; omega)
    have hle:=freesTo_le (used vs) b
    by_cases hz : (used vs >>> b) &&& 1 = 0
    · have hz' : (((used vs >>> b) &&& 1 : Nat) : Int) = 0:=by omega
      have hne : freesTo (used vs) (b + 1) ≠ []:=by rw [freesTo_succ,if_pos hz]; simp
      rcases h4 with ⟨e0,h4⟩ | ⟨e0,ver,h4,h21⟩
      · have e1 : freesTo (used vs) (b + 1) = [(b : Int)]:=by rw [freesTo_succ,if_pos hz,e0]; rfl
        have hr : roomy 1 8 = true:=by decide
        simp -implicitDefEqProofs (maxSteps:=2000000) only [h3,h4,h5,o1,o2,hlt',hw,hz',hr,wrap_nat (show b < 2 ^ 63 - 1 by omega),wk,act,asV,↓reduceIte,Nat.reduceEqDiff,reduceCtorEq,Nat.reduceAdd,Nat.reduceLeDiff,Nat.reduceSub,Nat.reduceMul,List.reduceReplicate,Int.reduceEq,Int.reduceLT,Int.reduceLE,Int.reduceAdd,Int.reduceSub,Int.reduceMul,Nat.reduceLT,Int.reduceToNat]
        refine ⟨12 - (b + 1),by omega,b + 1,by omega,rfl,rfl,?_⟩
        rw [e1]
        exact ⟨by simp,_,rfl,rfl⟩
      · have e1 : freesTo (used vs) (b + 1) = freesTo (used vs) b ++ [(b : Int)]:=by rw [freesTo_succ,if_pos hz]
        have hr : roomy ((freesTo (used vs) b).length + 1) 8 = true:=roomy8P (by omega)
        simp -implicitDefEqProofs (maxSteps:=2000000) only [h3,h4,h5,h21,o1,o2,hlt',hw,hz',hr,wrap_nat (show b < 2 ^ 63 - 1 by omega),wk,act,asV,↓reduceIte,Nat.reduceEqDiff,reduceCtorEq,Nat.reduceAdd,Nat.reduceLeDiff,Nat.reduceSub,Nat.reduceMul,List.reduceReplicate,Int.reduceEq,Int.reduceLT,Int.reduceLE,Int.reduceAdd,Int.reduceSub,Int.reduceMul,Nat.reduceLT,Int.reduceToNat]
        refine ⟨12 - (b + 1),by omega,b + 1,by omega,rfl,rfl,?_⟩
        rw [e1,List.length_append,il_snoc]
        exact ⟨by simp,_,rfl,rfl⟩
    · have hz' : ¬ (((used vs >>> b) &&& 1 : Nat) : Int) = 0:=by omega
      have e1 : freesTo (used vs) (b + 1) = freesTo (used vs) b:=by rw [freesTo_succ,if_neg hz]; simp
      simp -implicitDefEqProofs (maxSteps:=2000000) only [h3,h5,o1,o2,hlt',hw,hz',wrap_nat (show b < 2 ^ 63 - 1 by omega),wk,act,asV,↓reduceIte,Nat.reduceEqDiff,reduceCtorEq,Nat.reduceAdd,Nat.reduceLeDiff,Nat.reduceSub,Nat.reduceMul,List.reduceReplicate,Int.reduceEq,Int.reduceLT,Int.reduceLE,Int.reduceAdd,Int.reduceSub,Int.reduceMul,Nat.reduceLT,Int.reduceToNat]
      refine ⟨12 - (b + 1),by omega,b + 1,by omega,rfl,rfl,?_⟩
      rw [e1]
      simpa only [upd,wk,act,asV,↓reduceIte,Nat.reduceEqDiff,reduceCtorEq,Nat.reduceAdd,Nat.reduceLeDiff,Nat.reduceSub,Nat.reduceMul,List.reduceReplicate,Int.reduceEq,Int.reduceLT,Int.reduceLE,Int.reduceAdd,Int.reduceSub,Int.reduceMul,Nat.reduceLT,Int.reduceToNat] using h4
  · have hb12 : b = 12:=by omega
    have hlt' : ¬ (b : Int) < 12:=by omega
    have e12 : freesTo (used vs) b = frees (used vs):=by rw [hb12]; rfl
    rw [e12] at h4
    rcases h4 with ⟨e0,h4⟩ | ⟨e0,ver,h4,h21⟩
    · simp -implicitDefEqProofs (maxSteps:=2000000) only [h3,h4,h5,outR,e0,hlt',wk,act,asV,↓reduceIte,Nat.reduceEqDiff,reduceCtorEq,Nat.reduceAdd,Nat.reduceLeDiff,Nat.reduceSub,Nat.reduceMul,List.reduceReplicate,Int.reduceEq,Int.reduceLT,Int.reduceLE,Int.reduceAdd,Int.reduceSub,Int.reduceMul,Nat.reduceLT,Int.reduceToNat]
    · simp -implicitDefEqProofs (maxSteps:=2000000) only [h3,h4,h5,h21,outR,e0,hlt',take_il,wk,act,asV,↓reduceIte,Nat.reduceEqDiff,reduceCtorEq,Nat.reduceAdd,Nat.reduceLeDiff,Nat.reduceSub,Nat.reduceMul,List.reduceReplicate,Int.reduceEq,Int.reduceLT,Int.reduceLE,Int.reduceAdd,Int.reduceSub,Int.reduceMul,Nat.reduceLT,Int.reduceToNat]

def takeR (n : Int) (u : Nat) : List IV:=if n < 1 ∨ 4 < n then [.sl .full 0 [],.int .i64 1] else if ((frees u).length : Int) < n then [.sl .full 0 [],.int .i64 18] else [.own n.toNat 1 (il ((frees u).take n.toNat)),.int .i64 0]

theorem takeR_ok (n : Int) (f : Fl) (vs : List Vol) (hf : f ≠ .lit) (hb : vs.length < 2 ^ 63) (hbb : ∀ v ∈ vs,v.blocks.length < 2 ^ 63) : RC Tryd.prog 51 [.int .i64 n,.sl f vs.length (vl vs)] (takeR n (used vs)):=by
  refine RC.of_wp c51 rfl ?_
  by_cases h1 : n < 1
  · simp -implicitDefEqProofs (maxSteps:=2000000) only [m51_1,m51_2,m51_3,m51_4,m51_5,m51_6,m51_7,m51_8,m51_r,m51_b,m51,h1,takeR,wk,act,asV,↓reduceIte,Nat.reduceEqDiff,reduceCtorEq,Nat.reduceAdd,Nat.reduceLeDiff,Nat.reduceSub,Nat.reduceMul,List.reduceReplicate,Int.reduceEq,Int.reduceLT,Int.reduceLE,Int.reduceAdd,Int.reduceSub,Int.reduceMul,Nat.reduceLT,Int.reduceToNat]
  · by_cases h4 : 4 < n
    · simp -implicitDefEqProofs (maxSteps:=2000000) only [m51_1,m51_2,m51_3,m51_4,m51_5,m51_6,m51_7,m51_8,m51_r,m51_b,m51,h1,h4,takeR,wk,act,asV,↓reduceIte,Nat.reduceEqDiff,reduceCtorEq,Nat.reduceAdd,Nat.reduceLeDiff,Nat.reduceSub,Nat.reduceMul,List.reduceReplicate,Int.reduceEq,Int.reduceLT,Int.reduceLE,Int.reduceAdd,Int.reduceSub,Int.reduceMul,Nat.reduceLT,Int.reduceToNat]
    · simp -implicitDefEqProofs (maxSteps:=2000000) only [m51_1,m51_2,m51_3,m51_4,m51_5,m51_6,m51_7,m51_8,m51_r,m51_b,m51,h1,h4,wk,act,asV,↓reduceIte,Nat.reduceEqDiff,reduceCtorEq,Nat.reduceAdd,Nat.reduceLeDiff,Nat.reduceSub,Nat.reduceMul,List.reduceReplicate,Int.reduceEq,Int.reduceLT,Int.reduceLE,Int.reduceAdd,Int.reduceSub,Int.reduceMul,Nat.reduceLT,Int.reduceToNat]
      refine CallL.mk (freesR_ok f vs hf hb hbb) (by cases f <;> first | exact absurd rfl hf | simp -implicitDefEqProofs (maxSteps:=2000000) only [wk,act,asV,↓reduceIte,Nat.reduceEqDiff,reduceCtorEq,Nat.reduceAdd,Nat.reduceLeDiff,Nat.reduceSub,Nat.reduceMul,List.reduceReplicate,Int.reduceEq,Int.reduceLT,Int.reduceLE,Int.reduceAdd,Int.reduceSub,Int.reduceMul,Nat.reduceLT,Int.reduceToNat]) (.inl (by simp -implicitDefEqProofs (maxSteps:=2000000) only [wk,act,asV,↓reduceIte,Nat.reduceEqDiff,reduceCtorEq,Nat.reduceAdd,Nat.reduceLeDiff,Nat.reduceSub,Nat.reduceMul,List.reduceReplicate,Int.reduceEq,Int.reduceLT,Int.reduceLE,Int.reduceAdd,Int.reduceSub,Int.reduceMul,Nat.reduceLT,Int.reduceToNat])) ?_
      obtain ⟨k,rfl⟩ : ∃ k : Nat,n = k:=⟨n.toNat,by omega⟩
      by_cases e0 : frees (used vs) = []
      · have hlt : (0 : Int) < k:=by omega
        simp -implicitDefEqProofs (maxSteps:=2000000) only [outR,takeR,e0,h1,h4,hlt,wk,act,asV,↓reduceIte,Nat.reduceEqDiff,reduceCtorEq,Nat.reduceAdd,Nat.reduceLeDiff,Nat.reduceSub,Nat.reduceMul,List.reduceReplicate,Int.reduceEq,Int.reduceLT,Int.reduceLE,Int.reduceAdd,Int.reduceSub,Int.reduceMul,Nat.reduceLT,Int.reduceToNat]
      · by_cases hlt : ((frees (used vs)).length : Int) < k
        · simp -implicitDefEqProofs (maxSteps:=2000000) only [outR,takeR,e0,h1,h4,hlt,wk,act,asV,↓reduceIte,Nat.reduceEqDiff,reduceCtorEq,Nat.reduceAdd,Nat.reduceLeDiff,Nat.reduceSub,Nat.reduceMul,List.reduceReplicate,Int.reduceEq,Int.reduceLT,Int.reduceLE,Int.reduceAdd,Int.reduceSub,Int.reduceMul,Nat.reduceLT,Int.reduceToNat]
        · have hle : k ≤ (frees (used vs)).length:=by omega
          simp -implicitDefEqProofs (maxSteps:=2000000) only [outR,takeR,e0,h1,h4,hlt,bnds,bnd,hle,il_take,wk,act,asV,↓reduceIte,Nat.reduceEqDiff,reduceCtorEq,Nat.reduceAdd,Nat.reduceLeDiff,Nat.reduceSub,Nat.reduceMul,List.reduceReplicate,Int.reduceEq,Int.reduceLT,Int.reduceLE,Int.reduceAdd,Int.reduceSub,Int.reduceMul,Nat.reduceLT,Int.reduceToNat]

end Go.Proofs.YtilbipknodpmmaaDoor
/- Of the pool: taking. -/
set_option linter.unusedSectionVars false
set_option linter.unusedVariables false
set_option linter.unusedSimpArgs false
set_option maxRecDepth 100000
namespace Go.Proofs.YtilbipknodpmmaaDoor
open Go.RowKit

theorem frees_ones {u : Nat} (h : u < 4096) : (frees u).length + ones u = 12:=by
  have : (List.range 4096).all (fun u => (frees u).length + ones u == 12) = true:=by decide +kernel
  rw [List.all_eq_true] at this
  simpa using this u (List.mem_range.2 h)

theorem freeP_ok' (f : Fl) (vs : List Vol) (hf : f ≠ .lit) (hb : vs.length < 2 ^ 63) (hbb : ∀ v ∈ vs,v.blocks.length < 2 ^ 63) : RC Tryd.prog 61 [.sl f vs.length (vl vs)] [.int .i64 (frees (used vs)).length]:=by
  have h:=freeP_ok f vs hf hb hbb
  have:=frees_ones (used_lt vs)
  rwa [show (12 - (ones (used vs) : Int)) = ((frees (used vs)).length : Int) by omega] at h

theorem freesTo_prefix (u b c : Nat) (h : b ≤ c) : freesTo u b <+: freesTo u c:=by
  induction c with
  | zero => have : b = 0 := by omega
            subst this; exact List.prefix_rfl
  | succ c ih =>
    by_cases hb : b ≤ c
    · rw [freesTo_succ]; exact (ih hb).trans (List.prefix_append _ _)
    · have : b = c + 1:=by omega
      subst this; exact List.prefix_rfl

theorem takeP_ok (n : Int) (f : Fl) (vs : List Vol) (hf : f ≠ .lit) (hb : vs.length < 2 ^ 63) (hbb : ∀ v ∈ vs,v.blocks.length < 2 ^ 63) : RC Tryd.prog 48 [.int .i64 n,.sl f vs.length (vl vs)] (takeR n (used vs)):=by
  refine RC.of_wp c48 rfl ?_
  by_cases h1 : n < 1
  · simp -implicitDefEqProofs (maxSteps:=2000000) only [m48_1,m48_2,m48_3,m48_4,m48_5,m48_6,m48_7,m48_8,m48_9,m48_10,m48_11,m48_12,m48_13,m48_14,m48_15,m48_16,m48_r,m48_b,m48,h1,takeR,wk,act,asV,↓reduceIte,Nat.reduceEqDiff,reduceCtorEq,Nat.reduceAdd,Nat.reduceLeDiff,Nat.reduceSub,Nat.reduceMul,List.reduceReplicate,Int.reduceEq,Int.reduceLT,Int.reduceLE,Int.reduceAdd,Int.reduceSub,Int.reduceMul,Nat.reduceLT,Int.reduceToNat]
  · by_cases h4 : 4 < n
    · simp -implicitDefEqProofs (maxSteps:=2000000) only [m48_1,m48_2,m48_3,m48_4,m48_5,m48_6,m48_7,m48_8,m48_9,m48_10,m48_11,m48_12,m48_13,m48_14,m48_15,m48_16,m48_r,m48_b,m48,h1,h4,takeR,wk,act,asV,↓reduceIte,Nat.reduceEqDiff,reduceCtorEq,Nat.reduceAdd,Nat.reduceLeDiff,Nat.reduceSub,Nat.reduceMul,List.reduceReplicate,Int.reduceEq,Int.reduceLT,Int.reduceLE,Int.reduceAdd,Int.reduceSub,Int.reduceMul,Nat.reduceLT,Int.reduceToNat]
    · simp -implicitDefEqProofs (maxSteps:=2000000) only [m48_1,m48_2,m48_3,m48_4,m48_5,m48_6,m48_7,m48_8,m48_9,m48_10,m48_11,m48_12,m48_13,m48_14,m48_15,m48_16,m48_r,m48_b,m48,h1,h4,wk,act,asV,↓reduceIte,Nat.reduceEqDiff,reduceCtorEq,Nat.reduceAdd,Nat.reduceLeDiff,Nat.reduceSub,Nat.reduceMul,List.reduceReplicate,Int.reduceEq,Int.reduceLT,Int.reduceLE,Int.reduceAdd,Int.reduceSub,Int.reduceMul,Nat.reduceLT,Int.reduceToNat]
      have hu:=used_lt vs
      refine CallL.mk (freeP_ok' f vs hf hb hbb) (by cases f <;> first | exact absurd rfl hf | simp -implicitDefEqProofs (maxSteps:=2000000) only [wk,act,asV,↓reduceIte,Nat.reduceEqDiff,reduceCtorEq,Nat.reduceAdd,Nat.reduceLeDiff,Nat.reduceSub,Nat.reduceMul,List.reduceReplicate,Int.reduceEq,Int.reduceLT,Int.reduceLE,Int.reduceAdd,Int.reduceSub,Int.reduceMul,Nat.reduceLT,Int.reduceToNat]) (.inr (by simp -implicitDefEqProofs (maxSteps:=2000000) only [wk,act,asV,↓reduceIte,Nat.reduceEqDiff,reduceCtorEq,Nat.reduceAdd,Nat.reduceLeDiff,Nat.reduceSub,Nat.reduceMul,List.reduceReplicate,Int.reduceEq,Int.reduceLT,Int.reduceLE,Int.reduceAdd,Int.reduceSub,Int.reduceMul,Nat.reduceLT,Int.reduceToNat])) ?_
      obtain ⟨k,rfl⟩ : ∃ k : Nat,n = k:=⟨n.toNat,by omega⟩
      by_cases hlt : ((frees (used vs)).length : Int) < k
      · simp -implicitDefEqProofs (maxSteps:=2000000) only [takeR,h1,h4,hlt,wk,act,asV,↓reduceIte,Nat.reduceEqDiff,reduceCtorEq,Nat.reduceAdd,Nat.reduceLeDiff,Nat.reduceSub,Nat.reduceMul,List.reduceReplicate,Int.reduceEq,Int.reduceLT,Int.reduceLE,Int.reduceAdd,Int.reduceSub,Int.reduceMul,Nat.reduceLT,Int.reduceToNat]
      · have hle : k ≤ (frees (used vs)).length:=by omega
        simp -implicitDefEqProofs (maxSteps:=2000000) only [h1,h4,hlt,wk,act,asV,↓reduceIte,Nat.reduceEqDiff,reduceCtorEq,Nat.reduceAdd,Nat.reduceLeDiff,Nat.reduceSub,Nat.reduceMul,List.reduceReplicate,Int.reduceEq,Int.reduceLT,Int.reduceLE,Int.reduceAdd,Int.reduceSub,Int.reduceMul,Nat.reduceLT,Int.reduceToNat]
        refine CallL.mk (usedP_ok f vs hb hbb) (by cases f <;> first | exact absurd rfl hf | simp -implicitDefEqProofs (maxSteps:=2000000) only [wk,act,asV,↓reduceIte,Nat.reduceEqDiff,reduceCtorEq,Nat.reduceAdd,Nat.reduceLeDiff,Nat.reduceSub,Nat.reduceMul,List.reduceReplicate,Int.reduceEq,Int.reduceLT,Int.reduceLE,Int.reduceAdd,Int.reduceSub,Int.reduceMul,Nat.reduceLT,Int.reduceToNat]) (.inr (by simp -implicitDefEqProofs (maxSteps:=2000000) only [wk,act,asV,↓reduceIte,Nat.reduceEqDiff,reduceCtorEq,Nat.reduceAdd,Nat.reduceLeDiff,Nat.reduceSub,Nat.reduceMul,List.reduceReplicate,Int.reduceEq,Int.reduceLT,Int.reduceLE,Int.reduceAdd,Int.reduceSub,Int.reduceMul,Nat.reduceLT,Int.reduceToNat])) ?_
        simp -implicitDefEqProofs (maxSteps:=2000000) only [wk,act,asV,↓reduceIte,Nat.reduceEqDiff,reduceCtorEq,Nat.reduceAdd,Nat.reduceLeDiff,Nat.reduceSub,Nat.reduceMul,List.reduceReplicate,Int.reduceEq,Int.reduceLT,Int.reduceLE,Int.reduceAdd,Int.reduceSub,Int.reduceMul,Nat.reduceLT,Int.reduceToNat]
        refine Wp_loop (fun j s => ∃ b,b ≤ 12 ∧ j = 12 - b ∧ (freesTo (used vs) b).length ≤ k ∧ s.t 0 = .int .i64 k ∧ s.t 7 = .int .u16 (used vs) ∧ s.t 8 = .int .i64 b ∧ ((freesTo (used vs) b = [] ∧ s.t 6 = .sl .full 0 []) ∨ (freesTo (used vs) b ≠ [] ∧ ∃ ver,s.t 6 = .row 37 0 (freesTo (used vs) b).length 1 ver ∧ s.h 37 = ⟨ver,true,true,true,il (freesTo (used vs) b)⟩))) 12 ⟨0,by omega,rfl,by simp [freesTo],rfl,rfl,rfl,.inl ⟨rfl,rfl⟩⟩ ?_
        rintro j s ⟨b,hb,rfl,hbk,h0,h7,h8,h6⟩
        by_cases hl : (freesTo (used vs) b).length < k
        · have hb12 : b < 12:=by
            rcases Nat.lt_or_ge b 12 with h | h
            · exact h
            · have : b = 12:=by omega
              subst this
              have : (freesTo (used vs) 12).length = (frees (used vs)).length:=rfl
              omega
          obtain ⟨o1,o2⟩:=bit_step (u:=used vs) (b:=b) (by omega) (by omega)
          have hle':=freesTo_le (used vs) b
          by_cases hz : (used vs >>> b) &&& 1 = 0
          · have hz' : (((used vs >>> b) &&& 1 : Nat) : Int) = 0:=by omega
            have e1 : freesTo (used vs) (b + 1) = freesTo (used vs) b ++ [(b : Int)]:=by rw [freesTo_succ,if_pos hz]
            rcases h6 with ⟨e0,h6⟩ | ⟨e0,ver,h6,h37⟩
            · have hr : roomy 1 8 = true:=by decide
              have hl' : (0 : Int) < k:=by omega
              simp -implicitDefEqProofs (maxSteps:=2000000) only [h0,h6,h7,h8,o1,o2,hz',hr,hl',wrap_nat (show b < 2 ^ 63 - 1 by omega),wk,act,asV,↓reduceIte,Nat.reduceEqDiff,reduceCtorEq,Nat.reduceAdd,Nat.reduceLeDiff,Nat.reduceSub,Nat.reduceMul,List.reduceReplicate,Int.reduceEq,Int.reduceLT,Int.reduceLE,Int.reduceAdd,Int.reduceSub,Int.reduceMul,Nat.reduceLT,Int.reduceToNat]
              refine ⟨12 - (b + 1),by omega,b + 1,by omega,rfl,by rw [e1,e0]; simp; omega,rfl,?_⟩
              rw [e1,e0]
              exact ⟨by simp,_,rfl,rfl⟩
            · have hr : roomy ((freesTo (used vs) b).length + 1) 8 = true:=roomy8P (by omega)
              have hl' : ((freesTo (used vs) b).length : Int) < k:=by omega
              simp -implicitDefEqProofs (maxSteps:=2000000) only [h0,h6,h7,h8,h37,o1,o2,hz',hr,hl',wrap_nat (show b < 2 ^ 63 - 1 by omega),wk,act,asV,↓reduceIte,Nat.reduceEqDiff,reduceCtorEq,Nat.reduceAdd,Nat.reduceLeDiff,Nat.reduceSub,Nat.reduceMul,List.reduceReplicate,Int.reduceEq,Int.reduceLT,Int.reduceLE,Int.reduceAdd,Int.reduceSub,Int.reduceMul,Nat.reduceLT,Int.reduceToNat]
              refine ⟨12 - (b + 1),by omega,b + 1,by omega,rfl,by rw [e1]; simp; omega,rfl,?_⟩
              rw [e1,List.length_append,il_snoc]
              exact ⟨by simp,_,rfl,rfl⟩
          · have hz' : ¬ (((used vs >>> b) &&& 1 : Nat) : Int) = 0:=by omega
            have e1 : freesTo (used vs) (b + 1) = freesTo (used vs) b:=by rw [freesTo_succ,if_neg hz]; simp
            rcases h6 with ⟨e0,h6⟩ | ⟨e0,ver,h6,h37⟩
            · have hl' : (0 : Int) < k:=by omega
              simp -implicitDefEqProofs (maxSteps:=2000000) only [h0,h6,h7,h8,o1,o2,hz',hl',wrap_nat (show b < 2 ^ 63 - 1 by omega),wk,act,asV,↓reduceIte,Nat.reduceEqDiff,reduceCtorEq,Nat.reduceAdd,Nat.reduceLeDiff,Nat.reduceSub,Nat.reduceMul,List.reduceReplicate,Int.reduceEq,Int.reduceLT,Int.reduceLE,Int.reduceAdd,Int.reduceSub,Int.reduceMul,Nat.reduceLT,Int.reduceToNat]
              refine ⟨12 - (b + 1),by omega,b + 1,by omega,rfl,by rw [e1]; omega,rfl,?_⟩
              rw [e1]
              first | exact .inl ⟨e0,rfl⟩ | exact .inl e0
            · have hl' : ((freesTo (used vs) b).length : Int) < k:=by omega
              simp -implicitDefEqProofs (maxSteps:=2000000) only [h0,h6,h7,h8,h37,o1,o2,hz',hl',wrap_nat (show b < 2 ^ 63 - 1 by omega),wk,act,asV,↓reduceIte,Nat.reduceEqDiff,reduceCtorEq,Nat.reduceAdd,Nat.reduceLeDiff,Nat.reduceSub,Nat.reduceMul,List.reduceReplicate,Int.reduceEq,Int.reduceLT,Int.reduceLE,Int.reduceAdd,Int.reduceSub,Int.reduceMul,Nat.reduceLT,Int.reduceToNat]
              refine ⟨12 - (b + 1),by omega,b + 1,by omega,rfl,by rw [e1]; omega,rfl,?_⟩
              rw [e1]
              exact And.intro e0 ⟨ver,rfl,rfl⟩
        · have hk : (freesTo (used vs) b).length = k:=by omega
          have hpre:=List.prefix_iff_eq_take.1 (freesTo_prefix (used vs) b 12 hb)
          rw [hk,show freesTo (used vs) 12 = frees (used vs) from rfl] at hpre
          have hne : freesTo (used vs) b ≠ []:=by intro e; rw [e] at hk; simp at hk; omega
          rcases h6 with ⟨e0,h6⟩ | ⟨e0,ver,h6,h37⟩
          · exact absurd e0 hne
          · have hl' : ¬ ((freesTo (used vs) b).length : Int) < k:=by omega
            have hfin : takeR k (used vs) = [.own (freesTo (used vs) b).length 1 (il (freesTo (used vs) b)),.int .i64 0]:=by
              simp only [takeR,h1,h4,hlt,or_self,if_false,Int.toNat_natCast]
              rw [hk,← hpre]
            simp -implicitDefEqProofs (maxSteps:=2000000) only [h0,h6,h7,h8,h37,hl',hfin,take_il,wk,act,asV,↓reduceIte,Nat.reduceEqDiff,reduceCtorEq,Nat.reduceAdd,Nat.reduceLeDiff,Nat.reduceSub,Nat.reduceMul,List.reduceReplicate,Int.reduceEq,Int.reduceLT,Int.reduceLE,Int.reduceAdd,Int.reduceSub,Int.reduceMul,Nat.reduceLT,Int.reduceToNat]
end Go.Proofs.YtilbipknodpmmaaDoor
/- Of the pool: which blocks are free, in plain words; a volume that is made of them is right. -/

set_option linter.unusedSectionVars false
set_option linter.unusedVariables false
set_option linter.unusedSimpArgs false
set_option maxRecDepth 100000
namespace Go.Proofs.YtilbipknodpmmaaDoor
open Go.RowKit

theorem free_bit (u k : Nat) : ((u >>> k) &&& 1 == 0) = !u.testBit k:=by
  unfold Nat.testBit
  rw [Nat.and_comm]
  cases h : (1 &&& u >>> k) == 0 <;> simp_all [bne]
theorem freesTo_eq (u n : Nat) : freesTo u n = ((List.range n).filter fun k => !u.testBit k).map fun k : Nat => (k : Int):=by
  unfold freesTo
  congr 1
  apply List.filter_congr
  intro k _
  exact free_bit u k
theorem frees_or (u b : Nat) : frees (u ||| 2 ^ b) = (frees u).filter fun x => decide (x ≠ (b : Int)):=by
  unfold frees
  rw [freesTo_eq,freesTo_eq,List.filter_map,List.filter_filter]
  congr 1
  apply List.filter_congr
  intro k _
  simp only [Nat.testBit_or,Nat.testBit_two_pow,Function.comp]
  cases h : u.testBit k <;> simp [eq_comm,Int.natCast_inj]
theorem ustep_in {u : Nat} {b : Int} (h0 : 0 ≤ b) (h1 : b < 12) : frees (ustep u b) = (frees u).filter fun x => decide (x ≠ b):=by
  unfold ustep
  rw [if_pos ⟨h0,h1⟩,frees_or,Int.toNat_of_nonneg h0]
theorem ufold_frees : ∀ (L : List Int) (u : Nat),(∀ b ∈ L,0 ≤ b ∧ b < 12) → frees (L.foldl ustep u) = (frees u).filter fun x => decide (x ∉ L)
  | [],u,_ => (List.filter_eq_self.2 (by simp)).symm
  | b :: L,u,h => by
    have hb:=h b (by simp)
    rw [List.foldl_cons,ufold_frees L _ fun x hx => h x (by simp [hx]),ustep_in hb.1 hb.2,List.filter_filter]
    apply List.filter_congr
    intro x _
    by_cases h1 : x = b <;> simp [h1]
theorem frees_nodup (u : Nat) : (frees u).Nodup:=by
  unfold frees
  rw [freesTo_eq]
  unfold List.Nodup
  rw [List.pairwise_map]
  refine List.Pairwise.imp ?_ (List.Pairwise.filter _ List.nodup_range)
  intro a b h he
  exact h (by omega)
/-! ### a volume that is made -/
theorem used_eq (vs : List Vol) : used vs = (allB vs).foldl ustep 1:=by
  have key : ∀ (vs : List Vol) (u : Nat),vs.foldl uvol u = (allB vs).foldl ustep u:=by
    intro vs
    induction vs with
    | nil => intro u; rfl
    | cons v vs ih =>
      intro u
      rw [List.foldl_cons,ih]
      simp only [allB,List.flatMap_cons,List.foldl_append,uvol]
  exact key vs 1
theorem frees_one : frees 1 = [1,2,3,4,5,6,7,8,9,10,11]:=by decide +kernel
theorem allB_in {vs : List Vol} (h : vs.all volP = true) : ∀ b ∈ allB vs,0 ≤ b ∧ b < 12:=by
  intro b hb
  unfold allB at hb
  obtain ⟨v,hv,hb⟩:=List.mem_flatMap.1 hb
  have h1:=(volP_bl (List.all_eq_true.1 h v hv)).2.2.2
  have h2:=List.all_eq_true.1 h1 b hb
  unfold inB at h2
  simp only [Bool.and_eq_true,decide_eq_true_eq] at h2
  omega
theorem frees_used {vs : List Vol} (h : vs.all volP = true) : frees (used vs) = (frees 1).filter fun x => decide (x ∉ allB vs):=by
  rw [used_eq]
  exact ufold_frees _ _ (allB_in h)
theorem frees_inB {vs : List Vol} (h : vs.all volP = true) : ∀ b ∈ frees (used vs),inB b = true ∧ b ∉ allB vs:=by
  intro b hb
  rw [frees_used h,List.mem_filter] at hb
  refine ⟨?_,by simpa using hb.2⟩
  have h1:=hb.1
  rw [frees_one] at h1
  simp only [List.mem_cons,List.mem_nil_iff,or_false] at h1
  unfold inB
  simp only [Bool.and_eq_true,decide_eq_true_eq]
  omega
theorem find_none {nm : List UInt8} {vs : List Vol} (h : findV nm vs < 0) : nm ∉ nmsV vs:=by
  intro hm
  unfold nmsV at hm
  obtain ⟨v,hv,hn⟩:=List.mem_map.1 hm
  have hlt : vs.findIdx (isV nm) < vs.length:=List.findIdx_lt_length_of_exists ⟨v,hv,by simp [isV,hn]⟩
  unfold findV at h
  rw [if_pos hlt] at h
  omega
theorem good_make {vs : List Vol} {nm : List UInt8} {n : Nat} (hg : goodV vs = true) (h3 : vs.length < 3) (hnm : goodN nm = true) (hf : findV nm vs < 0) (h1 : 1 ≤ n) (h4 : n ≤ 4) (hl : n ≤ (frees (used vs)).length) :
    goodV (vs ++ [⟨nm,(frees (used vs)).take n⟩]) = true:=by
  have gp:=goodV_P hg
  have hb:=frees_inB gp.each
  have hlen : ((frees (used vs)).take n).length = n:=by rw [List.length_take]; omega
  refine goodV_yes (by simp; omega) ⟨?_,?_,?_⟩
  · rw [List.all_append,gp.each,Bool.true_and]
    simp only [List.all_cons,List.all_nil,Bool.and_true]
    exact volP_of hnm (by simp only [hlen]; omega) (by simp only [hlen]; omega) (List.all_eq_true.2 fun b hb' => (hb b (List.mem_of_mem_take hb')).1)
  · have e : nmsV (vs ++ [⟨nm,(frees (used vs)).take n⟩]) = nmsV vs ++ [nm]:=by simp [nmsV]
    rw [e]
    exact nodup_snoc gp.nms (find_none hf)
  · have e : allB (vs ++ [⟨nm,(frees (used vs)).take n⟩]) = allB vs ++ (frees (used vs)).take n:=by simp [allB]
    rw [e]
    refine List.nodup_append.2 ⟨gp.bls,(List.take_sublist _ _).nodup (frees_nodup _),?_⟩
    intro a ha b hb' e
    subst e
    exact (hb a (List.mem_of_mem_take hb')).2 ha
end Go.Proofs.YtilbipknodpmmaaDoor
