/- Proved: the law QueuePuts returns true at every input, and its arguments read behind the call as before it, where the variables that its row lists read as the program's text lays them; and its tied card. No condition beyond. -/
import Derived.Test.YtilbipknodpmmaaDoorRQ0
import Derived.Test.YtilbipknodpmmaaDoorW11
set_option linter.unusedVariables false
set_option linter.unusedSimpArgs false
set_option maxRecDepth 100000
namespace Go.Proofs.YtilbipknodpmmaaDoor
open Go.RowKit Go.ChangeShapes Go.WideShapes

theorem law8 (ivs : List IV) (h : okArgs Tryd.prog Tryd.f8.params.toList ivs) : RC Tryd.prog 8 ivs [.bool true]:=by
  rw [Tryd.params8] at h
  simp only [okArgs] at h
  obtain ⟨_,_,rfl,h1,_,_,rfl,h2,rfl⟩:=h
  obtain ⟨x,rfl,hx⟩:=argItem h1
  obtain ⟨b,rfl,hb⟩:=argBlock h2
  exact queuePuts x hx b hb

theorem lifted8 (os : Os) (started : os.Started) (H : Type) (enc : TypeId × Value → H) :
    ReturnsInHanded {} Tryd.checked os 8 .any (fun w args => (Rows.queuePutsSpec.pre enc Tryd.prog Tryd.f8 [] false w args ∧ laidMetH Tryd.prog laidL w) ∧ sizedMet enc Tryd.prog Tryd.f8 (OpenSpec.ofChange Rows.queuePutsSpec) false w args) (Rows.queuePutsSpec.post enc Tryd.prog Tryd.f8 false true false false) :=
  law_liftedL (C:=Tryd.checked) (fn:=Tryd.f8) (tb:=4) own_knob started (by kernel_rfl) Tryd.func8
    (ChangeSpec.witness_shaped (enc:=enc) (C:=Tryd.checked) (os:=os) (X:=fun w _ => laidMetH Tryd.prog laidL w) false (World.laidAll Tryd.prog os laidL) #[.agg #[.int .i64 0,.int .i64 0,.string ⟨#[]⟩,.int .i64 0,.int .u8 0,.int .u8 0,.int .u8 0,.int .u8 0,.int .u8 0,.int .u8 0,.int .u8 0,.int .u8 0,.int .u8 0,.int .u8 0,.int .u8 0,.int .u8 0,.int .u8 0,.int .u8 0,.int .u8 0,.int .u8 0,.int .u8 0,.int .u8 0,.int .u8 0,.int .u8 0,.int .u8 0,.int .u8 0,.int .u8 0,.int .u8 0,.int .u8 0,.int .u8 0,.int .u8 0,.int .u8 0,.int .u8 0,.int .u8 0,.int .u8 0,.int .u8 0],.agg #[.int .u8 0,.int .u8 0,.int .u8 0,.int .u8 0,.int .u8 0,.int .u8 0,.int .u8 0,.int .u8 0,.int .u8 0,.int .u8 0,.int .u8 0,.int .u8 0,.int .u8 0,.int .u8 0,.int .u8 0,.int .u8 0,.int .u8 0,.int .u8 0,.int .u8 0,.int .u8 0,.int .u8 0,.int .u8 0,.int .u8 0,.int .u8 0,.int .u8 0,.int .u8 0,.int .u8 0,.int .u8 0,.int .u8 0,.int .u8 0,.int .u8 0,.int .u8 0]] 8 (World.laidAll_os _ _ _) (World.shaped_of_ZipB (by kernel_rfl) (by kernel_rfl)) (by kernel_rfl) (by kernel_rfl) (by kernel_rfl) (laid_met os _))
    laid_out rfl (by kernel_rfl) Tryd.underlying4 (by rw [Tryd.params8]; decide +kernel)
    (by rintro (_ | ⟨a,_ | ⟨b,_ | _⟩⟩) h <;> first | exact ⟨rfl,rfl,rfl⟩ | (rw [Tryd.params8] at h; simp at h))
    law8

theorem queuePuts_row : Rows.QueuePutsSaid :=
  OpenClaim.holds_of_wide 8 Tryd.f8 rfl rfl rfl rfl rfl rfl rfl ⟨rfl,rfl,rfl,rfl,rfl⟩ rfl rfl rfl rfl rfl (by kernel_rfl) Tryd.func8 (by kernel_rfl)
    (of_decide_eq_true (by kernel_rfl)) (by unfold Func.isWrapper; first | (rw [if_pos (by decide +kernel)]; kernel_rfl) | (rw [if_neg (by decide +kernel)]; exact ⟨rfl,rfl⟩))
    (fun os started H enc _ => lifted8 os started H enc)

theorem queuePuts_holds : Rows.QueuePutsCardSaid :=
  Claim7.holds_tied_plain_at .later [] cardKinds true cardHarness false
    queuePuts_row (fun _ h => by cases h) (by kernel_rfl) (fun _ h => by cases h) queuePuts_row_tie rfl ⟨rfl,rfl⟩ (by kernel_rfl) rfl
    (fun f fn hf hfn => by
      obtain rfl : f = 8 := Option.some.inj ((show Tryd.prog.funcNamed "tollhouse/tollhouselaw21.QueuePuts" = some 8 by kernel_rfl).symm.trans hf) |>.symm
      obtain rfl : fn = Tryd.f8:=(Option.some.inj (Tryd.func8.symm.trans hfn)).symm
      exact ⟨by kernel_rfl,fun j t ht => by
        rw [Tryd.params8] at ht
        have hm : t ∈ [77,23]:=by simpa using Array.mem_of_getElem? ht
        have hall : ([77,23].all fun u => !Tryd.prog.wantsStandIn u) = true:=by kernel_rfl
        exact (show Tryd.prog.wantsStandIn t = false by simpa using List.all_eq_true.1 hall t hm)⟩)
    (by kernel_rfl)
#print axioms queuePuts_holds
end Go.Proofs.YtilbipknodpmmaaDoor
