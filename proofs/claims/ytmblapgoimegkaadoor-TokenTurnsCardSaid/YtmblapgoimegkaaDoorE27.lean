/- From a contract to a row: arguments opened, the result shut, the arguments behind the call. -/
import Derived.Test.YtmblapgoimegkaaDoorE26
set_option linter.unusedSectionVars false
set_option linter.unusedVariables false
set_option linter.unusedSimpArgs false
namespace Go.Proofs.YtmblapgoimegkaaDoor
open Go.RowKit Go.ChangeShapes Go.WideShapes

/-- an argument's pure value -/
def mkArg (P : Program) (t : TypeId) (vs : List IV) : IV := match P.underlying t with
  | some (.struct _) | some (.array _ _) => .agg vs
  | _ => vs.headD .undef
def okArg (P : Program) (t : TypeId) (v : IV) : Prop := ∃ ts vs, flat P 10 t = some ts ∧ okL ts vs ∧ v = mkArg P t vs
def okArgs (P : Program) : List TypeId → List IV → Prop
  | [], vs => vs = []
  | t :: ts, vs => ∃ v vs', vs = v :: vs' ∧ okArg P t v ∧ okArgs P ts vs'

section
variable {H : Type} {enc : TypeId × Value → H} {P : Program} {w : World}

theorem arg_opened {spare : Nat → Bool} {held : Bool} {r : Reach} {w' : World} {b : Nat} {t : TypeId} {v : Value} {d : DataW H} {ps : List MemPlace} {ts : List Ty} (hf : flat P 10 t = some ts)
    (hval : Value.okWide P w' r b t v) (h : DataW.Trod enc P w 0 spare held t v d ps) : ∃ iv, okArg P t iv ∧ VR (cAll w) iv v ∧ iv.pur = true ∧ iv.nlit = true := by
  obtain ⟨fuel, h⟩ := h
  obtain ⟨vs, k1, k2⟩ := opened 10 t ts hf fuel _ _ h
  refine ⟨mkArg P t vs, ⟨ts, vs, hf, k1, rfl⟩, ?_⟩
  have hp := okL_pure k1
  have single : ∀ ty, ts = [ty] → v.cells = #[v] → VR (cAll w) (vs.headD .undef) v ∧ (vs.headD .undef).pur = true ∧ (vs.headD .undef).nlit = true := by
    intro ty e hc
    subst e
    rw [hc] at k2
    simp only [okL] at k1
    obtain ⟨x, vs', rfl, hx, rfl⟩ := k1
    simp only [VRL] at k2
    obtain ⟨u, us', he, hu, _⟩ := k2
    simp at he
    obtain ⟨rfl, _⟩ := he
    exact ⟨hu, (okT_pure hx).2⟩
  have aggs : ∀ cs, v = .agg cs → VR (cAll w) (.agg vs) v ∧ (IV.agg vs).pur = true ∧ (IV.agg vs).nlit = true := by
    rintro cs rfl
    refine ⟨?_, by simpa only [IV.pur] using hp.2, rfl⟩
    simp only [VR]
    exact ⟨cs.toList, by simp, hp.1, k2⟩
  simp only [flat] at hf
  unfold mkArg
  split at hf
  · rename_i hu
    rw [hu]
    obtain ⟨b, rfl⟩ := okWide_bool hu hval
    simp only [Option.some.injEq] at hf
    exact single _ hf.symm rfl
  · rename_i k hu
    rw [hu]
    obtain ⟨b, rfl⟩ := okWide_int hu hval
    simp only [Option.some.injEq] at hf
    exact single _ hf.symm rfl
  · rename_i hu
    rw [hu]
    obtain ⟨b, rfl⟩ := okWide_string hu hval
    simp only [Option.some.injEq] at hf
    exact single _ hf.symm rfl
  · rename_i e hu
    rw [hu]
    obtain ⟨a, len, cap, rfl⟩ := okWide_slice hu hval
    split at hf
    · split at hf
      · simp only [Option.some.injEq] at hf
        exact single _ hf.symm rfl
      · exact absurd hf (by simp)
    · exact absurd hf (by simp)
  · rename_i fs hu
    rw [hu]
    simp only [Value.okWide, hu] at hval
    obtain ⟨cs, e, _⟩ := hval
    exact aggs cs e
  · rename_i n e hu
    rw [hu]
    simp only [Value.okWide, hu] at hval
    obtain ⟨cs, e, _⟩ := hval
    exact aggs cs e
  · exact absurd hf (by simp)

theorem args_opened {r : Reach} {w' : World} {b : Nat} : ∀ {ts : List TypeId} {vs : List Value} {ds : List (DataW H)} {ps : List MemPlace}, (∀ t ∈ ts, (flat P 10 t).isSome = true) →
    (∀ (j : Nat) t v, ts[j]? = some t → vs[j]? = some v → Value.okWide P w' r b t v) → DataW.TrodAll enc P w 0 (fun _ => true) true ts vs ds ps →
    ∃ ivs, okArgs P ts ivs ∧ VRL (cAll w) ivs vs ∧ IV.purL ivs = true ∧ ivs.all IV.nlit = true
  | [], [], [], _, _, _, _ => ⟨[], by simp [okArgs], VRL.nil, rfl, rfl⟩
  | t :: ts, v :: vs, d :: ds, ps, hf, hv, ⟨p, q, h1, h2, e⟩ => by
    obtain ⟨ty, hty⟩ := Option.isSome_iff_exists.1 (hf t (by simp))
    obtain ⟨iv, a1, a2, a3, a4⟩ := arg_opened hty (hv 0 t v rfl rfl) h1
    obtain ⟨ivs, b1, b2, b3, b4⟩ := args_opened (fun x hx => hf x (by simp [hx])) (fun j x y hx hy => hv (j + 1) x y (by simpa using hx) (by simpa using hy)) h2
    refine ⟨iv :: ivs, ?_, VRL.cons a2 b2, by simp [IV.purL, a3, b3], by simp [a4, b4]⟩
    simp only [okArgs]
    exact ⟨iv, ivs, rfl, a1, b1⟩
  | [], _ :: _, _, _, _, _, h => h.elim
  | [], [], _ :: _, _, _, _, h => h.elim
  | _ :: _, [], _, _, _, _, h => h.elim
  | _ :: _, _ :: _, [], _, _, _, h => h.elim

theorem args_stay (hl : laidOutB P = true) {W W' : World} (hb : Below W.heap.size W W') : ∀ {ts : List TypeId} {vs : List Value} {ds : List (DataW H)} {ps : List MemPlace}, (∀ t ∈ ts, P.readableRec t = true ∧ t < P.types.size) →
    DataW.TrodAll enc P W 0 (fun _ => true) true ts vs ds ps → (∀ x ∈ ps, x.block < W.heap.size) → DataW.TrodAll enc P W' 0 (fun b => decide (b < W.heap.size)) true ts vs ds ps
  | [], [], [], _, _, h, _ => h
  | t :: ts, v :: vs, d :: ds, ps, hr, ⟨p, q, h1, h2, e⟩, hlt => by
    subst e
    exact ⟨p, q, Below.trod hl (hr t (by simp)).1 (hr t (by simp)).2 h1 hb (fun x hx => hlt x (List.mem_append_left _ hx)), args_stay hl hb (fun x hx => hr x (by simp [hx])) h2 (fun x hx => hlt x (List.mem_append_right _ hx)), rfl⟩
  | [], _ :: _, _, _, _, h, _ => h.elim
  | [], [], _ :: _, _, _, h, _ => h.elim
  | _ :: _, [], _, _, _, h, _ => h.elim
  | _ :: _, _ :: _, [], _, _, h, _ => h.elim

theorem law_calls {f : FuncId} {ivs : List IV} {args : Array Value} (hc : RC P f ivs [.bool true]) (hv : VRL (cAll w) ivs args.toList) (hp : IV.purL ivs = true) (hn : ivs.all IV.nlit = true) :
    Calls P f args w fun e w' => e = .returned (.bool true) ∧ Below w.heap.size w w' := by
  have h := hc.2 w (fun b => b < w.heap.size) args.toList (fun _ h => h) hn hp hv
  have ea : args.toList.toArray = args := by simp
  rw [ea] at h
  refine h.mono fun e w' ⟨rv, he, hr, hb⟩ => ⟨?_, hb⟩
  obtain ⟨B, us, rfl, _, hF, _⟩ := hr
  cases hF with
  | cons h1 h2 =>
    cases h2
    simp only [resOne, VR] at h1
    rw [he, h1.2.2]
    rfl

/-- THE ROW's STEP: a law that is true of all that its arguments may be -/
theorem law_lifted {C : Checked} {os : Os} {f : FuncId} {fn : Func} {s : ChangeSpec} {conds : List PathCond} {tb : TypeId}
    (own : ownKnob C.prog.godebug = none) (started : os.Started) (noInit : C.prog.inits.idxOf? f = none) (hfn : C.prog.funcs[f]? = some fn)
    (witness : ∃ (w : World) (tape : Tape) (i : Input), w.os = os ∧ (w.forCall tape i).Shaped C.prog ∧ i.vars = [] ∧ Input.okWide C.prog (w.forCall tape i) .any w.heap.size f i ∧
      s.pre6 enc C.prog fn conds false (w.forCall tape i).memory i.args ∧ ({} : Assume).holds C.prog (lone (Frame.enter C.prog f i.args .normal) [] (w.forCall tape i)))
    (hl : laidOutB C.prog = true) (hvars : s.vars = []) (hres : fn.resultTypes = #[tb]) (htb : C.prog.underlying tb = some .bool)
    (hps : ∀ t ∈ fn.params.toList, (flat C.prog 10 t).isSome = true ∧ C.prog.readableRec t = true ∧ t < C.prog.types.size)
    (hspec : ∀ ds : List (DataW H), ds.length = fn.params.size → (s.fn H ds).results = [.lit (.bool true)] ∧ (s.fn H ds).args = ds ∧ (s.fn H ds).vars = [])
    (law : ∀ ivs, okArgs C.prog fn.params.toList ivs → RC C.prog f ivs [.bool true]) :
    ReturnsInHanded {} C os f .any (s.pre6 enc C.prog fn conds false) (s.post enc C.prog fn false true false false) := by
  refine returnsInHanded_of_change own started noInit hfn witness ?_
  intro W base args ds gs before hval hW hcnd _
  have hW' := hW
  obtain ⟨p, q, hA, hV, rfl, hfz, hnd⟩ := hW
  obtain ⟨ivs, k1, k2, k3, k4⟩ := args_opened (vs := args.toList) (fun t ht => (hps t ht).1) (fun j t v ht hv => hval j t v (by simpa using ht) (by simpa using hv)) hA
  rw [hvars] at hV
  obtain ⟨rfl, rfl⟩ := trodVars_none hV
  refine (law_calls (law ivs k1) k2 k3 k4).mono fun e W' ⟨he, hb⟩ => ?_
  have hlen : ∀ {ts : List TypeId} {vs : List Value} {ds : List (DataW H)} {ps : List MemPlace}, DataW.TrodAll enc C.prog W 0 (fun _ => true) true ts vs ds ps → ds.length = ts.length := by
    intro ts
    induction ts with
    | nil => intro vs ds ps h; cases vs <;> cases ds <;> simp [DataW.TrodAll] at h ⊢
    | cons t ts ih => intro vs ds ps h; cases vs <;> cases ds <;> simp only [DataW.TrodAll] at h; obtain ⟨_, _, _, h2, _⟩ := h; simp [ih h2]
  obtain ⟨s1, s2, s3⟩ := hspec ds (by rw [hlen hA]; simp)
  have hlt : ∀ x ∈ p, x.block < W.heap.size := fun x hx => by
    have := hW'.lt x (by simpa using hx)
    exact this
  refine ⟨_, he, ds, [], p ++ [], [], p, [], hW', ?_, ?_, ?_, ?_, by simp⟩
  · rw [List.append_nil, s1, hres]
    exact trodAll_mk1 (shut_bool htb true)
  · rw [List.append_nil, s2]
    exact args_stay hl hb (fun t ht => (hps t ht).2) hA hlt
  · rw [List.append_nil, s3, hvars]
    exact rfl
  · exact hb.frame _
end
end Go.Proofs.YtmblapgoimegkaaDoor
