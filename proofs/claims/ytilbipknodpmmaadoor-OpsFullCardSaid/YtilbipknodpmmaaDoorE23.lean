/- Whole bodies, whole functions. -/
import Derived.Test.YtilbipknodpmmaaDoorE20B
set_option linter.unusedSectionVars false
set_option linter.unusedVariables false
set_option linter.unusedSimpArgs false
namespace Go.Proofs.YtilbipknodpmmaaDoor
open Go.RowKit

def compC (P : Program) (N : Nat) : Code → MCode → Option MCode
  | .skip, .skip => some .skip
  | .region _ ops false, .reg hs => match compL P N ops ops.toList hs with | some l => some (.reg l) | none => none
  | .region _ ops true, .drw hp hs => match compL P N ops (ops.toList.take hp.length) hp, compL P N ops (ops.toList.drop hp.length) hs with
    | some pre, some suf => if pre.length = hp.length ∧ hp.all MI.isOp = true ∧ drawOk ops pre = true ∧ P.follows .mixedOrders = true then some (.drw pre suf) else none
    | _, _ => none
  | .region _ ops true, .dra t => match compT P N ops ops.size (Array.replicate ops.size false) t with
    | some t' => if t.goesOn ops (Array.replicate ops.size false) = true ∧ P.follows .mixedOrders = true then some (.dra t') else none
    | none => none
  | .region _ ops true, .drx l => match compX P N ops 0 l with
    | some l' => if P.follows .mixedOrders = true then some (.drx l') else none
    | none => none
  | .region _ ops true, .drc ha hc hb hs => match compL P N ops (ops.toList.take (ha.length + (hb.length + 1))) (ha ++ hc :: hb), compL P N ops (ops.toList.drop (ha.length + (hb.length + 1))) hs with
    | some pre, some suf => match pre.drop ha.length with
      | .op (some dc) co none :: pb => if pre.length = ha.length + (hb.length + 1) ∧ (ha ++ hc :: hb).all MI.isOp = true ∧ drawOk ops pre = true ∧ drcOk ops (pre.take ha.length) (.op (some dc) co none) pb = true ∧ P.follows .mixedOrders = true then some (.drc (pre.take ha.length) (.op (some dc) co none) pb suf) else none
      | _ => none
    | _, _ => none
  | .seq a b, .seq x y => match compC P N a x, compC P N b y with
    | some x, some y => some (.seq x y)
    | _, _ => none
  | .cond c a b, .cond _ x y => match opd c, compC P N a x, compC P N b y with
    | some c, some x, some y => some (.cond c x y)
    | _, _, _ => none
  | .block id a, .blk _ x => match compC P N a x with | some x => some (.blk id x) | none => none
  | .loop a, .loop x => match compC P N a x with | some x => some (.loop x) | none => none
  | .exit id, .exit _ => some (.exit id)
  | .ret, .ret => some .ret
  | _, _ => none

section
variable [Off] [Gh] [Old] {P : Program} {w0 : World} {N : Nat}

def liftQ (w0 : World) (N : Nat) (Q : Ex → St → Prop) : Exit → Act → World → Prop
  | .normal, a, w => ∃ s, Q .normal s ∧ Rel w0 N s a w
  | .exit id, a, w => ∃ s, Q (.exit id) s ∧ Rel w0 N s a w
  | .ret, a, w => ∃ s, Q .ret s ∧ Rel w0 N s a w
  | _, _, _ => False

theorem comp_wp : ∀ (h m : MCode) (c : Code), compC P N c h = some m → ∀ (Q : Ex → St → Prop) (s : St) (a : Act) (w : World), Wp (RCs P) m Q s → Rel w0 N s a w → c.wp P (liftQ w0 N Q) a w := by
  intro h
  induction h with
  | skip =>
    intro m c hc Q s a w hw hr
    cases c <;> simp only [compC] at hc <;> try (cases hc; done)
    injection hc with hc; subst hc
    exact wp_skip ⟨s, hw, hr⟩
  | reg hs =>
    intro m c hc Q s a w hw hr
    cases c
    case region id ops draw =>
     cases draw <;> simp only [compC] at hc
     · split at hc
       · rename_i l hl
         injection hc with hc; subst hc
         refine wp_region ?_
         have := runL_wp (P := P) (ops := ops) (Q := liftQ w0 N Q) (K := fun s => Q .normal s) (w0 := w0) (N := N) (fun s a w h1 h2 => ⟨s, h1, h2⟩) hs ops.toList 0 l s a w hl rfl hr hw
         rwa [Array.length_toList, ← List.range_eq_range'] at this
       · cases hc
     · cases hc
    all_goals (simp only [compC] at hc; cases hc)
  | drw hp hs =>
    intro m c hc Q s a w hw hr
    cases c
    case region id ops draw =>
     cases draw <;> simp only [compC] at hc
     · cases hc
     · split at hc
       · rename_i pre suf h1 h2
         split at hc
         · rename_i hcond
           obtain ⟨e1, e2, e3, e4⟩ := hcond
           injection hc with hc; subst hc
           rw [← e1] at h1 h2
           exact draw_wp (Q := liftQ w0 N Q) (K := fun s => Q .normal s) e4 h1 e2 h2 e3 (fun s a w h1 h2 => ⟨s, h1, h2⟩) hr hw
         · cases hc
       · cases hc
    all_goals (simp only [compC] at hc; cases hc)
  | dra t =>
    intro m c hc Q s a w hw hr
    cases c
    case region id ops draw =>
     cases draw <;> simp only [compC] at hc
     · cases hc
     · split at hc
       · rename_i t' h1
         split at hc
         · rename_i hcond
           obtain ⟨e1, e2⟩ := hcond
           injection hc with hc; subst hc
           exact dra_wp (Q := liftQ w0 N Q) (K := fun s => Q .normal s) e2 h1 e1 (fun s a w h1 h2 => ⟨s, h1, h2⟩) (fun c a w h => h) hr hw
         · cases hc
       · cases hc
    all_goals (simp only [compC] at hc; cases hc)
  | drx l =>
    intro m c hc Q s a w hw hr
    cases c
    case region id ops draw =>
     cases draw <;> simp only [compC] at hc
     · cases hc
     · split at hc
       · rename_i l' h1
         split at hc
         · rename_i e2
           injection hc with hc; subst hc
           simp only [Wp] at hw
           obtain ⟨Inv, k1, k2, k3⟩ := hw
           exact drx_wp (Q := liftQ w0 N Q) (K := fun s => Q .normal s) e2 h1 (fun s a w h1 h2 => ⟨s, h1, h2⟩) hr k1 k2 k3
         · cases hc
       · cases hc
    all_goals (simp only [compC] at hc; cases hc)
  | drc ha hcc hb hs =>
    intro m c hc Q s a w hw hr
    cases c
    case region id ops draw =>
     cases draw <;> simp only [compC] at hc
     · cases hc
     · split at hc
       · rename_i pre suf h1 h2
         split at hc
         · rename_i dc co pb hdrop
           split at hc
           · rename_i hcond
             obtain ⟨e1, e2, e3, e4, e5⟩ := hcond
             injection hc with hc; subst hc
             rw [← e1] at h1 h2
             have hpre : pre = pre.take ha.length ++ MI.op (some dc) co none :: pb := by rw [← hdrop, List.take_append_drop]
             exact drc_wp (Q := liftQ w0 N Q) (Q' := Q) e5 hpre h1 e2 h2 e3 e4 (fun s a w h1 h2 => ⟨s, h1, h2⟩) hr hw
           · cases hc
         · cases hc
       · cases hc
    all_goals (simp only [compC] at hc; cases hc)
  | seq x y ihx ihy =>
    intro m c hc Q s a w hw hr
    cases c <;> simp only [compC] at hc <;> try (cases hc; done)
    split at hc
    · rename_i x' y' hx hy
      injection hc with hc; subst hc
      refine wp_seq (wp_mono (ihx _ _ hx _ s a w hw hr) fun e a' w' he => ?_)
      cases e with
      | normal => obtain ⟨s', h1, h2⟩ := he; exact ihy _ _ hy Q s' a' w' h1 h2
      | exit id => exact he
      | ret => exact he
      | _ => exact he.elim
    · cases hc
  | cond cc x y ihx ihy =>
    intro m c hc Q s a w hw hr
    cases c <;> simp only [compC] at hc <;> try (cases hc; done)
    split at hc
    · rename_i c' x' y' hcc hx hy
      injection hc with hc; subst hc
      simp only [Wp] at hw
      obtain ⟨φ, hrC⟩ := hr.open_
      split at hw
      · rename_i t ht
        refine wp_cond (get_VR hrC hcc ht).bool_ ?_
        cases t with
        | true => simp only [if_true] at hw ⊢; exact ihx _ _ hx Q s a w hw hr
        | false => simp only [Bool.false_eq_true, if_false] at hw ⊢; exact ihy _ _ hy Q s a w hw hr
      · rename_i ht
        have hb := get_VR hrC hcc ht
        simp only [VR] at hb
        obtain ⟨b, hb⟩ := hb
        refine wp_cond hb ?_
        cases b with
        | true => simp only [if_true]; exact ihx _ _ hx Q s a w hw.1 hr
        | false => simp only [Bool.false_eq_true, if_false]; exact ihy _ _ hy Q s a w hw.2 hr
      · exact hw.elim
    · cases hc
  | blk id x ihx =>
    intro m c hc Q s a w hw hr
    cases c <;> simp only [compC] at hc <;> try (cases hc; done)
    split at hc
    · rename_i id' _ x' hx
      injection hc with hc; subst hc
      refine wp_block (wp_mono (ihx _ _ hx _ s a w hw hr) fun e a' w' he => ?_)
      cases e with
      | normal => exact he
      | exit j =>
        obtain ⟨s', h1, h2⟩ := he
        simp only at h1
        simp only [Exit.inBlock]
        split
        · rename_i hj; rw [if_pos hj] at h1; exact ⟨s', h1, h2⟩
        · rename_i hj; rw [if_neg hj] at h1; exact ⟨s', h1, h2⟩
      | ret => exact he
      | _ => exact he.elim
    · cases hc
  | loop x ihx =>
    intro m c hc Q s a w hw hr
    cases c <;> simp only [compC] at hc <;> try (cases hc; done)
    split at hc
    · rename_i _ x' hx
      injection hc with hc; subst hc
      obtain ⟨n, hn⟩ := hw
      refine wp_loop_rounds n ?_
      induction n generalizing s a w with
      | zero => exact hn.elim
      | succ n ih =>
        rw [rounds_succ]
        refine wp_mono (ihx _ _ hx _ s a w hn hr) fun e a' w' he => ?_
        cases e with
        | normal => obtain ⟨s', h1, h2⟩ := he; exact ih s' a' w' h2 h1
        | exit id => exact he
        | ret => exact he
        | _ => exact he.elim
    · cases hc
  | exit id =>
    intro m c hc Q s a w hw hr
    cases c <;> simp only [compC] at hc <;> try (cases hc; done)
    injection hc with hc; subst hc
    exact wp_exit ⟨s, hw, hr⟩
  | ret =>
    intro m c hc Q s a w hw hr
    cases c <;> simp only [compC] at hc <;> try (cases hc; done)
    injection hc with hc; subst hc
    exact wp_ret ⟨s, hw, hr⟩
end
end Go.Proofs.YtilbipknodpmmaaDoor

/-! Whole functions. -/
set_option linter.unusedSectionVars false
set_option linter.unusedVariables false
set_option linter.unusedSimpArgs false
namespace Go.Proofs.YtilbipknodpmmaaDoor
open Go.RowKit

def resV (P : Program) : ResultVar → Option MRes
  | .tmp t => some (.tmp t)
  | .cell x t => match P.underlying t, P.info? t with
    | some _, some _ => some (.cell x (aggT P t) (if aggT P t then P.cellsOf t else 1))
    | _, _ => none
def resVs (P : Program) : List ResultVar → Option (List MRes)
  | [] => some []
  | x :: xs => match resV P x, resVs P xs with
    | some y, some ys => some (y :: ys)
    | _, _ => none
def compF (P : Program) (f : FuncId) (h : MFunc) : Option MFunc := match P.funcs[f]? with
  | some fn => match fn.body, resVs P fn.results.toList with
    | some c, some rs => match compC P fn.ntmps c h.body with
      | some b => if h.np ≤ fn.ntmps ∧ goodFn P f = true then some ⟨h.np, fn.ntmps, rs, b⟩ else none
      | none => none
    | _, _ => none
  | none => none

def St.start (args : List IV) : St := ⟨fun t => args.getD t (.tup []), deadH⟩
def Post (rs : List MRes) (r : List IV) : Ex → St → Prop
  | .exit _, _ => False
  | _, s => s.ress rs = some r ∧ (r.filter isOwn).length ≤ 1

section
variable [Off] [Gh] [Old] {P : Program} {φ : Nat → Option (Nat × Nat)} {w0 : World} {N : Nat} {s : St} {a : Act} {w w' : World}

theorem resOne_of {B : Nat → Prop} {x : IV} {u : Value} (ho : isOwn x = false) (h1 : x.pur = true) (h2 : x.nlit = true) (h3 : VR ⟨w', B, deadH, fun _ => none, w.heap.size⟩ x u) : resOne w w' B x u := by
  cases x <;> first | exact ⟨h1, h2, h3⟩ | simp [isOwn] at ho

theorem one_noOwn {x : IV} (h : x.one = true) : isOwn x = false := by
  cases x <;> first | rfl | (simp [IV.one] at h)

theorem exp_ok (h : RelC φ w0 N s a w) {v r : IV} (hx : s.exp v = some r) {u : Value} (hv : VR (sx w s.h φ w0.heap.size) v u) : resOne w0 w (stb w s.h φ w0.heap.size) r u := by
  have ev : EvoP (sx w s.h φ w0.heap.size) ⟨w, stb w s.h φ w0.heap.size, deadH, fun _ => none, w0.heap.size⟩ := ⟨fun _ h => h, fun _ _ _ => rfl⟩
  have viaNest : s.nest1 v = some r → resOne w0 w (stb w s.h φ w0.heap.size) r u := fun hn => by
    obtain ⟨h1, h2, h3⟩ := nest1_VR h hn hv
    exact resOne_of (one_noOwn h2) h3 (one_nlit h2) (h1.evoP ev h3 (one_nlit h2))
  cases v with
  | row hh off n sz ver =>
    simp only [St.exp] at hx
    split at hx
    · rename_i hc
      obtain ⟨hok, hrw, hrow⟩ := hc
      injection hx with hx; subst hx
      simp only [St.ok, Bool.and_eq_true, beq_iff_eq] at hok
      have hv0 := hv
      simp only [VR] at hv0
      obtain ⟨_, A, k, rfl, hnk, hrr⟩ := hv0
      have hrr := hrr hok.1 hok.2
      have hhome := h.hs.home hh hok.1
      have hone := all_take (all_drop hhome.one off) (n * sz)
      have hpur := purL_take (purL_drop (hhome.row hrow) off) (n * sz)
      have hlen : n * sz = (s.seg hh off (n * sz)).length := by
        have : off + n * sz ≤ (s.h hh).cells.length := hrr.1
        simp only [St.seg, List.length_take, List.length_drop]
        omega
      refine ⟨hlen, hone, hpur, A, k, rfl, hnk, ?_⟩
      have hat := hhome.at_
      unfold rowR at hrr
      cases hφ : φ hh with
      | none =>
        simp only [hφ] at hrr hat
        have hk : k = 0 := hrr.2.1
        have hn : n = 0 := by omega
        exact .inl ⟨by simp [St.seg, hat], hn, hk⟩
      | some p =>
        obtain ⟨b, o⟩ := p
        simp only [hφ] at hrr hat
        obtain ⟨ccs, T, fr, us, g1, g2, g3, g4, g5⟩ := hat
        obtain ⟨rfl, hb⟩ := g2 hrw
        have hul := g3.length
        have hbs : bsize w b = ccs.size := by simp only [bsize, g1]
        right
        refine ⟨b, o + off, ccs, T, (us.drop off).take (n * sz), hrr.2.1, g1, ?_, hb, ?_, fun i hi => ?_, ?_, ?_⟩
        · intro hB
          exact hB.2.1 hh hok.1 hrw (b, o) hφ rfl
        · exact ((g3.drop off).take (n * sz)).evoP ev hpur (ones_nlit hone)
        · rw [List.getElem_take, List.getElem_drop]
          simp only [List.length_take, List.length_drop] at hi
          have := g4 (off + i) (by omega)
          rw [← this, Nat.add_assoc]
        · simp only [List.length_take, List.length_drop]
          have : off + n * sz ≤ (s.h hh).cells.length := hrr.1
          have hul' : us.length = (s.h hh).cells.length := hul
          omega
        · rw [← hbs]; exact hrr.2.2
    · exact viaNest hx
  | sl f n cs =>
    have hpur : IV.purL cs = true := by simp only [VR] at hv; obtain ⟨_, _, _, _, _, _, _, h5, _⟩ := hv; exact h5
    cases f with
    | lit =>
      simp only [St.exp, Option.some.injEq] at hx; subst hx
      have hv' : VR (sx w s.h φ w0.heap.size) (.sl .full n cs) u := by
        simp only [VR] at hv ⊢
        obtain ⟨A, k, us, h1, h2, h3, h4, h5, h6, h7, h8⟩ := hv
        exact ⟨A, k, us, h1, h2, fun _ => h3 (by simp), by simp, h5, h6, h7, h8⟩
      exact resOne_of rfl hpur rfl (hv'.evoP ev hpur rfl)
    | plain => simp only [St.exp, Option.some.injEq] at hx; subst hx; exact resOne_of rfl hpur rfl (hv.evoP ev hpur rfl)
    | full => simp only [St.exp, Option.some.injEq] at hx; subst hx; exact resOne_of rfl hpur rfl (hv.evoP ev hpur rfl)
  | agg cs =>
    simp only [St.exp] at hx
    split at hx
    · rename_i hsc
      injection hx with hx; subst hx
      obtain ⟨p, q⟩ := scal_pur hsc
      exact resOne_of rfl p rfl (hv.evoP ev p rfl)
    · split at hx
      · rename_i cs' hcs
        injection hx with hx; subst hx
        have hv0 := hv
        simp only [VR] at hv0
        obtain ⟨us, rfl, h1, hl⟩ := hv0
        obtain ⟨b1, b2, b3⟩ := nestL_VR h hcs hl
        refine resOne_of rfl b3 rfl ?_
        simp only [VR]
        exact ⟨us, rfl, b2, b1.evoP ev b3 (ones_nlit b2)⟩
      · cases hx
  | _ => simp only [St.exp] at hx; exact viaNest hx

theorem run_asAddr (ad : Addr) (w : World) : (asAddr (.pointer (some ad))).run P w = .ok ad w := rfl

theorem loadVar_of {t : TypeId} {ad : Addr} {rv : Value} (h : (Instr.loadAt t (.pointer (some ad))).run P w = .ok rv w) : (loadVar t ad).run P w = .ok rv w := by
  simpa only [Instr.loadAt, Instr.sureAddr, Sem.run_bind, Sem.run_pure, Result.andThen_ok] using h

theorem ress_run (h : RelC φ w0 N s a w) : ∀ (l : List ResultVar) (rs : List MRes) (vs : List IV), resVs P l = some rs → s.ress rs = some vs →
    ∃ us, (l.mapM fun r => (match r with
      | .tmp t => pure (a.tmps.getD t undef)
      | .cell x t => do loadVar t (← asAddr (a.tmps.getD x undef)) : Sem Value)).run P w = .ok us w ∧ F2 (resOne w0 w (stb w s.h φ w0.heap.size)) vs us
  | [], rs, vs, h1, h2 => by
    simp only [resVs, Option.some.injEq] at h1; subst h1
    simp only [St.ress, Option.some.injEq] at h2; subst h2
    exact ⟨[], by simp, .nil⟩
  | x :: l, rs, vs, h1, h2 => by
    simp only [resVs] at h1
    split at h1
    · rename_i y ys hy hys
      injection h1 with h1; subst h1
      simp only [St.ress] at h2
      split at h2
      · rename_i v vs' hv hvs
        injection h2 with h2; subst h2
        obtain ⟨us, g1, g2⟩ := ress_run h l ys vs' hys hvs
        have head : ∃ u, (match x with
            | .tmp t => pure (a.tmps.getD t undef)
            | .cell x t => do loadVar t (← asAddr (a.tmps.getD x undef)) : Sem Value).run P w = .ok u w ∧ resOne w0 w (stb w s.h φ w0.heap.size) v u := by
          cases x with
          | tmp t =>
            simp only [resV, Option.some.injEq] at hy; subst hy
            simp only [St.res] at hv
            split at hv
            · rename_i v0 hv0
              exact ⟨_, rfl, exp_ok h hv (get_VR h (x := .tmp t) rfl hv0)⟩
            · cases hv
          | cell x t =>
            simp only [resV] at hy
            split at hy
            · rename_i d i hd hi
              injection hy with hy; subst hy
              simp only [St.res] at hv
              generalize hn : (if aggT P t = true then P.cellsOf t else 1) = n at hv
              split at hv
              · rename_i hh off ver hp
                split at hv
                · rename_i hc
                  obtain ⟨hok, hle⟩ := hc
                  split at hv
                  · rename_i v0 hasv
                    simp only [St.ok, Bool.and_eq_true, beq_iff_eq] at hok
                    obtain ⟨b, o', us', hb, hl, hr⟩ := ptr_cells h.hs (get_VR h (x := .tmp x) rfl hp) hok.1 hok.2
                    have hlen := hl.length
                    simp only [List.length_drop] at hlen
                    obtain ⟨rv, hrun, ha, hb'⟩ := run_load_at (P := P) (rangeAt_take hr n) hd hi (by rw [hn]; simp only [List.length_take]; omega)
                    refine ⟨rv, ?_, exp_ok h hv (asV_VR hasv (hl.take _) (all_take (all_drop (h.hs.home hh hok.1).one _) _) ha hb')⟩
                    have hb2 : a.tmps.getD x undef = .pointer (some ⟨b, o', none⟩) := hb
                    simp only [hb2, Sem.run_bind, run_asAddr, Result.andThen_ok]
                    exact loadVar_of hrun
                  · cases hv
                · cases hv
              · cases hv
            · cases hy
        obtain ⟨u, q1, q2⟩ := head
        refine ⟨u :: us, ?_, .cons q2 g2⟩
        rw [List.mapM_cons]
        simp only [Sem.run_bind, q1, Result.andThen_ok, g1, Sem.run_pure]
      · cases h2
    · cases h1

theorem results_run (h : RelC φ w0 N s a w) {fn : Func} {rs : List MRes} {vs : List IV} (h1 : resVs P fn.results.toList = some rs) (h2 : s.ress rs = some vs) (hown : (vs.filter isOwn).length ≤ 1) :
    ∃ rv, (results fn a.tmps).run P w = .ok rv w ∧ ResR Old.A w0 w vs rv := by
  obtain ⟨us, g1, g2⟩ := ress_run h _ _ _ h1 h2
  refine ⟨asVal us, ?_, stb w s.h φ w0.heap.size, us, rfl, fun b hb => ⟨hb.2.2, hb.1⟩, g2, hown⟩
  unfold results
  rw [Array.mapM_eq_mapM_toList]
  rw [Sem.run_bind, Sem.run_map]
  refine Eq.trans (congrArg (fun r => Result.andThen (Result.andThen r _) _) g1) ?_
  simp only [Result.andThen_ok, Sem.run_pure]
  match us with
  | [] => rfl
  | [u] => rfl
  | u :: v :: us => rfl
end

def St.raw (s : St) : MRes → Option IV
  | .tmp t => s.get (.tmp t)
  | .cell t ag n => match s.get (.tmp t) with
    | some (.ptr h off ver) => if s.ok h ver = true ∧ off + n ≤ (s.h h).cells.length then asV ag (s.seg h off n) else none
    | _ => none
def St.raws (s : St) : List MRes → Option (List IV)
  | [] => some []
  | x :: xs => match s.raw x, s.raws xs with
    | some v, some vs => if v.nlit = true then some (v :: vs) else none
    | _, _ => none
def PostI (rs : List MRes) (Q : List IV → (Nat → Blk) → Prop) : Ex → St → Prop
  | .exit _, _ => False
  | _, s => ∃ r, s.raws rs = some r ∧ Q r s.h

section
variable [Off] [Gh] [Old] {P : Program} {φ : Nat → Option (Nat × Nat)} {w0 : World} {N : Nat} {s : St} {a : Act} {w w' : World}
theorem raws_run (h : RelC φ w0 N s a w) : ∀ (l : List ResultVar) (rs : List MRes) (vs : List IV), resVs P l = some rs → s.raws rs = some vs →
    vs.all IV.nlit = true ∧ ∃ us, (l.mapM fun r => (match r with
      | .tmp t => pure (a.tmps.getD t undef)
      | .cell x t => do loadVar t (← asAddr (a.tmps.getD x undef)) : Sem Value)).run P w = .ok us w ∧ VRL (sx w s.h φ w0.heap.size) vs us
  | [], rs, vs, h1, h2 => by
    simp only [resVs, Option.some.injEq] at h1; subst h1
    simp only [St.raws, Option.some.injEq] at h2; subst h2
    exact ⟨rfl, [], by simp, VRL.nil⟩
  | x :: l, rs, vs, h1, h2 => by
    simp only [resVs] at h1
    split at h1
    · rename_i y ys hy hys
      injection h1 with h1; subst h1
      simp only [St.raws] at h2
      split at h2
      · rename_i v vs' hv hvs
        split at h2
        · rename_i hnl
          injection h2 with h2; subst h2
          obtain ⟨gl, us, g1, g2⟩ := raws_run h l ys vs' hys hvs
          have head : ∃ u, (match x with
              | .tmp t => pure (a.tmps.getD t undef)
              | .cell x t => do loadVar t (← asAddr (a.tmps.getD x undef)) : Sem Value).run P w = .ok u w ∧ VR (sx w s.h φ w0.heap.size) v u := by
            cases x with
            | tmp t =>
              simp only [resV, Option.some.injEq] at hy; subst hy
              simp only [St.raw] at hv
              exact ⟨_, rfl, get_VR h (x := .tmp t) rfl hv⟩
            | cell x t =>
              simp only [resV] at hy
              split at hy
              · rename_i d i hd hi
                injection hy with hy; subst hy
                simp only [St.raw] at hv
                generalize hn : (if aggT P t = true then P.cellsOf t else 1) = n at hv
                split at hv
                · rename_i hh off ver hp
                  split at hv
                  · rename_i hc
                    obtain ⟨hok, hle⟩ := hc
                    simp only [St.ok, Bool.and_eq_true, beq_iff_eq] at hok
                    obtain ⟨b, o', us', hb, hl, hr⟩ := ptr_cells h.hs (get_VR h (x := .tmp x) rfl hp) hok.1 hok.2
                    have hlen := hl.length
                    simp only [List.length_drop] at hlen
                    obtain ⟨rv, hrun, ha, hb'⟩ := run_load_at (P := P) (rangeAt_take hr n) hd hi (by rw [hn]; simp only [List.length_take]; omega)
                    refine ⟨rv, ?_, asV_VR hv (hl.take _) (all_take (all_drop (h.hs.home hh hok.1).one _) _) ha hb'⟩
                    have hb2 : a.tmps.getD x undef = .pointer (some ⟨b, o', none⟩) := hb
                    simp only [hb2, Sem.run_bind, run_asAddr, Result.andThen_ok]
                    exact loadVar_of hrun
                  · cases hv
                · cases hv
              · cases hy
          obtain ⟨u, q1, q2⟩ := head
          refine ⟨by simp [hnl, gl], u :: us, ?_, VRL.cons q2 g2⟩
          rw [List.mapM_cons]
          simp only [Sem.run_bind, q1, Result.andThen_ok, g1, Sem.run_pure]
        · cases h2
      · cases h2
    · cases h1

theorem raws_results (h : RelC φ w0 N s a w) {fn : Func} {rs : List MRes} {vs : List IV} (h1 : resVs P fn.results.toList = some rs) (h2 : s.raws rs = some vs) :
    vs.all IV.nlit = true ∧ ∃ us, (results fn a.tmps).run P w = .ok (asVal us) w ∧ VRL (sx w s.h φ w0.heap.size) vs us := by
  obtain ⟨gl, us, g1, g2⟩ := raws_run h _ _ _ h1 h2
  refine ⟨gl, us, ?_, g2⟩
  unfold results
  rw [Array.mapM_eq_mapM_toList]
  rw [Sem.run_bind, Sem.run_map]
  refine Eq.trans (congrArg (fun r => Result.andThen (Result.andThen r _) _) g1) ?_
  simp only [Result.andThen_ok, Sem.run_pure]
  match us with
  | [] => rfl
  | [u] => rfl
  | u :: v :: us => rfl
end

def leV (x y : IV) : Prop := x = y ∨ (x = .sl .full 0 [] ∧ ∃ sz, y = .own 0 sz [])
def PostW (rs : List MRes) (r : List IV) : Ex → St → Prop
  | .exit _, _ => False
  | _, s => ∃ r', s.ress rs = some r' ∧ F2 leV r' r ∧ (r'.filter isOwn).length ≤ 1 ∧ (r.filter isOwn).length ≤ 1
theorem F2_leV_refl : ∀ r : List IV, F2 leV r r
  | [] => .nil
  | x :: r => .cons (.inl rfl) (F2_leV_refl r)
theorem Post_W {rs : List MRes} {r : List IV} {e : Ex} {s : St} (h : Post rs r e s) : PostW rs r e s := by
  cases e with
  | exit id => exact h.elim
  | normal => exact ⟨r, h.1, F2_leV_refl r, h.2, h.2⟩
  | ret => exact ⟨r, h.1, F2_leV_refl r, h.2, h.2⟩
theorem resOne_le {w w' : World} {B : Nat → Prop} {x y : IV} {u : Value} (h : leV x y) (hr : resOne w w' B x u) : resOne w w' B y u := by
  rcases h with rfl | ⟨rfl, sz, rfl⟩
  · exact hr
  · obtain ⟨_, _, hv⟩ := hr
    simp only [VR] at hv
    obtain ⟨A, k, us, rfl, hnk, hf, _⟩ := hv
    have hk : k = 0 := hf (by simp)
    subst hk
    exact ⟨by simp, rfl, rfl, A, 0, rfl, Nat.le_refl _, .inl ⟨rfl, rfl, rfl⟩⟩
theorem F2_res_le {w w' : World} {B : Nat → Prop} : ∀ {r' r : List IV} {us : List Value}, F2 leV r' r → F2 (resOne w w' B) r' us → F2 (resOne w w' B) r us
  | [], r, us, h, hr => by cases h; exact hr
  | x :: r', r, us, h, hr => by
    cases h with
    | cons h1 h2 =>
      cases hr with
      | cons k1 k2 => exact .cons (resOne_le h1 k1) (F2_res_le h2 k2)
theorem ResR.le {A : Nat → Prop} {w w' : World} {r' r : List IV} {rv : Value} (h : F2 leV r' r) (hc : (r.filter isOwn).length ≤ 1) (hr : ResR A w w' r' rv) : ResR A w w' r rv := by
  obtain ⟨B, us, h1, h2, h3, _⟩ := hr
  exact ⟨B, us, h1, h2, F2_res_le h h3, hc⟩

section
variable [Off] {P : Program}

theorem deadSx (A : Nat → Prop) (w : World) : letI : Old := ⟨A⟩; EvoP (cArg A w) (sx w deadH (fun _ => none) w.heap.size) ↔ ∀ b, A b → b < w.heap.size := by
  letI : Old := ⟨A⟩
  constructor
  · intro h b hb; exact (h.S b hb).1
  · intro h; exact ⟨fun b hb => ⟨h b hb, fun x hl => by simp [deadH] at hl, fun _ => hb⟩, fun _ _ _ => rfl⟩

theorem PCalls.of_wp {f : FuncId} {h m : MFunc} (hf : compF P f h = some m) {args r : List IV} (hl : args.length = m.np) (hw : Wp (RCs P) m.body (PostW m.res r) (St.start args)) : PCalls P f args r := by
  intro w A vals hA hnl hpu hv
  letI : Old := ⟨A⟩
  letI : Gh := ⟨fun _ _ => False, [], []⟩
  unfold compF at hf
  split at hf
  · rename_i fn hfn
    split at hf
    · rename_i c rs hb hrs
      split at hf
      · rename_i b hc
        split at hf
        · rename_i hcond
          injection hf with hf; subst hf
          refine calls_of_wp hfn hb ?_
          have hlen := hv.length
          have hsz : (vals.toArray ++ Array.replicate (fn.ntmps - vals.toArray.size) undef).size = fn.ntmps := by
            simp only [Array.size_append, List.size_toArray, Array.size_replicate]
            simp only [] at hl
            omega
          have hrel : Rel w fn.ntmps (St.start args) { tmps := vals.toArray ++ Array.replicate (fn.ntmps - vals.toArray.size) undef, defers := [] } w := by
            refine ⟨fun _ => none, ⟨fun x hl => by simp [St.start, deadH] at hl, fun x y p q hl => by simp [St.start, deadH] at hl, Nat.le_refl _⟩, ⟨Below.refl _ _, fun p hp => by cases hp⟩, hsz, rfl, fun t => ?_, fun v u h => h.elim⟩
            have hv' := hv.evoP ((deadSx A w).2 hA) hpu hnl
            simp only [St.start]
            by_cases ht : t < args.length
            · have e1 : args.getD t (.tup []) = args[t] := by simp [List.getD_eq_getElem?_getD, ht]
              have e2 : (vals.toArray ++ Array.replicate (fn.ntmps - vals.toArray.size) undef).getD t undef = vals[t]'(by omega) := by
                rw [Array.getD_eq_getD_getElem?, Array.getElem?_append_left (by simp; omega)]
                simp [show t < vals.length by omega]
              rw [e1, e2]
              exact hv'.get t ht (by omega)
            · have e1 : args.getD t (.tup []) = .tup [] := by simp [List.getD_eq_getElem?_getD, List.getElem?_eq_none (show args.length ≤ t by omega)]
              have e2 : (vals.toArray ++ Array.replicate (fn.ntmps - vals.toArray.size) undef).getD t undef = undef := by
                rw [Array.getD_eq_getD_getElem?, Array.getElem?_append_right (by simp; omega), Array.getElem?_replicate]
                split <;> rfl
              rw [e1, e2]
              exact undef_VR
          refine Code.wp_mono (fun e a' w' he => ?_) (comp_wp h.body b c hc _ _ _ _ hw hrel)
          have fin : ∀ s, (∃ r', s.ress rs = some r' ∧ F2 leV r' r ∧ (r'.filter isOwn).length ≤ 1 ∧ (r.filter isOwn).length ≤ 1) → Rel w fn.ntmps s a' w' → a'.defers = [] ∧ ∃ v, (results fn a'.tmps).run P w' = .ok v w' ∧ ∃ rv, Ending.returned v = .returned rv ∧ ResR A w w' r rv ∧ Below w.heap.size w w' := fun s hs hr => by
            obtain ⟨φ, hrC⟩ := hr.open_
            obtain ⟨r', q1, q2, q3, q4⟩ := hs
            obtain ⟨rv, g1, g2⟩ := results_run hrC hrs q1 q3
            exact ⟨hrC.defers, rv, g1, rv, rfl, g2.le q2 q4, hrC.below.lo⟩
          cases e with
          | normal => obtain ⟨s, h1, h2⟩ := he; exact fin s h1 h2
          | ret => obtain ⟨s, h1, h2⟩ := he; exact fin s h1 h2
          | exit id => obtain ⟨s, h1, h2⟩ := he; exact h1.elim
          | _ => exact he.elim
        · cases hf
      · cases hf
    · cases hf
  · cases hf

theorem goodF {f : FuncId} {h m : MFunc} (hf : compF P f h = some m) : goodFn P f = true := by
  unfold compF at hf
  split at hf
  · split at hf
    · split at hf
      · split at hf
        · rename_i hc; exact hc.2
        · cases hf
      · cases hf
    · cases hf
  · cases hf

theorem IC.of_wp {f : FuncId} {h m : MFunc} (hf : compF P f h = some m) {H : Nat → Blk} {vals : List IV} {Q : List IV → (Nat → Blk) → Prop} (hl : vals.length = m.np)
    (hw : Wp (RCs P) m.body (PostI m.res Q) ⟨fun t => vals.getD t (.tup []), H⟩) : IC P f H vals Q := by
  refine ⟨goodF hf, ?_⟩
  intro o w0 w φ us G L hHS hbelow hv hG
  letI : Old := o
  letI : Gh := ⟨G, [], L⟩
  unfold compF at hf
  split at hf
  · rename_i fn hfn
    split at hf
    · rename_i c rs hb hrs
      split at hf
      · rename_i b hc
        split at hf
        · rename_i hcond
          injection hf with hf; subst hf
          refine calls_of_wp hfn hb ?_
          have hlen := hv.length
          have hsz : (us.toArray ++ Array.replicate (fn.ntmps - us.toArray.size) undef).size = fn.ntmps := by
            simp only [Array.size_append, List.size_toArray, Array.size_replicate]
            simp only [] at hl
            omega
          have hrel : Rel w0 fn.ntmps ⟨fun t => vals.getD t (.tup []), H⟩ { tmps := us.toArray ++ Array.replicate (fn.ntmps - us.toArray.size) undef, defers := [] } w := by
            refine ⟨φ, hHS, hbelow, hsz, rfl, fun t => ?_, hG⟩
            by_cases ht : t < vals.length
            · have e1 : vals.getD t (.tup []) = vals[t] := by simp [List.getD_eq_getElem?_getD, ht]
              have e2 : (us.toArray ++ Array.replicate (fn.ntmps - us.toArray.size) undef).getD t undef = us[t]'(by omega) := by
                rw [Array.getD_eq_getD_getElem?, Array.getElem?_append_left (by simp; omega)]
                simp [show t < us.length by omega]
              simp only [e1, e2]
              exact hv.get t ht (by omega)
            · have e1 : vals.getD t (.tup []) = .tup [] := by simp [List.getD_eq_getElem?_getD, List.getElem?_eq_none (show vals.length ≤ t by omega)]
              have e2 : (us.toArray ++ Array.replicate (fn.ntmps - us.toArray.size) undef).getD t undef = undef := by
                rw [Array.getD_eq_getD_getElem?, Array.getElem?_append_right (by simp; omega), Array.getElem?_replicate]
                split <;> rfl
              simp only [e1, e2]
              exact undef_VR
          refine Code.wp_mono (fun e a' w' he => ?_) (comp_wp h.body b c hc _ _ _ _ hw hrel)
          have fin : ∀ s, (∃ r, s.raws rs = some r ∧ Q r s.h) → Rel w0 fn.ntmps s a' w' → a'.defers = [] ∧ ∃ v, (results fn a'.tmps).run P w' = .ok v w' ∧ ∃ rv, Ending.returned v = .returned rv ∧ ∃ (φ' : Nat → Option (Nat × Nat)) (h' : Nat → Blk) (r : List IV) (us' : List Value), Q r h' ∧ HS (sx w' h' φ' w0.heap.size) ∧ Bel w0 w' ∧
              (∀ v u, G v u → VR (sx w' h' φ' w0.heap.size) v u) ∧ rv = asVal us' ∧ VRL (sx w' h' φ' w0.heap.size) r us' ∧ r.all IV.nlit = true := fun s hs hr => by
            obtain ⟨r, hraw, hq⟩ := hs
            obtain ⟨φ', hrC⟩ := hr.open_
            obtain ⟨gl, us', g1, g2⟩ := raws_results hrC hrs hraw
            exact ⟨hrC.defers, _, g1, _, rfl, φ', s.h, r, us', hq, hrC.hs, hrC.below, hrC.g, rfl, g2, gl⟩
          cases e with
          | normal => obtain ⟨s, h1, h2⟩ := he; exact fin s h1 h2
          | ret => obtain ⟨s, h1, h2⟩ := he; exact fin s h1 h2
          | exit id => obtain ⟨s, h1, h2⟩ := he; exact h1.elim
          | _ => exact he.elim
        · cases hf
      · cases hf
    · cases hf
  · cases hf

theorem RC.of_wpW {f : FuncId} {h m : MFunc} (hf : compF P f h = some m) {args r : List IV} (hl : args.length = m.np) (hw : Wp (RCs P) m.body (PostW m.res r) (St.start args)) : RC P f args r := ⟨goodF hf, PCalls.of_wp hf hl hw⟩
end
end Go.Proofs.YtilbipknodpmmaaDoor

/-! Rules for the ideal machine's code. -/
set_option linter.unusedSectionVars false
set_option linter.unusedVariables false
set_option linter.unusedSimpArgs false
namespace Go.Proofs.YtilbipknodpmmaaDoor
open Go.RowKit

section
variable [Off] {R : Cs}

theorem LoopN_mono {F : (Ex → St → Prop) → St → Prop} (hF : ∀ (Q Q' : Ex → St → Prop) (s : St), (∀ e s, Q e s → Q' e s) → F Q s → F Q' s) : ∀ (n : Nat) {Q Q' : Ex → St → Prop} {s : St}, (∀ e s, Q e s → Q' e s) → LoopN F n Q s → LoopN F n Q' s
  | 0, Q, Q', s, _, h => h
  | n + 1, Q, Q', s, hq, h => hF _ _ _ (fun e s' he => by
      cases e with
      | normal => exact LoopN_mono hF n hq he
      | exit id => exact hq _ _ he
      | ret => exact hq _ _ he) h
theorem LoopN_le {F : (Ex → St → Prop) → St → Prop} (hF : ∀ (Q Q' : Ex → St → Prop) (s : St), (∀ e s, Q e s → Q' e s) → F Q s → F Q' s) : ∀ (n m : Nat) {Q : Ex → St → Prop} {s : St}, n ≤ m → LoopN F n Q s → LoopN F m Q s
  | 0, m, Q, s, _, h => h.elim
  | n + 1, 0, Q, s, hle, h => by omega
  | n + 1, m + 1, Q, s, hle, h => hF _ _ _ (fun e s' he => by
      cases e with
      | normal => exact LoopN_le hF n m (by omega) he
      | exit id => exact he
      | ret => exact he) h

theorem Wp_mono : ∀ {m : MCode} {Q Q' : Ex → St → Prop} {s : St}, (∀ e s, Q e s → Q' e s) → Wp R m Q s → Wp R m Q' s
  | .skip, Q, Q', s, h, hw => h _ _ hw
  | .reg l, Q, Q', s, h, hw => runL_mono (fun s hs => h _ _ hs) hw
  | .dra t, Q, Q', s, h, hw => runT_mono (fun s hs => h _ _ hs) hw
  | .drx l, Q, Q', s, h, hw => by
    simp only [Wp] at hw ⊢
    obtain ⟨Inv, k1, k2, k3⟩ := hw
    exact ⟨Inv, k1, k2, fun s hs => h _ _ (k3 s hs)⟩
  | .drw p l, Q, Q', s, h, hw => runP_mono (fun s hs => runL_mono (fun s hs => h _ _ hs) hs) hw
  | .drc pa c pb suf, Q, Q', s, h, hw => by
    simp only [Wp] at hw ⊢
    split at hw
    · refine runP_mono (fun s1 h1 => ?_) hw
      obtain ⟨F, vals, C, k1, k2, k3, k4, k5⟩ := h1
      exact ⟨F, vals, C, k1, k2, k3, k4, runP_mono (fun sB hB r h' hC => runL_mono (fun s hs => h _ _ hs) (hB r h' hC)) k5⟩
    · rcases hw with hw | hw
      · exact .inl (runP_mono (fun s hs => runL_mono (fun s hs => h _ _ hs) hs) hw)
      refine .inr (runP_mono (fun s1 h1 => ?_) hw)
      obtain ⟨F, s', k1, k2, k3, k4, k5⟩ := h1
      exact ⟨F, s', k1, k2, k3, k4, runP_mono (fun sB hB => runL_mono (fun s hs => h _ _ hs) hB) k5⟩
    · exact hw
  | .seq a b, Q, Q', s, h, hw => Wp_mono (m := a) (fun e s' he => by
      cases e with
      | normal => exact Wp_mono (m := b) h he
      | exit id => exact h _ _ he
      | ret => exact h _ _ he) hw
  | .cond c a b, Q, Q', s, h, hw => by
    simp only [Wp] at hw ⊢
    split at hw
    · split at hw
      · rename_i ht; rw [if_pos ht]; exact Wp_mono (m := a) h hw
      · rename_i ht; rw [if_neg ht]; exact Wp_mono (m := b) h hw
    · exact ⟨Wp_mono (m := a) h hw.1, Wp_mono (m := b) h hw.2⟩
    · exact hw
  | .blk id a, Q, Q', s, h, hw => Wp_mono (m := a) (fun e s' he => by
      cases e with
      | normal => exact h _ _ he
      | exit j => simp only at he ⊢; split at he
                  · rename_i hj; rw [if_pos hj]; exact h _ _ he
                  · rename_i hj; rw [if_neg hj]; exact h _ _ he
      | ret => exact h _ _ he) hw
  | .loop a, Q, Q', s, h, hw => by
    obtain ⟨n, hn⟩ := hw
    exact ⟨n, LoopN_mono (F := Wp R a) (fun _ _ _ hq => Wp_mono (m := a) hq) n h hn⟩
  | .exit id, Q, Q', s, h, hw => h _ _ hw
  | .ret, Q, Q', s, h, hw => h _ _ hw

theorem Wp_loop {a : MCode} {Q : Ex → St → Prop} {s : St} (I : Nat → St → Prop) (k : Nat) (h0 : I k s)
    (hr : ∀ k s, I k s → Wp R a (fun e s' => match e with | .normal => ∃ k', k' < k ∧ I k' s' | e => Q e s') s) : Wp R (.loop a) Q s := by
  refine ⟨k + 1, ?_⟩
  revert s
  induction k using Nat.strongRecOn with
  | _ k ih =>
    intro s h0
    refine Wp_mono (m := a) (fun e s' he => ?_) (hr k s h0)
    cases e with
    | normal =>
      obtain ⟨k', hk', hI⟩ := he
      exact LoopN_le (F := Wp R a) (fun _ _ _ hq => Wp_mono (m := a) hq) (k' + 1) k (by omega) (ih k' hk' hI)
    | exit id => exact he
    | ret => exact he

end

/-! what the walk lays bare -/
def il (xs : List Int) : List IV := xs.map (.int .i64)
theorem il_length (xs : List Int) : (il xs).length = xs.length := by simp [il]
theorem RC.of_wp [Off] {P : Program} {f : FuncId} {h m : MFunc} (hf : compF P f h = some m) {args r : List IV} (hl : args.length = m.np) (hw : Wp (RCs P) m.body (Post m.res r) (St.start args)) : RC P f args r :=
  RC.of_wpW hf hl (Wp_mono (fun _ _ h => Post_W h) hw)
end Go.Proofs.YtilbipknodpmmaaDoor
