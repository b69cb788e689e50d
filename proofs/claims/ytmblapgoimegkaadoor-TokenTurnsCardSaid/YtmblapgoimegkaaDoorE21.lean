/- Whole bodies, whole functions. -/
import Derived.Test.YtmblapgoimegkaaDoorE20B
set_option linter.unusedSectionVars false
set_option linter.unusedVariables false
set_option linter.unusedSimpArgs false
namespace Go.Proofs.YtmblapgoimegkaaDoor
open Go.RowKit

def compC (P : Program) (N : Nat) : Code → MCode → Option MCode
  | .skip, .skip => some .skip
  | .region _ ops false, .reg hs => match compL P N ops ops.toList hs with | some l => some (.reg l) | none => none
  | .region _ ops true, .drw hp hs => match compL P N ops (ops.toList.take hp.length) hp, compL P N ops (ops.toList.drop hp.length) hs with
    | some pre, some suf => if pre.length = hp.length ∧ hp.all MI.isOp = true ∧ drawOk ops pre = true ∧ P.follows .mixedOrders = true then some (.drw pre suf) else none
    | _, _ => none
  | .region _ ops true, .drc ha hc hb hs => match compL P N ops (ops.toList.take (ha.length + (hb.length + 1))) (ha ++ hc :: hb), compL P N ops (ops.toList.drop (ha.length + (hb.length + 1))) hs with
    | some pre, some suf => match pre.drop ha.length with
      | .op (some dc) (.calln f args) none :: pb => if pre.length = ha.length + (hb.length + 1) ∧ (ha ++ hc :: hb).all MI.isOp = true ∧ drawOk ops pre = true ∧ drcOk ops (pre.take ha.length) (.op (some dc) (.calln f args) none) pb = true ∧ P.follows .mixedOrders = true then some (.drc (pre.take ha.length) (.op (some dc) (.calln f args) none) pb suf) else none
      | _ => none
    | _, _ => none
  | .seq a b, .seq x y => match compC P N a x, compC P N b y with
    | some x, some y => some (.seq x y)
    | _, _ => none
  | .cond c a b, .cond _ x y => match opd c, compC P N a x, compC P N b y with
    | some c, some x, some y => some (.cond c x y)
    | _, _, _ => none
  | .block id a, .blk _ x => match compC P N a x with | some x => some (.blk id x) | none => none
  | .loop a, .loop x => match compC P N a x with | some x => some (.loop x) | none => none
  | .exit id, .exit _ => some (.exit id)
  | .ret, .ret => some .ret
  | _, _ => none

section
variable [Off] [Gh] [Old] {P : Program} {w0 : World} {N : Nat}

def liftQ (w0 : World) (N : Nat) (Q : Ex → St → Prop) : Exit → Act → World → Prop
  | .normal, a, w => ∃ s, Q .normal s ∧ Rel w0 N s a w
  | .exit id, a, w => ∃ s, Q (.exit id) s ∧ Rel w0 N s a w
  | .ret, a, w => ∃ s, Q .ret s ∧ Rel w0 N s a w
  | _, _, _ => False

theorem comp_wp : ∀ (h m : MCode) (c : Code), compC P N c h = some m → ∀ (Q : Ex → St → Prop) (s : St) (a : Act) (w : World), Wp (RCs P) m Q s → Rel w0 N s a w → c.wp P (liftQ w0 N Q) a w := by
  intro h
  induction h with
  | skip =>
    intro m c hc Q s a w hw hr
    cases c <;> simp only [compC] at hc <;> try (cases hc; done)
    injection hc with hc; subst hc
    exact wp_skip ⟨s, hw, hr⟩
  | reg hs =>
    intro m c hc Q s a w hw hr
    cases c
    case region id ops draw =>
     cases draw <;> simp only [compC] at hc
     · split at hc
       · rename_i l hl
         injection hc with hc; subst hc
         refine wp_region ?_
         have := runL_wp (P := P) (ops := ops) (Q := liftQ w0 N Q) (K := fun s => Q .normal s) (w0 := w0) (N := N) (fun s a w h1 h2 => ⟨s, h1, h2⟩) hs ops.toList 0 l s a w hl rfl hr hw
         rwa [Array.length_toList, ← List.range_eq_range'] at this
       · cases hc
     · cases hc
    all_goals (simp only [compC] at hc; cases hc)
  | drw hp hs =>
    intro m c hc Q s a w hw hr
    cases c
    case region id ops draw =>
     cases draw <;> simp only [compC] at hc
     · cases hc
     · split at hc
       · rename_i pre suf h1 h2
         split at hc
         · rename_i hcond
           obtain ⟨e1, e2, e3, e4⟩ := hcond
           injection hc with hc; subst hc
           rw [← e1] at h1 h2
           exact draw_wp (Q := liftQ w0 N Q) (K := fun s => Q .normal s) e4 h1 e2 h2 e3 (fun s a w h1 h2 => ⟨s, h1, h2⟩) hr hw
         · cases hc
       · cases hc
    all_goals (simp only [compC] at hc; cases hc)
  | drc ha hcc hb hs =>
    intro m c hc Q s a w hw hr
    cases c
    case region id ops draw =>
     cases draw <;> simp only [compC] at hc
     · cases hc
     · split at hc
       · rename_i pre suf h1 h2
         split at hc
         · rename_i dc f args pb hdrop
           split at hc
           · rename_i hcond
             obtain ⟨e1, e2, e3, e4, e5⟩ := hcond
             injection hc with hc; subst hc
             rw [← e1] at h1 h2
             have hpre : pre = pre.take ha.length ++ MI.op (some dc) (.calln f args) none :: pb := by rw [← hdrop, List.take_append_drop]
             exact drc_wp (Q := liftQ w0 N Q) (K := fun s => Q .normal s) e5 hpre h1 e2 h2 e3 e4 (fun s a w h1 h2 => ⟨s, h1, h2⟩) hr hw
           · cases hc
         · cases hc
       · cases hc
    all_goals (simp only [compC] at hc; cases hc)
  | seq x y ihx ihy =>
    intro m c hc Q s a w hw hr
    cases c <;> simp only [compC] at hc <;> try (cases hc; done)
    split at hc
    · rename_i x' y' hx hy
      injection hc with hc; subst hc
      refine wp_seq (wp_mono (ihx _ _ hx _ s a w hw hr) fun e a' w' he => ?_)
      cases e with
      | normal => obtain ⟨s', h1, h2⟩ := he; exact ihy _ _ hy Q s' a' w' h1 h2
      | exit id => exact he
      | ret => exact he
      | _ => exact he.elim
    · cases hc
  | cond cc x y ihx ihy =>
    intro m c hc Q s a w hw hr
    cases c <;> simp only [compC] at hc <;> try (cases hc; done)
    split at hc
    · rename_i c' x' y' hcc hx hy
      injection hc with hc; subst hc
      simp only [Wp] at hw
      obtain ⟨φ, hrC⟩ := hr.open_
      split at hw
      · rename_i t ht
        refine wp_cond (get_VR hrC hcc ht).bool_ ?_
        cases t with
        | true => simp only [if_true] at hw ⊢; exact ihx _ _ hx Q s a w hw hr
        | false => simp only [Bool.false_eq_true, if_false] at hw ⊢; exact ihy _ _ hy Q s a w hw hr
      · rename_i ht
        have hb := get_VR hrC hcc ht
        simp only [VR] at hb
        obtain ⟨b, hb⟩ := hb
        refine wp_cond hb ?_
        cases b with
        | true => simp only [if_true]; exact ihx _ _ hx Q s a w hw.1 hr
        | false => simp only [Bool.false_eq_true, if_false]; exact ihy _ _ hy Q s a w hw.2 hr
      · exact hw.elim
    · cases hc
  | blk id x ihx =>
    intro m c hc Q s a w hw hr
    cases c <;> simp only [compC] at hc <;> try (cases hc; done)
    split at hc
    · rename_i id' _ x' hx
      injection hc with hc; subst hc
      refine wp_block (wp_mono (ihx _ _ hx _ s a w hw hr) fun e a' w' he => ?_)
      cases e with
      | normal => exact he
      | exit j =>
        obtain ⟨s', h1, h2⟩ := he
        simp only at h1
        simp only [Exit.inBlock]
        split
        · rename_i hj; rw [if_pos hj] at h1; exact ⟨s', h1, h2⟩
        · rename_i hj; rw [if_neg hj] at h1; exact ⟨s', h1, h2⟩
      | ret => exact he
      | _ => exact he.elim
    · cases hc
  | loop x ihx =>
    intro m c hc Q s a w hw hr
    cases c <;> simp only [compC] at hc <;> try (cases hc; done)
    split at hc
    · rename_i _ x' hx
      injection hc with hc; subst hc
      obtain ⟨n, hn⟩ := hw
      refine wp_loop_rounds n ?_
      induction n generalizing s a w with
      | zero => exact hn.elim
      | succ n ih =>
        rw [rounds_succ]
        refine wp_mono (ihx _ _ hx _ s a w hn hr) fun e a' w' he => ?_
        cases e with
        | normal => obtain ⟨s', h1, h2⟩ := he; exact ih s' a' w' h2 h1
        | exit id => exact he
        | ret => exact he
        | _ => exact he.elim
    · cases hc
  | exit id =>
    intro m c hc Q s a w hw hr
    cases c <;> simp only [compC] at hc <;> try (cases hc; done)
    injection hc with hc; subst hc
    exact wp_exit ⟨s, hw, hr⟩
  | ret =>
    intro m c hc Q s a w hw hr
    cases c <;> simp only [compC] at hc <;> try (cases hc; done)
    injection hc with hc; subst hc
    exact wp_ret ⟨s, hw, hr⟩
end
end Go.Proofs.YtmblapgoimegkaaDoor
