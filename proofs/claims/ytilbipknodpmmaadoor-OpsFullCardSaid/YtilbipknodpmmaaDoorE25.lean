/- The walk's equations. -/
import Derived.Test.YtilbipknodpmmaaDoorE23
set_option linter.unusedSectionVars false
set_option linter.unusedVariables false
set_option linter.unusedSimpArgs false
namespace Go.Proofs.YtilbipknodpmmaaDoor
open Go.RowKit

section
variable [Off] {R : Cs} {Q : Ex → St → Prop} {s : St}

def Then (R : Cs) (b : MCode) (Q : Ex → St → Prop) : Ex → St → Prop := fun e s => match e with | .normal => Wp R b Q s | e => Q e s
def InB (id : Nat) (Q : Ex → St → Prop) : Ex → St → Prop := fun e s => match e with | .exit j => if j = id then Q .normal s else Q (.exit j) s | e => Q e s

theorem Then_normal {b : MCode} : Then R b Q .normal s = Wp R b Q s := rfl
theorem Then_exit {b : MCode} {i : Nat} : Then R b Q (.exit i) s = Q (.exit i) s := rfl
theorem Then_ret {b : MCode} : Then R b Q .ret s = Q .ret s := rfl
theorem InB_normal {id : Nat} : InB id Q .normal s = Q .normal s := rfl
theorem InB_exit {id j : Nat} : InB id Q (.exit j) s = if j = id then Q .normal s else Q (.exit j) s := rfl
theorem InB_ret {id : Nat} : InB id Q .ret s = Q .ret s := rfl

theorem Wp_skip : Wp R .skip Q s = Q .normal s := rfl
theorem Wp_reg {l : List MI} : Wp R (.reg l) Q s = runL R s l (Q .normal) := rfl
theorem Wp_seqE {a b : MCode} : Wp R (.seq a b) Q s = Wp R a (Then R b Q) s := by
  unfold Then; rfl
theorem Wp_blk {id : Nat} {a : MCode} : Wp R (.blk id a) Q s = Wp R a (InB id Q) s := by
  unfold InB; rfl
theorem Wp_exit {id : Nat} : Wp R (.exit id) Q s = Q (.exit id) s := rfl
theorem Wp_ret : Wp R .ret Q s = Q .ret s := rfl
theorem runL_nil {K : St → Prop} : runL R s [] K = K s := rfl
/-! one operation after the other; the calls stand alone -/
def CallL (R : Cs) (s : St) (d : Option Nat) (f : FuncId) (args : List Opd) (l : List MI) (K : St → Prop) : Prop := runOp R s d (.call f args) (fun s => runL R s l K)
def CallpL (R : Cs) (s : St) (d : Option Nat) (f : FuncId) (args : List Opd) (l : List MI) (K : St → Prop) : Prop := runOp R s d (.callp f args) (fun s => runL R s l K)
def CallnL (R : Cs) (s : St) (d : Option Nat) (f : FuncId) (args : List Opd) (l : List MI) (K : St → Prop) : Prop := runOp R s d (.calln f args) (fun s => runL R s l K)
def CalliL (R : Cs) (s : St) (d : Option Nat) (x : Opd) (args : List Opd) (l : List MI) (K : St → Prop) : Prop := runOp R s d (.calli x args) (fun s => runL R s l K)
/-! what stands behind an operation is laid bare only when its answer is known (no binder: simp would walk it twice) -/
def GoN (R : Cs) (s : St) (d : Nat) (l : List MI) (K : St → Prop) : Option Eff → Prop
  | some e => runL R (s.eff d e) l K
  | none => False
def GoA (R : Cs) (l : List MI) (K : St → Prop) : Option St → Prop
  | some s' => runL R s' l K
  | none => False
def GoG (R : Cs) (s : St) (d : Option Nat) (o : MOp) (b : Bool) (l : List MI) (K : St → Prop) : IV → Prop
  | .bool x => if x = b then runL R s (.op d o none :: l) K else runL R (s.put d (.tup [])) l K
  | .tup [] => runL R (s.put d (.tup [])) l K
  | _ => False
def GoC (R : Cs) (s : St) (a b : MCode) (Q : Ex → St → Prop) : Option IV → Prop
  | some (.bool t) => if t then Wp R a Q s else Wp R b Q s
  | some .anyB => Wp R a Q s ∧ Wp R b Q s
  | _ => False
def GoP (R : Cs) (s : St) (g : Nat → Blk) (d : Nat) (l : List MI) (K : St → Prop) : Option Eff → Prop
  | some e => runP R { s with t := upd s.t d e.v } (match e.b with | some b => upd g (hom d) b | none => g) l K
  | none => False
def GoPG (R : Cs) (s : St) (g : Nat → Blk) (d : Nat) (o : MOp) (b : Bool) (l : List MI) (K : St → Prop) : IV → Prop
  | .bool x => if x = b then runP R s g (.op (some d) o none :: l) K else runP R { s with t := upd s.t d (.tup []) } g l K
  | .tup [] => runP R { s with t := upd s.t d (.tup []) } g l K
  | _ => False
theorem GoN_some {d : Nat} {l : List MI} {K : St → Prop} {e : Eff} : GoN R s d l K (some e) = runL R (s.eff d e) l K := rfl
theorem GoA_some {l : List MI} {K : St → Prop} {s' : St} : GoA R l K (some s') = runL R s' l K := rfl
theorem GoG_bool {d : Option Nat} {o : MOp} {b x : Bool} {l : List MI} {K : St → Prop} : GoG R s d o b l K (.bool x) = if x = b then runL R s (.op d o none :: l) K else runL R (s.put d (.tup [])) l K := rfl
theorem GoG_tup {d : Option Nat} {o : MOp} {b : Bool} {l : List MI} {K : St → Prop} : GoG R s d o b l K (.tup []) = runL R (s.put d (.tup [])) l K := rfl
theorem GoC_bool {a b : MCode} {t : Bool} : GoC R s a b Q (some (.bool t)) = if t then Wp R a Q s else Wp R b Q s := rfl
theorem GoC_any {a b : MCode} : GoC R s a b Q (some .anyB) = (Wp R a Q s ∧ Wp R b Q s) := rfl
theorem GoP_some {g : Nat → Blk} {d : Nat} {l : List MI} {K : St → Prop} {e : Eff} : GoP R s g d l K (some e) = runP R { s with t := upd s.t d e.v } (match e.b with | some b => upd g (hom d) b | none => g) l K := rfl
theorem GoPG_bool {g : Nat → Blk} {d : Nat} {o : MOp} {b x : Bool} {l : List MI} {K : St → Prop} : GoPG R s g d o b l K (.bool x) = if x = b then runP R s g (.op (some d) o none :: l) K else runP R { s with t := upd s.t d (.tup []) } g l K := rfl
theorem GoPG_tup {g : Nat → Blk} {d : Nat} {o : MOp} {b : Bool} {l : List MI} {K : St → Prop} : GoPG R s g d o b l K (.tup []) = runP R { s with t := upd s.t d (.tup []) } g l K := rfl
theorem Wp_condE {c : Opd} {a b : MCode} : Wp R (.cond c a b) Q s = GoC R s a b Q (s.get c) := by
  simp only [Wp]
  cases s.get c with
  | none => rfl
  | some v => cases v <;> rfl

def stepL (R : Cs) (s : St) (d : Option Nat) (o : MOp) (l : List MI) (K : St → Prop) : Prop := match o with
  | .call f args => CallL R s d f args l K
  | .callp f args => CallpL R s d f args l K
  | .calln f args => CallnL R s d f args l K
  | .calli x args => CalliL R s d x args l K
  | o => if isAct s o then GoA R l K (act s d o)
    else match d with
      | some d => GoN R s d l K (neu s d o)
      | none => False
theorem GoA_eq {l : List MI} {K : St → Prop} {x : Option St} : GoA R l K x = (match x with | some s' => runL R s' l K | none => False) := by cases x <;> rfl
theorem GoN_eq {d : Nat} {l : List MI} {K : St → Prop} {x : Option Eff} : GoN R s d l K x = (match x with | some e => runL R (s.eff d e) l K | none => False) := by cases x <;> rfl
theorem runL_op {d : Option Nat} {o : MOp} {l : List MI} {K : St → Prop} : runL R s (.op d o none :: l) K = stepL R s d o l K := by
  cases o <;> first
    | rfl
    | (simp only [stepL, GoA_eq, GoN_eq]; rfl)
theorem runL_g {d : Option Nat} {o : MOp} {t : Nat} {b : Bool} {l : List MI} {K : St → Prop} : runL R s (.op d o (some (t, b)) :: l) K = GoG R s d o b l K (s.t t) := by
  simp only [runL, stepM]
  cases s.t t <;> first | rfl | (rename_i vs; cases vs <;> rfl)
theorem runL_frz {t : Nat} {l : List MI} {K : St → Prop} : runL R s (.frz t :: l) K = runL R (s.frz (s.t t)) l K := rfl
theorem runL_kill {ts : List Nat} {l : List MI} {K : St → Prop} : runL R s (.kill ts :: l) K = runL R (s.kill ts) l K := rfl

theorem CallL.mk {d : Nat} {f : FuncId} {args : List Opd} {l : List MI} {K : St → Prop} {as r : List IV} (h2 : R.C f as r) (h1 : s.snaps args = some as) (h3 : s.stabs args = true ∨ r.all IV.scalR = true) (h4 : runL R (s.imp d r) l K) : CallL R s (some d) f args l K := ⟨as, r, h1, h2, h3, h4⟩
theorem CallpL.mk {d : Nat} {f : FuncId} {args : List Opd} {l : List MI} {K : St → Prop} {as r : List IV} (h2 : R.C f as r) (h1 : s.snaps args = some as) (h3 : s.stabs args = true ∨ r.all IV.scalR = true) (h4 : runL R { s with t := upd s.t d (asRes (plainL r)) } l K) : CallpL R s (some d) f args l K := ⟨as, r, h1, h2, h3, h4⟩
theorem CalliL.mk {d : Nat} {x : Opd} {args : List Opd} {l : List MI} {K : St → Prop} {g : FuncId × List IV} {as r : List IV} (h2 : R.C g.1 (as ++ g.2) r) (h0 : s.callee x = some g) (h1 : s.snaps args = some as) (h3 : r.all IV.scalR = true) (h4 : runL R { s with t := upd s.t d (asRes (plainL r)) } l K) : CalliL R s (some d) x args l K := ⟨g, as, r, h0, h1, h2, h3, h4⟩

def CallP (R : Cs) (s : St) (g : Nat → Blk) (d : Nat) (f : FuncId) (args : List Opd) (l : List MI) (K : St → Prop) : Prop :=
  ∃ as r, s.snaps args = some as ∧ R.C f as r ∧ (s.stabs args = true ∨ r.all IV.scalR = true) ∧
          runP R { s with t := upd s.t d (asRes (impV (hom d) ((s.h (hom d)).ver + 1) r).1) } (match (impV (hom d) ((s.h (hom d)).ver + 1) r).2 with | some cs => upd g (hom d) (freshBlk s (hom d) true true cs) | none => g) l K
def CallpP (R : Cs) (s : St) (g : Nat → Blk) (d : Nat) (f : FuncId) (args : List Opd) (l : List MI) (K : St → Prop) : Prop :=
  ∃ as r, s.snaps args = some as ∧ R.C f as r ∧ (s.stabs args = true ∨ r.all IV.scalR = true) ∧ runP R { s with t := upd s.t d (asRes (plainL r)) } g l K
def stepP (R : Cs) (s : St) (g : Nat → Blk) (d : Nat) (o : MOp) (l : List MI) (K : St → Prop) : Prop := match o with
  | .call f args => CallP R s g d f args l K
  | .callp f args => CallpP R s g d f args l K
  | o => GoP R s g d l K (neu s d o)
theorem GoP_eq {g : Nat → Blk} {d : Nat} {l : List MI} {K : St → Prop} {x : Option Eff} : GoP R s g d l K x = (match x with
        | some e => runP R { s with t := upd s.t d e.v } (match e.b with | some b => upd g (hom d) b | none => g) l K
        | none => False) := by cases x <;> rfl
theorem runP_nil {g : Nat → Blk} {K : St → Prop} : runP R s g [] K = K { s with h := g } := rfl
theorem runP_opE {g : Nat → Blk} {d : Nat} {o : MOp} {l : List MI} {K : St → Prop} : runP R s g (.op (some d) o none :: l) K = stepP R s g d o l K := by
  cases o <;> first
    | rfl
    | (simp only [stepP, GoP_eq]; rfl)
theorem runP_g {g : Nat → Blk} {d : Nat} {o : MOp} {t : Nat} {b : Bool} {l : List MI} {K : St → Prop} : runP R s g (.op (some d) o (some (t, b)) :: l) K = GoPG R s g d o b l K (s.t t) := by
  cases h : s.t t <;> first
    | (cases o <;> simp only [runP, h] <;> rfl)
    | (rename_i vs; cases vs <;> cases o <;> simp only [runP, h] <;> rfl)
theorem CallP.mk {g : Nat → Blk} {d : Nat} {f : FuncId} {args : List Opd} {l : List MI} {K : St → Prop} {as r : List IV} (h2 : R.C f as r) (h1 : s.snaps args = some as) (h3 : s.stabs args = true ∨ r.all IV.scalR = true)
    (h4 : runP R { s with t := upd s.t d (asRes (impV (hom d) ((s.h (hom d)).ver + 1) r).1) } (match (impV (hom d) ((s.h (hom d)).ver + 1) r).2 with | some cs => upd g (hom d) (freshBlk s (hom d) true true cs) | none => g) l K) : CallP R s g d f args l K := ⟨as, r, h1, h2, h3, h4⟩
theorem CallpP.mk {g : Nat → Blk} {d : Nat} {f : FuncId} {args : List Opd} {l : List MI} {K : St → Prop} {as r : List IV} (h2 : R.C f as r) (h1 : s.snaps args = some as) (h3 : s.stabs args = true ∨ r.all IV.scalR = true)
    (h4 : runP R { s with t := upd s.t d (asRes (plainL r)) } g l K) : CallpP R s g d f args l K := ⟨as, r, h1, h2, h3, h4⟩

/-! a region of open order, every order written out -/
def ThenT (R : Cs) (n : OT) (K : St → Prop) : St → Prop := fun s => runT R n s K
theorem ThenT_eq {n : OT} {K : St → Prop} : ThenT R n K s = runT R n s K := rfl
theorem Wp_draE {t : OT} : Wp R (.dra t) Q s = runT R t s (Q .normal) := rfl
theorem runT_done {K : St → Prop} : runT R .done s K = K s := rfl
theorem runT_stop {K : St → Prop} : runT R .stop s K = True := rfl
theorem runT_take {i : Nat} {m : MI} {n : OT} {K : St → Prop} : runT R (.take i m n) s K = runL R s [m] (ThenT R n K) := rfl
theorem runT_last {i : Nat} {m : MI} {n : OT} {K : St → Prop} : runT R (.alt i m n .stop) s K = runL R s [m] (ThenT R n K) := by
  simp only [runT, and_true]
  rfl
theorem runT_alt {i : Nat} {m : MI} {n : OT} {j : Nat} {m' : MI} {n' o : OT} {K : St → Prop} : runT R (.alt i m n (.alt j m' n' o)) s K = (runL R s [m] (ThenT R n K) ∧ runT R (.alt j m' n' o) s K) := rfl
def SufK (R : Cs) (suf : List MI) (Q : Ex → St → Prop) : St → Prop := fun s => runL R s suf (Q .normal)
theorem Wp_drwE {pre suf : List MI} : Wp R (.drw pre suf) Q s = runP R { s with h := hideH s.h ((dsts pre).map hom) } (hideH s.h ((dsts pre).map hom)) pre (SufK R suf Q) := rfl
theorem SufK_eq {suf : List MI} : SufK R suf Q s = runL R s suf (Q .normal) := rfl
def DrcA (R : Cs) (s0 : St) (pa : List MI) (d f : Nat) (args : List Opd) (pb suf : List MI) (Q : Ex → St → Prop) : St → Prop := fun s1 => ∃ F vals C, s1.vals args = some vals ∧ R.I f s1.h vals C ∧
  (∀ r h', C r h' → (∀ y ∈ F, h' y = s0.h y) ∧ ∀ x ∈ dsts pb, (h' (hom x)).ver = (s0.h (hom x)).ver) ∧ (∀ y ∈ F, y ∉ (dsts pa).map hom) ∧
  runP R ⟨s0.t, keepH s0.h F⟩ (keepH s0.h F) pb (fun sB => ∀ r h', C r h' → runL R ⟨fun x => if x ∈ dsts pb then sB.t x else upd s1.t d (asRes r) x, h'⟩ suf (Q .normal))
def DrcB (R : Cs) (s1 : St) (d : Nat) (pb suf : List MI) (C : List IV → (Nat → Blk) → Prop) (Q : Ex → St → Prop) : St → Prop := fun sB => ∀ r h', C r h' → runL R ⟨fun x => if x ∈ dsts pb then sB.t x else upd s1.t d (asRes r) x, h'⟩ suf (Q .normal)
theorem Wp_drcE {pa pb suf : List MI} {d f : Nat} {args : List Opd} : Wp R (.drc pa (.op (some d) (.calln f args) none) pb suf) Q s = runP R { s with h := hideH s.h ((dsts pa).map hom) } (hideH s.h ((dsts pa).map hom)) pa (DrcA R s pa d f args pb suf Q) := rfl
def DapA (R : Cs) (s0 : St) (pa : List MI) (d sz bytes : Nat) (x y : Opd) (pb suf : List MI) (Q : Ex → St → Prop) : St → Prop := fun s1 => ∃ F s', isAct s1 (.app sz bytes x y) = true ∧ act s1 (some d) (.app sz bytes x y) = some s' ∧
  ((∀ y ∈ F, s'.h y = s0.h y) ∧ ∀ x ∈ dsts pb, (s'.h (hom x)).ver = (s0.h (hom x)).ver) ∧ (∀ y ∈ F, y ∉ (dsts pa).map hom) ∧
  runP R ⟨s0.t, keepH s0.h F⟩ (keepH s0.h F) pb (fun sB => runL R ⟨fun x => if x ∈ dsts pb then sB.t x else s'.t x, s'.h⟩ suf (Q .normal))
def DapB (R : Cs) (s' : St) (pb suf : List MI) (Q : Ex → St → Prop) : St → Prop := fun sB => runL R ⟨fun x => if x ∈ dsts pb then sB.t x else s'.t x, s'.h⟩ suf (Q .normal)
theorem DapB_eq {s' sB : St} {pb suf : List MI} : DapB R s' pb suf Q sB = runL R ⟨fun x => if x ∈ dsts pb then sB.t x else s'.t x, s'.h⟩ suf (Q .normal) := rfl
theorem DapA.of {o : Off} {R : Cs} {s0 s1 s' : St} {pa : List MI} {d sz bytes : Nat} {x y : Opd} {pb suf : List MI} {Q : Ex → St → Prop} (F : List Nat) (h1 : isAct s1 (.app sz bytes x y) = true) (h2 : @act o s1 (some d) (.app sz bytes x y) = some s')
    (h3 : (∀ y ∈ F, s'.h y = s0.h y) ∧ ∀ x ∈ dsts pb, (s'.h (@hom o x)).ver = (s0.h (@hom o x)).ver) (h4 : ∀ y ∈ F, y ∉ (dsts pa).map (@hom o))
    (h5 : @runP o R ⟨s0.t, keepH s0.h F⟩ (keepH s0.h F) pb (@DapB o R s' pb suf Q)) : @DapA o R s0 pa d sz bytes x y pb suf Q s1 := ⟨F, s', h1, h2, h3, h4, h5⟩
theorem DrcA.of {o : Off} {R : Cs} {s0 s1 : St} {pa : List MI} {d f : Nat} {args : List Opd} {pb suf : List MI} {Q : Ex → St → Prop} (F : List Nat) {vals : List IV} {C : List IV → (Nat → Blk) → Prop} (h1 : s1.vals args = some vals) (h2 : R.I f s1.h vals C)
    (h3 : ∀ r h', C r h' → (∀ y ∈ F, h' y = s0.h y) ∧ ∀ x ∈ dsts pb, (h' (@hom o x)).ver = (s0.h (@hom o x)).ver) (h4 : ∀ y ∈ F, y ∉ (dsts pa).map (@hom o))
    (h5 : @runP o R ⟨s0.t, keepH s0.h F⟩ (keepH s0.h F) pb (@DrcB o R s1 d pb suf C Q)) : @DrcA o R s0 pa d f args pb suf Q s1 := ⟨F, vals, C, h1, h2, h3, h4, h5⟩
theorem DrcB.of {o : Off} {R : Cs} {s1 sB : St} {d : Nat} {pb suf : List MI} {C : List IV → (Nat → Blk) → Prop} {Q : Ex → St → Prop} (h : ∀ r h', C r h' → @runL o R ⟨fun x => if x ∈ dsts pb then sB.t x else upd s1.t d (asRes r) x, h'⟩ suf (Q .normal)) : @DrcB o R s1 d pb suf C Q sB := h
theorem CallL.of {o : Off} {R : Cs} {s : St} {d : Nat} {f : FuncId} {args : List Opd} {l : List MI} {K : St → Prop} {as r : List IV} (h1 : s.snaps args = some as) (h2 : R.C f as r) (h3 : s.stabs args = true ∨ r.all IV.scalR = true) (h4 : @runL o R (@St.imp o s d r) l K) : @CallL o R s (some d) f args l K := ⟨as, r, h1, h2, h3, h4⟩
theorem CallnL.of {o : Off} {R : Cs} {s : St} {d : Option Nat} {f : FuncId} {args : List Opd} {l : List MI} {K : St → Prop} {vals : List IV} {Q : List IV → (Nat → Blk) → Prop} (h1 : s.vals args = some vals) (h2 : R.I f s.h vals Q) (h3 : ∀ r h', Q r h' → @runL o R (St.put { s with h := h' } d (asRes r)) l K) : @CallnL o R s d f args l K := ⟨vals, Q, h1, h2, h3⟩
theorem CalliL.of {o : Off} {R : Cs} {s : St} {d : Nat} {x : Opd} {args : List Opd} {l : List MI} {K : St → Prop} {g : FuncId} {caps as r : List IV} (h0 : s.callee x = some (g, caps)) (h1 : s.snaps args = some as) (h2 : R.C g (as ++ caps) r) (h3 : r.all IV.scalR = true) (h4 : @runL o R { s with t := upd s.t d (asRes (plainL r)) } l K) : @CalliL o R s (some d) x args l K := ⟨(g, caps), as, r, h0, h1, h2, h3, h4⟩
theorem CallL.gate {o : Off} {R : Cs} {s : St} {d : Option Nat} {f : FuncId} {args : List Opd} {l : List MI} {K : St → Prop} (h : @CallL o R s d f args l K) : @CallL o R s d f args l K := h
theorem CallP.of {o : Off} {R : Cs} {s : St} {g : Nat → Blk} {d : Nat} {f : FuncId} {args : List Opd} {l : List MI} {K : St → Prop} {as r : List IV} (h1 : s.snaps args = some as) (h2 : R.C f as r) (h3 : s.stabs args = true ∨ r.all IV.scalR = true)
    (h4 : @runP o R { s with t := upd s.t d (asRes (impV (@hom o d) ((s.h (@hom o d)).ver + 1) r).1) } (match (impV (@hom o d) ((s.h (@hom o d)).ver + 1) r).2 with | some cs => upd g (@hom o d) (freshBlk s (@hom o d) true true cs) | none => g) l K) : @CallP o R s g d f args l K := ⟨as, r, h1, h2, h3, h4⟩
theorem CallpP.of {o : Off} {R : Cs} {s : St} {g : Nat → Blk} {d : Nat} {f : FuncId} {args : List Opd} {l : List MI} {K : St → Prop} {as r : List IV} (h1 : s.snaps args = some as) (h2 : R.C f as r) (h3 : s.stabs args = true ∨ r.all IV.scalR = true)
    (h4 : @runP o R { s with t := upd s.t d (asRes (plainL r)) } g l K) : @CallpP o R s g d f args l K := ⟨as, r, h1, h2, h3, h4⟩
theorem CallpL.of {o : Off} {R : Cs} {s : St} {d : Nat} {f : FuncId} {args : List Opd} {l : List MI} {K : St → Prop} {as r : List IV} (h1 : s.snaps args = some as) (h2 : R.C f as r) (h3 : s.stabs args = true ∨ r.all IV.scalR = true) (h4 : @runL o R { s with t := upd s.t d (asRes (plainL r)) } l K) : @CallpL o R s (some d) f args l K := ⟨as, r, h1, h2, h3, h4⟩
theorem CallP.gate {o : Off} {R : Cs} {s : St} {g : Nat → Blk} {d : Nat} {f : FuncId} {args : List Opd} {l : List MI} {K : St → Prop} (h : @CallP o R s g d f args l K) : @CallP o R s g d f args l K := h
theorem CallpP.gate {o : Off} {R : Cs} {s : St} {g : Nat → Blk} {d : Nat} {f : FuncId} {args : List Opd} {l : List MI} {K : St → Prop} (h : @CallpP o R s g d f args l K) : @CallpP o R s g d f args l K := h
theorem CallpL.gate {o : Off} {R : Cs} {s : St} {d : Option Nat} {f : FuncId} {args : List Opd} {l : List MI} {K : St → Prop} (h : @CallpL o R s d f args l K) : @CallpL o R s d f args l K := h
theorem Wp_loopO {o : Off} {R : Cs} {a : MCode} {Q : Ex → St → Prop} {s : St} (I : Nat → St → Prop) (k : Nat) (h0 : I k s)
    (hr : ∀ k s, I k s → @Wp o R a (fun e s' => match e with | .normal => ∃ k', k' < k ∧ I k' s' | e => Q e s') s) : @Wp o R (.loop a) Q s := @Wp_loop o R a Q s I k h0 hr
theorem PostW.mk {rs : List MRes} {r r' : List IV} {s : St} (h1 : s.ress rs = some r') (h2 : F2 leV r' r) (h3 : (r'.filter isOwn).length ≤ 1) (h4 : (r.filter isOwn).length ≤ 1) : PostW rs r .ret s := ⟨r', h1, h2, h3, h4⟩
theorem PostI.mk {rs : List MRes} {r : List IV} {Q : List IV → (Nat → Blk) → Prop} {s : St} (h1 : s.raws rs = some r) (h2 : Q r s.h) : PostI rs Q .ret s := ⟨r, h1, h2⟩
end
instance off0 : Off := ⟨0⟩
theorem hom0 {d : Nat} : @hom off0 d = d := Nat.zero_add d
end Go.Proofs.YtilbipknodpmmaaDoor

/-! Numbers. -/
set_option linter.unusedSectionVars false
set_option linter.unusedVariables false
set_option linter.unusedSimpArgs false
namespace Go.Proofs.YtilbipknodpmmaaDoor
open Go.RowKit

def vbits (k : IntKind) : Nat := if k.signed then k.bits - 1 else k.bits

theorem wrapN (k : IntKind) {n : Nat} (h : n < 2 ^ vbits k) : k.wrap (n : Int) = n := by
  cases k <;> simp [vbits, IntKind.signed, IntKind.bits, IntKind.wrap] at * <;> omega
theorem ofIntNat (b x : Nat) : BitVec.ofInt b (x : Int) = BitVec.ofNat b x := by simp
theorem vbits_le (k : IntKind) : vbits k ≤ k.bits := by cases k <;> decide
theorem pow_le {a b : Nat} (h : a ≤ b) : 2 ^ a ≤ 2 ^ b := Nat.pow_le_pow_right (by omega) h

theorem bitsI_or (k : IntKind) {x y : Nat} (hx : x < 2 ^ vbits k) (hy : y < 2 ^ vbits k) : bitsI .or k (x : Int) (y : Int) = some ((x ||| y : Nat) : Int) := by
  have hb := pow_le (vbits_le k)
  simp only [bitsI, ofIntNat, BitVec.toNat_or, BitVec.toNat_ofNat, Nat.mod_eq_of_lt (Nat.lt_of_lt_of_le hx hb), Nat.mod_eq_of_lt (Nat.lt_of_lt_of_le hy hb)]
  rw [wrapN k (Nat.or_lt_two_pow hx hy)]
theorem bitsI_and (k : IntKind) {x y : Nat} (hx : x < 2 ^ vbits k) (hy : y < 2 ^ vbits k) : bitsI .and k (x : Int) (y : Int) = some ((x &&& y : Nat) : Int) := by
  have hb := pow_le (vbits_le k)
  simp only [bitsI, ofIntNat, BitVec.toNat_and, BitVec.toNat_ofNat, Nat.mod_eq_of_lt (Nat.lt_of_lt_of_le hx hb), Nat.mod_eq_of_lt (Nat.lt_of_lt_of_le hy hb)]
  rw [wrapN k (Nat.and_lt_two_pow _ hy)]
theorem fdiv_pow (x n : Nat) : Int.fdiv (x : Int) (2 ^ n) = ((x >>> n : Nat) : Int) := by
  rw [Nat.shiftRight_eq_div_pow]
  have : (2 : Int) ^ n = ((2 ^ n : Nat) : Int) := by simp
  rw [this]
  first | exact (Int.ofNat_fdiv x (2 ^ n)).symm | (rw [Int.fdiv_eq_ediv_of_nonneg _ (by omega)]; simp)
theorem shI_shr (k : IntKind) {x y : Nat} (hy : y ≤ k.bits) : shI .shr k (x : Int) (y : Int) = some (.int k ((x >>> y : Nat) : Int)) := by
  simp only [shI, if_neg (show ¬ ((y : Int) < 0) by omega), Int.toNat_natCast, Nat.min_eq_left hy, fdiv_pow]
theorem shI_shl (k : IntKind) {x y : Nat} (hy : y ≤ k.bits) (h : x * 2 ^ y < 2 ^ vbits k) : shI .shl k (x : Int) (y : Int) = some (.int k ((x * 2 ^ y : Nat) : Int)) := by
  have : (x : Int) * 2 ^ y = ((x * 2 ^ y : Nat) : Int) := by simp
  simp only [shI, if_neg (show ¬ ((y : Int) < 0) by omega), Int.toNat_natCast, Nat.min_eq_left hy, this, wrapN k h]

theorem wrap_nat {n : Nat} (h : n < 2 ^ 63 - 1) : IntKind.i64.wrap ((n : Int) + 1) = ((n + 1 : Nat) : Int) := by
  rw [IntKind.wrap_i64]; omega
theorem tmod_nat (x m : Nat) : (x : Int).tmod (m : Int) = ((x % m : Nat) : Int) := rfl
theorem drop_il {xs : List Int} {i : Nat} (h : i < xs.length) : (il xs).drop i = .int .i64 xs[i] :: (il xs).drop (i + 1) := by
  rw [List.drop_eq_getElem_cons (by simpa [il] using h)]; simp [il]
theorem take_il (xs : List Int) : (il xs).take xs.length = il xs := List.take_of_length_le (by simp [il])
theorem il_snoc (xs : List Int) (x : Int) : il xs ++ [.int .i64 x] = il (xs ++ [x]) := by simp [il]
theorem il_scal (xs : List Int) : (il xs).all IV.scal = true := by simp [il, IV.scal]
theorem il_pur (xs : List Int) : IV.purL (il xs) = true := by induction xs <;> simp_all [il, IV.purL, IV.pur]
end Go.Proofs.YtilbipknodpmmaaDoor
