/- From the loaded program's operations to the ideal machine's. -/
import Derived.Test.YtmblapgoimegkaaDoorE2
import Derived.DeepKeys
import Derived.Laws.Append
import Derived.Laws.AppendOwn
import Derived.Laws.IdiomCopy
set_option linter.unusedSectionVars false
set_option linter.unusedVariables false
set_option linter.unusedSimpArgs false
namespace Go.Proofs.YtmblapgoimegkaaDoor
open Go.RowKit

def toIV1 : Value → Option IV
  | .int k n => some (.int k n)
  | .bool b => some (.bool b)
  | .string s => some (.str s.data.toList)
  | .pointer none => some .nilp
  | .slice none 0 0 => some (.sl .full 0 [])
  | .func (.func f) a b => if a.size = 0 ∧ b.size = 0 then some (.clo f []) else none
  | _ => none
def toIVs : List Value → Option (List IV)
  | [] => some []
  | v :: vs => match toIV1 v, toIVs vs with
    | some x, some xs => some (x :: xs)
    | _, _ => none
def toIV : Value → Option IV
  | .agg cs => match toIVs cs.toList with | some xs => some (.agg xs) | none => none
  | v => toIV1 v

def opd : Operand → Option Opd
  | .tmp t => some (.tmp t)
  | .const v => match toIV v with | some x => some (.c x) | none => none
  | .func f => some (.c (.clo f []))
  | .global _ => none

def zeroL (P : Program) (t : TypeId) : Option (List IV) := match P.info? t with
  | some i => match i.zero with
    | some v => toIVs v.cells.toList
    | none => none
  | none => none

def aggT (P : Program) (t : TypeId) : Bool := match P.underlying t with
  | some (.struct _) | some (.array _ _) => true
  | _ => false

def opdO : Option Operand → Option (Option Opd)
  | none => some none
  | some x => match opd x with | some y => some (some y) | none => none

def opds : List Operand → Option (List Opd)
  | [] => some []
  | x :: xs => match opd x, opds xs with
    | some y, some ys => some (y :: ys)
    | _, _ => none

def copParts (place : Nat → Option (Nat × Nat)) : List (Nat × Operand) → Option (List (Nat × Nat × Opd))
  | [] => some []
  | (i, x) :: ps => match place i, opd x, copParts place ps with
    | some (off, n), some y, some qs => some ((off, n, y) :: qs)
    | _, _, _ => none

def plainT (P : Program) (t : TypeId) : Bool := match P.underlying t with
  | some (.int _) | some .string => true
  | _ => false
def sliceT (P : Program) (t : TypeId) : Bool := match P.underlying t with
  | some (.slice _) => true
  | _ => false
def nilC : Opd → Bool
  | .c (.sl .full 0 []) => true
  | _ => false
def ptrT (P : Program) (t : TypeId) : Bool := match P.underlying t with
  | some (.pointer _) => true
  | _ => false
def nilQ : Opd → Bool
  | .c .nilp => true
  | _ => false
def boolT (P : Program) (t : TypeId) : Bool := match P.underlying t with
  | some .bool => true
  | _ => false

def fieldsK (P : Program) (K : TypeId → Option (List CK)) : Nat → List Field → Option (List CK)
  | _, [] => some []
  | off, f :: fs => if f.name ≠ "_" ∧ f.offset = off ∧ (P.info? f.type).isSome = true ∧ (P.underlying f.type).isSome = true then
      (match K f.type, fieldsK P K (off + P.cellsOf f.type) fs with
      | some a, some b => if a.length = P.cellsOf f.type then some (a ++ b) else none
      | _, _ => none)
    else none
/-- the kinds of a type's cells, if it holds bools, integers and strings alone -/
def kindsT (P : Program) : Nat → TypeId → Option (List CK)
  | 0, _ => none
  | d + 1, t => match P.underlying t with
    | some .bool => some [.b]
    | some (.int _) => some [.i]
    | some .string => some [.s]
    | some (.array n e) => match kindsT P d e with
      | some ks => if ks.length = P.cellsOf e ∧ (P.info? e).isSome = true then some (List.replicate n ks).flatten else none
      | none => none
    | some (.struct fs) => if P.stoodInHeld t = false then fieldsK P (kindsT P d) 0 fs.toList else none
    | _ => none

def goodFn (P : Program) (f : FuncId) : Bool := match P.funcs[f]? with
  | some fn => fn.body.isSome && !(fn.name == "runtime.NumGoroutine")
  | none => false

def cop (P : Program) (o : Oper) (hint : MOp) : Option MOp :=
  match o.op with
  | .move x | .assign x => match opd x with | some x => some (.mov x) | none => none
  | .pick c a b => match opd c, opd a, opd b with | some c, some a, some b => some (.pick c a b) | _, _, _ => none
  | .alloc e => match zeroL P e with | some z => some (.alloc z) | none => none
  | .box _ x => match opd x with | some x => some (.box x) | none => none
  | .build t ps => match P.underlying t, zeroL P t with
    | some (.struct fs), some z =>
      if fs.toList.all (fun f => (P.info? f.type).isSome) = true then
        (match copParts (fun i => (fs[i]?).map fun f => (f.offset, P.cellsOf f.type)) ps.toList with | some ps => some (.build z ps) | none => none)
      else none
    | some (.array _ e), some z =>
      if (P.info? e).isSome = true then
        (match copParts (fun i => some (i * P.cellsOf e, P.cellsOf e)) ps.toList with | some ps => some (.build z ps) | none => none)
      else none
    | _, _ => none
  | .buildSlice t n ps => match P.underlying t with
    | some (.slice e) => match P.info? e, zeroL P e, copParts (fun i => some (i * P.cellsOf e, P.cellsOf e)) ps.toList with
      | some _, some z, some ps => if n * P.cellsOf e ≤ 2 ^ 24 then some (match hint with | .bslR .. => .bslR n (P.cellsOf e) z ps | _ => .bsl n (P.cellsOf e) z ps) else none
      | _, _, _ => none
    | _ => none
  | .load t a => match P.underlying t, P.info? t, opd a with
    | some _, some _, some a => some (.load (aggT P t) (if aggT P t then P.cellsOf t else 1) a)
    | _, _, _ => none
  | .store t a v => match P.info? t, opd a, opd v with
    | some _, some a, some v => some (.store (P.cellsOf t) a v)
    | _, _, _ => none
  | .nilCheck x => match opd x with | some x => some (.chk x) | none => none
  | .binOp op t x y _ => match opd x, opd y with
    | some x, some y =>
      if aggT P t = true then
        (match hint with
        | .eqv _ rl _ _ => if (op = .eql ∨ op = .neq) ∧ kindsT P 20 t = some (expand rl) ∧ P.eqGuardType P.depth t = false then some (.eqv (op == .neq) rl x y) else none
        | _ => none)
      else if sliceT P t = true then (if (op = .eql ∨ op = .neq) ∧ nilC y = true then some (.nilS (op == .neq) x) else none)
      else if ptrT P t = true then (if (op = .eql ∨ op = .neq) ∧ nilQ y = true then some (.nilP (op == .neq) x) else none)
      else if plainT P t = true then some (.bin op x y) else if boolT P t = true then some (.binB op x y) else none
    | _, _ => none
  | .unOp op _ x => match opd x with | some x => some (.un op x) | none => none
  | .convert src dst x => match P.underlying src, P.underlying dst, opd x with
    | some _, some (.int k), some x => some (.toInt k x)
    | some .string, some .string, some x => some (.movS x)
    | some (.slice e), some .string, some x => match P.underlying e with
      | some (.int .u8) => some (.toStr x)
      | _ => none
    | some (.slice _), some (.slice e), some x => match P.underlying e with
      | some (.int .u8) => if src = dst then some (.mark x) else none
      | _ => none
    | _, _, _ => none
  | .sliceToArrayPointer t x => match P.underlying t, opd x with
    | some (.array n e), some x => some (.arrOf n (P.cellsOf e) x)
    | _, _ => none
  | .makeSlice t l c => match P.underlying t, opd l, opd c with
    | some (.slice e), some l, some c => match P.info? e, zeroL P e with
      | some i, some z => some (.mk (P.cellsOf e) i.bytes z l c)
      | _, _ => none
    | _, _, _ => none
  | .slice t x lo hi mx => match P.underlying t, opd x, opdO lo, opdO hi, opdO mx with
    | some (.array n e), some x, some lo, some hi, some mx => if (P.info? e).isSome = true then some (.slArr n (P.cellsOf e) x lo hi mx) else none
    | some (.slice e), some x, some lo, some hi, some mx => if (P.info? e).isSome = true then some (.slSl (P.cellsOf e) x lo hi mx) else none
    | some .string, some x, some lo, some hi, some none => some (.slStr x lo hi)
    | _, _, _, _, _ => none
  | .fieldAddr t x f => match P.underlying t, opd x with
    | some (.struct fs), some x => match fs[f]? with
      | some f => if (P.info? f.type).isSome = true ∧ P.cellsOf f.type ≠ 0 then some (.fa f.offset x) else none
      | none => none
    | _, _ => none
  | .field t x f => match P.underlying t, opd x with
    | some (.struct fs), some x => match fs[f]? with
      | some f => if (P.info? f.type).isSome = true ∧ (P.underlying f.type).isSome = true then some (.fld (aggT P f.type) f.offset (if aggT P f.type then P.cellsOf f.type else 1) x) else none
      | none => none
    | _, _ => none
  | .indexAddr t x i => match P.underlying t, opd x, opd i with
    | some (.array n e), some x, some i => if (P.info? e).isSome = true then some (.ixArr n (P.cellsOf e) x i) else none
    | some (.slice e), some x, some i => if (P.info? e).isSome = true then some (.ixSl (P.cellsOf e) x i) else none
    | _, _, _ => none
  | .index t x i => match P.underlying t, opd x, opd i with
    | some (.array n e), some x, some i => if (P.info? e).isSome = true ∧ (P.underlying e).isSome = true ∧ (aggT P e = true ∨ P.cellsOf e = 1) then some (.idx n (P.cellsOf e) (aggT P e) x i) else none
    | some .string, some x, some i => some (.idxStr x i)
    | _, _, _ => none
  | .extract x i => match opd x with | some x => some (.ext x i) | none => none
  | .makeFunc (.func f) first caps => if first.size = 0 then (match opds caps.toList with | some cs => some (.mkf f cs) | none => none) else none
  | .call c => match c.callee with
    | .value (.func f) => match opds c.args.toList with
      | some as => if goodFn P f = true then some (match hint with | .callp .. => .callp f as | .calln .. => .calln f as | _ => .call f as) else none
      | none => none
    | .value x => match opd x, opds c.args.toList with
      | some x, some as => some (.calli x as)
      | _, _ => none
    | .builtin .len => match c.argTypes[0]?, c.args[0]? with
      | some t, some x => match P.underlying t, opd x with
        | some (.array n _), _ => some (.lenC n)
        | some .string, some x => some (.lenS x)
        | some (.slice _), some x => some (.len x)
        | _, _ => none
      | _, _ => none
    | .builtin .append => match c.argTypes.toList, opds c.args.toList with
      | [t, u], some [s, x] => match P.underlying t with
        | some (.slice e) => match P.info? e, zeroL P e, P.underlying u with
          | some i, some z, some (.int _) => if z.length = P.cellsOf e then some (.appZ (P.cellsOf e) i.bytes z s x) else none
          | some i, some z, some _ => if z.length = P.cellsOf e then some (match hint with | .appP .. => .appP (P.cellsOf e) i.bytes s x | _ => .app (P.cellsOf e) i.bytes s x) else none
          | _, _, _ => none
        | _ => none
      | _, _ => none
    | .builtin .copy => match c.argTypes.toList, opds c.args.toList with
      | t :: _, some [d, s] => match P.underlying t with
        | some (.slice e) => match P.info? e with
          | some _ => some (.copy (P.cellsOf e) d s)
          | none => none
        | _ => none
      | _, _ => none
    | .builtin .cap => match c.argTypes[0]?, c.args[0]? with
      | some t, some x => match P.underlying t, opd x with
        | some (.slice _), some x => some (.cap x)
        | _, _ => none
      | _, _ => none
    | .builtin .min => match opds c.args.toList with | some [x, y] => some (.mnx true x y) | _ => none
    | .builtin .max => match opds c.args.toList with | some [x, y] => some (.mnx false x y) | _ => none
    | _ => none
  | .panic _ | .makeInterface _ _ => some .bad
  | _ => none

/-! ### the relation with its places named -/
variable [Off] [Gh] [Old]
structure RelC (φ : Nat → Option (Nat × Nat)) (w0 : World) (N : Nat) (s : St) (a : Act) (w : World) : Prop where
  hs : HS (sx w s.h φ w0.heap.size)
  below : Below w0.heap.size w0 w
  size : a.tmps.size = N
  defers : a.defers = []
  t : ∀ t, VR (sx w s.h φ w0.heap.size) (s.t t) (a.tmps.getD t undef)
  g : ∀ v u, Gh.G v u → VR (sx w s.h φ w0.heap.size) v u

theorem Rel.open_ {w0 : World} {N : Nat} {s : St} {a : Act} {w : World} (h : Rel w0 N s a w) : ∃ φ, RelC φ w0 N s a w := by
  obtain ⟨φ, h1, h2, h3, h4, h5, h6⟩ := h
  exact ⟨φ, h1, h2, h3, h4, h5, h6⟩
theorem RelC.rel {φ : Nat → Option (Nat × Nat)} {w0 : World} {N : Nat} {s : St} {a : Act} {w : World} (h : RelC φ w0 N s a w) : Rel w0 N s a w := ⟨φ, h.hs, h.below, h.size, h.defers, h.t, h.g⟩

section
variable {φ : Nat → Option (Nat × Nat)} {w0 : World} {N : Nat} {s : St} {a : Act} {w : World}

theorem getD_put (a : Act) (d t : Nat) (v : Value) (hd : d < a.tmps.size) : (a.put (some d) v).tmps.getD t undef = if t = d then v else a.tmps.getD t undef := by
  simp only [Act.put, Array.getD_eq_getD_getElem?, Array.getElem?_setIfInBounds]
  by_cases h : d = t
  · subst h; simp [hd]
  · rw [if_neg h, if_neg (fun e => h e.symm)]

/-- the slots behind a put, the memory having gone on -/
theorem RelC.put (h : RelC φ w0 N s a w) {φ' : Nat → Option (Nat × Nat)} {H' : Nat → Blk} {w' : World} (hs' : HS (sx w' H' φ' w0.heap.size)) (e : Evo (sx w s.h φ w0.heap.size) (sx w' H' φ' w0.heap.size)) (hb : Below w0.heap.size w0 w')
    {d : Nat} (hd : d < N) {v : IV} {rv : Value} (hv : VR (sx w' H' φ' w0.heap.size) v rv) : RelC φ' w0 N { t := upd s.t d v, h := H' } (a.put (some d) rv) w' where
  hs := hs'
  below := hb
  size := by simp [Act.put, h.size]
  defers := by simp [Act.put, h.defers]
  t t := by
    rw [getD_put a d t rv (by rw [h.size]; exact hd)]
    simp only [upd]
    split
    · exact hv
    · exact (h.t t).evo e
  g v u hg := (h.g v u hg).evo e

theorem RelC.putN (h : RelC φ w0 N s a w) {φ' : Nat → Option (Nat × Nat)} {H' : Nat → Blk} {w' : World} (hs' : HS (sx w' H' φ' w0.heap.size)) (e : Evo (sx w s.h φ w0.heap.size) (sx w' H' φ' w0.heap.size)) (hb : Below w0.heap.size w0 w') :
    RelC φ' w0 N { t := s.t, h := H' } a w' := ⟨hs', hb, h.size, h.defers, fun t => (h.t t).evo e, fun v u hg => (h.g v u hg).evo e⟩

theorem RelC.pure (h : RelC φ w0 N s a w) {d : Nat} (hd : d < N) {v : IV} {rv : Value} (hv : VR (sx w s.h φ w0.heap.size) v rv) : RelC φ w0 N (s.eff d ⟨v, none⟩) (a.put (some d) rv) w :=
  h.put h.hs (Evo.refl _) h.below hd hv

theorem toIV1_VR (c : Sx) {v : Value} {x : IV} (h : toIV1 v = some x) : VR c x v := by
  unfold toIV1 at h
  split at h <;> try (injection h with h; subst h; simp only [VR]; done)
  · injection h with h; subst h
    simp only [VR]
    exact ⟨.none, 0, [], rfl, by omega, by simp, by simp, rfl, rfl, by simp [VRL], fun i hi => by simp at hi⟩
  · split at h
    · rename_i a b hab
      injection h with h
      subst h
      obtain ⟨ha, hb⟩ := hab
      simp only [VR]
      refine ⟨[], ?_, rfl, by simp [VRL]⟩
      rw [Array.eq_empty_of_size_eq_zero ha, Array.eq_empty_of_size_eq_zero hb]
    · cases h
  · cases h
theorem toIV1_one {v : Value} {x : IV} (h : toIV1 v = some x) : x.one = true := by
  unfold toIV1 at h
  split at h <;> try (injection h with h; subst h; rfl)
  · split at h
    · injection h with h; subst h; rfl
    · cases h
  · cases h
theorem toIV1_pur {v : Value} {x : IV} (h : toIV1 v = some x) : x.pur = true := by
  unfold toIV1 at h
  split at h <;> try (injection h with h; subst h; rfl)
  · split at h
    · injection h with h; subst h; rfl
    · cases h
  · cases h
theorem toIVs_VRL (c : Sx) : ∀ {vs : List Value} {xs : List IV}, toIVs vs = some xs → VRL c xs vs ∧ xs.all IV.one = true ∧ IV.purL xs = true
  | [], xs, h => by simp only [toIVs, Option.some.injEq] at h; subst h; exact ⟨by simp [VRL], rfl, rfl⟩
  | v :: vs, xs, h => by
    simp only [toIVs] at h
    split at h
    · rename_i x xs' hx hxs
      injection h with h; subst h
      have := toIVs_VRL c hxs
      exact ⟨VRL.cons (toIV1_VR c hx) this.1, by simp [toIV1_one hx, this.2.1], by simp [IV.purL, toIV1_pur hx, this.2.2]⟩
    · cases h
theorem toIV_VR (c : Sx) {v : Value} {x : IV} (h : toIV v = some x) : VR c x v := by
  unfold toIV at h
  split at h
  · rename_i cs
    split at h
    · rename_i xs hxs
      injection h with h; subst h
      have := toIVs_VRL c hxs
      simp only [VR]
      exact ⟨cs.toList, by simp, this.2.1, this.1⟩
    · cases h
  · exact toIV1_VR c h

theorem get_VR (h : RelC φ w0 N s a w) {x : Operand} {y : Opd} (hx : opd x = some y) {v : IV} (hv : s.get y = some v) : VR (sx w s.h φ w0.heap.size) v (a.eval x) := by
  cases x with
  | tmp t =>
    simp only [opd, Option.some.injEq] at hx
    subst hx
    simp only [St.get] at hv
    split at hv
    · cases hv
    · injection hv with hv; subst hv; exact h.t t
  | const u =>
    simp only [opd] at hx
    split at hx
    · rename_i z hz
      injection hx with hx; subst hx
      simp only [St.get, Option.some.injEq] at hv
      subst hv
      exact toIV_VR _ hz
    · cases hx
  | global g => simp [opd] at hx
  | func f =>
    simp only [opd, Option.some.injEq] at hx
    subst hx
    simp only [St.get, Option.some.injEq] at hv
    subst hv
    simp only [VR]
    exact ⟨[], rfl, rfl, by simp [VRL]⟩

theorem get_ne {y : Opd} {v : IV} (hv : s.get y = some v) (hc : ∀ x, y = .c x → x.isU = false) : v.isU = false := by
  cases y with
  | tmp t =>
    simp only [St.get] at hv
    split at hv
    · cases hv
    · rename_i hu; injection hv with hv; subst hv; simpa using hu
  | c x => simp only [St.get, Option.some.injEq] at hv; subst hv; exact hc _ rfl

/-! readings of single values -/
theorem VR.int_ {c : Sx} {k : IntKind} {n : Int} {u : Value} (h : VR c (.int k n) u) : u = .int k n := by simpa only [VR] using h
theorem VR.bool_ {c : Sx} {b : Bool} {u : Value} (h : VR c (.bool b) u) : u = .bool b := by simpa only [VR] using h
theorem VR.str_ {c : Sx} {l : List UInt8} {u : Value} (h : VR c (.str l) u) : u = .string ⟨l.toArray⟩ := by simpa only [VR] using h
theorem VR.int_mk {c : Sx} {k : IntKind} {n : Int} : VR c (.int k n) (.int k n) := by simp only [VR]
theorem VR.bool_mk {c : Sx} {b : Bool} : VR c (.bool b) (.bool b) := by simp only [VR]

theorem one_cell {c : Sx} {x : IV} {u : Value} (h : VR c x u) (hx : x.one = true) : u.oneCell' = true := by
  cases x <;> simp [IV.one] at hx <;> simp only [VR] at h
  all_goals first
    | (subst h; rfl)
    | (obtain ⟨us, rfl, _⟩ := h; rfl)
    | (obtain ⟨A, k, us, rfl, _⟩ := h; rfl)
    | (obtain ⟨_, A, k, rfl, _⟩ := h; rfl)
    | (obtain ⟨_, h2, _⟩ := h; cases u <;> simp [isPtr] at h2 <;> rfl)

theorem ones_cell {c : Sx} {xs : List IV} {us : List Value} (h : VRL c xs us) (hx : xs.all IV.one = true) : ∀ u ∈ us, u.oneCell' = true := by
  intro u hu
  obtain ⟨i, hi, rfl⟩ := List.mem_iff_getElem.1 hu
  have hl := h.length
  exact one_cell (h.get i (by omega) hi) (List.all_eq_true.1 hx _ (List.getElem_mem (by omega)))

/-- the cells of a value, and of its image -/
theorem cells_VR {c : Sx} {v : IV} {u : Value} (h : VR c v u) (hv : v.isU = false) : (∃ us, u.cells = us.toArray ∧ VRL c v.cells us) := by
  have gen : ∀ x : IV, (∀ cs, x ≠ .agg cs) → VR c x u → u.cells = #[u] → ∃ us, u.cells = us.toArray ∧ VRL c [x] us := fun x _ hx hu => ⟨[u], hu, VRL.cons hx VRL.nil⟩
  cases v with
  | int k n => exact gen _ (by simp) h (by rw [h.int_]; rfl)
  | bool b => exact gen _ (by simp) h (by rw [h.bool_]; rfl)
  | str l => exact gen _ (by simp) h (by rw [h.str_]; rfl)
  | nilp => exact gen _ (by simp) h (by simp only [VR] at h; subst h; rfl)
  | clo f caps => exact gen _ (by simp) h (by simp only [VR] at h; obtain ⟨us, rfl, _⟩ := h; rfl)
  | sl f n cs =>
    have hu : u.cells = #[u] := by simp only [VR] at h; obtain ⟨A, k, us, rfl, _⟩ := h; rfl
    have hfull : VR c (.sl .full n cs) u ∨ f = .plain := by
      cases f with
      | plain => exact .inr rfl
      | full => exact .inl h
      | lit =>
        left
        simp only [VR] at h ⊢
        obtain ⟨A, k, us, h1, h2, h3, h4, h5, h6, h7, h8⟩ := h
        exact ⟨A, k, us, h1, h2, fun _ => h3 (by simp), by simp, h5, h6, h7, h8⟩
    cases f with
    | plain => exact gen _ (by simp) h hu
    | full => exact gen _ (by simp) h hu
    | lit => exact gen _ (by simp) (hfull.resolve_right (by simp)) hu
  | row x off n sz ver => exact gen _ (by simp) h (by simp only [VR] at h; obtain ⟨_, A, k, rfl, _⟩ := h; rfl)
  | ptr x off ver => exact gen _ (by simp) h (by simp only [VR] at h; obtain ⟨_, h2, _⟩ := h; cases u <;> first | rfl | (simp [isPtr] at h2; done))
  | addr cs => exact gen _ (by simp) h (by simp only [VR] at h; obtain ⟨A, us, rfl, _⟩ := h; rfl)
  | agg cs => simp only [VR] at h; obtain ⟨us, rfl, _, h3⟩ := h; exact ⟨us, rfl, h3⟩
  | tup vs => exact gen _ (by simp) h (by simp only [VR] at h; obtain ⟨us, rfl, _⟩ := h; rfl)
  | lits n sz cs => exact gen _ (by simp) h (by simp only [VR] at h; obtain ⟨A, us, rfl, _⟩ := h; rfl)
  | own n sz cs => simp only [VR] at h
  | anyB => exact gen _ (by simp) h (by simp only [VR] at h; obtain ⟨b, rfl⟩ := h; rfl)
  | undef => simp [IV.isU] at hv
end
end Go.Proofs.YtmblapgoimegkaaDoor
