/- The ideal machine: values are lists; what a function makes lies in 'homes', one a temporary. -/
import Derived.Orders
import Derived.Below
import Derived.KernelRfl
namespace Go.Proofs.YtmblapgoimegkaaDoor
open Go.RowKit

inductive Fl where
  | plain | full | lit
  deriving DecidableEq

inductive IV where
  | int (k : IntKind) (n : Int)
  | bool (b : Bool)
  | str (l : List UInt8)
  | nilp
  | clo (f : FuncId) (caps : List IV)
  | sl (f : Fl) (n : Nat) (cells : List IV)
  | row (h off n sz ver : Nat)
  | ptr (h off ver : Nat)
  | addr (cells : List IV)
  | agg (cells : List IV)
  | tup (vs : List IV)
  | own (n sz : Nat) (cells : List IV)
  | lits (n sz : Nat) (cells : List IV)
  | anyB
  | undef

namespace IV
/-- what fills one cell -/
def one : IV → Bool
  | .sl .lit _ _ => false
  | .int _ _ | .bool _ | .str _ | .nilp | .clo _ _ | .sl _ _ _ | .row .. | .ptr .. => true
  | _ => false
/-- no literal of this very call -/
def nlit : IV → Bool
  | .sl .lit _ _ => false
  | .lits _ _ _ => false
  | _ => true
def isU : IV → Bool
  | .undef => true
  | _ => false
/-- one cell that holds no memory -/
def scal : IV → Bool
  | .int _ _ | .bool _ | .str _ | .nilp => true
  | _ => false
mutual
/-- nothing in it hangs on a home -/
def pur : IV → Bool
  | .int _ _ | .bool _ | .str _ | .nilp => true
  | .clo _ cs => purL cs
  | .sl _ _ cs => purL cs
  | .agg cs => purL cs
  | .tup vs => purL vs
  | .addr cs => purL cs
  | .anyB => true
  | _ => false
def purL : List IV → Bool
  | [] => true
  | v :: vs => pur v && purL vs
end
/-- what can be laid into cells -/
def boxable : IV → Bool
  | .agg _ => true
  | .sl .lit _ _ => true
  | v => v.one
def cells : IV → List IV
  | .agg cs => cs
  | .sl .lit n cs => [.sl .full n cs]
  | v => [v]
end IV

structure Blk where
  ver : Nat
  live : Bool
  rw : Bool
  isRow : Bool
  cells : List IV

structure St where
  t : Nat → IV
  h : Nat → Blk

def upd {α : Type} (f : Nat → α) (d : Nat) (v : α) : Nat → α := fun x => if x = d then v else f x

inductive Opd where
  | tmp (t : Nat)
  | c (v : IV)

/-- kinds of cells that can be held against each other -/
inductive CK where
  | b | i | s
  deriving DecidableEq
def CK.fit : CK → IV → Bool
  | .b, .bool _ => true
  | .i, .int _ _ => true
  | .s, .str _ => true
  | _, _ => false
def fitR : List (Nat × CK) → List IV → Bool
  | [], cs => cs.isEmpty
  | (n, k) :: r, cs => decide (n ≤ cs.length) && (cs.take n).all k.fit && fitR r (cs.drop n)
def expand : List (Nat × CK) → List CK
  | [] => []
  | (n, k) :: r => List.replicate n k ++ expand r

structure Eff where
  v : IV
  b : Option Blk

inductive MOp where
  | mov (x : Opd)
  | pick (c a b : Opd)
  | alloc (zero : List IV)
  | box (x : Opd)
  | build (zero : List IV) (parts : List (Nat × Nat × Opd))
  | bsl (n sz : Nat) (zero : List IV) (parts : List (Nat × Nat × Opd))
  | bslR (n sz : Nat) (zero : List IV) (parts : List (Nat × Nat × Opd))
  | load (ag : Bool) (n : Nat) (a : Opd)
  | store (n : Nat) (a v : Opd)
  | chk (x : Opd)
  | bin (op : BinOp) (x y : Opd)
  | binB (op : BinOp) (x y : Opd)
  | eqv (neg : Bool) (ks : List (Nat × CK)) (x y : Opd)
  | un (op : UnOp) (x : Opd)
  | toInt (k : IntKind) (x : Opd)
  | toStr (x : Opd)
  | mark (x : Opd)
  | arrOf (n sz : Nat) (x : Opd)
  | mk (sz bytes : Nat) (zero : List IV) (l c : Opd)
  | slStr (x : Opd) (lo hi : Option Opd)
  | slSl (sz : Nat) (x : Opd) (lo hi mx : Option Opd)
  | slArr (n sz : Nat) (x : Opd) (lo hi mx : Option Opd)
  | fa (off : Nat) (x : Opd)
  | fld (ag : Bool) (off n : Nat) (x : Opd)
  | ixArr (n sz : Nat) (x i : Opd)
  | ixSl (sz : Nat) (x i : Opd)
  | idx (n sz : Nat) (ag : Bool) (x i : Opd)
  | idxStr (x i : Opd)
  | ext (x : Opd) (i : Nat)
  | call (f : FuncId) (args : List Opd)
  | callp (f : FuncId) (args : List Opd)
  | calln (f : FuncId) (args : List Opd)
  | calli (x : Opd) (args : List Opd)
  | mkf (f : FuncId) (caps : List Opd)
  | bad
  | lenC (n : Nat)
  | len (x : Opd)
  | lenS (x : Opd)
  | nilS (neg : Bool) (x : Opd)
  | nilP (neg : Bool) (x : Opd)
  | cap (x : Opd)
  | movS (x : Opd)
  | app (sz bytes : Nat) (s x : Opd)
  | appP (sz bytes : Nat) (s x : Opd)
  | appZ (sz bytes : Nat) (zero : List IV) (s x : Opd)
  | copy (sz : Nat) (d s : Opd)
  | mnx (isMin : Bool) (x y : Opd)

inductive MI where
  | op (d : Option Nat) (o : MOp) (g : Option (Nat × Bool))
  | frz (t : Nat)
  | kill (ts : List Nat)

inductive Ex where
  | normal
  | exit (id : Nat)
  | ret
  deriving DecidableEq

inductive MCode where
  | skip
  | reg (l : List MI)
  | drw (pre : List MI) (suf : List MI)
  | drc (pa : List MI) (c : MI) (pb : List MI) (suf : List MI)
  | seq (a b : MCode)
  | cond (c : Opd) (a b : MCode)
  | blk (id : Nat) (a : MCode)
  | loop (a : MCode)
  | exit (id : Nat)
  | ret

inductive MRes where
  | tmp (t : Nat)
  | cell (t : Nat) (ag : Bool) (n : Nat)

structure MFunc where
  np : Nat
  nt : Nat
  res : List MRes
  body : MCode

/-! ### reading -/
def St.get (s : St) : Opd → Option IV
  | .tmp t => if (s.t t).isU then none else some (s.t t)
  | .c v => some v

def St.ok (s : St) (h ver : Nat) : Bool := (s.h h).live && (s.h h).ver == ver

/-- the cells of a row -/
def St.seg (s : St) (h off m : Nat) : List IV := ((s.h h).cells.drop off).take m

/-- what stands in a slice's elements of 'sz' cells -/
def St.elems (s : St) (sz : Nat) : IV → Option (Nat × List IV)
  | .sl _ n cs => if cs.length = n * sz then some (n, cs) else none
  | .row h off n sz' ver => if s.ok h ver = true ∧ sz' = sz ∧ ((s.h h).isRow = true ∨ IV.purL (s.seg h off (n * sz)) = true) then some (n, s.seg h off (n * sz)) else none
  | _ => none

/-- bytes of a string as cells -/
def bytesV (l : List UInt8) : List IV := l.map fun b => .int .u8 b.toNat

/-- a value that becomes a cell of a row -/
def St.nest1 (s : St) : IV → Option IV
  | .row h off n sz ver => if s.ok h ver = true ∧ (s.h h).rw = false ∧ ((s.h h).isRow = true ∨ IV.purL (s.seg h off (n * sz)) = true) then some (.sl .plain n (s.seg h off (n * sz))) else none
  | .sl _ n cs => some (.sl .plain n cs)
  | .int k n => some (.int k n)
  | .bool b => some (.bool b)
  | .str l => some (.str l)
  | .nilp => some .nilp
  | _ => none
def St.nestL (s : St) : List IV → Option (List IV)
  | [] => some []
  | c :: cs => match s.nest1 c, s.nestL cs with
    | some c, some cs => some (c :: cs)
    | _, _ => none
/-- the cells of a value that goes into a row -/
def St.nest (s : St) (v : IV) : Option (List IV) := if (v.cells.all IV.scal) = true then some v.cells else s.nestL v.cells

/-- a value that is handed to a function: what it reads -/
def St.snapB (s : St) : IV → Option IV
  | .row h off n sz ver => if s.ok h ver = true ∧ ((s.h h).isRow = true ∨ IV.purL (s.seg h off (n * sz)) = true) then some (.sl .plain n (s.seg h off (n * sz))) else none
  | .sl .lit n cs => some (.sl .full n cs)
  | .sl f n cs => some (.sl f n cs)
  | .int k n => some (.int k n)
  | .bool b => some (.bool b)
  | .str l => some (.str l)
  | .nilp => some .nilp
  | _ => none
/-- what a closure has captured -/
def St.snapP (s : St) : IV → Option IV
  | .ptr h off ver => if s.ok h ver = true ∧ IV.purL ((s.h h).cells.drop off) = true then some (.addr ((s.h h).cells.drop off)) else none
  | v => s.snapB v
def St.snapPL (s : St) : List IV → Option (List IV)
  | [] => some []
  | c :: cs => match s.snapP c, s.snapPL cs with
    | some c, some cs => some (c :: cs)
    | _, _ => none
def St.snap1 (s : St) : IV → Option IV
  | .clo f caps => match s.snapPL caps with | some caps => some (.clo f caps) | none => none
  | v => s.snapB v
def St.snapL (s : St) : List IV → Option (List IV)
  | [] => some []
  | c :: cs => match s.snapB c, s.snapL cs with
    | some c, some cs => some (c :: cs)
    | _, _ => none
def St.snap (s : St) : IV → Option IV
  | .agg cs => if (cs.all IV.scal) = true then some (.agg cs) else match s.snapL cs with | some cs => some (.agg cs) | none => none
  | .lits n _ cs => match s.snapL cs with | some cs => some (.sl .full n cs) | none => none
  | v => s.snap1 v
def St.snaps (s : St) : List Opd → Option (List IV)
  | [] => some []
  | x :: xs => match s.get x with
    | some v => match s.snap v, s.snaps xs with
      | some v, some vs => some (v :: vs)
      | _, _ => none
    | none => none

/-- what is handed over stays as it is for good -/
def St.stab (s : St) : IV → Bool
  | .row h _ _ _ _ => !(s.h h).rw
  | .agg cs => cs.all fun c => match c with
    | .row h _ _ _ _ => !(s.h h).rw
    | .ptr .. | .clo .. => false
    | _ => true
  | .ptr .. | .clo .. | .lits .. => false
  | _ => true
def St.stabs (s : St) : List Opd → Bool
  | [] => true
  | x :: xs => (match s.get x with | some v => s.stab v | none => false) && s.stabs xs
/-- a result that hangs on no memory but its own row -/
def IV.scalR : IV → Bool
  | .own _ _ cs => cs.all IV.scal
  | .agg cs => cs.all IV.scal
  | .sl _ _ cs => cs.isEmpty
  | v => v.scal

/-! ### what operations reckon -/
def bitsI (op : BinOp) (k : IntKind) (x y : Int) : Option Int :=
  let a := BitVec.ofInt k.bits x
  let b := BitVec.ofInt k.bits y
  match op with
  | .and => some (k.wrap (a &&& b).toNat)
  | .or => some (k.wrap (a ||| b).toNat)
  | .xor => some (k.wrap (a ^^^ b).toNat)
  | .andNot => some (k.wrap (a &&& ~~~b).toNat)
  | _ => none

def binI (op : BinOp) (k : IntKind) (x y : Int) : Option IV :=
  match op with
  | .add => some (.int k (k.wrap (x + y)))
  | .sub => some (.int k (k.wrap (x - y)))
  | .mul => some (.int k (k.wrap (x * y)))
  | .quo => if y = 0 then none else some (.int k (k.wrap (x.tdiv y)))
  | .rem => if y = 0 then none else some (.int k (x.tmod y))
  | .eql => some (.bool (decide (x = y)))
  | .neq => some (.bool (!decide (x = y)))
  | .lss => some (.bool (decide (x < y)))
  | .leq => some (.bool (decide (x ≤ y)))
  | .gtr => some (.bool (decide (y < x)))
  | .geq => some (.bool (decide (y ≤ x)))
  | .and | .or | .xor | .andNot => match bitsI op k x y with | some z => some (.int k z) | none => none
  | _ => none

def shI (op : BinOp) (k : IntKind) (x y : Int) : Option IV :=
  if y < 0 then none else
  match op with
  | .shl => some (.int k (k.wrap (x * 2 ^ (min y.toNat k.bits))))
  | .shr => some (.int k (x.fdiv (2 ^ (min y.toNat k.bits))))
  | _ => none

def isShift : BinOp → Bool
  | .shl | .shr => true
  | _ => false

def binV (op : BinOp) : IV → IV → Option IV
  | .int k x, .int k' y => if isShift op = true then shI op k x y else if k = k' then binI op k x y else none
  | .str x, .str y => match op with
    | .eql => some (.bool (decide (x = y)))
    | .neq => some (.bool (!decide (x = y)))
    | .add => if x.length + y.length ≤ 2 ^ 62 then some (.str (x ++ y)) else none
    | _ => none
  | _, _ => none

def unV (op : UnOp) : IV → Option IV
  | .int k n => match op with
    | .neg => some (.int k (k.wrap (0 - n)))
    | .xor => match bitsI .xor k (if k.signed then -1 else k.max) n with | some z => some (.int k z) | none => none
    | _ => none
  | .bool b => match op with
    | .not => some (.bool (!b))
    | _ => none
  | _ => none

/-- are cells alike? -/
def eqC : IV → IV → Option Bool
  | .int k x, .int k' y => if k = k' then some (decide (x = y)) else none
  | .bool x, .bool y => some (x == y)
  | .str x, .str y => some (decide (x = y))
  | _, _ => none
def eqL : List IV → List IV → Option Bool
  | [], [] => some true
  | c :: cs, d :: ds => match eqC c d, eqL cs ds with
    | some a, some b => some (a && b)
    | _, _ => none
  | _, _ => none

def placed (acc : List IV) : List (Nat × List IV) → Option (List IV)
  | [] => some acc
  | (off, p) :: rest => if off + p.length ≤ acc.length then placed (acc.take off ++ p ++ acc.drop (off + p.length)) rest else none

def St.parts (s : St) : List (Nat × Nat × Opd) → Option (List (Nat × List IV))
  | [] => some []
  | (off, n, x) :: rest => match s.get x, s.parts rest with
    | some v, some ps => if v.cells.length = n ∧ v.boxable = true then some ((off, v.cells) :: ps) else none
    | _, _ => none
def St.partsN (s : St) : List (Nat × Nat × Opd) → Option (List (Nat × List IV))
  | [] => some []
  | (off, n, x) :: rest => match s.get x, s.partsN rest with
    | some v, some ps => match s.nest v with
      | some cs => if cs.length = n then some ((off, cs) :: ps) else none
      | none => none
    | _, _ => none

/-- a slice expression's bounds -/
def bnd (s : St) : Option Opd → Nat → Option Nat
  | none, dflt => some dflt
  | some x, _ => match s.get x with
    | some (.int _ i) => if 0 ≤ i then some i.toNat else none
    | _ => none

/-- 'lo', 'hi', 'cap' of x[lo:hi:mx] where x has n elements: (lo, hi, is the capacity hi's?) -/
def bnds (s : St) (n : Nat) (lo hi mx : Option Opd) : Option (Nat × Nat × Bool) :=
  match bnd s lo 0, bnd s hi n, bnd s mx n with
  | some l, some h, some m => if l ≤ h ∧ h ≤ m ∧ m ≤ n ∧ (mx.isSome = true → hi.isSome = true) then some (l, h, mx.isSome && (h == m)) else none
  | _, _, _ => none

def freshBlk (s : St) (d : Nat) (rw isRow : Bool) (cells : List IV) : Blk := ⟨(s.h d).ver + 1, true, rw, isRow, cells⟩

/-- as one value -/
def asV (ag : Bool) (cs : List IV) : Option IV :=
  if ag then some (.agg cs) else match cs with
    | [v] => some v
    | _ => none

def idxI : Option IV → Option Int
  | some (.int _ i) => some i
  | _ => none

/-- the most bytes that an append or a make may ask for -/
def roomy (n bytes : Nat) : Bool := decide (n * bytes ≤ 2 ^ 44) && decide (n ≤ 2 ^ 44)

/-- what 'append' adds -/
def St.more (s : St) (sz : Nat) : IV → Option (Nat × List IV)
  | .str l => if sz = 1 then some (l.length, bytesV l) else none
  | v => s.elems sz v

def repl (n : Nat) (zero : List IV) : List IV := (List.replicate n zero).flatten

/-- where a function's own homes begin -/
class Off where
  K : Nat
variable [Off]
/-- the home of a slot -/
def hom (d : Nat) : Nat := Off.K + d
theorem hom_inj {a b : Nat} : hom a = hom b ↔ a = b := by unfold hom; omega

/-- an operation that turns nothing but its own slot and its own home; 'fz': its row is shut at once -/
def neu (s : St) (d : Nat) : MOp → Option Eff
  | .mov x => match s.get x with | some v => some ⟨v, none⟩ | none => none
  | .pick c a b => match s.get c with
    | some (.bool t) => match (if t then s.get a else s.get b) with | some v => some ⟨v, none⟩ | none => none
    | _ => none
  | .alloc zero => some ⟨.ptr (hom d) 0 ((s.h (hom d)).ver + 1), some (freshBlk s (hom d) true false zero)⟩
  | .box x => match s.get x with | some v => if v.boxable = true then some ⟨.ptr (hom d) 0 ((s.h (hom d)).ver + 1), some (freshBlk s (hom d) true false v.cells)⟩ else none | none => none
  | .build zero ps => match s.parts ps with
    | some ps => match placed zero ps with | some cs => some ⟨.agg cs, none⟩ | none => none
    | none => none
  | .bsl n sz zero ps => match s.partsN ps with
    | some ps => match placed (repl n zero) ps with | some cs => if zero.length = sz then some ⟨.sl .lit n cs, none⟩ else none | none => none
    | none => none
  | .bslR n sz zero ps => match s.parts ps with
    | some ps => match placed (repl n zero) ps with | some cs => if zero.length = sz then some ⟨.lits n sz cs, none⟩ else none | none => none
    | none => none
  | .load ag n a => match s.get a with
    | some (.ptr h off ver) => if s.ok h ver = true ∧ off + n ≤ (s.h h).cells.length then (match asV ag (s.seg h off n) with | some v => some ⟨v, none⟩ | none => none) else none
    | some (.addr cs) => if n ≤ cs.length then (match asV ag (cs.take n) with | some v => some ⟨v, none⟩ | none => none) else none
    | _ => none
  | .chk x => match s.get x with
    | some (.ptr h off ver) => if s.ok h ver = true then some ⟨.ptr h off ver, none⟩ else none
    | some (.addr cs) => some ⟨.addr cs, none⟩
    | _ => none
  | .bin op x y => match s.get x, s.get y with
    | some a, some b => match binV op a b with | some v => some ⟨v, none⟩ | none => none
    | _, _ => none
  | .binB op x y => match s.get x, s.get y with
    | some (.bool a), some (.bool b) => match op with
      | .eql => some ⟨.bool (a == b), none⟩
      | .neq => some ⟨.bool (!(a == b)), none⟩
      | _ => none
    | _, _ => none
  | .eqv neg ks x y => match s.get x, s.get y with
    | some (.agg a), some (.agg b) => if fitR ks a = true then (match eqL a b with | some r => some ⟨.bool (if neg then !r else r), none⟩ | none => none) else none
    | _, _ => none
  | .un op x => match s.get x with
    | some a => match unV op a with | some v => some ⟨v, none⟩ | none => none
    | none => none
  | .toInt k x => match s.get x with
    | some (.int _ n) => some ⟨.int k (k.wrap n), none⟩
    | _ => none
  | .toStr x => match s.get x with
    | some v => match s.elems 1 v with
      | some (_, cs) => match cs.mapM (fun c => match c with | IV.int .u8 n => some (UInt8.ofNat n.toNat) | _ => none) with | some l => some ⟨.str l, none⟩ | none => none
      | none => none
    | none => none
  | .mark x => match s.get x with
    | some (.sl .lit n cs) => if 0 < cs.length then some ⟨.sl .lit n cs, none⟩ else none
    | _ => none
  | .arrOf n sz x => match s.get x with
    | some (.row h off m sz' ver) => if s.ok h ver = true ∧ n ≤ m ∧ 0 < n ∧ 0 < sz ∧ sz' = sz then some ⟨.ptr h off ver, none⟩ else none
    | some (.sl _ m cs) => if n ≤ m ∧ 0 < n ∧ 0 < sz ∧ cs.length = m * sz then some ⟨.addr cs, none⟩ else none
    | _ => none
  | .mk sz bytes zero l c => match s.get l, s.get c with
    | some (.int _ l), some (.int _ c) => if 0 ≤ l ∧ l = c ∧ roomy l.toNat bytes = true ∧ zero.length = sz then some ⟨.row (hom d) 0 l.toNat sz ((s.h (hom d)).ver + 1), some (freshBlk s (hom d) true true (repl l.toNat zero))⟩ else none
    | _, _ => none
  | .slStr x lo hi => match s.get x with
    | some (.str l) => match bnds s l.length lo hi none with | some (a, b, _) => some ⟨.str ((l.take b).drop a), none⟩ | none => none
    | _ => none
  | .slSl sz x lo hi mx => match s.get x with
    | some (.row h off n sz' ver) => match bnds s n lo hi mx with
      | some (a, b, _) => if sz' = sz then some ⟨.row h (off + a * sz) (b - a) sz ver, none⟩ else none
      | none => none
    | some (.sl f n cs) => match bnds s n lo hi mx with
      | some (a, b, e) => if cs.length = n * sz then some ⟨.sl (if e then .full else if b = n ∧ f ≠ .plain then .full else .plain) (b - a) ((cs.take (b * sz)).drop (a * sz)), none⟩ else none
      | none => none
    | _ => none
  | .slArr n sz x lo hi mx => match s.get x with
    | some (.ptr h off ver) => match bnds s n lo hi mx with
      | some (a, b, _) => if s.ok h ver = true ∧ off + n * sz ≤ (s.h h).cells.length then some ⟨.row h (off + a * sz) (b - a) sz ver, none⟩ else none
      | none => none
    | some (.addr cs) => match bnds s n lo hi mx with
      | some (a, b, _) => if n * sz ≤ cs.length then some ⟨.sl .plain (b - a) ((cs.take (b * sz)).drop (a * sz)), none⟩ else none
      | none => none
    | _ => none
  | .fa off x => match s.get x with
    | some (.ptr h o ver) => if s.ok h ver = true then some ⟨.ptr h (o + off) ver, none⟩ else none
    | some (.addr cs) => some ⟨.addr (cs.drop off), none⟩
    | _ => none
  | .fld ag off n x => match s.get x with
    | some (.agg cs) => if off + n ≤ cs.length then (match asV ag ((cs.drop off).take n) with | some v => some ⟨v, none⟩ | none => none) else none
    | _ => none
  | .ixArr n sz x i => match s.get x, idxI (s.get i) with
    | some (.ptr h o ver), some i => if s.ok h ver = true ∧ 0 ≤ i ∧ i < n then some ⟨.ptr h (o + i.toNat * sz) ver, none⟩ else none
    | some (.addr cs), some i => if 0 ≤ i ∧ i < n then some ⟨.addr (cs.drop (i.toNat * sz)), none⟩ else none
    | _, _ => none
  | .ixSl sz x i => match s.get x, idxI (s.get i) with
    | some (.row h o n sz' ver), some i => if s.ok h ver = true ∧ 0 ≤ i ∧ i < n ∧ sz' = sz ∧ 0 < sz then some ⟨.ptr h (o + i.toNat * sz) ver, none⟩ else none
    | some (.sl _ n cs), some i => if 0 ≤ i ∧ i < n ∧ cs.length = n * sz ∧ 0 < sz then some ⟨.addr (cs.drop (i.toNat * sz)), none⟩ else none
    | _, _ => none
  | .idx n sz ag x i => match s.get x, idxI (s.get i) with
    | some (.agg cs), some i => if 0 ≤ i ∧ i < n ∧ n * sz ≤ cs.length then (match asV ag ((cs.drop (i.toNat * sz)).take sz) with | some v => some ⟨v, none⟩ | none => none) else none
    | _, _ => none
  | .idxStr x i => match s.get x, idxI (s.get i) with
    | some (.str l), some i => if 0 ≤ i ∧ i < l.length then some ⟨.int .u8 ((l.getD i.toNat 0).toNat), none⟩ else none
    | _, _ => none
  | .ext x i => match s.get x with
    | some (.tup vs) => match vs[i]? with
      | some v => if v.isU then none else some ⟨v, none⟩
      | none => none
    | _ => none
  | .mkf f caps => match caps.mapM s.get with | some vs => if (vs.all IV.nlit) = true then some ⟨.clo f vs, none⟩ else none | none => none
  | .lenC n => some ⟨.int .i64 n, none⟩
  | .len x => match s.get x with
    | some (.sl _ n _) => some ⟨.int .i64 n, none⟩
    | some (.row h _ n _ ver) => if s.ok h ver = true then some ⟨.int .i64 n, none⟩ else none
    | _ => none
  | .lenS x => match s.get x with
    | some (.str l) => some ⟨.int .i64 l.length, none⟩
    | _ => none
  | .nilS neg x => match s.get x with
    | some (.sl _ _ cs) => some ⟨if 0 < cs.length then .bool neg else .anyB, none⟩
    | some (.row h _ n _ ver) => if s.ok h ver = true then some ⟨if 0 < n then .bool neg else .anyB, none⟩ else none
    | _ => none
  | .nilP neg x => match s.get x with
    | some .nilp => some ⟨.bool (!neg), none⟩
    | some (.ptr h _ ver) => if s.ok h ver = true then some ⟨.bool neg, none⟩ else none
    | some (.addr _) => some ⟨.bool neg, none⟩
    | _ => none
  | .cap x => match s.get x with
    | some (.sl f n _) => if f ≠ .plain then some ⟨.int .i64 n, none⟩ else none
    | _ => none
  | .movS x => match s.get x with
    | some (.str l) => some ⟨.str l, none⟩
    | _ => none
  | .app sz bytes x y => match s.get x, s.get y with
    | some (.sl f n cs), some v => match s.more sz v with
      | some (m, ds) => if f ≠ .plain ∧ cs.length = n * sz ∧ (0 < m ∨ n = 0) ∧ roomy (n + m) bytes = true then some ⟨.row (hom d) 0 (n + m) sz ((s.h (hom d)).ver + 1), some (freshBlk s (hom d) true true (cs ++ ds))⟩ else none
      | none => none
    | _, _ => none
  | .appP sz bytes x y => match s.get x, s.get y with
    | some (.sl f n cs), some v => match s.more sz v with
      | some (m, ds) => if f ≠ .plain ∧ cs.length = n * sz ∧ roomy (n + m) bytes = true then some ⟨.sl .plain (n + m) (cs ++ ds), none⟩ else none
      | none => none
    | _, _ => none
  | .mnx isMin x y => match s.get x, s.get y with
    | some (.int k x), some (.int k' y) => if k = k' then some ⟨.int k (if isMin then (if y < x then y else x) else (if x < y then y else x)), none⟩ else none
    | _, _ => none
  | _ => none

/-! ### turning -/
def St.put (s : St) (d : Option Nat) (v : IV) : St := match d with | some d => { s with t := upd s.t d v } | none => s
def St.eff (s : St) (d : Nat) (e : Eff) : St := { t := upd s.t d e.v, h := match e.b with | some b => upd s.h (hom d) b | none => s.h }
def St.frzH (s : St) (h : Nat) : St := { s with h := upd s.h h { s.h h with rw := false } }
def frzL (s : St) : List IV → St
  | [] => s
  | .row h _ _ _ _ :: cs => frzL (s.frzH h) cs
  | _ :: cs => frzL s cs
def St.frz (s : St) (v : IV) : St := frzL s v.cells
def St.kill (s : St) (ts : List Nat) : St := { s with t := fun x => if x ∈ ts then .undef else s.t x }
def St.dead (s : St) (h : Nat) : St := { s with h := upd s.h h { s.h h with ver := (s.h h).ver + 1, live := false } }

/-- results that nobody will turn -/
def plainL : List IV → List IV
  | [] => []
  | .own n _ cs :: vs => .sl .plain n cs :: plainL vs
  | v :: vs => v :: plainL vs
def asRes : List IV → IV
  | [v] => v
  | vs => .tup vs

/-- results of a call come in: at most one row of its own -/
def impV (d ver : Nat) : List IV → List IV × Option (List IV)
  | [] => ([], none)
  | .own n sz cs :: vs => (.row d 0 n sz ver :: vs, some cs)
  | v :: vs => ((v :: (impV d ver vs).1), (impV d ver vs).2)
def St.imp (s : St) (d : Nat) (r : List IV) : St :=
  let p := impV (hom d) ((s.h (hom d)).ver + 1) r
  { t := upd s.t d (asRes p.1)
    h := match p.2 with | some cs => upd s.h (hom d) (freshBlk s (hom d) true true cs) | none => s.h }

/-- an operation that turns more than its own -/
def act (s : St) (d : Option Nat) : MOp → Option St
  | .store n a v => match s.get a, s.get v with
    | some (.ptr h off ver), some v =>
      if s.ok h ver = true ∧ (s.h h).rw = true ∧ off + n ≤ (s.h h).cells.length ∧ v.cells.length = n then
        (match (if (s.h h).isRow = true then s.nest v else if v.boxable = true then some v.cells else none) with
        | some cs => if cs.length = n ∧ ((s.h h).isRow = true → IV.purL cs = true) then some (St.put { s with h := upd s.h h { s.h h with cells := (s.h h).cells.take off ++ cs ++ (s.h h).cells.drop (off + n) } } d (.tup [])) else none
        | none => none)
      else none
    | _, _ => none
  | .app sz bytes x y => match d, s.get x, s.get y with
    | some d, some (.row h off n sz' ver), some v => match s.more sz v with
      | some (m, ds) =>
        if s.ok h ver = true ∧ (s.h h).rw = true ∧ (s.h h).isRow = true ∧ sz' = sz ∧ off + n * sz = (s.h h).cells.length ∧ roomy (n + m) bytes = true ∧ 0 < sz then
          let s' := s.dead h
          some { t := upd s.t d (.row (hom d) 0 (n + m) sz ((s'.h (hom d)).ver + 1)), h := upd s'.h (hom d) (freshBlk s' (hom d) true true ((s.h h).cells.drop off ++ ds)) }
        else none
      | none => none
    | _, _, _ => none
  | .appZ sz bytes zero x y => match d, s.get x, s.get y with
    | some d, some (.row h off n sz' ver), some (.int _ m) =>
        if s.ok h ver = true ∧ (s.h h).rw = true ∧ (s.h h).isRow = true ∧ sz' = sz ∧ off + n * sz = (s.h h).cells.length ∧ 0 ≤ m ∧ roomy (n + m.toNat) bytes = true ∧ 0 < sz ∧ zero.length = sz then
          let s' := s.dead h
          some { t := upd s.t d (.row (hom d) 0 (n + m.toNat) sz ((s'.h (hom d)).ver + 1)), h := upd s'.h (hom d) (freshBlk s' (hom d) true true ((s.h h).cells.drop off ++ repl m.toNat zero)) }
        else none
    | some d, some (.sl f n cs), some (.int _ m) =>
        if f ≠ .plain ∧ cs.length = n * sz ∧ 0 ≤ m ∧ (0 < m ∨ n = 0) ∧ roomy (n + m.toNat) bytes = true ∧ 0 < sz ∧ zero.length = sz then
          some { t := upd s.t d (.row (hom d) 0 (n + m.toNat) sz ((s.h (hom d)).ver + 1)), h := upd s.h (hom d) (freshBlk s (hom d) true true (cs ++ repl m.toNat zero)) }
        else none
    | _, _, _ => none
  | .copy sz x y => match s.get x, s.get y with
    | some (.row h off n sz' ver), some v => match s.more sz v with
      | some (m, ds) =>
        if s.ok h ver = true ∧ (s.h h).rw = true ∧ sz' = sz ∧ off + n * sz ≤ (s.h h).cells.length then
          let k := min m n
          some (St.put { s with h := upd s.h h { s.h h with cells := (s.h h).cells.take off ++ ds.take (k * sz) ++ (s.h h).cells.drop (off + k * sz) } } d (.int .i64 k))
        else none
      | none => none
    | _, _ => none
  | _ => none

def isAct (s : St) : MOp → Bool
  | .store .. | .copy .. | .appZ .. => true
  | .app _ _ x _ => match s.get x with
    | some (.row ..) => true
    | _ => false
  | _ => false

/-! ### running: 'R f args r': a call of f on these answers r -/
/-- what is known of calls: C: on pure arguments; I: in place, on memory as it stands -/
structure Cs where
  C : FuncId → List IV → List IV → Prop
  I : FuncId → (Nat → Blk) → List IV → (List IV → (Nat → Blk) → Prop) → Prop

def St.vals (s : St) : List Opd → Option (List IV)
  | [] => some []
  | x :: xs => match s.get x, s.vals xs with
    | some v, some vs => some (v :: vs)
    | _, _ => none

section
variable (R : Cs)

/-- a function value's code and what it has captured -/
def St.callee (s : St) (x : Opd) : Option (FuncId × List IV) := match s.get x with
  | some (.clo f caps) => match s.snapPL caps with | some caps => some (f, caps) | none => none
  | _ => none

def runOp (s : St) (d : Option Nat) (o : MOp) (K : St → Prop) : Prop :=
  match o with
  | .call f args => match d with
    | some d => ∃ as r, s.snaps args = some as ∧ R.C f as r ∧ (s.stabs args = true ∨ r.all IV.scalR = true) ∧ K (s.imp d r)
    | none => False
  | .callp f args => match d with
    | some d => ∃ as r, s.snaps args = some as ∧ R.C f as r ∧ (s.stabs args = true ∨ r.all IV.scalR = true) ∧ K { s with t := upd s.t d (asRes (plainL r)) }
    | none => False
  | .calln f args => ∃ vals Q, s.vals args = some vals ∧ R.I f s.h vals Q ∧ ∀ r h', Q r h' → K (St.put { s with h := h' } d (asRes r))
  | .calli x args => match d with
    | some d => ∃ g as r, s.callee x = some g ∧ s.snaps args = some as ∧ R.C g.1 (as ++ g.2) r ∧ r.all IV.scalR = true ∧ K { s with t := upd s.t d (asRes (plainL r)) }
    | none => False
  | o => if isAct s o then (match act s d o with | some s' => K s' | none => False)
    else match d with
      | some d => (match neu s d o with | some e => K (s.eff d e) | none => False)
      | none => False

def stepM (s : St) (i : MI) (K : St → Prop) : Prop :=
  match i with
  | .frz t => K (s.frz (s.t t))
  | .kill ts => K (s.kill ts)
  | .op d o g => match g with
    | none => runOp R s d o K
    | some (t, b) => match s.t t with
      | .bool x => if x = b then runOp R s d o K else K (s.put d (.tup []))
      | .tup [] => K (s.put d (.tup []))
      | _ => False

def runL (s : St) (l : List MI) (K : St → Prop) : Prop :=
  match l with
  | [] => K s
  | i :: l => stepM R s i (fun s => runL s l K)

/-- operations whose order is open: what they read are slots, and homes that stood before (all of theirs are hidden); what they make is laid aside in g -/
def runP (s : St) (g : Nat → Blk) (l : List MI) (K : St → Prop) : Prop :=
  match l with
  | [] => K { s with h := g }
  | .op (some d) o gd :: l =>
    let run : Prop := match o with
      | .call f args => ∃ as r, s.snaps args = some as ∧ R.C f as r ∧ (s.stabs args = true ∨ r.all IV.scalR = true) ∧
          runP { s with t := upd s.t d (asRes (impV (hom d) ((s.h (hom d)).ver + 1) r).1) } (match (impV (hom d) ((s.h (hom d)).ver + 1) r).2 with | some cs => upd g (hom d) (freshBlk s (hom d) true true cs) | none => g) l K
      | .callp f args => ∃ as r, s.snaps args = some as ∧ R.C f as r ∧ (s.stabs args = true ∨ r.all IV.scalR = true) ∧ runP { s with t := upd s.t d (asRes (plainL r)) } g l K
      | o => match neu s d o with
        | some e => runP { s with t := upd s.t d e.v } (match e.b with | some b => upd g (hom d) b | none => g) l K
        | none => False
    match gd with
    | none => run
    | some (t, b) => match s.t t with
      | .bool x => if x = b then run else runP { s with t := upd s.t d (.tup []) } g l K
      | .tup [] => runP { s with t := upd s.t d (.tup []) } g l K
      | _ => False
  | _ :: _ => False

def dsts : List MI → List Nat
  | [] => []
  | .op (some d) _ _ :: l => d :: dsts l
  | _ :: l => dsts l
def hideH (h : Nat → Blk) (ds : List Nat) : Nat → Blk := fun x => if x ∈ ds then { h x with live := false } else h x

/-- the homes of F alone -/
def keepH (h : Nat → Blk) (F : List Nat) : Nat → Blk := fun x => if x ∈ F then h x else { h x with live := false }

/-! ### what a function hands back -/
def St.exp (s : St) : IV → Option IV
  | .row h off n sz ver => if s.ok h ver = true ∧ (s.h h).rw = true ∧ (s.h h).isRow = true then some (.own n sz (s.seg h off (n * sz))) else s.nest1 (.row h off n sz ver)
  | .sl .lit n cs => some (.sl .full n cs)
  | .sl f n cs => some (.sl f n cs)
  | .agg cs => if (cs.all IV.scal) = true then some (.agg cs) else match s.nestL cs with | some cs => some (.agg cs) | none => none
  | v => s.nest1 v
def St.res (s : St) : MRes → Option IV
  | .tmp t => match s.get (.tmp t) with | some v => s.exp v | none => none
  | .cell t ag n => match s.get (.tmp t) with
    | some (.ptr h off ver) => if s.ok h ver = true ∧ off + n ≤ (s.h h).cells.length then (match asV ag (s.seg h off n) with | some v => s.exp v | none => none) else none
    | _ => none
def St.ress (s : St) : List MRes → Option (List IV)
  | [] => some []
  | x :: xs => match s.res x, s.ress xs with
    | some v, some vs => some (v :: vs)
    | _, _ => none
def isOwn : IV → Bool
  | .own .. => true
  | _ => false

def LoopN (F : (Ex → St → Prop) → St → Prop) : Nat → (Ex → St → Prop) → St → Prop
  | 0, _, _ => False
  | n + 1, Q, s => F (fun e s' => match e with | .normal => LoopN F n Q s' | e => Q e s') s

def Wp : MCode → (Ex → St → Prop) → St → Prop
  | .skip, Q, s => Q .normal s
  | .reg l, Q, s => runL R s l (fun s => Q .normal s)
  | .drw pre suf, Q, s => runP R { s with h := hideH s.h ((dsts pre).map hom) } (hideH s.h ((dsts pre).map hom)) pre (fun s => runL R s suf (fun s => Q .normal s))
  | .drc pa c pb suf, Q, s => match c with
    | .op (some d) (.calln f args) none => runP R { s with h := hideH s.h ((dsts pa).map hom) } (hideH s.h ((dsts pa).map hom)) pa (fun s1 => ∃ F vals C, s1.vals args = some vals ∧ R.I f s1.h vals C ∧
        (∀ r h', C r h' → (∀ y ∈ F, h' y = s.h y) ∧ ∀ x ∈ dsts pb, (h' (hom x)).ver = (s.h (hom x)).ver) ∧ (∀ y ∈ F, y ∉ (dsts pa).map hom) ∧
        runP R ⟨s.t, keepH s.h F⟩ (keepH s.h F) pb (fun sB => ∀ r h', C r h' → runL R ⟨fun x => if x ∈ dsts pb then sB.t x else upd s1.t d (asRes r) x, h'⟩ suf (fun s => Q .normal s)))
    | _ => False
  | .seq a b, Q, s => Wp a (fun e s => match e with | .normal => Wp b Q s | e => Q e s) s
  | .cond c a b, Q, s => match s.get c with
    | some (.bool t) => if t then Wp a Q s else Wp b Q s
    | some .anyB => Wp a Q s ∧ Wp b Q s
    | _ => False
  | .blk id a, Q, s => Wp a (fun e s => match e with | .exit j => if j = id then Q .normal s else Q (.exit j) s | e => Q e s) s
  | .loop a, Q, s => ∃ n, LoopN (Wp a) n Q s
  | .exit id, Q, s => Q (.exit id) s
  | .ret, Q, s => Q .ret s
end
end Go.Proofs.YtmblapgoimegkaaDoor
