/- The ideal machine: values are lists; what a function makes lies in 'homes', one a temporary. -/
import Derived.Orders
import Derived.Below
import Derived.KernelRfl
import Derived.DeepKeys
import Derived.Laws.Append
import Derived.Laws.AppendOwn
import Derived.Laws.IdiomCopy
namespace Go.Proofs.YtilbipknodpmmaaDoor
open Go.RowKit

inductive Fl where
  | plain | full | lit
  deriving DecidableEq

inductive IV where
  | int (k : IntKind) (n : Int)
  | bool (b : Bool)
  | str (l : List UInt8)
  | nilp
  | clo (f : FuncId) (caps : List IV)
  | sl (f : Fl) (n : Nat) (cells : List IV)
  | row (h off n sz ver : Nat)
  | ptr (h off ver : Nat)
  | addr (cells : List IV)
  | agg (cells : List IV)
  | tup (vs : List IV)
  | own (n sz : Nat) (cells : List IV)
  | lits (n sz : Nat) (cells : List IV)
  | anyB
  | undef

namespace IV
def one : IV → Bool
  | .sl .lit _ _ => false
  | .int _ _ | .bool _ | .str _ | .nilp | .clo _ _ | .sl _ _ _ | .row .. | .ptr .. => true
  | _ => false
def nlit : IV → Bool
  | .sl .lit _ _ => false
  | .lits _ _ _ => false
  | _ => true
def isU : IV → Bool
  | .undef => true
  | _ => false
def scal : IV → Bool
  | .int _ _ | .bool _ | .str _ | .nilp => true
  | _ => false
mutual
def pur : IV → Bool
  | .int _ _ | .bool _ | .str _ | .nilp => true
  | .clo _ cs => purL cs
  | .sl _ _ cs => purL cs
  | .agg cs => purL cs
  | .tup vs => purL vs
  | .addr cs => purL cs
  | .anyB => true
  | _ => false
def purL : List IV → Bool
  | [] => true
  | v :: vs => pur v && purL vs
end
def boxable : IV → Bool
  | .agg _ => true
  | .sl .lit _ _ => true
  | v => v.one
def cells : IV → List IV
  | .agg cs => cs
  | .sl .lit n cs => [.sl .full n cs]
  | v => [v]
end IV

structure Blk where
  ver : Nat
  live : Bool
  rw : Bool
  isRow : Bool
  cells : List IV

structure St where
  t : Nat → IV
  h : Nat → Blk

def upd {α : Type} (f : Nat → α) (d : Nat) (v : α) : Nat → α := fun x => if x = d then v else f x

inductive Opd where
  | tmp (t : Nat)
  | c (v : IV)

inductive CK where
  | b | i | s
  deriving DecidableEq
def CK.fit : CK → IV → Bool
  | .b, .bool _ => true
  | .i, .int _ _ => true
  | .s, .str _ => true
  | _, _ => false
def fitR : List (Nat × CK) → List IV → Bool
  | [], cs => cs.isEmpty
  | (n, k) :: r, cs => decide (n ≤ cs.length) && (cs.take n).all k.fit && fitR r (cs.drop n)
def expand : List (Nat × CK) → List CK
  | [] => []
  | (n, k) :: r => List.replicate n k ++ expand r

structure Eff where
  v : IV
  b : Option Blk

inductive MOp where
  | mov (x : Opd)
  | pick (c a b : Opd)
  | alloc (zero : List IV)
  | box (x : Opd)
  | build (zero : List IV) (parts : List (Nat × Nat × Opd))
  | bsl (n sz : Nat) (zero : List IV) (parts : List (Nat × Nat × Opd))
  | bslR (n sz : Nat) (zero : List IV) (parts : List (Nat × Nat × Opd))
  | load (ag : Bool) (n : Nat) (a : Opd)
  | store (n : Nat) (a v : Opd)
  | chk (x : Opd)
  | bin (op : BinOp) (x y : Opd)
  | binB (op : BinOp) (x y : Opd)
  | eqv (neg : Bool) (ks : List (Nat × CK)) (x y : Opd)
  | un (op : UnOp) (x : Opd)
  | toInt (k : IntKind) (x : Opd)
  | toStr (x : Opd)
  | mark (x : Opd)
  | arrOf (n sz : Nat) (x : Opd)
  | mk (sz bytes : Nat) (zero : List IV) (l c : Opd)
  | slStr (x : Opd) (lo hi : Option Opd)
  | slSl (sz : Nat) (x : Opd) (lo hi mx : Option Opd)
  | slArr (n sz : Nat) (x : Opd) (lo hi mx : Option Opd)
  | slArrF (n sz : Nat) (x : Opd)
  | fa (off : Nat) (x : Opd)
  | fld (ag : Bool) (off n : Nat) (x : Opd)
  | ixArr (n sz : Nat) (x i : Opd)
  | ixSl (sz : Nat) (x i : Opd)
  | idx (n sz : Nat) (ag : Bool) (x i : Opd)
  | idxStr (x i : Opd)
  | ext (x : Opd) (i : Nat)
  | call (f : FuncId) (args : List Opd)
  | callp (f : FuncId) (args : List Opd)
  | calln (f : FuncId) (args : List Opd)
  | calli (x : Opd) (args : List Opd)
  | mkf (f : FuncId) (caps : List Opd)
  | bad
  | lenC (n : Nat)
  | len (x : Opd)
  | lenS (x : Opd)
  | nilS (neg : Bool) (x : Opd)
  | nilP (neg : Bool) (x : Opd)
  | cap (x : Opd)
  | movS (x : Opd)
  | app (sz bytes : Nat) (s x : Opd)
  | appP (sz bytes : Nat) (s x : Opd)
  | appZ (sz bytes : Nat) (zero : List IV) (s x : Opd)
  | copy (sz : Nat) (d s : Opd)
  | mnx (isMin : Bool) (x y : Opd)

inductive MI where
  | op (d : Option Nat) (o : MOp) (g : Option (Nat × Bool))
  | frz (t : Nat)
  | kill (ts : List Nat)

inductive Ex where
  | normal
  | exit (id : Nat)
  | ret
  deriving DecidableEq

inductive OT where
  | done
  | stop
  | take (i : Nat) (m : MI) (next : OT)
  | alt (i : Nat) (m : MI) (next other : OT)

inductive MCode where
  | skip
  | dra (t : OT)
  | drx (l : List (MI × List Nat))
  | reg (l : List MI)
  | drw (pre : List MI) (suf : List MI)
  | drc (pa : List MI) (c : MI) (pb : List MI) (suf : List MI)
  | seq (a b : MCode)
  | cond (c : Opd) (a b : MCode)
  | blk (id : Nat) (a : MCode)
  | loop (a : MCode)
  | exit (id : Nat)
  | ret

inductive MRes where
  | tmp (t : Nat)
  | cell (t : Nat) (ag : Bool) (n : Nat)

structure MFunc where
  np : Nat
  nt : Nat
  res : List MRes
  body : MCode

/-! ### reading -/
def St.get (s : St) : Opd → Option IV
  | .tmp t => if (s.t t).isU then none else some (s.t t)
  | .c v => some v

def St.ok (s : St) (h ver : Nat) : Bool := (s.h h).live && (s.h h).ver == ver

def St.seg (s : St) (h off m : Nat) : List IV := ((s.h h).cells.drop off).take m

def St.elems (s : St) (sz : Nat) : IV → Option (Nat × List IV)
  | .sl _ n cs => if cs.length = n * sz then some (n, cs) else none
  | .row h off n sz' ver => if s.ok h ver = true ∧ sz' = sz ∧ ((s.h h).isRow = true ∨ IV.purL (s.seg h off (n * sz)) = true) then some (n, s.seg h off (n * sz)) else none
  | _ => none

def bytesV (l : List UInt8) : List IV := l.map fun b => .int .u8 b.toNat

def St.nest1 (s : St) : IV → Option IV
  | .row h off n sz ver => if s.ok h ver = true ∧ (s.h h).rw = false ∧ ((s.h h).isRow = true ∨ IV.purL (s.seg h off (n * sz)) = true) then some (.sl .plain n (s.seg h off (n * sz))) else none
  | .sl _ n cs => some (.sl .plain n cs)
  | .int k n => some (.int k n)
  | .bool b => some (.bool b)
  | .str l => some (.str l)
  | .nilp => some .nilp
  | _ => none
def St.nestL (s : St) : List IV → Option (List IV)
  | [] => some []
  | c :: cs => match s.nest1 c, s.nestL cs with
    | some c, some cs => some (c :: cs)
    | _, _ => none
def St.nest (s : St) (v : IV) : Option (List IV) := if (v.cells.all IV.scal) = true then some v.cells else s.nestL v.cells

def St.snapB (s : St) : IV → Option IV
  | .row h off n sz ver => if s.ok h ver = true ∧ ((s.h h).isRow = true ∨ IV.purL (s.seg h off (n * sz)) = true) then some (.sl .plain n (s.seg h off (n * sz))) else none
  | .sl .lit n cs => some (.sl .full n cs)
  | .sl f n cs => some (.sl f n cs)
  | .int k n => some (.int k n)
  | .bool b => some (.bool b)
  | .str l => some (.str l)
  | .nilp => some .nilp
  | _ => none
def St.snapP (s : St) : IV → Option IV
  | .ptr h off ver => if s.ok h ver = true ∧ IV.purL ((s.h h).cells.drop off) = true then some (.addr ((s.h h).cells.drop off)) else none
  | .addr cs => some (.addr cs)
  | v => s.snapB v
def St.snapPL (s : St) : List IV → Option (List IV)
  | [] => some []
  | c :: cs => match s.snapP c, s.snapPL cs with
    | some c, some cs => some (c :: cs)
    | _, _ => none
def St.snap1 (s : St) : IV → Option IV
  | .clo f caps => match s.snapPL caps with | some caps => some (.clo f caps) | none => none
  | v => s.snapB v
def St.snapL (s : St) : List IV → Option (List IV)
  | [] => some []
  | c :: cs => match s.snapB c, s.snapL cs with
    | some c, some cs => some (c :: cs)
    | _, _ => none
def St.snap (s : St) : IV → Option IV
  | .agg cs => if (cs.all IV.scal) = true then some (.agg cs) else match s.snapL cs with | some cs => some (.agg cs) | none => none
  | .lits n _ cs => match s.snapL cs with | some cs => some (.sl .full n cs) | none => none
  | v => s.snap1 v
def St.snaps (s : St) : List Opd → Option (List IV)
  | [] => some []
  | x :: xs => match s.get x with
    | some v => match s.snap v, s.snaps xs with
      | some v, some vs => some (v :: vs)
      | _, _ => none
    | none => none

def St.stab (s : St) : IV → Bool
  | .row h _ _ _ _ => !(s.h h).rw
  | .agg cs => cs.all fun c => match c with
    | .row h _ _ _ _ => !(s.h h).rw
    | .ptr .. | .clo .. => false
    | _ => true
  | .ptr .. | .clo .. | .lits .. => false
  | _ => true
def St.stabs (s : St) : List Opd → Bool
  | [] => true
  | x :: xs => (match s.get x with | some v => s.stab v | none => false) && s.stabs xs
def IV.scalR : IV → Bool
  | .own _ _ cs => cs.all IV.scal
  | .agg cs => cs.all IV.scal
  | .sl _ _ cs => cs.isEmpty
  | v => v.scal

/-! ### what operations reckon -/
def bitsI (op : BinOp) (k : IntKind) (x y : Int) : Option Int :=
  let a := BitVec.ofInt k.bits x
  let b := BitVec.ofInt k.bits y
  match op with
  | .and => some (k.wrap (a &&& b).toNat)
  | .or => some (k.wrap (a ||| b).toNat)
  | .xor => some (k.wrap (a ^^^ b).toNat)
  | .andNot => some (k.wrap (a &&& ~~~b).toNat)
  | _ => none

def binI (op : BinOp) (k : IntKind) (x y : Int) : Option IV :=
  match op with
  | .add => some (.int k (k.wrap (x + y)))
  | .sub => some (.int k (k.wrap (x - y)))
  | .mul => some (.int k (k.wrap (x * y)))
  | .quo => if y = 0 then none else some (.int k (k.wrap (x.tdiv y)))
  | .rem => if y = 0 then none else some (.int k (x.tmod y))
  | .eql => some (.bool (decide (x = y)))
  | .neq => some (.bool (!decide (x = y)))
  | .lss => some (.bool (decide (x < y)))
  | .leq => some (.bool (decide (x ≤ y)))
  | .gtr => some (.bool (decide (y < x)))
  | .geq => some (.bool (decide (y ≤ x)))
  | .and | .or | .xor | .andNot => match bitsI op k x y with | some z => some (.int k z) | none => none
  | _ => none

def shI (op : BinOp) (k : IntKind) (x y : Int) : Option IV :=
  if y < 0 then none else
  match op with
  | .shl => some (.int k (k.wrap (x * 2 ^ (min y.toNat k.bits))))
  | .shr => some (.int k (x.fdiv (2 ^ (min y.toNat k.bits))))
  | _ => none

def isShift : BinOp → Bool
  | .shl | .shr => true
  | _ => false

def binV (op : BinOp) : IV → IV → Option IV
  | .int k x, .int k' y => if isShift op = true then shI op k x y else if k = k' then binI op k x y else none
  | .str x, .str y => match op with
    | .eql => some (.bool (decide (x = y)))
    | .neq => some (.bool (!decide (x = y)))
    | .add => if x.length + y.length ≤ 2 ^ 62 then some (.str (x ++ y)) else none
    | _ => none
  | _, _ => none

def unV (op : UnOp) : IV → Option IV
  | .int k n => match op with
    | .neg => some (.int k (k.wrap (0 - n)))
    | .xor => match bitsI .xor k (if k.signed then -1 else k.max) n with | some z => some (.int k z) | none => none
    | _ => none
  | .bool b => match op with
    | .not => some (.bool (!b))
    | _ => none
  | _ => none

def eqC : IV → IV → Option Bool
  | .int k x, .int k' y => if k = k' then some (decide (x = y)) else none
  | .bool x, .bool y => some (x == y)
  | .str x, .str y => some (decide (x = y))
  | _, _ => none
def eqL : List IV → List IV → Option Bool
  | [], [] => some true
  | c :: cs, d :: ds => match eqC c d, eqL cs ds with
    | some a, some b => some (a && b)
    | _, _ => none
  | _, _ => none

def placed (acc : List IV) : List (Nat × List IV) → Option (List IV)
  | [] => some acc
  | (off, p) :: rest => if off + p.length ≤ acc.length then placed (acc.take off ++ p ++ acc.drop (off + p.length)) rest else none

def St.parts (s : St) : List (Nat × Nat × Opd) → Option (List (Nat × List IV))
  | [] => some []
  | (off, n, x) :: rest => match s.get x, s.parts rest with
    | some v, some ps => if v.cells.length = n ∧ v.boxable = true then some ((off, v.cells) :: ps) else none
    | _, _ => none
def St.partsN (s : St) : List (Nat × Nat × Opd) → Option (List (Nat × List IV))
  | [] => some []
  | (off, n, x) :: rest => match s.get x, s.partsN rest with
    | some v, some ps => match s.nest v with
      | some cs => if cs.length = n then some ((off, cs) :: ps) else none
      | none => none
    | _, _ => none

def bnd (s : St) : Option Opd → Nat → Option Nat
  | none, dflt => some dflt
  | some x, _ => match s.get x with
    | some (.int _ i) => if 0 ≤ i then some i.toNat else none
    | _ => none

def bnds (s : St) (n : Nat) (lo hi mx : Option Opd) : Option (Nat × Nat × Bool) :=
  match bnd s lo 0, bnd s hi n, bnd s mx n with
  | some l, some h, some m => if l ≤ h ∧ h ≤ m ∧ m ≤ n ∧ (mx.isSome = true → hi.isSome = true) then some (l, h, mx.isSome && (h == m)) else none
  | _, _, _ => none

def freshBlk (s : St) (d : Nat) (rw isRow : Bool) (cells : List IV) : Blk := ⟨(s.h d).ver + 1, true, rw, isRow, cells⟩

def asV (ag : Bool) (cs : List IV) : Option IV :=
  if ag then some (.agg cs) else match cs with
    | [v] => some v
    | _ => none

def idxI : Option IV → Option Int
  | some (.int _ i) => some i
  | _ => none

def roomy (n bytes : Nat) : Bool := decide (n * bytes ≤ 2 ^ 44) && decide (n ≤ 2 ^ 44)

def St.more (s : St) (sz : Nat) : IV → Option (Nat × List IV)
  | .str l => if sz = 1 then some (l.length, bytesV l) else none
  | v => s.elems sz v

def repl (n : Nat) (zero : List IV) : List IV := (List.replicate n zero).flatten

class Off where
  K : Nat
variable [Off]
def hom (d : Nat) : Nat := Off.K + d
theorem hom_inj {a b : Nat} : hom a = hom b ↔ a = b := by unfold hom; omega

def neu (s : St) (d : Nat) : MOp → Option Eff
  | .mov x => match s.get x with | some v => some ⟨v, none⟩ | none => none
  | .pick c a b => match s.get c with
    | some (.bool t) => match (if t then s.get a else s.get b) with | some v => some ⟨v, none⟩ | none => none
    | _ => none
  | .alloc zero => some ⟨.ptr (hom d) 0 ((s.h (hom d)).ver + 1), some (freshBlk s (hom d) true false zero)⟩
  | .box x => match s.get x with | some v => if v.boxable = true then some ⟨.ptr (hom d) 0 ((s.h (hom d)).ver + 1), some (freshBlk s (hom d) true false v.cells)⟩ else none | none => none
  | .build zero ps => match s.parts ps with
    | some ps => match placed zero ps with | some cs => some ⟨.agg cs, none⟩ | none => none
    | none => none
  | .bsl n sz zero ps => match s.partsN ps with
    | some ps => match placed (repl n zero) ps with | some cs => if zero.length = sz then some ⟨.sl .lit n cs, none⟩ else none | none => none
    | none => none
  | .bslR n sz zero ps => match s.parts ps with
    | some ps => match placed (repl n zero) ps with | some cs => if zero.length = sz then some ⟨.lits n sz cs, none⟩ else none | none => none
    | none => none
  | .load ag n a => match s.get a with
    | some (.ptr h off ver) => if s.ok h ver = true ∧ off + n ≤ (s.h h).cells.length then (match asV ag (s.seg h off n) with | some v => some ⟨v, none⟩ | none => none) else none
    | some (.addr cs) => if n ≤ cs.length then (match asV ag (cs.take n) with | some v => some ⟨v, none⟩ | none => none) else none
    | _ => none
  | .chk x => match s.get x with
    | some (.ptr h off ver) => if s.ok h ver = true then some ⟨.ptr h off ver, none⟩ else none
    | some (.addr cs) => some ⟨.addr cs, none⟩
    | _ => none
  | .bin op x y => match s.get x, s.get y with
    | some a, some b => match binV op a b with | some v => some ⟨v, none⟩ | none => none
    | _, _ => none
  | .binB op x y => match s.get x, s.get y with
    | some (.bool a), some (.bool b) => match op with
      | .eql => some ⟨.bool (a == b), none⟩
      | .neq => some ⟨.bool (!(a == b)), none⟩
      | _ => none
    | _, _ => none
  | .eqv neg ks x y => match s.get x, s.get y with
    | some (.agg a), some (.agg b) => if fitR ks a = true then (match eqL a b with | some r => some ⟨.bool (if neg then !r else r), none⟩ | none => none) else none
    | _, _ => none
  | .un op x => match s.get x with
    | some a => match unV op a with | some v => some ⟨v, none⟩ | none => none
    | none => none
  | .toInt k x => match s.get x with
    | some (.int _ n) => some ⟨.int k (k.wrap n), none⟩
    | _ => none
  | .toStr x => match s.get x with
    | some v => match s.elems 1 v with
      | some (_, cs) => match cs.mapM (fun c => match c with | IV.int .u8 n => some (UInt8.ofNat n.toNat) | _ => none) with | some l => some ⟨.str l, none⟩ | none => none
      | none => none
    | none => none
  | .mark x => match s.get x with
    | some (.sl .lit n cs) => if 0 < cs.length then some ⟨.sl .lit n cs, none⟩ else none
    | _ => none
  | .arrOf n sz x => match s.get x with
    | some (.row h off m sz' ver) => if s.ok h ver = true ∧ n ≤ m ∧ 0 < n ∧ 0 < sz ∧ sz' = sz then some ⟨.ptr h off ver, none⟩ else none
    | some (.sl _ m cs) => if n ≤ m ∧ 0 < n ∧ 0 < sz ∧ cs.length = m * sz then some ⟨.addr cs, none⟩ else none
    | _ => none
  | .mk sz bytes zero l c => match s.get l, s.get c with
    | some (.int _ l), some (.int _ c) => if 0 ≤ l ∧ l = c ∧ roomy l.toNat bytes = true ∧ zero.length = sz then some ⟨.row (hom d) 0 l.toNat sz ((s.h (hom d)).ver + 1), some (freshBlk s (hom d) true true (repl l.toNat zero))⟩ else none
    | _, _ => none
  | .slStr x lo hi => match s.get x with
    | some (.str l) => match bnds s l.length lo hi none with | some (a, b, _) => some ⟨.str ((l.take b).drop a), none⟩ | none => none
    | _ => none
  | .slSl sz x lo hi mx => match s.get x with
    | some (.row h off n sz' ver) => match bnds s n lo hi mx with
      | some (a, b, _) => if sz' = sz then some ⟨.row h (off + a * sz) (b - a) sz ver, none⟩ else none
      | none => none
    | some (.sl f n cs) => match bnds s n lo hi mx with
      | some (a, b, e) => if cs.length = n * sz then some ⟨.sl (if e then .full else if b = n ∧ f ≠ .plain then .full else .plain) (b - a) ((cs.take (b * sz)).drop (a * sz)), none⟩ else none
      | none => none
    | _ => none
  | .slArr n sz x lo hi mx => match s.get x with
    | some (.ptr h off ver) => match bnds s n lo hi mx with
      | some (a, b, _) => if s.ok h ver = true ∧ off + n * sz ≤ (s.h h).cells.length then some ⟨.row h (off + a * sz) (b - a) sz ver, none⟩ else none
      | none => none
    | some (.addr cs) => match bnds s n lo hi mx with
      | some (a, b, _) => if n * sz ≤ cs.length then some ⟨.sl .plain (b - a) ((cs.take (b * sz)).drop (a * sz)), none⟩ else none
      | none => none
    | _ => none
  | .slArrF n sz x => match s.get x with
    | some (.ptr h off ver) => if s.ok h ver = true ∧ (s.h h).rw = false ∧ off + n * sz ≤ (s.h h).cells.length ∧ IV.purL (s.seg h off (n * sz)) = true then some ⟨.sl .full n (s.seg h off (n * sz)), none⟩ else none
    | _ => none
  | .fa off x => match s.get x with
    | some (.ptr h o ver) => if s.ok h ver = true then some ⟨.ptr h (o + off) ver, none⟩ else none
    | some (.addr cs) => some ⟨.addr (cs.drop off), none⟩
    | _ => none
  | .fld ag off n x => match s.get x with
    | some (.agg cs) => if off + n ≤ cs.length then (match asV ag ((cs.drop off).take n) with | some v => some ⟨v, none⟩ | none => none) else none
    | _ => none
  | .ixArr n sz x i => match s.get x, idxI (s.get i) with
    | some (.ptr h o ver), some i => if s.ok h ver = true ∧ 0 ≤ i ∧ i < n then some ⟨.ptr h (o + i.toNat * sz) ver, none⟩ else none
    | some (.addr cs), some i => if 0 ≤ i ∧ i < n then some ⟨.addr (cs.drop (i.toNat * sz)), none⟩ else none
    | _, _ => none
  | .ixSl sz x i => match s.get x, idxI (s.get i) with
    | some (.row h o n sz' ver), some i => if s.ok h ver = true ∧ 0 ≤ i ∧ i < n ∧ sz' = sz ∧ 0 < sz then some ⟨.ptr h (o + i.toNat * sz) ver, none⟩ else none
    | some (.sl _ n cs), some i => if 0 ≤ i ∧ i < n ∧ cs.length = n * sz ∧ 0 < sz then some ⟨.addr (cs.drop (i.toNat * sz)), none⟩ else none
    | _, _ => none
  | .idx n sz ag x i => match s.get x, idxI (s.get i) with
    | some (.agg cs), some i => if 0 ≤ i ∧ i < n ∧ n * sz ≤ cs.length then (match asV ag ((cs.drop (i.toNat * sz)).take sz) with | some v => some ⟨v, none⟩ | none => none) else none
    | _, _ => none
  | .idxStr x i => match s.get x, idxI (s.get i) with
    | some (.str l), some i => if 0 ≤ i ∧ i < l.length then some ⟨.int .u8 ((l.getD i.toNat 0).toNat), none⟩ else none
    | _, _ => none
  | .ext x i => match s.get x with
    | some (.tup vs) => match vs[i]? with
      | some v => if v.isU then none else some ⟨v, none⟩
      | none => none
    | _ => none
  | .mkf f caps => match caps.mapM s.get with | some vs => if (vs.all IV.nlit) = true then some ⟨.clo f vs, none⟩ else none | none => none
  | .lenC n => some ⟨.int .i64 n, none⟩
  | .len x => match s.get x with
    | some (.sl _ n _) => some ⟨.int .i64 n, none⟩
    | some (.row h _ n _ ver) => if s.ok h ver = true then some ⟨.int .i64 n, none⟩ else none
    | _ => none
  | .lenS x => match s.get x with
    | some (.str l) => some ⟨.int .i64 l.length, none⟩
    | _ => none
  | .nilS neg x => match s.get x with
    | some (.sl _ _ cs) => some ⟨if 0 < cs.length then .bool neg else .anyB, none⟩
    | some (.row h _ n _ ver) => if s.ok h ver = true then some ⟨if 0 < n then .bool neg else .anyB, none⟩ else none
    | _ => none
  | .nilP neg x => match s.get x with
    | some .nilp => some ⟨.bool (!neg), none⟩
    | some (.ptr h _ ver) => if s.ok h ver = true then some ⟨.bool neg, none⟩ else none
    | some (.addr _) => some ⟨.bool neg, none⟩
    | _ => none
  | .cap x => match s.get x with
    | some (.sl f n _) => if f ≠ .plain then some ⟨.int .i64 n, none⟩ else none
    | _ => none
  | .movS x => match s.get x with
    | some (.str l) => some ⟨.str l, none⟩
    | _ => none
  | .app sz bytes x y => match s.get x, s.get y with
    | some (.sl f n cs), some v => match s.more sz v with
      | some (m, ds) => if f ≠ .plain ∧ cs.length = n * sz ∧ (0 < m ∨ n = 0) ∧ roomy (n + m) bytes = true then some ⟨.row (hom d) 0 (n + m) sz ((s.h (hom d)).ver + 1), some (freshBlk s (hom d) true true (cs ++ ds))⟩ else none
      | none => none
    | _, _ => none
  | .appP sz bytes x y => match s.get x, s.get y with
    | some (.sl f n cs), some v => match s.more sz v with
      | some (m, ds) => if f ≠ .plain ∧ cs.length = n * sz ∧ roomy (n + m) bytes = true then some ⟨.sl .plain (n + m) (cs ++ ds), none⟩ else none
      | none => none
    | _, _ => none
  | .mnx isMin x y => match s.get x, s.get y with
    | some (.int k x), some (.int k' y) => if k = k' then some ⟨.int k (if isMin then (if y < x then y else x) else (if x < y then y else x)), none⟩ else none
    | _, _ => none
  | _ => none

/-! ### turning -/
def St.put (s : St) (d : Option Nat) (v : IV) : St := match d with | some d => { s with t := upd s.t d v } | none => s
def St.eff (s : St) (d : Nat) (e : Eff) : St := { t := upd s.t d e.v, h := match e.b with | some b => upd s.h (hom d) b | none => s.h }
def St.frzH (s : St) (h : Nat) : St := { s with h := upd s.h h { s.h h with rw := false } }
def frzL (s : St) : List IV → St
  | [] => s
  | .row h _ _ _ _ :: cs => frzL (s.frzH h) cs
  | .ptr h _ _ :: cs => frzL (s.frzH h) cs
  | _ :: cs => frzL s cs
def St.frz (s : St) (v : IV) : St := frzL s v.cells
def St.kill (s : St) (ts : List Nat) : St := { s with t := fun x => if x ∈ ts then .undef else s.t x }
def St.dead (s : St) (h : Nat) : St := { s with h := upd s.h h { s.h h with ver := (s.h h).ver + 1, live := false } }

def plainL : List IV → List IV
  | [] => []
  | .own n _ cs :: vs => .sl .plain n cs :: plainL vs
  | v :: vs => v :: plainL vs
def asRes : List IV → IV
  | [v] => v
  | vs => .tup vs

def impV (d ver : Nat) : List IV → List IV × Option (List IV)
  | [] => ([], none)
  | .own n sz cs :: vs => (.row d 0 n sz ver :: vs, some cs)
  | v :: vs => ((v :: (impV d ver vs).1), (impV d ver vs).2)
def St.imp (s : St) (d : Nat) (r : List IV) : St :=
  let p := impV (hom d) ((s.h (hom d)).ver + 1) r
  { t := upd s.t d (asRes p.1)
    h := match p.2 with | some cs => upd s.h (hom d) (freshBlk s (hom d) true true cs) | none => s.h }

def act (s : St) (d : Option Nat) : MOp → Option St
  | .store n a v => match s.get a, s.get v with
    | some (.ptr h off ver), some v =>
      if s.ok h ver = true ∧ (s.h h).rw = true ∧ off + n ≤ (s.h h).cells.length ∧ v.cells.length = n then
        (match (if (s.h h).isRow = true then s.nest v else if v.boxable = true then some v.cells else none) with
        | some cs => if cs.length = n ∧ ((s.h h).isRow = true → IV.purL cs = true) then some (St.put { s with h := upd s.h h { s.h h with cells := (s.h h).cells.take off ++ cs ++ (s.h h).cells.drop (off + n) } } d (.tup [])) else none
        | none => none)
      else none
    | _, _ => none
  | .app sz bytes x y => match d, s.get x, s.get y with
    | some d, some (.row h off n sz' ver), some v => match s.more sz v with
      | some (m, ds) =>
        if s.ok h ver = true ∧ (s.h h).rw = true ∧ (s.h h).isRow = true ∧ sz' = sz ∧ off + n * sz = (s.h h).cells.length ∧ roomy (n + m) bytes = true ∧ 0 < sz then
          let s' := s.dead h
          some { t := upd s.t d (.row (hom d) 0 (n + m) sz ((s'.h (hom d)).ver + 1)), h := upd s'.h (hom d) (freshBlk s' (hom d) true true ((s.h h).cells.drop off ++ ds)) }
        else none
      | none => none
    | _, _, _ => none
  | .appZ sz bytes zero x y => match d, s.get x, s.get y with
    | some d, some (.row h off n sz' ver), some (.int _ m) =>
        if s.ok h ver = true ∧ (s.h h).rw = true ∧ (s.h h).isRow = true ∧ sz' = sz ∧ off + n * sz = (s.h h).cells.length ∧ 0 ≤ m ∧ roomy (n + m.toNat) bytes = true ∧ 0 < sz ∧ zero.length = sz then
          let s' := s.dead h
          some { t := upd s.t d (.row (hom d) 0 (n + m.toNat) sz ((s'.h (hom d)).ver + 1)), h := upd s'.h (hom d) (freshBlk s' (hom d) true true ((s.h h).cells.drop off ++ repl m.toNat zero)) }
        else none
    | some d, some (.sl f n cs), some (.int _ m) =>
        if f ≠ .plain ∧ cs.length = n * sz ∧ 0 ≤ m ∧ (0 < m ∨ n = 0) ∧ roomy (n + m.toNat) bytes = true ∧ 0 < sz ∧ zero.length = sz then
          some { t := upd s.t d (.row (hom d) 0 (n + m.toNat) sz ((s.h (hom d)).ver + 1)), h := upd s.h (hom d) (freshBlk s (hom d) true true (cs ++ repl m.toNat zero)) }
        else none
    | _, _, _ => none
  | .copy sz x y => match s.get x, s.get y with
    | some (.row h off n sz' ver), some v => match s.more sz v with
      | some (m, ds) =>
        if s.ok h ver = true ∧ (s.h h).rw = true ∧ sz' = sz ∧ off + n * sz ≤ (s.h h).cells.length then
          let k := min m n
          some (St.put { s with h := upd s.h h { s.h h with cells := (s.h h).cells.take off ++ ds.take (k * sz) ++ (s.h h).cells.drop (off + k * sz) } } d (.int .i64 k))
        else none
      | none => none
    | _, _ => none
  | _ => none

def isAct (s : St) : MOp → Bool
  | .store .. | .copy .. | .appZ .. => true
  | .app _ _ x _ => match s.get x with
    | some (.row ..) => true
    | _ => false
  | _ => false

/-! ### running: 'R f args r': a call of f on these answers r -/
structure Cs where
  C : FuncId → List IV → List IV → Prop
  I : FuncId → (Nat → Blk) → List IV → (List IV → (Nat → Blk) → Prop) → Prop

def St.vals (s : St) : List Opd → Option (List IV)
  | [] => some []
  | x :: xs => match s.get x, s.vals xs with
    | some v, some vs => some (v :: vs)
    | _, _ => none

section
variable (R : Cs)

def St.callee (s : St) (x : Opd) : Option (FuncId × List IV) := match s.get x with
  | some (.clo f caps) => match s.snapPL caps with | some caps => some (f, caps) | none => none
  | _ => none

def runOp (s : St) (d : Option Nat) (o : MOp) (K : St → Prop) : Prop :=
  match o with
  | .call f args => match d with
    | some d => ∃ as r, s.snaps args = some as ∧ R.C f as r ∧ (s.stabs args = true ∨ r.all IV.scalR = true) ∧ K (s.imp d r)
    | none => False
  | .callp f args => match d with
    | some d => ∃ as r, s.snaps args = some as ∧ R.C f as r ∧ (s.stabs args = true ∨ r.all IV.scalR = true) ∧ K { s with t := upd s.t d (asRes (plainL r)) }
    | none => False
  | .calln f args => ∃ vals Q, s.vals args = some vals ∧ R.I f s.h vals Q ∧ ∀ r h', Q r h' → K (St.put { s with h := h' } d (asRes r))
  | .calli x args => match d with
    | some d => ∃ g as r, s.callee x = some g ∧ s.snaps args = some as ∧ R.C g.1 (as ++ g.2) r ∧ r.all IV.scalR = true ∧ K { s with t := upd s.t d (asRes (plainL r)) }
    | none => False
  | o => if isAct s o then (match act s d o with | some s' => K s' | none => False)
    else match d with
      | some d => (match neu s d o with | some e => K (s.eff d e) | none => False)
      | none => False

def stepM (s : St) (i : MI) (K : St → Prop) : Prop :=
  match i with
  | .frz t => K (s.frz (s.t t))
  | .kill ts => K (s.kill ts)
  | .op d o g => match g with
    | none => runOp R s d o K
    | some (t, b) => match s.t t with
      | .bool x => if x = b then runOp R s d o K else K (s.put d (.tup []))
      | .tup [] => K (s.put d (.tup []))
      | _ => False

def runL (s : St) (l : List MI) (K : St → Prop) : Prop :=
  match l with
  | [] => K s
  | i :: l => stepM R s i (fun s => runL s l K)

def runP (s : St) (g : Nat → Blk) (l : List MI) (K : St → Prop) : Prop :=
  match l with
  | [] => K { s with h := g }
  | .op (some d) o gd :: l =>
    let run : Prop := match o with
      | .call f args => ∃ as r, s.snaps args = some as ∧ R.C f as r ∧ (s.stabs args = true ∨ r.all IV.scalR = true) ∧
          runP { s with t := upd s.t d (asRes (impV (hom d) ((s.h (hom d)).ver + 1) r).1) } (match (impV (hom d) ((s.h (hom d)).ver + 1) r).2 with | some cs => upd g (hom d) (freshBlk s (hom d) true true cs) | none => g) l K
      | .callp f args => ∃ as r, s.snaps args = some as ∧ R.C f as r ∧ (s.stabs args = true ∨ r.all IV.scalR = true) ∧ runP { s with t := upd s.t d (asRes (plainL r)) } g l K
      | o => match neu s d o with
        | some e => runP { s with t := upd s.t d e.v } (match e.b with | some b => upd g (hom d) b | none => g) l K
        | none => False
    match gd with
    | none => run
    | some (t, b) => match s.t t with
      | .bool x => if x = b then run else runP { s with t := upd s.t d (.tup []) } g l K
      | .tup [] => runP { s with t := upd s.t d (.tup []) } g l K
      | _ => False
  | _ :: _ => False

def dsts : List MI → List Nat
  | [] => []
  | .op (some d) _ _ :: l => d :: dsts l
  | _ :: l => dsts l
def hideH (h : Nat → Blk) (ds : List Nat) : Nat → Blk := fun x => if x ∈ ds then { h x with live := false } else h x

def keepH (h : Nat → Blk) (F : List Nat) : Nat → Blk := fun x => if x ∈ F then h x else { h x with live := false }

/-! ### what a function hands back -/
def St.exp (s : St) : IV → Option IV
  | .row h off n sz ver => if s.ok h ver = true ∧ (s.h h).rw = true ∧ (s.h h).isRow = true then some (.own n sz (s.seg h off (n * sz))) else s.nest1 (.row h off n sz ver)
  | .sl .lit n cs => some (.sl .full n cs)
  | .sl f n cs => some (.sl f n cs)
  | .agg cs => if (cs.all IV.scal) = true then some (.agg cs) else match s.nestL cs with | some cs => some (.agg cs) | none => none
  | v => s.nest1 v
def St.res (s : St) : MRes → Option IV
  | .tmp t => match s.get (.tmp t) with | some v => s.exp v | none => none
  | .cell t ag n => match s.get (.tmp t) with
    | some (.ptr h off ver) => if s.ok h ver = true ∧ off + n ≤ (s.h h).cells.length then (match asV ag (s.seg h off n) with | some v => s.exp v | none => none) else none
    | _ => none
def St.ress (s : St) : List MRes → Option (List IV)
  | [] => some []
  | x :: xs => match s.res x, s.ress xs with
    | some v, some vs => some (v :: vs)
    | _, _ => none
def isOwn : IV → Bool
  | .own .. => true
  | _ => false

def runT (R : Cs) (t : OT) (s : St) (K : St → Prop) : Prop := match t with
  | .done => K s
  | .stop => True
  | .take _ m n => stepM R s m (fun s => runT R n s K)
  | .alt _ m n o => stepM R s m (fun s => runT R n s K) ∧ runT R o s K

def updL (L : Nat → Bool) (i : Nat) : Nat → Bool := fun j => if j = i then true else L j
def StepsX (R : Cs) (Inv : (Nat → Bool) → St → Prop) : List (MI × List Nat) → Nat → Prop
  | [], _ => True
  | (m, ps) :: l, i => (∀ L s, L i = false → (∀ p ∈ ps, L p = true) → Inv L s → stepM R s m (fun s => Inv (updL L i) s)) ∧ StepsX R Inv l (i + 1)

def LoopN (F : (Ex → St → Prop) → St → Prop) : Nat → (Ex → St → Prop) → St → Prop
  | 0, _, _ => False
  | n + 1, Q, s => F (fun e s' => match e with | .normal => LoopN F n Q s' | e => Q e s') s

def Wp : MCode → (Ex → St → Prop) → St → Prop
  | .skip, Q, s => Q .normal s
  | .dra t, Q, s => runT R t s (fun s => Q .normal s)
  | .drx l, Q, s => ∃ Inv : (Nat → Bool) → St → Prop, Inv (fun _ => false) s ∧ StepsX R Inv l 0 ∧ ∀ s, Inv (fun j => decide (j < l.length)) s → Q .normal s
  | .reg l, Q, s => runL R s l (fun s => Q .normal s)
  | .drw pre suf, Q, s => runP R { s with h := hideH s.h ((dsts pre).map hom) } (hideH s.h ((dsts pre).map hom)) pre (fun s => runL R s suf (fun s => Q .normal s))
  | .drc pa c pb suf, Q, s => match c with
    | .op (some d) (.calln f args) none => runP R { s with h := hideH s.h ((dsts pa).map hom) } (hideH s.h ((dsts pa).map hom)) pa (fun s1 => ∃ F vals C, s1.vals args = some vals ∧ R.I f s1.h vals C ∧
        (∀ r h', C r h' → (∀ y ∈ F, h' y = s.h y) ∧ ∀ x ∈ dsts pb, (h' (hom x)).ver = (s.h (hom x)).ver) ∧ (∀ y ∈ F, y ∉ (dsts pa).map hom) ∧
        runP R ⟨s.t, keepH s.h F⟩ (keepH s.h F) pb (fun sB => ∀ r h', C r h' → runL R ⟨fun x => if x ∈ dsts pb then sB.t x else upd s1.t d (asRes r) x, h'⟩ suf (fun s => Q .normal s)))
    | .op (some d) (.app sz bytes x y) none => (runP R { s with h := hideH s.h ((dsts (pa ++ .op (some d) (.app sz bytes x y) none :: pb)).map hom) } (hideH s.h ((dsts (pa ++ .op (some d) (.app sz bytes x y) none :: pb)).map hom)) (pa ++ .op (some d) (.app sz bytes x y) none :: pb) (fun s => runL R s suf (fun s => Q .normal s))) ∨ runP R { s with h := hideH s.h ((dsts pa).map hom) } (hideH s.h ((dsts pa).map hom)) pa (fun s1 => ∃ F s', isAct s1 (.app sz bytes x y) = true ∧ act s1 (some d) (.app sz bytes x y) = some s' ∧
        ((∀ y ∈ F, s'.h y = s.h y) ∧ ∀ x ∈ dsts pb, (s'.h (hom x)).ver = (s.h (hom x)).ver) ∧ (∀ y ∈ F, y ∉ (dsts pa).map hom) ∧
        runP R ⟨s.t, keepH s.h F⟩ (keepH s.h F) pb (fun sB => runL R ⟨fun x => if x ∈ dsts pb then sB.t x else s'.t x, s'.h⟩ suf (fun s => Q .normal s)))
    | _ => False
  | .seq a b, Q, s => Wp a (fun e s => match e with | .normal => Wp b Q s | e => Q e s) s
  | .cond c a b, Q, s => match s.get c with
    | some (.bool t) => if t then Wp a Q s else Wp b Q s
    | some .anyB => Wp a Q s ∧ Wp b Q s
    | _ => False
  | .blk id a, Q, s => Wp a (fun e s => match e with | .exit j => if j = id then Q .normal s else Q (.exit j) s | e => Q e s) s
  | .loop a, Q, s => ∃ n, LoopN (Wp a) n Q s
  | .exit id, Q, s => Q (.exit id) s
  | .ret, Q, s => Q .ret s
end
end Go.Proofs.YtilbipknodpmmaaDoor

/-! How values of the ideal machine stand in memory. -/
set_option linter.unusedSectionVars false
set_option linter.unusedVariables false
set_option linter.unusedSimpArgs false
namespace Go.Proofs.YtilbipknodpmmaaDoor
open Go.RowKit

def bsize (w : World) (b : Nat) : Nat := match w.heap[b]? with
  | some (.cells cs _ _) => cs.size
  | _ => 0

structure Sx where
  w : World
  S : Nat → Prop
  H : Nat → Blk
  φ : Nat → Option (Nat × Nat)
  base : Nat

def CellsAt (c : Sx) (A : Option Addr) (us : List Value) : Prop :=
  ∀ i (h : i < us.length), ∃ a, A = some a ∧ a.spot = none ∧ c.S a.block ∧ c.w.cell? ⟨a.block, a.off + i, none⟩ = some us[i]

def rowR (c : Sx) (h off n sz : Nat) (A : Option Addr) (k : Nat) : Prop :=
  off + n * sz ≤ (c.H h).cells.length ∧
  match c.φ h with
  | some (b, o) => (k = 0 ∨ A = some ⟨b, o + off, none⟩) ∧ o + off + k * sz ≤ bsize c.w b
  | none => k = 0 ∧ off = 0

def ptrR (c : Sx) (h off : Nat) (v : Value) : Prop :=
  match c.φ h with
  | some (b, o) => v = .pointer (some ⟨b, o + off, none⟩)
  | none => False

def isPtr : Value → Bool
  | .pointer _ => true
  | _ => false

mutual
def VR (c : Sx) : IV → Value → Prop
  | .int k n, v => v = .int k n
  | .bool b, v => v = .bool b
  | .str l, v => v = .string ⟨l.toArray⟩
  | .nilp, v => v = .pointer none
  | .clo f caps, v => ∃ us, v = .func (.func f) #[] us.toArray ∧ caps.all IV.nlit = true ∧ VRL c caps us
  | .sl f n cs, v => ∃ A k us, v = .slice A n k ∧ n ≤ k ∧ (f ≠ .plain → k = n) ∧ (f = .lit → ∀ a, A = some a → c.base ≤ a.block) ∧ IV.purL cs = true ∧ cs.all IV.one = true ∧ VRL c cs us ∧ CellsAt c A us
  | .row h off n sz ver, v => ver ≤ (c.H h).ver ∧ ∃ A k, v = .slice A n k ∧ n ≤ k ∧ ((c.H h).live = true → (c.H h).ver = ver → rowR c h off n sz A k)
  | .ptr h off ver, v => ver ≤ (c.H h).ver ∧ isPtr v = true ∧ ((c.H h).live = true → (c.H h).ver = ver → ptrR c h off v)
  | .addr cs, v => ∃ a us, v = .pointer (some a) ∧ a.spot = none ∧ IV.purL cs = true ∧ cs.all IV.one = true ∧ VRL c cs us ∧ CellsAt c (some a) us
  | .agg cs, v => ∃ us, v = .agg us.toArray ∧ cs.all IV.one = true ∧ VRL c cs us
  | .tup vs, v => ∃ us, v = .tuple us.toArray ∧ vs.all IV.nlit = true ∧ VRL c vs us
  | .own _ _ _, _ => False
  | .lits n _ cs, v => ∃ A us, v = .slice A n n ∧ (∀ a, A = some a → c.base ≤ a.block) ∧ cs.all IV.one = true ∧ VRL c cs us ∧ CellsAt c A us
  | .anyB, v => ∃ b, v = .bool b
  | .undef, _ => True
def VRL (c : Sx) : List IV → List Value → Prop
  | [], us => us = []
  | x :: xs, us => ∃ u us', us = u :: us' ∧ VR c x u ∧ VRL c xs us'
end

theorem VRL.length {c : Sx} : ∀ {cs : List IV} {us : List Value}, VRL c cs us → us.length = cs.length
  | [], us, h => by simp only [VRL] at h; subst h; rfl
  | x :: xs, us, h => by
    simp only [VRL] at h
    obtain ⟨u, us', rfl, _, h⟩ := h
    simp [VRL.length h]

theorem VRL.get {c : Sx} : ∀ {cs : List IV} {us : List Value}, VRL c cs us → ∀ i (h : i < cs.length) (h' : i < us.length), VR c cs[i] us[i]
  | [], us, _, i, h, _ => by simp at h
  | x :: xs, us, h, i, hi, hi' => by
    simp only [VRL] at h
    obtain ⟨u, us', rfl, hu, h⟩ := h
    cases i with
    | zero => exact hu
    | succ i => exact VRL.get h i (by simpa using hi) (by simpa using hi')

theorem VRL.mk {c : Sx} : ∀ {cs : List IV} {us : List Value}, us.length = cs.length → (∀ i (h : i < cs.length) (h' : i < us.length), VR c cs[i] us[i]) → VRL c cs us
  | [], us, hl, _ => by simp only [VRL]; simpa using hl
  | x :: xs, [], hl, _ => by simp at hl
  | x :: xs, u :: us, hl, h => by
    simp only [VRL]
    exact ⟨u, us, rfl, h 0 (by simp) (by simp), VRL.mk (by simpa using hl) (fun i hi hi' => h (i + 1) (by simpa using hi) (by simpa using hi'))⟩

theorem VRL.nil {c : Sx} : VRL c [] [] := by simp [VRL]
theorem VRL.cons {c : Sx} {x : IV} {u : Value} {xs : List IV} {us : List Value} (h : VR c x u) (hs : VRL c xs us) : VRL c (x :: xs) (u :: us) := by
  simp only [VRL]; exact ⟨u, us, rfl, h, hs⟩

theorem VRL.append {c : Sx} : ∀ {xs : List IV} {us : List Value} {ys : List IV} {vs : List Value}, VRL c xs us → VRL c ys vs → VRL c (xs ++ ys) (us ++ vs)
  | [], us, ys, vs, h, h' => by simp only [VRL] at h; subst h; exact h'
  | x :: xs, us, ys, vs, h, h' => by
    simp only [VRL] at h
    obtain ⟨u, us', rfl, hu, h⟩ := h
    exact VRL.cons hu (VRL.append h h')

theorem VRL.take {c : Sx} {xs : List IV} {us : List Value} (h : VRL c xs us) (m : Nat) : VRL c (xs.take m) (us.take m) :=
  VRL.mk (by simp [h.length]) (fun i hi hi' => by
    simp only [List.getElem_take]
    simp only [List.length_take] at hi hi'
    exact h.get i (by omega) (by omega))
theorem VRL.drop {c : Sx} {xs : List IV} {us : List Value} (h : VRL c xs us) (m : Nat) : VRL c (xs.drop m) (us.drop m) :=
  VRL.mk (by simp [h.length]) (fun i hi hi' => by
    simp only [List.getElem_drop]
    simp only [List.length_drop] at hi hi'
    exact h.get (m + i) (by omega) (by omega))

structure Evo (c c' : Sx) : Prop where
  S : ∀ b, c.S b → c'.S b
  cell : ∀ b, c.S b → ∀ i, c'.w.cell? ⟨b, i, none⟩ = c.w.cell? ⟨b, i, none⟩
  base : c'.base ≤ c.base
  ver : ∀ h, (c.H h).ver ≤ (c'.H h).ver
  same : ∀ h, (c'.H h).live = true → (c'.H h).ver = (c.H h).ver → (c.H h).live = true ∧ c'.φ h = c.φ h ∧ (c.H h).cells.length ≤ (c'.H h).cells.length
  size : ∀ b, bsize c.w b ≤ bsize c'.w b

theorem Evo.refl (c : Sx) : Evo c c := ⟨fun _ h => h, fun _ _ _ => rfl, Nat.le_refl _, fun _ => Nat.le_refl _, fun _ h _ => ⟨h, rfl, Nat.le_refl _⟩, fun _ => Nat.le_refl _⟩
theorem Evo.trans {c c' c'' : Sx} (h : Evo c c') (k : Evo c' c'') : Evo c c'' where
  S b hb := k.S b (h.S b hb)
  cell b hb i := (k.cell b (h.S b hb) i).trans (h.cell b hb i)
  base := Nat.le_trans k.base h.base
  ver x := Nat.le_trans (h.ver x) (k.ver x)
  same x hl hv := by
    have h1 := h.ver x
    have h2 := k.ver x
    have e2 : (c''.H x).ver = (c'.H x).ver := by omega
    obtain ⟨l2, p2, n2⟩ := k.same x hl e2
    obtain ⟨l1, p1, n1⟩ := h.same x l2 (by omega)
    exact ⟨l1, p2.trans p1, by omega⟩
  size b := Nat.le_trans (h.size b) (k.size b)

theorem CellsAt.evo {c c' : Sx} (e : Evo c c') {A : Option Addr} {us : List Value} (h : CellsAt c A us) : CellsAt c' A us := fun i hi => by
  obtain ⟨a, ha, hs, hb, hc⟩ := h i hi
  exact ⟨a, ha, hs, e.S _ hb, (e.cell _ hb _).trans hc⟩

theorem rowR.evo {c c' : Sx} (e : Evo c c') {h off n sz k : Nat} {A : Option Addr} (hl : (c'.H h).live = true) (hv : (c'.H h).ver = (c.H h).ver) (r : rowR c h off n sz A k) : rowR c' h off n sz A k := by
  obtain ⟨_, hp, hn⟩ := e.same h hl hv
  unfold rowR at *
  rw [hp]
  refine ⟨by omega, ?_⟩
  cases hφ : c.φ h with
  | none => rw [hφ] at r; exact r.2
  | some p =>
    obtain ⟨b, o⟩ := p
    rw [hφ] at r
    have := e.size b
    exact ⟨r.2.1, by have := r.2.2; omega⟩

mutual
theorem VR.evo {c c' : Sx} (e : Evo c c') : ∀ {v : IV} {u : Value}, VR c v u → VR c' v u
  | .int _ _, _, h => by simpa only [VR] using h
  | .bool _, _, h => by simpa only [VR] using h
  | .str _, _, h => by simpa only [VR] using h
  | .nilp, _, h => by simpa only [VR] using h
  | .clo f caps, _, h => by
    simp only [VR] at h ⊢
    obtain ⟨us, h1, h2, h3⟩ := h
    exact ⟨us, h1, h2, VRL.evo e h3⟩
  | .sl f n cs, _, h => by
    simp only [VR] at h ⊢
    obtain ⟨A, k, us, h1, h2, h3, h4, h5, h6, h7, h8⟩ := h
    exact ⟨A, k, us, h1, h2, h3, fun hf a ha => Nat.le_trans e.base (h4 hf a ha), h5, h6, VRL.evo e h7, h8.evo e⟩
  | .row x off n sz ver, _, h => by
    simp only [VR] at h ⊢
    obtain ⟨h1, A, k, h2, h3, h4⟩ := h
    have hv := e.ver x
    refine ⟨by omega, A, k, h2, h3, fun hl he => ?_⟩
    have he' : (c'.H x).ver = (c.H x).ver := by omega
    exact (h4 (e.same x hl he').1 (by omega)).evo e hl he'
  | .ptr x off ver, _, h => by
    simp only [VR] at h ⊢
    obtain ⟨h1, h2, h3⟩ := h
    have hv := e.ver x
    refine ⟨by omega, h2, fun hl he => ?_⟩
    have he' : (c'.H x).ver = (c.H x).ver := by omega
    have hs := e.same x hl he'
    have := h3 hs.1 (by omega)
    unfold ptrR at *
    rw [hs.2.1]
    exact this
  | .addr cs, _, h => by
    simp only [VR] at h ⊢
    obtain ⟨a, us, h1, h2, h3, h4, h5, h6⟩ := h
    exact ⟨a, us, h1, h2, h3, h4, VRL.evo e h5, h6.evo e⟩
  | .agg cs, _, h => by
    simp only [VR] at h ⊢
    obtain ⟨us, h1, h2, h3⟩ := h
    exact ⟨us, h1, h2, VRL.evo e h3⟩
  | .tup vs, _, h => by
    simp only [VR] at h ⊢
    obtain ⟨us, h1, h2, h3⟩ := h
    exact ⟨us, h1, h2, VRL.evo e h3⟩
  | .own _ _ _, _, h => by simp only [VR] at h
  | .lits n _ cs, _, h => by
    simp only [VR] at h ⊢
    obtain ⟨A, us, h1, h2, h3, h4, h5⟩ := h
    exact ⟨A, us, h1, fun a ha => Nat.le_trans e.base (h2 a ha), h3, VRL.evo e h4, h5.evo e⟩
  | .anyB, _, h => by simpa only [VR] using h
  | .undef, _, _ => by simp only [VR]
theorem VRL.evo {c c' : Sx} (e : Evo c c') : ∀ {v : List IV} {u : List Value}, VRL c v u → VRL c' v u
  | [], _, h => by simpa only [VRL] using h
  | x :: xs, _, h => by
    simp only [VRL] at h ⊢
    obtain ⟨u, us, h1, h2, h3⟩ := h
    exact ⟨u, us, h1, VR.evo e h2, VRL.evo e h3⟩
end

structure EvoP (c c' : Sx) : Prop where
  S : ∀ b, c.S b → c'.S b
  cell : ∀ b, c.S b → ∀ i, c'.w.cell? ⟨b, i, none⟩ = c.w.cell? ⟨b, i, none⟩

theorem CellsAt.evoP {c c' : Sx} (e : EvoP c c') {A : Option Addr} {us : List Value} (h : CellsAt c A us) : CellsAt c' A us := fun i hi => by
  obtain ⟨a, ha, hs, hb, hc⟩ := h i hi
  exact ⟨a, ha, hs, e.S _ hb, (e.cell _ hb _).trans hc⟩
theorem one_nlit {v : IV} (h : v.one = true) : v.nlit = true := by
  cases v <;> first | rfl | (rename_i f n cs; cases f <;> first | rfl | simp [IV.one] at h)
theorem ones_nlit {vs : List IV} (h : vs.all IV.one = true) : vs.all IV.nlit = true := by
  rw [List.all_eq_true] at *
  exact fun x hx => one_nlit (h x hx)
mutual
theorem VR.evoP {c c' : Sx} (e : EvoP c c') : ∀ {v : IV} {u : Value}, v.pur = true → v.nlit = true → VR c v u → VR c' v u
  | .int _ _, _, _, _, h => by simpa only [VR] using h
  | .bool _, _, _, _, h => by simpa only [VR] using h
  | .str _, _, _, _, h => by simpa only [VR] using h
  | .nilp, _, _, _, h => by simpa only [VR] using h
  | .clo f caps, _, hp, _, h => by
    simp only [VR] at h ⊢
    obtain ⟨us, h1, h2, h3⟩ := h
    exact ⟨us, h1, h2, VRL.evoP e (by simpa [IV.pur] using hp) h2 h3⟩
  | .sl f n cs, _, _, hn, h => by
    simp only [VR] at h ⊢
    obtain ⟨A, k, us, h1, h2, h3, h4, h5, h6, h7, h8⟩ := h
    exact ⟨A, k, us, h1, h2, h3, fun hf => (by subst hf; simp [IV.nlit] at hn), h5, h6, VRL.evoP e h5 (ones_nlit h6) h7, h8.evoP e⟩
  | .row .., _, hp, _, _ => by simp [IV.pur] at hp
  | .ptr .., _, hp, _, _ => by simp [IV.pur] at hp
  | .addr cs, _, _, _, h => by
    simp only [VR] at h ⊢
    obtain ⟨a, us, h1, h2, h3, h4, h5, h6⟩ := h
    exact ⟨a, us, h1, h2, h3, h4, VRL.evoP e h3 (ones_nlit h4) h5, h6.evoP e⟩
  | .agg cs, _, hp, _, h => by
    simp only [VR] at h ⊢
    obtain ⟨us, h1, h2, h3⟩ := h
    exact ⟨us, h1, h2, VRL.evoP e (by simpa [IV.pur] using hp) (ones_nlit h2) h3⟩
  | .tup vs, _, hp, _, h => by
    simp only [VR] at h ⊢
    obtain ⟨us, h1, h2, h3⟩ := h
    exact ⟨us, h1, h2, VRL.evoP e (by simpa [IV.pur] using hp) h2 h3⟩
  | .own _ _ _, _, _, _, h => by simp only [VR] at h
  | .lits _ _ _, _, hp, _, _ => by simp [IV.pur] at hp
  | .anyB, _, _, _, h => by simpa only [VR] using h
  | .undef, _, hp, _, _ => by simp [IV.pur] at hp
theorem VRL.evoP {c c' : Sx} (e : EvoP c c') : ∀ {v : List IV} {u : List Value}, IV.purL v = true → v.all IV.nlit = true → VRL c v u → VRL c' v u
  | [], _, _, _, h => by simpa only [VRL] using h
  | x :: xs, _, hp, hn, h => by
    simp only [VRL] at h ⊢
    simp only [IV.purL, Bool.and_eq_true] at hp
    simp only [List.all_cons, Bool.and_eq_true] at hn
    obtain ⟨u, us, h1, h2, h3⟩ := h
    exact ⟨u, us, h1, VR.evoP e hp.1 hn.1 h2, VRL.evoP e hp.2 hn.2 h3⟩
end

/-! ### the homes -/
class Old where
  A : Nat → Prop

def stb [Old] (w : World) (H : Nat → Blk) (φ : Nat → Option (Nat × Nat)) (base b : Nat) : Prop :=
  b < w.heap.size ∧ (∀ h, (H h).live = true → (H h).rw = true → ∀ p, φ h = some p → p.1 ≠ b) ∧ (b < base → Old.A b)

@[reducible] def sx [Old] (w : World) (H : Nat → Blk) (φ : Nat → Option (Nat × Nat)) (base : Nat) : Sx := ⟨w, stb w H φ base, H, φ, base⟩

structure HomeR (c : Sx) (h : Nat) : Prop where
  one : (c.H h).cells.all IV.one = true
  row : (c.H h).isRow = true → IV.purL (c.H h).cells = true
  low : ∀ p, c.φ h = some p → c.base ≤ p.1
  at_ : match c.φ h with
    | none => (c.H h).cells = []
    | some (b, o) => ∃ cs T fr us, c.w.heap[b]? = some (.cells cs T fr) ∧ ((c.H h).rw = true → fr = (0, 0) ∧ c.base ≤ b) ∧ VRL c (c.H h).cells us ∧ (∀ i (hi : i < us.length), cs[o + i]? = some us[i]) ∧ o + us.length ≤ cs.size

structure HS (c : Sx) : Prop where
  home : ∀ h, (c.H h).live = true → HomeR c h
  excl : ∀ h h' p p', (c.H h).live = true → (c.H h).rw = true → (c.H h').live = true → h ≠ h' → c.φ h = some p → c.φ h' = some p' → p.1 ≠ p'.1
  size : c.base ≤ c.w.heap.size

class Gh where
  G : IV → Value → Prop
  /-- the calls that wait for the function's end -/
  D : List Deferred
  /-- objects, none of them cells, that stay as they are -/
  pins : List (Nat × Obj)
structure Bel [Gh] (w0 w : World) : Prop where
  lo : Below w0.heap.size w0 w
  pin : ∀ p ∈ Gh.pins, (∀ cs T fr, p.2 ≠ .cells cs T fr) ∧ w.heap[p.1]? = some p.2
theorem Bel.call [Gh] {w0 w w' : World} (h : Bel w0 w) (hs : w0.heap.size ≤ w.heap.size) (hb : Below w.heap.size w w') : Bel w0 w' :=
  ⟨h.lo.trans (hb.mono hs), fun p hp => ⟨(h.pin p hp).1, (hb.block p.1 (Array.getElem?_eq_some_iff.1 (h.pin p hp).2).1).trans (h.pin p hp).2⟩⟩

def Rel [Gh] [Old] (w0 : World) (N : Nat) (s : St) (a : Act) (w : World) : Prop :=
  ∃ φ, HS (sx w s.h φ w0.heap.size) ∧ Bel w0 w ∧ a.tmps.size = N ∧ a.defers = Gh.D ∧ (∀ t, VR (sx w s.h φ w0.heap.size) (s.t t) (a.tmps.getD t undef)) ∧ ∀ v u, Gh.G v u → VR (sx w s.h φ w0.heap.size) v u
end Go.Proofs.YtilbipknodpmmaaDoor

/-! From the loaded program's operations to the ideal machine's. -/
set_option linter.unusedSectionVars false
set_option linter.unusedVariables false
set_option linter.unusedSimpArgs false
namespace Go.Proofs.YtilbipknodpmmaaDoor
open Go.RowKit

def toIV1 : Value → Option IV
  | .int k n => some (.int k n)
  | .bool b => some (.bool b)
  | .string s => some (.str s.data.toList)
  | .pointer none => some .nilp
  | .slice none 0 0 => some (.sl .full 0 [])
  | .func (.func f) a b => if a.size = 0 ∧ b.size = 0 then some (.clo f []) else none
  | _ => none
def toIVs : List Value → Option (List IV)
  | [] => some []
  | v :: vs => match toIV1 v, toIVs vs with
    | some x, some xs => some (x :: xs)
    | _, _ => none
def toIV : Value → Option IV
  | .agg cs => match toIVs cs.toList with | some xs => some (.agg xs) | none => none
  | v => toIV1 v

def opd : Operand → Option Opd
  | .tmp t => some (.tmp t)
  | .const v => match toIV v with | some x => some (.c x) | none => none
  | .func f => some (.c (.clo f []))
  | .global _ => none

def zeroL (P : Program) (t : TypeId) : Option (List IV) := match P.info? t with
  | some i => match i.zero with
    | some v => toIVs v.cells.toList
    | none => none
  | none => none

def aggT (P : Program) (t : TypeId) : Bool := match P.underlying t with
  | some (.struct _) | some (.array _ _) => true
  | _ => false

def opdO : Option Operand → Option (Option Opd)
  | none => some none
  | some x => match opd x with | some y => some (some y) | none => none

def opds : List Operand → Option (List Opd)
  | [] => some []
  | x :: xs => match opd x, opds xs with
    | some y, some ys => some (y :: ys)
    | _, _ => none

def copParts (place : Nat → Option (Nat × Nat)) : List (Nat × Operand) → Option (List (Nat × Nat × Opd))
  | [] => some []
  | (i, x) :: ps => match place i, opd x, copParts place ps with
    | some (off, n), some y, some qs => some ((off, n, y) :: qs)
    | _, _, _ => none

def plainT (P : Program) (t : TypeId) : Bool := match P.underlying t with
  | some (.int _) | some .string => true
  | _ => false
def sliceT (P : Program) (t : TypeId) : Bool := match P.underlying t with
  | some (.slice _) => true
  | _ => false
def nilC : Opd → Bool
  | .c (.sl .full 0 []) => true
  | _ => false
def ptrT (P : Program) (t : TypeId) : Bool := match P.underlying t with
  | some (.pointer _) => true
  | _ => false
def nilQ : Opd → Bool
  | .c .nilp => true
  | _ => false
def boolT (P : Program) (t : TypeId) : Bool := match P.underlying t with
  | some .bool => true
  | _ => false

def fieldsK (P : Program) (K : TypeId → Option (List CK)) : Nat → List Field → Option (List CK)
  | _, [] => some []
  | off, f :: fs => if f.name ≠ "_" ∧ f.offset = off ∧ (P.info? f.type).isSome = true ∧ (P.underlying f.type).isSome = true then
      (match K f.type, fieldsK P K (off + P.cellsOf f.type) fs with
      | some a, some b => if a.length = P.cellsOf f.type then some (a ++ b) else none
      | _, _ => none)
    else none
def kindsT (P : Program) : Nat → TypeId → Option (List CK)
  | 0, _ => none
  | d + 1, t => match P.underlying t with
    | some .bool => some [.b]
    | some (.int _) => some [.i]
    | some .string => some [.s]
    | some (.array n e) => match kindsT P d e with
      | some ks => if ks.length = P.cellsOf e ∧ (P.info? e).isSome = true then some (List.replicate n ks).flatten else none
      | none => none
    | some (.struct fs) => if P.stoodInHeld t = false then fieldsK P (kindsT P d) 0 fs.toList else none
    | _ => none

def goodFn (P : Program) (f : FuncId) : Bool := match P.funcs[f]? with
  | some fn => fn.body.isSome && !(fn.name == "runtime.NumGoroutine")
  | none => false

def cop (P : Program) (o : Oper) (hint : MOp) : Option MOp :=
  match o.op with
  | .move x | .assign x => match opd x with | some x => some (.mov x) | none => none
  | .pick c a b => match opd c, opd a, opd b with | some c, some a, some b => some (.pick c a b) | _, _, _ => none
  | .alloc e => match zeroL P e with | some z => some (.alloc z) | none => none
  | .box _ x => match opd x with | some x => some (.box x) | none => none
  | .build t ps => match P.underlying t, zeroL P t with
    | some (.struct fs), some z =>
      if fs.toList.all (fun f => (P.info? f.type).isSome) = true then
        (match copParts (fun i => (fs[i]?).map fun f => (f.offset, P.cellsOf f.type)) ps.toList with | some ps => some (.build z ps) | none => none)
      else none
    | some (.array _ e), some z =>
      if (P.info? e).isSome = true then
        (match copParts (fun i => some (i * P.cellsOf e, P.cellsOf e)) ps.toList with | some ps => some (.build z ps) | none => none)
      else none
    | _, _ => none
  | .buildSlice t n ps => match P.underlying t with
    | some (.slice e) => match P.info? e, zeroL P e, copParts (fun i => some (i * P.cellsOf e, P.cellsOf e)) ps.toList with
      | some _, some z, some ps => if n * P.cellsOf e ≤ 2 ^ 24 then some (match hint with | .bslR .. => .bslR n (P.cellsOf e) z ps | _ => .bsl n (P.cellsOf e) z ps) else none
      | _, _, _ => none
    | _ => none
  | .load t a => match P.underlying t, P.info? t, opd a with
    | some _, some _, some a => some (.load (aggT P t) (if aggT P t then P.cellsOf t else 1) a)
    | _, _, _ => none
  | .store t a v => match P.info? t, opd a, opd v with
    | some _, some a, some v => some (.store (P.cellsOf t) a v)
    | _, _, _ => none
  | .nilCheck x => match opd x with | some x => some (.chk x) | none => none
  | .binOp op t x y _ => match opd x, opd y with
    | some x, some y =>
      if aggT P t = true then
        (match hint with
        | .eqv _ rl _ _ => if (op = .eql ∨ op = .neq) ∧ kindsT P 20 t = some (expand rl) ∧ P.eqGuardType P.depth t = false then some (.eqv (op == .neq) rl x y) else none
        | _ => none)
      else if sliceT P t = true then (if (op = .eql ∨ op = .neq) ∧ nilC y = true then some (.nilS (op == .neq) x) else none)
      else if ptrT P t = true then (if (op = .eql ∨ op = .neq) ∧ nilQ y = true then some (.nilP (op == .neq) x) else none)
      else if plainT P t = true then some (.bin op x y) else if boolT P t = true then some (.binB op x y) else none
    | _, _ => none
  | .unOp op _ x => match opd x with | some x => some (.un op x) | none => none
  | .convert src dst x => match P.underlying src, P.underlying dst, opd x with
    | some _, some (.int k), some x => some (.toInt k x)
    | some .string, some .string, some x => some (.movS x)
    | some (.slice e), some .string, some x => match P.underlying e with
      | some (.int .u8) => some (.toStr x)
      | _ => none
    | some (.slice _), some (.slice e), some x => match P.underlying e with
      | some (.int .u8) => if src = dst then some (.mark x) else none
      | _ => none
    | _, _, _ => none
  | .sliceToArrayPointer t x => match P.underlying t, opd x with
    | some (.array n e), some x => some (.arrOf n (P.cellsOf e) x)
    | _, _ => none
  | .makeSlice t l c => match P.underlying t, opd l, opd c with
    | some (.slice e), some l, some c => match P.info? e, zeroL P e with
      | some i, some z => some (.mk (P.cellsOf e) i.bytes z l c)
      | _, _ => none
    | _, _, _ => none
  | .slice t x lo hi mx => match P.underlying t, opd x, opdO lo, opdO hi, opdO mx with
    | some (.array n e), some x, some lo, some hi, some mx => if (P.info? e).isSome = true then some (match hint, lo, hi, mx with | .slArrF .., none, none, none => .slArrF n (P.cellsOf e) x | _, _, _, _ => .slArr n (P.cellsOf e) x lo hi mx) else none
    | some (.slice e), some x, some lo, some hi, some mx => if (P.info? e).isSome = true then some (.slSl (P.cellsOf e) x lo hi mx) else none
    | some .string, some x, some lo, some hi, some none => some (.slStr x lo hi)
    | _, _, _, _, _ => none
  | .fieldAddr t x f => match P.underlying t, opd x with
    | some (.struct fs), some x => match fs[f]? with
      | some f => if (P.info? f.type).isSome = true ∧ P.cellsOf f.type ≠ 0 then some (.fa f.offset x) else none
      | none => none
    | _, _ => none
  | .field t x f => match P.underlying t, opd x with
    | some (.struct fs), some x => match fs[f]? with
      | some f => if (P.info? f.type).isSome = true ∧ (P.underlying f.type).isSome = true then some (.fld (aggT P f.type) f.offset (if aggT P f.type then P.cellsOf f.type else 1) x) else none
      | none => none
    | _, _ => none
  | .indexAddr t x i => match P.underlying t, opd x, opd i with
    | some (.array n e), some x, some i => if (P.info? e).isSome = true then some (.ixArr n (P.cellsOf e) x i) else none
    | some (.slice e), some x, some i => if (P.info? e).isSome = true then some (.ixSl (P.cellsOf e) x i) else none
    | _, _, _ => none
  | .index t x i => match P.underlying t, opd x, opd i with
    | some (.array n e), some x, some i => if (P.info? e).isSome = true ∧ (P.underlying e).isSome = true ∧ (aggT P e = true ∨ P.cellsOf e = 1) then some (.idx n (P.cellsOf e) (aggT P e) x i) else none
    | some .string, some x, some i => some (.idxStr x i)
    | _, _, _ => none
  | .extract x i => match opd x with | some x => some (.ext x i) | none => none
  | .makeFunc (.func f) first caps => if first.size = 0 then (match opds caps.toList with | some cs => some (.mkf f cs) | none => none) else none
  | .call c => match c.callee with
    | .value (.func f) => match opds c.args.toList with
      | some as => if goodFn P f = true then some (match hint with | .callp .. => .callp f as | .calln .. => .calln f as | _ => .call f as) else none
      | none => none
    | .value x => match opd x, opds c.args.toList with
      | some x, some as => some (.calli x as)
      | _, _ => none
    | .builtin .len => match c.argTypes[0]?, c.args[0]? with
      | some t, some x => match P.underlying t, opd x with
        | some (.array n _), _ => some (.lenC n)
        | some .string, some x => some (.lenS x)
        | some (.slice _), some x => some (.len x)
        | _, _ => none
      | _, _ => none
    | .builtin .append => match c.argTypes.toList, opds c.args.toList with
      | [t, u], some [s, x] => match P.underlying t with
        | some (.slice e) => match P.info? e, zeroL P e, P.underlying u with
          | some i, some z, some (.int _) => if z.length = P.cellsOf e then some (.appZ (P.cellsOf e) i.bytes z s x) else none
          | some i, some z, some _ => if z.length = P.cellsOf e then some (match hint with | .appP .. => .appP (P.cellsOf e) i.bytes s x | _ => .app (P.cellsOf e) i.bytes s x) else none
          | _, _, _ => none
        | _ => none
      | _, _ => none
    | .builtin .copy => match c.argTypes.toList, opds c.args.toList with
      | t :: _, some [d, s] => match P.underlying t with
        | some (.slice e) => match P.info? e with
          | some _ => some (.copy (P.cellsOf e) d s)
          | none => none
        | _ => none
      | _, _ => none
    | .builtin .cap => match c.argTypes[0]?, c.args[0]? with
      | some t, some x => match P.underlying t, opd x with
        | some (.slice _), some x => some (.cap x)
        | _, _ => none
      | _, _ => none
    | .builtin .min => match opds c.args.toList with | some [x, y] => some (.mnx true x y) | _ => none
    | .builtin .max => match opds c.args.toList with | some [x, y] => some (.mnx false x y) | _ => none
    | _ => none
  | .panic _ | .makeInterface _ _ => some .bad
  | _ => none

/-! ### the relation with its places named -/
variable [Off] [Gh] [Old]
structure RelC (φ : Nat → Option (Nat × Nat)) (w0 : World) (N : Nat) (s : St) (a : Act) (w : World) : Prop where
  hs : HS (sx w s.h φ w0.heap.size)
  below : Bel w0 w
  size : a.tmps.size = N
  defers : a.defers = Gh.D
  t : ∀ t, VR (sx w s.h φ w0.heap.size) (s.t t) (a.tmps.getD t undef)
  g : ∀ v u, Gh.G v u → VR (sx w s.h φ w0.heap.size) v u

theorem Rel.open_ {w0 : World} {N : Nat} {s : St} {a : Act} {w : World} (h : Rel w0 N s a w) : ∃ φ, RelC φ w0 N s a w := by
  obtain ⟨φ, h1, h2, h3, h4, h5, h6⟩ := h
  exact ⟨φ, h1, h2, h3, h4, h5, h6⟩
theorem RelC.rel {φ : Nat → Option (Nat × Nat)} {w0 : World} {N : Nat} {s : St} {a : Act} {w : World} (h : RelC φ w0 N s a w) : Rel w0 N s a w := ⟨φ, h.hs, h.below, h.size, h.defers, h.t, h.g⟩

section
variable {φ : Nat → Option (Nat × Nat)} {w0 : World} {N : Nat} {s : St} {a : Act} {w : World}

theorem getD_put (a : Act) (d t : Nat) (v : Value) (hd : d < a.tmps.size) : (a.put (some d) v).tmps.getD t undef = if t = d then v else a.tmps.getD t undef := by
  simp only [Act.put, Array.getD_eq_getD_getElem?, Array.getElem?_setIfInBounds]
  by_cases h : d = t
  · subst h; simp [hd]
  · rw [if_neg h, if_neg (fun e => h e.symm)]

theorem RelC.put (h : RelC φ w0 N s a w) {φ' : Nat → Option (Nat × Nat)} {H' : Nat → Blk} {w' : World} (hs' : HS (sx w' H' φ' w0.heap.size)) (e : Evo (sx w s.h φ w0.heap.size) (sx w' H' φ' w0.heap.size)) (hb : Bel w0 w')
    {d : Nat} (hd : d < N) {v : IV} {rv : Value} (hv : VR (sx w' H' φ' w0.heap.size) v rv) : RelC φ' w0 N { t := upd s.t d v, h := H' } (a.put (some d) rv) w' where
  hs := hs'
  below := hb
  size := by simp [Act.put, h.size]
  defers := by simp [Act.put, h.defers]
  t t := by
    rw [getD_put a d t rv (by rw [h.size]; exact hd)]
    simp only [upd]
    split
    · exact hv
    · exact (h.t t).evo e
  g v u hg := (h.g v u hg).evo e

theorem RelC.putN (h : RelC φ w0 N s a w) {φ' : Nat → Option (Nat × Nat)} {H' : Nat → Blk} {w' : World} (hs' : HS (sx w' H' φ' w0.heap.size)) (e : Evo (sx w s.h φ w0.heap.size) (sx w' H' φ' w0.heap.size)) (hb : Bel w0 w') :
    RelC φ' w0 N { t := s.t, h := H' } a w' := ⟨hs', hb, h.size, h.defers, fun t => (h.t t).evo e, fun v u hg => (h.g v u hg).evo e⟩

theorem RelC.pure (h : RelC φ w0 N s a w) {d : Nat} (hd : d < N) {v : IV} {rv : Value} (hv : VR (sx w s.h φ w0.heap.size) v rv) : RelC φ w0 N (s.eff d ⟨v, none⟩) (a.put (some d) rv) w :=
  h.put h.hs (Evo.refl _) h.below hd hv

theorem toIV1_VR (c : Sx) {v : Value} {x : IV} (h : toIV1 v = some x) : VR c x v := by
  unfold toIV1 at h
  split at h <;> try (injection h with h; subst h; simp only [VR]; done)
  · injection h with h; subst h
    simp only [VR]
    exact ⟨.none, 0, [], rfl, by omega, by simp, by simp, rfl, rfl, by simp [VRL], fun i hi => by simp at hi⟩
  · split at h
    · rename_i a b hab
      injection h with h
      subst h
      obtain ⟨ha, hb⟩ := hab
      simp only [VR]
      refine ⟨[], ?_, rfl, by simp [VRL]⟩
      rw [Array.eq_empty_of_size_eq_zero ha, Array.eq_empty_of_size_eq_zero hb]
    · cases h
  · cases h
theorem toIV1_one {v : Value} {x : IV} (h : toIV1 v = some x) : x.one = true := by
  unfold toIV1 at h
  split at h <;> try (injection h with h; subst h; rfl)
  · split at h
    · injection h with h; subst h; rfl
    · cases h
  · cases h
theorem toIV1_pur {v : Value} {x : IV} (h : toIV1 v = some x) : x.pur = true := by
  unfold toIV1 at h
  split at h <;> try (injection h with h; subst h; rfl)
  · split at h
    · injection h with h; subst h; rfl
    · cases h
  · cases h
theorem toIVs_VRL (c : Sx) : ∀ {vs : List Value} {xs : List IV}, toIVs vs = some xs → VRL c xs vs ∧ xs.all IV.one = true ∧ IV.purL xs = true
  | [], xs, h => by simp only [toIVs, Option.some.injEq] at h; subst h; exact ⟨by simp [VRL], rfl, rfl⟩
  | v :: vs, xs, h => by
    simp only [toIVs] at h
    split at h
    · rename_i x xs' hx hxs
      injection h with h; subst h
      have := toIVs_VRL c hxs
      exact ⟨VRL.cons (toIV1_VR c hx) this.1, by simp [toIV1_one hx, this.2.1], by simp [IV.purL, toIV1_pur hx, this.2.2]⟩
    · cases h
theorem toIV_VR (c : Sx) {v : Value} {x : IV} (h : toIV v = some x) : VR c x v := by
  unfold toIV at h
  split at h
  · rename_i cs
    split at h
    · rename_i xs hxs
      injection h with h; subst h
      have := toIVs_VRL c hxs
      simp only [VR]
      exact ⟨cs.toList, by simp, this.2.1, this.1⟩
    · cases h
  · exact toIV1_VR c h

theorem get_VR (h : RelC φ w0 N s a w) {x : Operand} {y : Opd} (hx : opd x = some y) {v : IV} (hv : s.get y = some v) : VR (sx w s.h φ w0.heap.size) v (a.eval x) := by
  cases x with
  | tmp t =>
    simp only [opd, Option.some.injEq] at hx
    subst hx
    simp only [St.get] at hv
    split at hv
    · cases hv
    · injection hv with hv; subst hv; exact h.t t
  | const u =>
    simp only [opd] at hx
    split at hx
    · rename_i z hz
      injection hx with hx; subst hx
      simp only [St.get, Option.some.injEq] at hv
      subst hv
      exact toIV_VR _ hz
    · cases hx
  | global g => simp [opd] at hx
  | func f =>
    simp only [opd, Option.some.injEq] at hx
    subst hx
    simp only [St.get, Option.some.injEq] at hv
    subst hv
    simp only [VR]
    exact ⟨[], rfl, rfl, by simp [VRL]⟩

/-! readings of single values -/
theorem VR.int_ {c : Sx} {k : IntKind} {n : Int} {u : Value} (h : VR c (.int k n) u) : u = .int k n := by simpa only [VR] using h
theorem VR.bool_ {c : Sx} {b : Bool} {u : Value} (h : VR c (.bool b) u) : u = .bool b := by simpa only [VR] using h
theorem VR.str_ {c : Sx} {l : List UInt8} {u : Value} (h : VR c (.str l) u) : u = .string ⟨l.toArray⟩ := by simpa only [VR] using h
theorem VR.int_mk {c : Sx} {k : IntKind} {n : Int} : VR c (.int k n) (.int k n) := by simp only [VR]
theorem VR.bool_mk {c : Sx} {b : Bool} : VR c (.bool b) (.bool b) := by simp only [VR]

theorem one_cell {c : Sx} {x : IV} {u : Value} (h : VR c x u) (hx : x.one = true) : u.oneCell' = true := by
  cases x <;> simp [IV.one] at hx <;> simp only [VR] at h
  all_goals first
    | (subst h; rfl)
    | (obtain ⟨us, rfl, _⟩ := h; rfl)
    | (obtain ⟨A, k, us, rfl, _⟩ := h; rfl)
    | (obtain ⟨_, A, k, rfl, _⟩ := h; rfl)
    | (obtain ⟨_, h2, _⟩ := h; cases u <;> simp [isPtr] at h2 <;> rfl)

theorem ones_cell {c : Sx} {xs : List IV} {us : List Value} (h : VRL c xs us) (hx : xs.all IV.one = true) : ∀ u ∈ us, u.oneCell' = true := by
  intro u hu
  obtain ⟨i, hi, rfl⟩ := List.mem_iff_getElem.1 hu
  have hl := h.length
  exact one_cell (h.get i (by omega) hi) (List.all_eq_true.1 hx _ (List.getElem_mem (by omega)))

theorem cells_VR {c : Sx} {v : IV} {u : Value} (h : VR c v u) (hv : v.isU = false) : (∃ us, u.cells = us.toArray ∧ VRL c v.cells us) := by
  have gen : ∀ x : IV, (∀ cs, x ≠ .agg cs) → VR c x u → u.cells = #[u] → ∃ us, u.cells = us.toArray ∧ VRL c [x] us := fun x _ hx hu => ⟨[u], hu, VRL.cons hx VRL.nil⟩
  cases v with
  | int k n => exact gen _ (by simp) h (by rw [h.int_]; rfl)
  | bool b => exact gen _ (by simp) h (by rw [h.bool_]; rfl)
  | str l => exact gen _ (by simp) h (by rw [h.str_]; rfl)
  | nilp => exact gen _ (by simp) h (by simp only [VR] at h; subst h; rfl)
  | clo f caps => exact gen _ (by simp) h (by simp only [VR] at h; obtain ⟨us, rfl, _⟩ := h; rfl)
  | sl f n cs =>
    have hu : u.cells = #[u] := by simp only [VR] at h; obtain ⟨A, k, us, rfl, _⟩ := h; rfl
    have hfull : VR c (.sl .full n cs) u ∨ f = .plain := by
      cases f with
      | plain => exact .inr rfl
      | full => exact .inl h
      | lit =>
        left
        simp only [VR] at h ⊢
        obtain ⟨A, k, us, h1, h2, h3, h4, h5, h6, h7, h8⟩ := h
        exact ⟨A, k, us, h1, h2, fun _ => h3 (by simp), by simp, h5, h6, h7, h8⟩
    cases f with
    | plain => exact gen _ (by simp) h hu
    | full => exact gen _ (by simp) h hu
    | lit => exact gen _ (by simp) (hfull.resolve_right (by simp)) hu
  | row x off n sz ver => exact gen _ (by simp) h (by simp only [VR] at h; obtain ⟨_, A, k, rfl, _⟩ := h; rfl)
  | ptr x off ver => exact gen _ (by simp) h (by simp only [VR] at h; obtain ⟨_, h2, _⟩ := h; cases u <;> first | rfl | (simp [isPtr] at h2; done))
  | addr cs => exact gen _ (by simp) h (by simp only [VR] at h; obtain ⟨A, us, rfl, _⟩ := h; rfl)
  | agg cs => simp only [VR] at h; obtain ⟨us, rfl, _, h3⟩ := h; exact ⟨us, rfl, h3⟩
  | tup vs => exact gen _ (by simp) h (by simp only [VR] at h; obtain ⟨us, rfl, _⟩ := h; rfl)
  | lits n sz cs => exact gen _ (by simp) h (by simp only [VR] at h; obtain ⟨A, us, rfl, _⟩ := h; rfl)
  | own n sz cs => simp only [VR] at h
  | anyB => exact gen _ (by simp) h (by simp only [VR] at h; obtain ⟨b, rfl⟩ := h; rfl)
  | undef => simp [IV.isU] at hv
end
end Go.Proofs.YtilbipknodpmmaaDoor
