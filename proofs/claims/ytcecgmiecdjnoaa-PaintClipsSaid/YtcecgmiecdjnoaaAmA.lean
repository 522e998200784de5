/- The abstract machine: values, blocks, states, and what each operation does to them. -/
import Derived.Tactics
import Derived.LoopN
import Derived.Below
import Derived.KernelRfl
import Derived.Laws.Sem
import Derived.Orders
import Derived.Laws.AppendOwn
import Derived.Laws.CopyRow
import Derived.Laws.Tables
import Derived.Laws.Rows
import Derived.DataElems
import Derived.ChangeSlices
import Derived.Deep.MidRow
import Derived.WideLaws
set_option linter.unusedVariables false
set_option linter.unusedSimpArgs false
namespace AM
open Go

/-! ### 1. Codes of data types -/
inductive Ty where
  | int (k : IntKind) | bool | str
  | slice (e : Ty) | pair (a b : Ty) | last (a : Ty) | ref (e : Ty) | vec (n : Nat) (e : Ty)
  deriving DecidableEq

@[reducible] def Ty.T : Ty → Type
  | .int _ => Int
  | .bool => Bool
  | .str => ByteArray
  | .slice e => List e.T
  | .pair a b => a.T × b.T
  | .last a => a.T
  | .ref e => Option e.T
  | .vec _ e => List e.T

def Ty.d : (t : Ty) → t.T
  | .int _ => (0 : Int)
  | .bool => false
  | .str => ByteArray.empty
  | .slice _ => []
  | .pair a b => (a.d, b.d)
  | .last a => a.d
  | .ref _ => none
  | .vec n e => List.replicate n e.d

def Ty.size : Ty → Nat
  | .pair a b => a.size + b.size
  | .last a => a.size
  | .vec n e => n * e.size
  | _ => 1

def Ty.agg : Ty → Bool
  | .pair _ _ | .last _ | .vec _ _ => true
  | _ => false

/-! ### 2. Values -/
inductive V where
  | junk
  | int (k : IntKind) (n : Int)
  | bool (b : Bool)
  | str (s : ByteArray)
  | agg (cs : List V)
  | im (e : Ty) (xs : List e.T)
  | own (b : Nat)
  | ownsub (b off len : Nat)
  | ptr (b off : Nat)
  | elt (b i : Nat) (p : List (Bool × Nat))
  | at_ (e : Ty) (x : e.T)
  | nilp
  | nils
  | fn (f : FuncId) (cs : List V)
  | tuple (vs : List V)

inductive Blk where
  | dead
  | cells (t : TypeId) (cs : List V)
  | arr (t : TypeId) (e : Ty) (xs : List e.T)
  | iter (s : ByteArray) (pos : Nat)

structure St where
  env : Nat → V
  mem : Nat → Blk

def upd {α : Type} (f : Nat → α) (k : Nat) (v : α) : Nat → α := fun i => bif Nat.beq i k then v else f i

def lookV : List (Nat × V) → Nat → V
  | [], _ => .junk
  | (k, v) :: r, i => bif Nat.beq i k then v else lookV r i
def lookB : List (Nat × Blk) → Nat → Blk
  | [], _ => .dead
  | (k, v) :: r, i => bif Nat.beq i k then v else lookB r i
/-- A state that is written out. -/
def stOf (l : List (Nat × V)) (m : List (Nat × Blk)) : St := ⟨lookV l, lookB m⟩

def St.put (s : St) (d : Option Nat) (v : V) : St :=
  match d with
  | some d => { s with env := upd s.env d v }
  | none => s
def St.blk (s : St) (b : Nat) (x : Blk) : St := { s with mem := upd s.mem b x }

/-! ### 3. Cells of data -/
def enc : (t : Ty) → t.T → List V
  | .int k, n => [.int k n]
  | .bool, b => [.bool b]
  | .str, s => [.str s]
  | .slice e, xs => [.im e xs]
  | .pair a b, x => enc a x.1 ++ enc b x.2
  | .last a, x => enc a x
  | .ref e, x => match x with | none => [.nilp] | some y => [.at_ e y]
  | .vec n e, xs => (List.range n).flatMap fun i => enc e (xs.getD i e.d)

def mkV (agg : Bool) (cs : List V) : V := bif agg then .agg cs else cs.headD .junk
def encV (t : Ty) (x : t.T) : V := mkV t.agg (enc t x)
def V.cellsOf : V → List V
  | .agg cs => cs
  | v => [v]

/-- A value that may be stored: it is no tuple, and it is known. -/
def V.sure : V → Bool
  | .junk | .tuple _ => false
  | _ => true

/-- A part of data: a field (false, k), an element of an array (true, k). -/
def fld : (t : Ty) → Bool → Nat → t.T → Option (Σ u : Ty, u.T)
  | .pair a _, false, 0, x => some ⟨a, x.1⟩
  | .pair _ b, false, k + 1, x => fld b false k x.2
  | .last a, false, 0, x => some ⟨a, x⟩
  | .vec _ e, true, k, x => some ⟨e, x.getD k e.d⟩
  | _, _, _, _ => none
def fldTy : Ty → Bool → Nat → Option Ty
  | .pair a _, false, 0 => some a
  | .pair _ b, false, k + 1 => fldTy b false k
  | .last a, false, 0 => some a
  | .vec _ e, true, _ => some e
  | _, _, _ => none
def fldOff : Ty → Bool → Nat → Nat
  | .pair a b, false, k + 1 => a.size + fldOff b false k
  | .vec _ e, true, k => k * e.size
  | _, _, _ => 0
def fldSet : (t : Ty) → Bool → Nat → ((u : Ty) → u.T → Option u.T) → t.T → Option t.T
  | .pair a _, false, 0, f, x => match f a x.1 with | some y => some (y, x.2) | none => none
  | .pair _ b, false, k + 1, f, x => match fldSet b false k f x.2 with | some y => some (x.1, y) | none => none
  | .last a, false, 0, f, x => f a x
  | .vec _ e, true, k, f, x => match f e (x.getD k e.d) with | some y => some (x.set k y) | none => none
  | _, _, _, _, _ => none

def getP : (t : Ty) → List (Bool × Nat) → t.T → Option (Σ u : Ty, u.T)
  | t, [], x => some ⟨t, x⟩
  | t, (v, k) :: p, x => match fld t v k x with
    | some ⟨u, y⟩ => getP u p y
    | none => none
def tyP : Ty → List (Bool × Nat) → Option Ty
  | t, [] => some t
  | t, (v, k) :: p => match fldTy t v k with
    | some u => tyP u p
    | none => none
def offP : Ty → List (Bool × Nat) → Nat
  | _, [] => 0
  | t, (v, k) :: p => match fldTy t v k with
    | some u => fldOff t v k + offP u p
    | none => 0
def stepOk : Ty → Bool → Nat → Bool
  | .vec n _, true, k => decide (k < n)
  | t, false, k => (fldTy t false k).isSome
  | _, true, _ => false
def okP : Ty → List (Bool × Nat) → Bool
  | _, [] => true
  | t, (v, k) :: p => stepOk t v k && (match fldTy t v k with | some u => okP u p | none => false)
def setP : List (Bool × Nat) → ((u : Ty) → u.T → Option u.T) → (t : Ty) → t.T → Option t.T
  | [], f, t, x => f t x
  | (v, k) :: p, f, t, x => fldSet t v k (setP p f) x

def decN {α : Type} (f : List V → Option (α × List V × List Nat)) : Nat → List V → Option (List α × List V × List Nat)
  | 0, cs => some ([], cs, [])
  | n + 1, cs => match f cs with
    | some (x, r, fs) => match decN f n r with
      | some (xs, r', gs) => some (x :: xs, r', fs ++ gs)
      | none => none
    | none => none
/-- Cells back as data; the blocks whose content went in are named. -/
def dec (m : Nat → Blk) : (t : Ty) → List V → Option (t.T × List V × List Nat)
  | .int k, v :: r => match v with
    | .int k' n => if k' = k then some (n, r, []) else none
    | _ => none
  | .bool, v :: r => match v with
    | .bool b => some (b, r, [])
    | _ => none
  | .str, v :: r => match v with
    | .str s => some (s, r, [])
    | _ => none
  | .slice e, v :: r => match v with
    | .im e' xs => if h : e' = e then some (h ▸ xs, r, []) else none
    | .nils => some ([], r, [])
    | .own b => match m b with
      | .arr _ e' xs => if h : e' = e then some (h ▸ xs, r, [b]) else none
      | _ => none
    | .ownsub b off len => match m b with
      | .arr _ e' xs => if h : e' = e then some (((h ▸ xs : List e.T).drop off).take len, r, [b]) else none
      | _ => none
    | _ => none
  | .pair a b, cs => match dec m a cs with
    | some (x, r, fs) => match dec m b r with
      | some (y, r', gs) => some ((x, y), r', fs ++ gs)
      | none => none
    | none => none
  | .last a, cs => dec m a cs
  | .ref e, v :: r => match v with
    | .nilp => some (none, r, [])
    | .at_ e' x => if h : e' = e then some (some (h ▸ x), r, []) else none
    | .ptr b 0 => match m b with
      | .cells _ cs => match dec m e cs with
        | some (x, [], fs) => some (some x, r, b :: fs)
        | _ => none
      | _ => none
    | _ => none
  | .vec n e, cs => bif Nat.beq n 0 then none else decN (dec m e) n cs
  | _, _ => none

def decV (m : Nat → Blk) (t : Ty) (v : V) : Option (t.T × List Nat) :=
  match dec m t v.cellsOf with
  | some (x, [], fs) => some (x, fs)
  | _ => none

/-! ### 4. References to a block go -/
mutual
def frz (b : Nat) (x : Blk) : V → V
  | .own b' => bif Nat.beq b' b then (match x with | .arr _ e xs => .im e xs | _ => .junk) else .own b'
  | .ownsub b' off len => bif Nat.beq b' b then (match x with | .arr _ e xs => .im e ((xs.drop off).take len) | _ => .junk) else .ownsub b' off len
  | .ptr b' off => bif Nat.beq b' b then .junk else .ptr b' off
  | .elt b' i p => bif Nat.beq b' b then .junk else .elt b' i p
  | .agg cs => .agg (frzs b x cs)
  | .fn f cs => .fn f (frzs b x cs)
  | .tuple cs => .tuple (frzs b x cs)
  | v => v
def frzs (b : Nat) (x : Blk) : List V → List V
  | [] => []
  | v :: r => frz b x v :: frzs b x r
end
def frzB (b : Nat) (x : Blk) : Blk → Blk
  | .cells t cs => .cells t (frzs b x cs)
  | y => y
/-- A block is given up: what read it reads what it held; pointers into it are forgotten. -/
def St.freeze1 (s : St) (b : Nat) : St :=
  ⟨fun k => frz b (s.mem b) (s.env k), upd (fun c => frzB b (s.mem b) (s.mem c)) b .dead⟩
def St.freeze (s : St) : List Nat → St
  | [] => s
  | b :: r => (s.freeze1 b).freeze r
/-- All that refers to a block is forgotten; the block stays. -/
def St.kill (s : St) (b : Nat) : St :=
  ⟨fun k => frz b .dead (s.env k), fun c => frzB b .dead (s.mem c)⟩

/-! ### 5. What the program's types are -/
inductive Kd where
  | struct (fs : List (Nat × TypeId)) | slice (e : TypeId) | array (n : Nat) (e : TypeId) | int (k : IntKind) | str | bool | ptr (e : TypeId) | other
structure TI where
  t : TypeId
  kd : Kd
  size : Nat
  bytes : Nat
  ty : Option Ty
  zero : List V
  eq : Bool := false
def TI.agg (i : TI) : Bool := match i.kd with | .struct _ | .array _ _ => true | _ => false
def Tab := List TI
def nth {α : Type} : List α → Nat → Option α
  | [], _ => none
  | x :: _, 0 => some x
  | _ :: r, n + 1 => nth r n
def Tab.get : Tab → TypeId → Option TI
  | [], _ => none
  | i :: r, t => bif Nat.beq i.t t then some i else Tab.get r t

mutual
def ofConst : Value → V
  | .bool b => .bool b
  | .int k n => .int k n
  | .string s => .str s
  | .pointer none => .nilp
  | .slice none 0 0 => .nils
  | .agg ⟨cs⟩ => bif cs.all (fun v => v.oneCell') then .agg (ofConsts cs) else .junk
  | _ => .junk
def ofConsts : List Value → List V
  | [] => []
  | v :: r => ofConst v :: ofConsts r
end

/-- Slots from here on are not the frame's: what they hold is kept along. -/
def GH : Nat := 1000000000
def St.val (s : St) : Operand → V
  | .tmp t => bif Nat.ble GH t then .junk else s.env t
  | .const v => ofConst v
  | .global _ => .junk
  | .func f => .fn f []

/-- Values of which nothing is asked: those of a new variable. -/
def zb : V → Value → Bool
  | .int k n, .int k' m => decide (k = k') && decide (n = m)
  | .bool b, .bool c => b == c
  | .str s, .string q => Nat.beq s.size 0 && Nat.beq q.size 0
  | .nils, .slice none 0 0 => true
  | .nilp, .pointer none => true
  | .junk, v => v.oneCell'
  | _, _ => false
def zbs : List V → List Value → Bool
  | [], [] => true
  | v :: r, u :: q => zb v u && zbs r q
  | _, _ => false
/-- The cells of a type's zero. -/
def encZ : Ty → List V
  | .int k => [.int k 0]
  | .bool => [.bool false]
  | .str => [.str ByteArray.empty]
  | .slice _ => [.nils]
  | .pair a b => encZ a ++ encZ b
  | .last a => encZ a
  | .ref _ => [.nilp]
  | .vec n e => (List.replicate n (encZ e)).flatten
def fieldsB (P : Program) : List (Nat × TypeId) → List Field → Bool
  | [], [] => true
  | (off, t) :: r, f :: q => Nat.beq off f.offset && Nat.beq t f.type && !(Nat.beq (P.cellsOf t) 0) && fieldsB P r q
  | _, _ => false
def kdB (P : Program) : Kd → Option TypeDesc → Bool
  | .struct fs, some (.struct gs) => fieldsB P fs gs.toList
  | .slice e, some (.slice e') => Nat.beq e e'
  | .array n e, some (.array n' e') => Nat.beq n n' && Nat.beq e e'
  | .int k, some (.int k') => decide (k = k')
  | .str, some .string => true
  | .bool, some .bool => true
  | .ptr e, some (.pointer e') => Nat.beq e e'
  | .other, some d => match d with | .struct _ | .array _ _ => false | _ => true
  | _, _ => false
/-- A struct of numbers, truth values and texts, that may be held against another one cell by cell. -/
def leaves : Ty → List Ty
  | .pair a b => leaves a ++ leaves b
  | .last a => leaves a
  | t => [t]
def eqFieldsB (P : Program) : Nat → List Ty → List Field → Bool
  | _, [], [] => true
  | k, t :: ts, f :: r => Nat.beq f.offset k && (f.name != "_") && (match t, P.underlying f.type with | .int _, some (.int _) => true | .bool, some .bool => true | .str, some .string => true | _, _ => false) && eqFieldsB P (k + 1) ts r
  | _, _, _ => false
def eqB (P : Program) (t : TypeId) (ty : Option Ty) : Bool :=
  !(P.stoodInHeld t) && !(P.eqGuardType P.depth t) && (match P.underlying t, ty with | some (.struct gs), some e => eqFieldsB P 0 (leaves e) gs.toList | _, _ => false)
def tiB (P : Program) (i : TI) : Bool :=
  match P.info? i.t with
  | some j => Nat.beq j.size i.size && Nat.beq j.bytes i.bytes && (kdB P i.kd (P.underlying i.t) && (i.agg || Nat.beq i.size 1) && (!i.eq || eqB P i.t i.ty)) &&
    (match j.zero with
     | some z => zbs i.zero z.cells.toList && (match i.ty with
       | some e => Nat.beq e.size i.size && (e.agg == i.agg) && zbs (encZ e) z.cells.toList
       | none => true)
     | none => false)
  | none => false
def tabB (P : Program) : Tab → Bool
  | [] => true
  | i :: r => tiB P i && tabB P r

/-! ### 6. Operations -/
def byteAt (s : ByteArray) (i : Nat) : Int := (((s.data.toList).getD i 0).toNat : Int)
def idxOk (i : Int) (n : Nat) : Bool := decide (0 ≤ i) && decide (i < (n : Int))
def sliceOk (l h : Int) (n : Nat) : Bool := decide (0 ≤ l) && decide (l ≤ h) && decide (h ≤ (n : Int))
def roomOk (n bytes : Nat) : Bool := decide (n * bytes ≤ 140737488355328)

def intOp (op : BinOp) (k : IntKind) (a b : Int) : Option (Bool × V) :=
  match op with
  | .add => some (true, .int k (k.wrap (a + b)))
  | .sub => some (true, .int k (k.wrap (a - b)))
  | .mul => some (true, .int k (k.wrap (a * b)))
  | .quo => some (!decide (b = 0), .int k (k.wrap (a.tdiv b)))
  | .rem => some (!decide (b = 0), .int k (a.tmod b))
  | .and => some (true, .int k (k.wrap ((BitVec.ofInt k.bits a &&& BitVec.ofInt k.bits b).toNat : Int)))
  | .or => some (true, .int k (k.wrap ((BitVec.ofInt k.bits a ||| BitVec.ofInt k.bits b).toNat : Int)))
  | .xor => some (true, .int k (k.wrap ((BitVec.ofInt k.bits a ^^^ BitVec.ofInt k.bits b).toNat : Int)))
  | .andNot => some (true, .int k (k.wrap ((BitVec.ofInt k.bits a &&& ~~~(BitVec.ofInt k.bits b)).toNat : Int)))
  | .eql => some (true, .bool (a == b))
  | .neq => some (true, .bool (a != b))
  | .lss => some (true, .bool (decide (a < b)))
  | .leq => some (true, .bool (decide (a ≤ b)))
  | .gtr => some (true, .bool (decide (a > b)))
  | .geq => some (true, .bool (decide (a ≥ b)))
  | _ => none

/-- A shift, as far as the bits go. -/
def shl (k : IntKind) (a b : Int) : Int := k.wrap (a * 2 ^ (min b.toNat k.bits))
def shr (k : IntKind) (a b : Int) : Int := a.fdiv (2 ^ (min b.toNat k.bits))

def strEq (a b : ByteArray) : Bool := a.toList == b.toList

def eqV : Ty → V → V → Option Bool
  | .int _, .int k a, .int k' b => if k = k' then some (a == b) else none
  | .bool, .bool a, .bool b => some (a == b)
  | .str, .str a, .str b => some (strEq a b)
  | _, _, _ => none
def eqVs : List Ty → List V → List V → Option Bool
  | [], [], [] => some true
  | t :: ts, a :: r, b :: q => match eqV t a b, eqVs ts r q with
    | some x, some y => some (bif x then y else false)
    | _, _ => none
  | _, _, _ => none

def catOk (a b : ByteArray) : Bool := decide (((a.size + b.size : Nat) : Int) ≤ 9223372036854775807)
def binV (op : BinOp) (x y : V) : Option (Bool × V) :=
  match op, x, y with
  | .shl, .int k a, .int _ b => some (decide (0 ≤ b), .int k (shl k a b))
  | .shr, .int k a, .int _ b => some (decide (0 ≤ b), .int k (shr k a b))
  | op, .int k a, .int k' b => if k = k' then intOp op k a b else none
  | .add, .str a, .str b => some (catOk a b, .str (a ++ b))
  | .eql, .str a, .str b => some (true, .bool (strEq a b))
  | .neq, .str a, .str b => some (true, .bool (!strEq a b))
  | .eql, .bool a, .bool b => some (true, .bool (a == b))
  | .neq, .bool a, .bool b => some (true, .bool (!(a == b)))
  | _, _, _ => none

def optNat : Option Operand → St → Int → Option Int
  | none, _, d => some d
  | some o, s, _ => match s.val o with
    | .int _ n => some n
    | _ => none

def cut {α : Type} (xs : List α) (l h : Int) : List α := (xs.drop l.toNat).take (h.toNat - l.toNat)

/-- The elements of a slice's value, at a type. -/
def srcL (m : Nat → Blk) (e : Ty) (v : V) : Option (List e.T) :=
  match dec m (.slice e) [v] with
  | some (xs, [], _) => some xs
  | _ => none

def setCells (cs : List V) (o : Nat) (vs : List V) : List V := cs.take o ++ vs ++ cs.drop (o + vs.length)

abbrev OpR := Option (Bool × V × St)

def fieldAddrA (tb : Tab) (s : St) (st : TypeId) (f : Nat) : V → OpR
  | .at_ e x => match tb.get st with
    | some { kd := .struct offs, .. } => match nth offs f, fld e false f x with
      | some (off, _), some ⟨u, y⟩ => bif Nat.beq off (fldOff e false f) then some (true, .at_ u y, s) else none
      | _, _ => none
    | _ => none
  | .ptr b o => match tb.get st with
    | some { kd := .struct offs, .. } => match nth offs f with
      | some (off, _) => some (true, .ptr b (o + off), s)
      | none => none
    | _ => none
  | .elt b i p => match tb.get st, s.mem b with
    | some { kd := .struct offs, .. }, .arr _ e _ => match nth offs f, tyP e p with
      | some (off, _), some u => bif (Nat.beq off (fldOff u false f) && (fldTy u false f).isSome) then some (true, .elt b i (p ++ [(false, f)]), s) else none
      | _, _ => none
    | _, _ => none
  | _ => none

def loadA (tb : Tab) (s : St) (t : TypeId) : V → OpR
  | .at_ e x => match tb.get t with
    | some i => bif (Nat.beq i.size e.size && (i.agg == e.agg)) then some (true, encV e x, s) else none
    | none => none
  | .ptr b o => match tb.get t, s.mem b with
    | some i, .cells _ cs => bif Nat.ble (o + i.size) cs.length then some (true, mkV i.agg ((cs.drop o).take i.size), s) else none
    | _, _ => none
  | .elt b i p => match tb.get t, s.mem b with
    | some j, .arr _ e xs => match getP e p (xs.getD i e.d) with
      | some ⟨u, y⟩ => bif (Nat.beq j.size u.size && (j.agg == u.agg)) then some (true, encV u y, s) else none
      | none => none
    | _, _ => none
  | _ => none

/-- What is stored at a part of an element. -/
def putF (s : St) (v : V) (t : Ty) (_ : t.T) : Option t.T := (decV s.mem t v).map (·.1)
def putNames (s : St) (v : V) (t : Ty) : List Nat := match decV s.mem t v with | some (_, fs) => fs | none => []

def hasN : List Nat → Nat → Bool
  | [], _ => false
  | x :: r, b => bif Nat.beq x b then true else hasN r b

def storeA (tb : Tab) (s : St) (t : TypeId) (a v : V) : OpR :=
  match a with
  | .ptr b o => match tb.get t, s.mem b with
    | some i, .cells tt cs => bif (v.sure && Nat.ble (o + i.size) cs.length && Nat.beq v.cellsOf.length i.size) then some (true, .junk, s.blk b (.cells tt (setCells cs o v.cellsOf))) else none
    | _, _ => none
  | .elt b i p => match tb.get t, s.mem b with
    | some j, .arr tt e xs => match tyP e p, setP p (putF s v) e (xs.getD i e.d) with
      | some u, some y => bif (Nat.beq j.size u.size && !(hasN (putNames s v u) b)) then some (true, .junk, (s.freeze (putNames s v u)).blk b (.arr tt e (xs.set i y))) else none
      | _, _ => none
    | _, _ => none
  | _ => none

def indexAddrA (tb : Tab) (s : St) (t : TypeId) (x ix : V) : OpR :=
  match ix with
  | .int _ n => match x with
    | .im e xs => match tb.get t with
      | some { kd := .slice et, .. } => match tb.get et with
        | some i => bif Nat.beq i.size e.size then some (idxOk n xs.length, .at_ e (xs.getD n.toNat e.d), s) else none
        | none => none
      | _ => none
    | .own b => match tb.get t, s.mem b with
      | some { kd := .slice et, .. }, .arr _ e xs => match tb.get et with
        | some i => bif Nat.beq i.size e.size then some (idxOk n xs.length, .elt b n.toNat [], s) else none
        | none => none
      | _, _ => none
    | .ownsub b off len => match tb.get t, s.mem b with
      | some { kd := .slice et, .. }, .arr _ e xs => match tb.get et with
        | some i => bif Nat.beq i.size e.size then some (idxOk n len, .elt b (off + n.toNat) [], s) else none
        | none => none
      | _, _ => none
    | .at_ (.vec m e) y => match tb.get t with
      | some { kd := .array m' et, .. } => match tb.get et with
        | some i => bif (Nat.beq i.size e.size && Nat.beq m m' && Nat.ble 2 m) then some (idxOk n m, .at_ e (y.getD n.toNat e.d), s) else none
        | none => none
      | _ => none
    | .ptr b o => match tb.get t with
      | some { kd := .array m' et, .. } => match tb.get et with
        | some i => bif Nat.ble 2 m' then some (idxOk n m', .ptr b (o + n.toNat * i.size), s) else none
        | none => none
      | _ => none
    | .elt b i p => match tb.get t, s.mem b with
      | some { kd := .array m' et, .. }, .arr _ e xs => match tb.get et, tyP e p with
        | some j, some (.vec m u) => bif (Nat.beq j.size u.size && Nat.beq m m' && Nat.ble 2 m) then some (idxOk n m, .elt b i (p ++ [(true, n.toNat)]), s) else none
        | _, _ => none
      | _, _ => none
    | _ => none
  | _ => none

def sliceA (tb : Tab) (s : St) (t : TypeId) (x : V) (lo hi mx : Option Operand) : OpR :=
  match mx with
  | some _ => none
  | none => match tb.get t with
    | some { kd := .str, .. } => match x with
      | .str b => match optNat lo s 0, optNat hi s b.size with
        | some l, some h => some (sliceOk l h b.size, .str (b.extract l.toNat h.toNat), s)
        | _, _ => none
      | _ => none
    | some { kd := .slice et, .. } => match tb.get et with
      | some i => match x with
        | .im e xs => match optNat lo s 0, optNat hi s xs.length with
          | some l, some h => bif Nat.beq i.size e.size then some (sliceOk l h xs.length, .im e (cut xs l h), s) else none
          | _, _ => none
        | .own b => match s.mem b with
          | .arr _ e xs => match optNat lo s 0, optNat hi s xs.length with
            | some l, some h => bif Nat.beq i.size e.size then some (sliceOk l h xs.length, .ownsub b l.toNat (h.toNat - l.toNat), s) else none
            | _, _ => none
          | _ => none
        | .ownsub b off len => match s.mem b with
          | .arr _ e xs => match optNat lo s 0, optNat hi s len with
            | some l, some h => bif Nat.beq i.size e.size then some (sliceOk l h len, .ownsub b (off + l.toNat) (h.toNat - l.toNat), s) else none
            | _, _ => none
          | _ => none
        | _ => none
      | none => none
    | _ => none

def fillIx : Nat → List (Nat × Operand) → Bool
  | _, [] => true
  | k, (i, _) :: r => Nat.beq i k && fillIx (k + 1) r

def decAll (s : St) (e : Ty) : List Operand → Option (List e.T × List Nat)
  | [] => some ([], [])
  | o :: r => match decV s.mem e (s.val o), decAll s e r with
    | some (x, fs), some (xs, gs) => some (x :: xs, fs ++ gs)
    | _, _ => none

/-- Does the name serve for a new block? -/
def St.free (s : St) (d : Nat) : Bool := match s.mem d with | .dead => true | _ => false

def bytesL (b : ByteArray) : List Int := b.data.toList.map fun (c : UInt8) => (c.toNat : Int)
def bytesAs (b : ByteArray) (e : Ty) : Option (List e.T) :=
  if h : Ty.int .u8 = e then some (h ▸ (bytesL b : List (Ty.int .u8).T)) else none

def srcA (m : Nat → Blk) (kd : Kd) (e : Ty) (y : V) : Option (List e.T) :=
  match kd with
  | .str => match y with
    | .str b => bytesAs b e
    | _ => none
  | .slice _ => srcL m e y
  | _ => none

def appendA (tb : Tab) (s : St) (d : Nat) (t tx : TypeId) (x y : V) : OpR :=
  match tb.get t, tb.get tx with
  | some { kd := .slice et, .. }, some ix => match tb.get et with
    | some i => match i.ty with
      | some e => bif (Nat.beq i.size e.size && Nat.ble 1 i.size && Nat.ble 1 i.bytes) then
        match srcA s.mem ix.kd e y with
        | some ys => match x with
          | .nils => bif s.free d then some (roomOk ys.length i.bytes, .own d, (s.kill d).blk d (.arr et e ys)) else none
          | .own b => match s.mem b with
            | .arr et' e' xs => if h : e' = e then (bif Nat.beq et' et then some (roomOk (xs.length + ys.length) i.bytes, .own b, (s.kill b).blk b (.arr et e ((h ▸ xs : List e.T) ++ ys))) else none) else none
            | _ => none
          | .ownsub b 0 len => match s.mem b with
            | .arr et' e' xs => if h : e' = e then (bif Nat.beq et' et then some (roomOk (len + ys.length) i.bytes, .own b, (s.kill b).blk b (.arr et e ((h ▸ xs : List e.T).take len ++ ys))) else none) else none
            | _ => none
          | _ => none
        | none => none
        else none
      | none => none
    | none => none
  | _, _ => none

def lenA (s : St) : V → Option V
  | .im _ xs => some (.int .i64 xs.length)
  | .nils => some (.int .i64 0)
  | .own b => match s.mem b with
    | .arr _ _ xs => some (.int .i64 xs.length)
    | _ => none
  | .ownsub _ _ len => some (.int .i64 len)
  | _ => none

def imax (x y : Int) : Int := if y > x then y else x
def imin (x y : Int) : Int := if y < x then y else x

def foldInt (f : Int → Int → Int) (k : IntKind) : Int → List V → Option Int
  | a, [] => some a
  | a, .int k' b :: r => if k' = k then foldInt f k (f a b) r else none
  | _, _ => none

def clearA (tb : Tab) (s : St) (t : TypeId) (x : V) : OpR :=
  match tb.get t with
  | some { kd := .slice et, .. } => match tb.get et with
    | some i => match i.ty with
      | some e => bif Nat.beq i.size e.size then
        match x with
        | .ownsub b off len => match s.mem b with
          | .arr et' e' xs => if h : e' = e then (some (true, .junk, s.blk b (.arr et' e ((h ▸ xs : List e.T).take off ++ List.replicate len e.d ++ (h ▸ xs : List e.T).drop (off + len))))) else none
          | _ => none
        | _ => none
        else none
      | none => none
    | none => none
  | _ => none

def builtinA (tb : Tab) (s : St) (d : Nat) (b : Builtin) (ts : List TypeId) (vs : List V) : OpR :=
  match b, vs with
  | .len, [x] => match ts with
    | t :: _ => match tb.get t with
      | some { kd := .str, .. } => match x with
        | .str b => some (true, .int .i64 b.size, s)
        | _ => none
      | some { kd := .slice _, .. } => match lenA s x with
        | some v => some (true, v, s)
        | none => none
      | _ => none
    | [] => none
  | .append, [x, y] => match ts with
    | [t, tx] => appendA tb s d t tx x y
    | _ => none
  | .max, .int k a :: r => match foldInt imax k a r with
    | some n => some (true, .int k n, s)
    | none => none
  | .min, .int k a :: r => match foldInt imin k a r with
    | some n => some (true, .int k n, s)
    | none => none
  | .clear, [x] => match ts with
    | t :: _ => clearA tb s t x
    | [] => none
  | _, _ => none


/-- Truth values are held against each other at a type of them. -/
def okTy (tb : Tab) (t : TypeId) (a b : V) : Bool := match a, b with
  | .bool _, .bool _ => match tb.get t with
    | some { kd := .bool, .. } => true
    | _ => false
  | _, _ => true

/-- A pointer against nil. -/
def ptrEq (tb : Tab) (t : TypeId) (op : BinOp) (a : V) (s : St) : OpR :=
  match tb.get t with
  | some { kd := .ptr _, .. } => match op, a with
    | .eql, .nilp => some (true, .bool true, s)
    | .neq, .nilp => some (true, .bool false, s)
    | .eql, .at_ _ _ | .eql, .ptr _ _ | .eql, .elt _ _ _ => some (true, .bool false, s)
    | .neq, .at_ _ _ | .neq, .ptr _ _ | .neq, .elt _ _ _ => some (true, .bool true, s)
    | _, _ => none
  | _ => none

def buildA (tb : Tab) (s : St) (offs : List (Nat × TypeId)) : List V → List (Nat × Operand) → Option (List V)
  | cs, [] => some cs
  | cs, (i, x) :: r => match nth offs i with
    | some (off, ft) => match tb.get ft with
      | some j => bif ((s.val x).sure && Nat.beq (s.val x).cellsOf.length j.size && Nat.ble (off + j.size) cs.length) then buildA tb s offs (setCells cs off (s.val x).cellsOf) r else none
      | none => none
    | none => none

def opA (tb : Tab) (s : St) (d : Nat) (o : Op) : OpR :=
  match o with
  | .move x | .assign x => some (true, s.val x, s)
  | .alloc t => match tb.get t with
    | some i => bif (s.free d && Nat.beq i.zero.length i.size) then some (true, .ptr d 0, s.blk d (.cells t i.zero)) else none
    | none => none
  | .box t x => bif (s.free d && (s.val x).sure) then some (true, .ptr d 0, s.blk d (.cells t (s.val x).cellsOf)) else none
  | .build t parts => match tb.get t with
    | some { kd := .struct offs, zero := z, .. } => match buildA tb s offs z parts.toList with
      | some cs => some (true, .agg cs, s)
      | none => none
    | _ => none
  | .buildSlice t n parts => match tb.get t with
    | some { kd := .slice et, .. } => match tb.get et with
      | some i => match i.ty with
        | some e => bif (s.free d && Nat.beq i.size e.size && Nat.beq n parts.toList.length && fillIx 0 parts.toList && Nat.ble (n * i.size) 1000000 && Nat.ble n 1000000) then
          match decAll s e (parts.toList.map (·.2)) with
          | some (xs, fs) => some (true, .own d, (s.freeze fs).blk d (.arr et e xs))
          | none => none
          else none
        | none => none
      | none => none
    | _ => none
  | .makeSlice t l c => match tb.get t with
    | some { kd := .slice et, .. } => match tb.get et with
      | some i => match i.ty with
        | some e => bif (s.free d && Nat.beq i.size e.size && Nat.ble 1 i.size && Nat.ble 1 i.bytes) then
          match s.val l, s.val c with
          | .int .i64 n, .int .i64 m => some (decide (0 ≤ n) && decide (n ≤ m) && roomOk m.toNat i.bytes, .own d, s.blk d (.arr et e (List.replicate n.toNat e.d)))
          | _, _ => none
          else none
        | none => none
      | none => none
    | _ => none
  | .load t a => loadA tb s t (s.val a)
  | .store t a x => storeA tb s t (s.val a) (s.val x)
  | .nilCheck x => match s.val x with
    | .at_ e y => some (true, .at_ e y, s)
    | .ptr b o => some (true, .ptr b o, s)
    | .elt b i p => some (true, .elt b i p, s)
    | _ => none
  | .binOp op t x y _ => match s.val x, s.val y with
    | .agg as, .agg bs => match tb.get t with
      | some i => match i.ty with
        | some e => bif i.eq then (match op, eqVs (leaves e) as bs with
          | .eql, some r => some (true, .bool r, s)
          | .neq, some r => some (true, .bool (!r), s)
          | _, _ => none) else none
        | none => none
      | none => none
    | a, .nilp => ptrEq tb t op a s
    | a, b => bif okTy tb t a b then (match binV op a b with
      | some (g, v) => some (g, v, s)
      | none => none) else none
  | .unOp .not _ x => match s.val x with
    | .bool b => some (true, .bool (!b), s)
    | _ => none
  | .unOp .neg _ x => match s.val x with
    | .int k n => some (true, .int k (k.wrap (0 - n)), s)
    | _ => none
  | .convert src dst x => match tb.get src with
    | some _ => (match tb.get dst, s.val x with
      | some { kd := .int k, .. }, .int _ n => some (true, .int k (k.wrap n), s)
      | some { kd := .str, .. }, .str b => some (true, .str b, s)
      | _, _ => none)
    | none => none
  | .slice t x lo hi mx => sliceA tb s t (s.val x) lo hi mx
  | .fieldAddr st x f => fieldAddrA tb s st f (s.val x)
  | .field st x f => match tb.get st, s.val x with
    | some { kd := .struct offs, .. }, .agg cs => match nth offs f with
      | some (off, ft) => match tb.get ft with
        | some i => bif Nat.ble (off + i.size) cs.length then some (true, mkV i.agg ((cs.drop off).take i.size), s) else none
        | none => none
      | none => none
    | _, _ => none
  | .indexAddr t x ix => indexAddrA tb s t (s.val x) (s.val ix)
  | .index t x ix => match tb.get t, s.val x, s.val ix with
    | some { kd := .str, .. }, .str b, .int _ n => some (idxOk n b.size, .int .u8 (byteAt b n.toNat), s)
    | _, _, _ => none
  | .extract x k => match s.val x with
    | .tuple vs => bif Nat.blt k vs.length then some (true, vs.getD k .junk, s) else none
    | _ => none
  | .makeFunc (.func f) ⟨[]⟩ captured => some (true, .fn f (captured.toList.map s.val), s)
  | .range t x => match s.val x with
    | .str b => match tb.get t with
      | some { kd := .str, .. } => bif s.free d then some (true, .ptr d 0, s.blk d (.iter b 0)) else none
      | _ => none
    | _ => none
  | .call { callee := .builtin b, args, argTypes } => builtinA tb s d b argTypes.toList (args.toList.map s.val)
  | _ => none
end AM
namespace AM
open Go

/-! ### 7. What is called -/
/-- What a call of a function does: arguments, the state, the name that a new block may take. -/
structure Spec where
  run : List V → St → Nat → Option (Bool × V × St)
  /-- The blocks that it touches. -/
  tw : List V → (Nat → Blk) → Nat → List Nat
def Tbl := FuncId → Option Spec

/-! ### 8. What a loop keeps -/
/-- The slots that live; the slots that are slices of the frame's own (with the element's type), whose block takes the slot's number; the blocks that stay. -/
structure Norm where
  live : List Nat
  own : List (Nat × TypeId × Ty)
  keep : List Nat
  /-- All blocks that the slots lead to stay too. -/
  auto : Bool := false

mutual
def ren (b c : Nat) : V → V
  | .own b' => bif Nat.beq b' b then .own c else .own b'
  | .ownsub b' o l => bif Nat.beq b' b then .ownsub c o l else .ownsub b' o l
  | .ptr b' o => bif Nat.beq b' b then .junk else .ptr b' o
  | .elt b' i p => bif Nat.beq b' b then .junk else .elt b' i p
  | .agg cs => .agg (rens b c cs)
  | .fn f cs => .fn f (rens b c cs)
  | .tuple cs => .tuple (rens b c cs)
  | v => v
def rens (b c : Nat) : List V → List V
  | [] => []
  | v :: r => ren b c v :: rens b c r
end
def renB (b c : Nat) : Blk → Blk
  | .cells t cs => .cells t (rens b c cs)
  | y => y

/-- A slot's slice lies in a block of the slot's number. -/
def St.canon (s : St) : List (Nat × TypeId × Ty) → St
  | [] => s
  | (k, t, e) :: r => (match s.env k with
    | .nils => (match s.mem k with | .dead => { env := upd s.env k (.own k), mem := upd s.mem k (.arr t e []) } | _ => s)
    | .own b => bif Nat.beq b k then s else (match s.mem k with
      | .dead => { env := fun i => ren b k (s.env i), mem := upd (upd (fun c => renB b k (s.mem c)) k (s.mem b)) b .dead }
      | _ => s)
    | _ => s : St).canon r

/-- Does a value speak of these blocks alone? -/
def okN (l : List Nat) (b : Nat) : Bool := hasN l b
mutual
def only (l : List Nat) : V → V
  | .own b => bif okN l b then .own b else .junk
  | .ownsub b o n => bif okN l b then .ownsub b o n else .junk
  | .ptr b o => bif okN l b then .ptr b o else .junk
  | .elt b i p => bif okN l b then .elt b i p else .junk
  | .agg cs => .agg (onlys l cs)
  | .fn f cs => .fn f (onlys l cs)
  | .tuple cs => .tuple (onlys l cs)
  | v => v
def onlys (l : List Nat) : List V → List V
  | [] => []
  | v :: r => only l v :: onlys l r
end
def onlyB (l : List Nat) : Blk → Blk
  | .cells t cs => .cells t (onlys l cs)
  | y => y

def Norm.names (n : Norm) : List Nat := n.own.map (·.1) ++ n.keep
mutual
def blksV : V → List Nat
  | .own b => [b]
  | .ownsub b _ _ => [b]
  | .ptr b _ => [b]
  | .elt b _ _ => [b]
  | .agg cs => blksVs cs
  | .fn _ cs => blksVs cs
  | .tuple cs => blksVs cs
  | _ => []
def blksVs : List V → List Nat
  | [] => []
  | v :: r => blksV v ++ blksVs r
end
def addN (x : Nat) (l : List Nat) : List Nat := bif hasN l x then l else x :: l
def unionN : List Nat → List Nat → List Nat
  | [], l => l
  | x :: r, l => addN x (unionN r l)
def moreB (m : Nat → Blk) (l : List Nat) : List Nat := l.foldr (fun b r => match m b with | .cells _ cs => unionN (blksVs cs) r | _ => r) l
def leadsTo (s : St) (live : List Nat) : List Nat := moreB s.mem (moreB s.mem (moreB s.mem (live.foldr (fun k r => unionN (blksV (s.env k)) r) [])))
def Norm.namesAt (n : Norm) (s : St) : List Nat := bif n.auto then leadsTo s n.live else n.names
/-- The state is written out anew: what lives, and nothing else. -/
def Norm.run (n : Norm) (s : St) : St :=
  stOf (n.live.map fun k => (k, only (n.namesAt (s.canon n.own)) ((s.canon n.own).env k))) ((n.namesAt (s.canon n.own)).map fun b => (b, onlyB (n.namesAt (s.canon n.own)) ((s.canon n.own).mem b)))

inductive Ex where
  | normal | exit (id : Nat) | ret

/-- Of a loop: what it keeps at its head, at an exit, at a return. -/
structure Ann where
  head : Norm
  out : Norm
  ret : Norm
/-- What a loop comes to. -/
structure LoopSum where
  sem : {R : Type} → St → (Ex → St → Option R) → Option R

def regId : Code → Nat
  | .region id _ _ => id
  | .seq a _ => regId a
  | .block _ b => regId b
  | .loop b => regId b
  | .scope b => regId b
  | _ => 0

/-! ### 9. May the operations of a region be carried out in the order of the text? -/
def isW : Op → Bool
  | .move _ | .assign _ | .pick .. | .load .. | .nilCheck _ | .binOp .. | .unOp .. | .convert .. | .slice .. | .fieldAddr .. | .field .. | .indexAddr .. | .index .. | .extract .. | .build .. | .makeFunc .. => false
  | .call { callee := .builtin .len, .. } | .call { callee := .builtin .max, .. } | .call { callee := .builtin .min, .. } => false
  | _ => true
def isCall : Op → Bool
  | .call { callee := .value _, .. } => true
  | _ => false

/-! ### 10. One operation -/
/-- The slots' number: a result that has no slot of its own is forgotten. -/
structure Cfg where
  tb : Tab
  tbl : Tbl
  nt : Nat
  sum : Nat → Option LoopSum := fun _ => none
  ann : Nat → Ann := fun _ => ⟨⟨[], [], [], false⟩, ⟨[], [], [], false⟩, ⟨[], [], [], false⟩⟩
  fuel : Nat := 0

def dstOf (o : Oper) : Nat := match o.dst with | some d => d | none => 0
def dstOk (nt : Nat) (o : Oper) : Bool := match o.dst with | some d => Nat.blt d nt | none => true

def nextK {R : Type} (s : St) (d : Nat) (x : V) (K : V → St → Option R) : Option R :=
  match x with
  | .ptr b 0 => match s.mem b with
    | .iter t pos => bif decide (pos < t.size) then
        K (.tuple [.bool true, .int .i64 pos, .int .i32 (Utf8.decode t pos).1]) (s.blk b (.iter t (pos + (Utf8.decode t pos).2)))
      else K (.tuple [.bool false]) s
    | _ => none
  | _ => none

/-- The calls of functions, and what is done at once. -/
def opC (c : Cfg) (s : St) (d : Nat) (o : Op) : OpR :=
  match o with
  | .call { callee := .value f, args, argTypes } => match s.val f with
    | .fn g cs => match c.tbl g with
      | some sp => sp.run (args.toList.map s.val ++ cs) s d
      | none => none
    | _ => none
  | o => opA c.tb s d o

/-- What an operation yields, and the state (its slot not yet written). -/
def opK {R : Type} (c : Cfg) (s : St) (d : Nat) (o : Op) (K : V → St → Option R) : Option R :=
  match o with
  | .pick x a b => match s.val x with
    | .bool t => bif t then K (s.val a) s else K (s.val b) s
    | _ => none
  | .next x true => nextK s d (s.val x) K
  | o => match opC c s d o with
    | some (g, v, s') => bif g then K v s' else none
    | none => none

/-- The blocks that an operation touches. -/
def twStore (s : St) (a v : V) : List Nat :=
  match a with
  | .ptr b _ => [b]
  | .elt b _ p => match s.mem b with
    | .arr _ e _ => match tyP e p with
      | some u => b :: putNames s v u
      | none => [b]
    | _ => [b]
  | _ => []
def twApp (d : Nat) : V → List Nat
  | .nils => [d]
  | .own b => [b]
  | .ownsub b _ _ => [b]
  | _ => []
def twClear : V → List Nat
  | .ownsub b _ _ => [b]
  | _ => []
def twBuild (tb : Tab) (s : St) (d : Nat) (t : TypeId) (os : List Operand) : List Nat :=
  match tb.get t with
  | some { kd := .slice et, .. } => match tb.get et with
    | some i => match i.ty with
      | some e => match decAll s e os with
        | some (_, fs) => d :: fs
        | none => [d]
      | none => [d]
    | none => [d]
  | _ => [d]
def twA (tb : Tab) (s : St) (d : Nat) (o : Op) : List Nat :=
  match o with
  | .alloc _ | .box _ _ | .makeSlice _ _ _ | .range _ _ => [d]
  | .buildSlice t _ parts => twBuild tb s d t (parts.toList.map (·.2))
  | .store _ a x => twStore s (s.val a) (s.val x)
  | .call { callee := .builtin .append, args, .. } => match args.toList.map s.val with
    | x :: _ => twApp d x
    | [] => []
  | .call { callee := .builtin .clear, args, .. } => match args.toList.map s.val with
    | x :: _ => twClear x
    | [] => []
  | .next x _ => match s.val x with
    | .ptr b _ => [b]
    | _ => []
  | _ => []
def twC (c : Cfg) (s : St) (d : Nat) (o : Op) : List Nat :=
  match o with
  | .call { callee := .value f, args, .. } => match s.val f with
    | .fn g cs => match c.tbl g with
      | some sp => sp.tw (args.toList.map s.val ++ cs) s.mem d
      | none => []
    | _ => []
  | o => twA c.tb s d o
def apartN : List Nat → List Nat → Bool
  | [], _ => true
  | x :: r, l => bif hasN l x then false else apartN r l

def guardSlot (ops : List Oper) (j : Nat) : Option Nat := match nth ops j with | some o => (match o.dst with | some g => bif Nat.ble GH g then none else some g | none => none) | none => none
/-- Is the operation wanted? Its guard's slot is written out. -/
def guardK {R : Type} (all : List Oper) (o : Oper) (s : St) (yes no : St → Option R) : Option R :=
  match o.guard with
  | none => yes s
  | some (j, want) => match guardSlot all j with
    | some g => match s.env g with
      | .bool b => bif b then
          (bif want then yes (s.put (some g) (.bool true)) else no (s.put (some g) (.bool true)))
        else
          (bif want then no (s.put (some g) (.bool false)) else yes (s.put (some g) (.bool false)))
      | .tuple [] => no s
      | _ => none
    | none => none
def oneK {R : Type} (c : Cfg) (s : St) (o : Oper) (K : St → Option R) : Option R :=
  bif dstOk c.nt o then opK c s (dstOf o) o.op (fun v s' => K (s'.put o.dst v)) else none
def skipK {R : Type} (c : Cfg) (s : St) (o : Oper) (K : St → Option R) : Option R :=
  bif dstOk c.nt o then K (s.put o.dst (.tuple [])) else none
def stepK {R : Type} (c : Cfg) (all : List Oper) (o : Oper) (K : St → Option R) (s : St) : Option R :=
  guardK all o s (fun s => oneK c s o K) (fun s => skipK c s o K)
def opsK {R : Type} (c : Cfg) (all : List Oper) (K : St → Option R) : List Oper → St → Option R
  | [], s => K s
  | o :: rest, s => stepK c all o (opsK c all K rest) s

/-- What the operations that only read have seen. -/
abbrev Log := List (Nat × List Nat)
def seenOf (s : St) (x : Oper) (v : V) : List Nat := moreB s.mem (blksVs (x.op.operands.toList.map s.val)) ++ blksV v
/-- 'wl': those before it that only read, and that may come behind it: it touches nothing that they have seen. -/
def oneL {R : Type} (c : Cfg) (i : Nat) (o : Oper) (wl : List Nat) (K : Log → St → Option R) (log : Log) (s : St) : Option R :=
  bif dstOk c.nt o then (bif isW o.op then
      (bif log.all (fun e => bif hasN wl e.1 then apartN (twC c s (dstOf o) o.op) e.2 else true) then opK c s (dstOf o) o.op (fun v s' => K log (s'.put o.dst v)) else none)
    else opK c s (dstOf o) o.op (fun v s' => K ((i, seenOf s o v) :: log) (s'.put o.dst v))) else none
def stepL {R : Type} (c : Cfg) (all : List Oper) (i : Nat) (o : Oper) (wl : List Nat) (K : Log → St → Option R) (log : Log) (s : St) : Option R :=
  guardK all o s (fun s => oneL c i o wl K log s) (fun s => skipK c s o (K log))
def opsL {R : Type} (c : Cfg) (all : List Oper) (K : St → Option R) : List (Nat × Oper × List Nat) → Log → St → Option R
  | [], _, s => K s
  | (i, o, wl) :: rest, log, s => stepL c all i o wl (opsL c all K rest) log s

/-! ### 10a. Regions whose operations come in any order -/
def aft (o : Oper) : List Nat := (o.after.toList.filter (fun e => Region.binds .any e)).map (·.on)
def reach (ops : List Oper) : Nat → Nat → List Nat
  | 0, _ => []
  | n + 1, i => match nth ops i with
    | some o => (aft o).flatMap fun j => j :: reach ops n j
    | none => []
def allIn : List Nat → List Nat → Bool
  | [], _ => true
  | x :: r, l => bif hasN l x then allIn r l else false
def firstB (p : Nat → Bool) : Nat → Nat → Option Nat
  | 0, _ => none
  | n + 1, i => bif p i then some i else firstB p n (i + 1)
def mayCome (ops : List Oper) (done : List Nat) (i : Nat) : Bool :=
  match nth ops i with
  | some o => !(hasN done i) && allIn (aft o) done
  | none => false
def isLAt (ops : List Oper) (i : Nat) : Bool := match nth ops i with | some o => !(isW o.op) | none => false
/-- What writes comes as late as can be. -/
def early (ops : List Oper) : Nat → List Nat → List Nat
  | 0, _ => []
  | n + 1, done => match firstB (fun i => mayCome ops done i && isLAt ops i) ops.length 0 with
    | some i => i :: early ops n (i :: done)
    | none => match firstB (fun i => mayCome ops done i) ops.length 0 with
      | some i => i :: early ops n (i :: done)
      | none => []
def isAlloc (o : Oper) : Bool := match o.op with | .alloc _ => o.guard.isNone | _ => false
def apartB (ops : List Oper) (x y : Oper) : Bool := x.apart ops.toArray y
/-- May the second come before the first? -/
def swapB (ops : List Oper) (x y : Oper) : Bool := apartB ops x y && (!(isW x.op) || (isAlloc x && isAlloc y))
def pairB (ops : List Oper) (i j : Nat) : Bool :=
  hasN (reach ops ops.length j) i || (match nth ops i, nth ops j with | some x, some y => swapB ops x y | _, _ => false)
def pairsB (ops : List Oper) : List Nat → Bool
  | [] => true
  | i :: r => r.all (pairB ops i) && pairsB ops r
def nodupB : List Nat → Bool
  | [] => true
  | i :: r => !(hasN r i) && nodupB r
/-- The operations before it that only read, and that may come behind it. -/
def watch (ops : List Oper) (j : Nat) : List Nat → List Nat
  | [] => []
  | i :: r => bif hasN (reach ops ops.length j) i then watch ops j r else i :: watch ops j r
def planOf (ops : List Oper) : List Nat → List Nat → List (Nat × Oper × List Nat)
  | _, [] => []
  | before, i :: r => match nth ops i with
    | some o => (i, o, watch ops i before) :: planOf ops (i :: before) r
    | none => planOf ops before r
/-- What is waited for comes before. -/
def linB (ops : List Oper) : List Nat → Bool
  | [] => true
  | i :: r => (match nth ops i with
    | some o => !(hasN (aft o) i) && (aft o).all (fun e => !(hasN r e) && Nat.blt e ops.length)
    | none => false) && linB ops r
def orderOk (ops : List Oper) (l : List Nat) : Bool :=
  (List.range ops.length).all (hasN l) && nodupB l && pairsB ops l && (linB ops l && Nat.beq l.length ops.length)

/-! ### 11. Statements -/
def loopK {R : Type} (f : St → (Ex → St → Option R) → Option R) (n : Ann) (K : Ex → St → Option R) : Nat → St → Option R
  | 0, _ => none
  | k + 1, s => f s (fun ex s' => match ex with
    | .normal => loopK f n K k (n.head.run s')
    | .exit i => K (.exit i) (n.out.run s')
    | .ret => K .ret (n.ret.run s'))

def exec {R : Type} (c : Cfg) : Code → St → (Ex → St → Option R) → Option R
  | .skip, s, K => K .normal s
  | .region _ ops draw, s, K => bif draw then (bif orderOk ops.toList (early ops.toList ops.toList.length []) then opsL c ops.toList (K .normal) (planOf ops.toList [] (early ops.toList ops.toList.length [])) [] s else none) else opsK c ops.toList (K .normal) ops.toList s
  | .seq a b, s, K => exec c a s (fun ex s' => match ex with
    | .normal => exec c b s' K
    | ex => K ex s')
  | .cond x a b, s, K => match s.val x with
    | .bool t => bif t then exec c a s K else exec c b s K
    | _ => none
  | .block id b, s, K => exec c b s (fun ex s' => match ex with
    | .exit i => bif Nat.beq i id then K .normal s' else K (.exit i) s'
    | ex => K ex s')
  | .loop b, s, K => match c.sum (regId b) with
    | some L => L.sem s K
    | none => loopK (fun s K => exec c b s K) (c.ann (regId b)) K c.fuel ((c.ann (regId b)).head.run s)
  | .exit id, s, K => K (.exit id) s
  | .ret, s, K => K .ret s
  | .label _, s, K => K .normal s
  | .scope b, s, K => exec c b s K
  | _, _, _ => none

def resV (s : St) (tb : Tab) : List ResultVar → Option (List V)
  | [] => some []
  | .tmp t :: r => match resV s tb r with
    | some vs => some (s.val (.tmp t) :: vs)
    | none => none
  | .cell a t :: r => match loadA tb s t (s.val (.tmp a)), resV s tb r with
    | some (true, v, _), some vs => some (v :: vs)
    | _, _ => none
def retV : List V → V
  | [v] => v
  | vs => .tuple vs

def argsAt : Nat → List V → List (Nat × V)
  | _, [] => []
  | k, v :: r => (k, v) :: argsAt (k + 1) r

/-- A function's body, called with arguments, slots that are kept along, blocks that are lent. -/
def execG {R : Type} (c : Cfg) (fn : Func) (args : List V) (gs : List (Nat × V)) (m : List (Nat × Blk)) (K : V → St → Option R) : Option R :=
  match fn.body with
  | some b => exec c b (stOf (argsAt 0 args ++ gs) m) (fun ex s => match ex with
    | .exit _ => none
    | _ => match resV s c.tb fn.results.toList with
      | some vs => K (retV vs) s
      | none => none)
  | none => none
/-- … with arguments that share nothing with the frame. -/
def execF {R : Type} (c : Cfg) (fn : Func) (args : List V) (m : List (Nat × Blk)) (K : V → St → Option R) : Option R := execG c fn args [] m K
end AM
namespace AM
open Go

/-! ### 1. Data in memory -/
def Els {α : Type} (R : α → List Value → Prop) : List α → List Value → Prop
  | [], us => us = []
  | x :: r, us => ∃ a b, us = a ++ b ∧ R x a ∧ Els R r b

theorem add_block (a : Addr) (j : Nat) : (a.add j).block = a.block := by unfold Addr.add; split <;> rfl
theorem drop_head {α : Type} {a b : List α} {n : Nat} (h : a.length = n) (k : Nat) : (a ++ b).drop ((k + 1) * n) = b.drop (k * n) := by
  rw [List.drop_append, List.drop_eq_nil_of_le (by rw [h, Nat.succ_mul]; omega), List.nil_append]
  congr 1; rw [h, Nat.succ_mul]; omega

def CellsAt (w : World) (a : Addr) (us : List Value) : Prop := ∀ (j : Nat) (u : Value), us[j]? = some u → w.cell? (a.add j) = some u

def RdC (ok : Nat → Prop) (w : World) : (t : Ty) → t.T → List Value → Prop
  | .int k, n, us => us = [.int k n]
  | .bool, b, us => us = [.bool b]
  | .str, s, us => us = [.string s]
  | .slice e, xs, us => ∃ A c vs, us = [.slice A xs.length c] ∧ xs.length ≤ c ∧ Els (fun x q => RdC ok w e x q) xs vs ∧ (0 < xs.length → ∃ a, A = some a ∧ ok a.block ∧ CellsAt w a vs)
  | .pair a b, x, us => ∃ p q, us = p ++ q ∧ RdC ok w a x.1 p ∧ RdC ok w b x.2 q
  | .last a, x, us => RdC ok w a x us
  | .ref e, x, us => match x with
    | none => us = [.pointer none]
    | some y => ∃ a vs, us = [.pointer (some a)] ∧ ok a.block ∧ RdC ok w e y vs ∧ CellsAt w a vs
  | .vec n e, xs, us => xs.length = n ∧ Els (fun x q => RdC ok w e x q) xs us

theorem Els.mono {α : Type} {R S : α → List Value → Prop} (h : ∀ x us, R x us → S x us) : ∀ {xs : List α} {us : List Value}, Els R xs us → Els S xs us
  | [], _, e => e
  | _ :: _, _, ⟨a, b, e, hr, ht⟩ => ⟨a, b, e, h _ _ hr, Els.mono h ht⟩
theorem Els.len {α : Type} {R : α → List Value → Prop} {n : Nat} (h : ∀ x us, R x us → us.length = n) : ∀ {xs : List α} {us : List Value}, Els R xs us → us.length = xs.length * n
  | [], us, e => by rw [show us = [] from e]; simp
  | _ :: r, us, ⟨a, b, e, hr, ht⟩ => by rw [e, List.length_append, h _ _ hr, Els.len h ht, List.length_cons, Nat.succ_mul, Nat.add_comm]
theorem Els.append {α : Type} {R : α → List Value → Prop} : ∀ {xs ys : List α} {us vs : List Value}, Els R xs us → Els R ys vs → Els R (xs ++ ys) (us ++ vs)
  | [], _, us, _, e, h => by rw [show us = [] from e]; exact h
  | _ :: _, _, _, _, ⟨a, b, e, hr, ht⟩, h => ⟨a, _, by rw [e, List.append_assoc], hr, Els.append ht h⟩
theorem Els.all {α : Type} {R : α → List Value → Prop} {P : Value → Prop} (h : ∀ x us, R x us → ∀ u ∈ us, P u) : ∀ {xs : List α} {us : List Value}, Els R xs us → ∀ u ∈ us, P u
  | [], us, e => by rw [show us = [] from e]; simp
  | _ :: r, us, ⟨a, b, e, hr, ht⟩ => by
    rw [e]
    intro u hu
    rcases List.mem_append.1 hu with hu | hu
    · exact h _ _ hr u hu
    · exact Els.all h ht u hu
/-- An element's cells. -/
theorem Els.get {α : Type} {R : α → List Value → Prop} {n : Nat} (h : ∀ x us, R x us → us.length = n) : ∀ {xs : List α} {us : List Value}, Els R xs us → ∀ (i : Nat) (x : α), xs[i]? = some x → R x ((us.drop (i * n)).take n)
  | [], _, _, i, x, hx => by simp at hx
  | y :: r, us, ⟨a, b, e, hr, ht⟩, 0, x, hx => by
    have : y = x := by simpa using hx
    subst this
    subst e
    have hl := h _ _ hr
    simp only [Nat.zero_mul, List.drop_zero]
    rw [← hl, List.take_left]
    exact hr
  | y :: r, us, ⟨a, b, e, hr, ht⟩, i + 1, x, hx => by
    subst e
    have hl := h _ _ hr
    have := Els.get h ht i x (by simpa using hx)
    rw [drop_head hl]
    exact this
theorem Els.drop {α : Type} {R : α → List Value → Prop} {n : Nat} (h : ∀ x us, R x us → us.length = n) : ∀ (k : Nat) {xs : List α} {us : List Value}, Els R xs us → Els R (xs.drop k) (us.drop (k * n))
  | 0, _, _, e => by simpa using e
  | k + 1, [], us, e => by rw [show us = [] from e]; simp [Els]
  | k + 1, _ :: r, us, ⟨a, b, e, hr, ht⟩ => by
    subst e
    have hl := h _ _ hr
    rw [drop_head hl]
    exact Els.drop h k ht
theorem Els.take {α : Type} {R : α → List Value → Prop} {n : Nat} (h : ∀ x us, R x us → us.length = n) : ∀ (k : Nat) {xs : List α} {us : List Value}, Els R xs us → Els R (xs.take k) (us.take (k * n))
  | 0, _, _, e => by simp [Els]
  | k + 1, [], us, e => by rw [show us = [] from e]; simp [Els]
  | k + 1, _ :: r, us, ⟨a, b, e, hr, ht⟩ => by
    subst e
    have hl := h _ _ hr
    refine ⟨a, b.take (k * n), ?_, hr, Els.take h k ht⟩
    rw [Nat.succ_mul, List.take_append]
    congr 1
    · rw [List.take_of_length_le (by omega)]
    · congr 1; omega
theorem Els.set {α : Type} {R : α → List Value → Prop} {n : Nat} (h : ∀ x us, R x us → us.length = n) : ∀ {xs : List α} {us : List Value}, Els R xs us → ∀ (i : Nat) (y : α) (vs : List Value), i < xs.length → R y vs → Els R (xs.set i y) (us.take (i * n) ++ vs ++ us.drop (i * n + n))
  | [], _, _, i, _, _, hi, _ => by simp at hi
  | x :: r, us, ⟨a, b, e, hr, ht⟩, 0, y, vs, _, hy => by
    subst e
    have hl := h _ _ hr
    refine ⟨vs, b, ?_, hy, ht⟩
    simp only [Nat.zero_mul, List.take_zero, List.nil_append, Nat.zero_add]
    rw [← hl, List.drop_left]
  | x :: r, us, ⟨a, b, e, hr, ht⟩, i + 1, y, vs, hi, hy => by
    subst e
    have hl := h _ _ hr
    refine ⟨a, _, ?_, hr, Els.set h ht i y vs (by simpa using hi) hy⟩
    have e1 : (a ++ b).take ((i + 1) * n) = a ++ b.take (i * n) := by
      rw [Nat.succ_mul, List.take_append, List.take_of_length_le (by omega)]
      congr 2; omega
    have e2 : (a ++ b).drop ((i + 1) * n + n) = b.drop (i * n + n) := by
      rw [List.drop_append, List.drop_eq_nil_of_le (by rw [hl, Nat.succ_mul]; omega), List.nil_append]
      congr 1; rw [hl, Nat.succ_mul]; omega
    rw [e1, e2, List.append_assoc, List.append_assoc, List.append_assoc]
theorem Els.replicate {α : Type} {R : α → List Value → Prop} {x : α} {vs : List Value} (h : R x vs) : ∀ n, Els R (List.replicate n x) (List.replicate n vs).flatten
  | 0 => rfl
  | n + 1 => ⟨vs, _, by simp [List.replicate_succ], h, Els.replicate h n⟩

theorem RdC.len {ok : Nat → Prop} {w : World} : ∀ (t : Ty) {x : t.T} {us : List Value}, RdC ok w t x us → us.length = t.size
  | .int _, _, _, h => by rw [show _ = _ from h]; rfl
  | .bool, _, _, h => by rw [show _ = _ from h]; rfl
  | .str, _, _, h => by rw [show _ = _ from h]; rfl
  | .slice _, _, _, ⟨_, _, _, h, _⟩ => by rw [h]; rfl
  | .pair a b, _, _, ⟨p, q, h, hp, hq⟩ => by rw [h, List.length_append, RdC.len a hp, RdC.len b hq]; rfl
  | .last a, _, _, h => RdC.len a h
  | .ref _, none, _, h => by rw [show _ = _ from h]; rfl
  | .ref _, some _, _, ⟨_, _, h, _⟩ => by rw [h]; rfl
  | .vec n e, xs, us, ⟨h, he⟩ => by
    have := Els.len (fun x us hx => RdC.len e hx) he
    rw [this, h]; rfl

theorem RdC.one {ok : Nat → Prop} {w : World} : ∀ (t : Ty) {x : t.T} {us : List Value}, RdC ok w t x us → ∀ u ∈ us, u.oneCell' = true
  | .int _, _, _, h => by rw [show _ = _ from h]; simp [Value.oneCell']
  | .bool, _, _, h => by rw [show _ = _ from h]; simp [Value.oneCell']
  | .str, _, _, h => by rw [show _ = _ from h]; simp [Value.oneCell']
  | .slice _, _, _, ⟨_, _, _, h, _⟩ => by rw [h]; simp [Value.oneCell']
  | .pair a b, _, _, ⟨p, q, h, hp, hq⟩ => by
    rw [h]
    intro u hu
    rcases List.mem_append.1 hu with hu | hu
    · exact RdC.one a hp u hu
    · exact RdC.one b hq u hu
  | .last a, _, _, h => RdC.one a h
  | .ref _, none, _, h => by rw [show _ = _ from h]; simp [Value.oneCell']
  | .ref _, some _, _, ⟨_, _, h, _⟩ => by rw [h]; simp [Value.oneCell']
  | .vec n e, xs, us, ⟨h, he⟩ => Els.all (fun x us hx => RdC.one e hx) he

/-- What lies in good blocks stays when these are good still and hold what they held. -/
theorem RdC.mono {ok ok' : Nat → Prop} {w w' : World} (hok : ∀ g, ok g → ok' g) (hw : ∀ (a : Addr) (u : Value), ok a.block → w.cell? a = some u → w'.cell? a = some u) :
    ∀ (t : Ty) {x : t.T} {us : List Value}, RdC ok w t x us → RdC ok' w' t x us
  | .int _, _, _, h => h
  | .bool, _, _, h => h
  | .str, _, _, h => h
  | .slice e, _, _, ⟨A, c, vs, h, hc, he, hz⟩ => ⟨A, c, vs, h, hc, Els.mono (fun x us => RdC.mono hok hw e) he, fun hn => by
      obtain ⟨a, ha, ho, hcell⟩ := hz hn
      exact ⟨a, ha, hok _ ho, fun j u hu => hw _ _ (by rw [add_block]; exact ho) (hcell j u hu)⟩⟩
  | .pair a b, _, _, ⟨p, q, h, hp, hq⟩ => ⟨p, q, h, RdC.mono hok hw a hp, RdC.mono hok hw b hq⟩
  | .last a, _, _, h => RdC.mono hok hw a h
  | .ref _, none, _, h => h
  | .ref e, some _, _, ⟨a, vs, h, ho, hr, hcell⟩ => ⟨a, vs, h, hok _ ho, RdC.mono hok hw e hr, fun j u hu => hw _ _ (by rw [add_block]; exact ho) (hcell j u hu)⟩
  | .vec _ e, _, _, ⟨h, he⟩ => ⟨h, Els.mono (fun x us => RdC.mono hok hw e) he⟩

/-! ### 2. Values -/
structure Cx where
  ok : Nat → Prop
  w : World
  loc : Nat → Value
  mem : Nat → Blk

def blkOf : Value → Option Nat
  | .pointer (some a) => some a.block
  | .slice (some a) _ _ => some a.block
  | _ => none

def isArr : Blk → Prop | .arr _ _ _ => True | _ => False
def isCell : Blk → Prop | .cells _ _ => True | .iter _ _ => True | _ => False

mutual
def VR (x : Cx) : V → Value → Prop
  | .junk, _ => True
  | .int k n, u => u = .int k n
  | .bool b, u => u = .bool b
  | .str s, u => u = .string s
  | .agg cs, u => ∃ us : List Value, u = .agg us.toArray ∧ VRs x cs us ∧ ∀ q ∈ us, q.oneCell' = true
  | .im e xs, u => RdC x.ok x.w (.slice e) xs [u]
  | .own b, u => u = x.loc b ∧ isArr (x.mem b)
  | .ownsub b off len, u => ∃ t e xs A n c, x.mem b = .arr t e xs ∧ x.loc b = .slice A n c ∧ off + len ≤ xs.length ∧ ∃ c', len ≤ c' ∧ off + c' = c ∧
      ((A = none ∧ u = .slice none len c') ∨ ∃ g, A = some ⟨g, 0, none⟩ ∧ ((u = .slice (some ⟨g, off * e.size, none⟩) len c') ∨ (c' = 0 ∧ off ≠ 0 ∧ ∃ a, u = .slice (some a) 0 0)))
  | .ptr b off, u => isCell (x.mem b) ∧ ∃ g, x.loc b = .pointer (some ⟨g, 0, none⟩) ∧ u = .pointer (some ⟨g, off, none⟩)
  | .elt b i p, u => ∃ t e xs g n c, x.mem b = .arr t e xs ∧ i < xs.length ∧ x.loc b = .slice (some ⟨g, 0, none⟩) n c ∧ okP e p = true ∧ u = .pointer (some ⟨g, i * e.size + offP e p, none⟩)
  | .at_ e y, u => ∃ a vs, u = .pointer (some a) ∧ x.ok a.block ∧ RdC x.ok x.w e y vs ∧ CellsAt x.w a vs
  | .nilp, u => u = .pointer none
  | .nils, u => u = .slice none 0 0
  | .fn f cs, u => ∃ us : List Value, u = .func (.func f) #[] us.toArray ∧ VRs x cs us
  | .tuple vs, u => ∃ us : List Value, u = .tuple us.toArray ∧ VRs x vs us
def VRs (x : Cx) : List V → List Value → Prop
  | [], us => us = []
  | v :: r, us => ∃ u q, us = u :: q ∧ VR x v u ∧ VRs x r q
end

/-- What a block holds. -/
def BR (x : Cx) (b : Nat) : Blk → Prop
  | .dead => True
  | .cells t cs => ∃ g us, x.loc b = .pointer (some ⟨g, 0, none⟩) ∧ x.w.heap[g]? = some (.cells us.toArray t (0, 0)) ∧ VRs x cs us ∧ ∀ u ∈ us, u.oneCell' = true
  | .arr t e xs => ∃ flat, x.w.ownsRow 0 t e.size (x.loc b) xs.length flat ∧ Els (fun y q => RdC x.ok x.w e y q) xs flat
  | .iter s pos => ∃ g, x.loc b = .pointer (some ⟨g, 0, none⟩) ∧ x.w.heap[g]? = some (.stringIter s pos)

def live (m : Nat → Blk) (b : Nat) : Prop := m b ≠ .dead
/-- The frame: the world in which the call began; the old blocks that it may write; those that it may not see. -/
structure Fr where
  w0 : World
  foot : Nat → Prop
  nt : Nat
  hide : Nat → Prop
  ghost : Nat → Value
  hl : ∀ g, hide g → g < w0.heap.size ∧ ¬ foot g

def owned (m : Nat → Blk) (loc : Nat → Value) (g : Nat) : Prop := ∃ b, live m b ∧ blkOf (loc b) = some g
def okOf (F : Fr) (m : Nat → Blk) (loc : Nat → Value) (w : World) (g : Nat) : Prop := (g < w.heap.size ∧ ¬ F.hide g) ∧ ¬ owned m loc g
def cxOf (F : Fr) (s : St) (loc : Nat → Value) (w : World) : Cx := ⟨okOf F s.mem loc w, w, loc, s.mem⟩

structure Kept (F : Fr) (w : World) : Prop where
  os : w.os = F.w0.os
  tape : w.tape = F.w0.tape
  output : w.output = F.w0.output
  size : F.w0.heap.size ≤ w.heap.size
  block : ∀ k, k < F.w0.heap.size → ¬ F.foot k → w.heap[k]? = F.w0.heap[k]?

/-- What a slot holds. -/
def slotV (F : Fr) (a : Act) (k : Nat) : Value := if GH ≤ k ∧ F.nt ≤ k then F.ghost k else a.tmps.getD k undef
structure RelL (F : Fr) (s : St) (loc : Nat → Value) (a : Act) (w : World) : Prop where
  blk : ∀ b, BR (cxOf F s loc w) b (s.mem b)
  inj : ∀ b b' g, live s.mem b → live s.mem b' → blkOf (loc b) = some g → blkOf (loc b') = some g → b = b'
  low : ∀ b g, live s.mem b → blkOf (loc b) = some g → F.foot g ∨ F.w0.heap.size ≤ g
  env : ∀ k, VR (cxOf F s loc w) (s.env k) (slotV F a k)
  size : a.tmps.size = F.nt
  defers : a.defers = []
  kept : Kept F w

def Rel (F : Fr) (s : St) (a : Act) (w : World) : Prop := ∃ loc, RelL F s loc a w

/-! ### 3. What is kept -/
/-- A block that was there is as it was, as far as pointers and slices into it see. -/
def Alike (m : Blk) (l : Value) (m' : Blk) (l' : Value) : Prop :=
  m = .dead ∨ (l' = l ∧ match m, m' with
    | .cells _ _, .cells _ _ => True
    | .iter _ _, .iter _ _ => True
    | .arr t e xs, .arr t' e' xs' => t' = t ∧ e' = e ∧ xs'.length = xs.length
    | _, _ => False)

structure Cx.le (x x' : Cx) : Prop where
  ok : ∀ g, x.ok g → x'.ok g
  cell : ∀ (a : Addr) (u : Value), x.ok a.block → x.w.cell? a = some u → x'.w.cell? a = some u
  alike : ∀ b, Alike (x.mem b) (x.loc b) (x'.mem b) (x'.loc b)

theorem Alike.arr {m m' : Blk} {l l' : Value} (h : Alike m l m' l') {t : TypeId} {e : Ty} {xs : List e.T} (hm : m = .arr t e xs) : l' = l ∧ ∃ xs' : List e.T, m' = .arr t e xs' ∧ xs'.length = xs.length := by
  subst hm
  rcases h with h | ⟨hl, h⟩
  · cases h
  · refine ⟨hl, ?_⟩
    cases m' with
    | arr t' e' xs' =>
      obtain ⟨rfl, rfl, h⟩ := h
      exact ⟨xs', rfl, h⟩
    | _ => exact h.elim
theorem Alike.isArr {m m' : Blk} {l l' : Value} (h : Alike m l m' l') (hm : isArr m) : l' = l ∧ AM.isArr m' := by
  cases m with
  | arr t e xs => obtain ⟨hl, xs', rfl, _⟩ := h.arr rfl; exact ⟨hl, trivial⟩
  | _ => exact hm.elim
theorem Alike.isCell {m m' : Blk} {l l' : Value} (h : Alike m l m' l') (hm : isCell m) : l' = l ∧ AM.isCell m' := by
  cases m with
  | cells t cs =>
    rcases h with h | ⟨hl, h⟩
    · cases h
    · refine ⟨hl, ?_⟩
      cases m' <;> first | trivial | exact h.elim
  | iter s p =>
    rcases h with h | ⟨hl, h⟩
    · cases h
    · refine ⟨hl, ?_⟩
      cases m' <;> first | trivial | exact h.elim
  | _ => exact hm.elim

mutual
theorem VR.mono {x x' : Cx} (h : x.le x') : ∀ (v : V) (u : Value), VR x v u → VR x' v u
  | .junk, _, _ => trivial
  | .int _ _, _, e => e
  | .bool _, _, e => e
  | .str _, _, e => e
  | .agg cs, _, ⟨us, e, hs, h1⟩ => ⟨us, e, VRs.mono h cs us hs, h1⟩
  | .im e xs, _, hr => RdC.mono h.ok h.cell (.slice e) hr
  | .own b, u, ⟨e, ha⟩ => by
    obtain ⟨hl, ha'⟩ := (h.alike b).isArr ha
    exact ⟨by rw [e, hl], ha'⟩
  | .ownsub b off len, u, ⟨t, e, xs, A, n, c, hm, hl, hle, rest⟩ => by
    obtain ⟨hl', xs', hm', hn⟩ := (h.alike b).arr hm
    exact ⟨t, e, xs', A, n, c, hm', by rw [hl', hl], by omega, rest⟩
  | .ptr b off, u, ⟨hc, g, hl, e⟩ => by
    obtain ⟨hl', hc'⟩ := (h.alike b).isCell hc
    exact ⟨hc', g, by rw [hl', hl], e⟩
  | .elt b i p, u, ⟨t, e, xs, g, n, c, hm, hi, hl, hp, he⟩ => by
    obtain ⟨hl', xs', hm', hn⟩ := (h.alike b).arr hm
    exact ⟨t, e, xs', g, n, c, hm', by omega, by rw [hl', hl], hp, he⟩
  | .at_ e y, _, ⟨a, vs, hu, ho, hr, hc⟩ => ⟨a, vs, hu, h.ok _ ho, RdC.mono h.ok h.cell e hr, fun j u hj => h.cell _ _ (by rw [add_block]; exact ho) (hc j u hj)⟩
  | .nilp, _, e => e
  | .nils, _, e => e
  | .fn f cs, _, ⟨us, e, hs⟩ => ⟨us, e, VRs.mono h cs us hs⟩
  | .tuple cs, _, ⟨us, e, hs⟩ => ⟨us, e, VRs.mono h cs us hs⟩
theorem VRs.mono {x x' : Cx} (h : x.le x') : ∀ (vs : List V) (us : List Value), VRs x vs us → VRs x' vs us
  | [], _, e => e
  | v :: r, _, ⟨u, q, e, hv, hr⟩ => ⟨u, q, e, VR.mono h v u hv, VRs.mono h r q hr⟩
end

theorem VRs.len {x : Cx} : ∀ {vs : List V} {us : List Value}, VRs x vs us → us.length = vs.length
  | [], us, e => by rw [show us = [] from e]; rfl
  | _ :: _, _, ⟨u, q, e, _, hr⟩ => by rw [e, List.length_cons, List.length_cons, VRs.len hr]
theorem VRs.append {x : Cx} : ∀ {vs ws : List V} {us qs : List Value}, VRs x vs us → VRs x ws qs → VRs x (vs ++ ws) (us ++ qs)
  | [], _, us, _, e, h => by rw [show us = [] from e]; exact h
  | _ :: _, _, _, _, ⟨u, q, e, hv, hr⟩, h => ⟨u, q ++ _, by rw [e]; rfl, hv, VRs.append hr h⟩
theorem VRs.get {x : Cx} : ∀ {vs : List V} {us : List Value}, VRs x vs us → ∀ (i : Nat) (v : V), vs[i]? = some v → ∃ u, us[i]? = some u ∧ VR x v u
  | [], _, _, i, v, h => by simp at h
  | _ :: _, _, ⟨u, q, e, hv, hr⟩, 0, v, h => by
    have := Option.some.inj (by simpa using h)
    subst this
    exact ⟨u, by rw [e]; rfl, hv⟩
  | _ :: _, _, ⟨u, q, e, hv, hr⟩, i + 1, v, h => by
    obtain ⟨u', h1, h2⟩ := VRs.get hr i v (by simpa using h)
    exact ⟨u', by rw [e]; simpa using h1, h2⟩
theorem VRs.drop {x : Cx} : ∀ (n : Nat) {vs : List V} {us : List Value}, VRs x vs us → VRs x (vs.drop n) (us.drop n)
  | 0, _, _, h => by simpa using h
  | n + 1, [], us, e => by rw [show us = [] from e]; simp [VRs]
  | n + 1, _ :: _, _, ⟨u, q, e, hv, hr⟩ => by rw [e]; exact VRs.drop n hr
theorem VRs.take {x : Cx} : ∀ (n : Nat) {vs : List V} {us : List Value}, VRs x vs us → VRs x (vs.take n) (us.take n)
  | 0, _, _, h => by simp [VRs]
  | n + 1, [], us, e => by rw [show us = [] from e]; simp [VRs]
  | n + 1, _ :: _, _, ⟨u, q, e, hv, hr⟩ => by rw [e]; exact ⟨u, q.take n, rfl, hv, VRs.take n hr⟩

/-- Data's cells read as its values. -/
theorem VRs_enc {x : Cx} : ∀ (t : Ty) {y : t.T} {us : List Value}, RdC x.ok x.w t y us → VRs x (enc t y) us
  | .int _, _, us, h => ⟨_, [], h, rfl, rfl⟩
  | .bool, _, us, h => ⟨_, [], h, rfl, rfl⟩
  | .str, _, us, h => ⟨_, [], h, rfl, rfl⟩
  | .slice e, xs, us, h => by
    obtain ⟨A, c, vs, rfl, hr⟩ := h
    exact ⟨_, [], rfl, ⟨A, c, vs, rfl, hr⟩, rfl⟩
  | .pair a b, y, us, ⟨p, q, e, hp, hq⟩ => by
    rw [e]; exact VRs.append (VRs_enc a hp) (VRs_enc b hq)
  | .last a, y, us, h => VRs_enc a h
  | .ref e, none, us, h => ⟨_, [], h, rfl, rfl⟩
  | .ref e, some y, us, ⟨a, vs, h, hr⟩ => ⟨_, [], h, ⟨a, vs, rfl, hr⟩, rfl⟩
  | .vec n e, xs, us, h => by
    obtain ⟨hn, he⟩ := h
    rw [← hn]
    have key : ∀ (xs : List e.T) (us : List Value), Els (fun x_1 q => RdC x.ok x.w e x_1 q) xs us → VRs x ((List.range xs.length).flatMap fun i => enc e (xs.getD i e.d)) us := by
      intro xs
      induction xs with
      | nil => intro us h; rw [show us = [] from h]; simp [VRs]
      | cons y r ih =>
        intro us h
        obtain ⟨a, b, rfl, ha, hb⟩ := h
        rw [List.length_cons, List.range_succ_eq_map, List.flatMap_cons, List.flatMap_map]
        exact VRs.append (VRs_enc e ha) (ih _ hb)
    exact key xs us he
end AM
namespace AM
open Go

theorem upd_same {α : Type} (f : Nat → α) (k : Nat) (v : α) : upd f k v k = v := by simp [upd]
theorem upd_other {α : Type} (f : Nat → α) (k : Nat) (v : α) {i : Nat} (h : i ≠ k) : upd f k v i = f i := by
  simp only [upd]
  have : Nat.beq i k = false := by
    cases hb : Nat.beq i k
    · rfl
    · exact absurd (Nat.eq_of_beq_eq_true hb) h
  rw [this]; rfl
theorem beq_ne {i k : Nat} (h : i ≠ k) : Nat.beq i k = false := by
  cases hb : Nat.beq i k
  · rfl
  · exact absurd (Nat.eq_of_beq_eq_true hb) h
theorem beq_self (k : Nat) : Nat.beq k k = true := by simp

/-! ### 1. A slot is written -/
theorem RelL.put {F : Fr} {s : St} {loc : Nat → Value} {a : Act} {w : World} (h : RelL F s loc a w) (d : Option Nat) (hd : ∀ k, d = some k → k < F.nt) {v : V} {u : Value} (hv : VR (cxOf F s loc w) v u) :
    RelL F (s.put d v) loc (a.put d u) w := by
  cases d with
  | none => exact h
  | some k =>
    have hk := hd k rfl
    refine ⟨h.blk, h.inj, h.low, fun i => ?_, by simpa [Act.put] using h.size, h.defers, h.kept⟩
    have hslot : ∀ b : Act, slotV F b i = if GH ≤ i ∧ F.nt ≤ i then F.ghost i else b.tmps.getD i undef := fun _ => rfl
    show VR (cxOf F s loc w) (upd s.env k v i) (slotV F (a.put (some k) u) i)
    have henv := h.env i
    rw [hslot] at henv ⊢
    show VR (cxOf F s loc w) (upd s.env k v i) (if GH ≤ i ∧ F.nt ≤ i then F.ghost i else (a.tmps.setIfInBounds k u).getD i undef)
    by_cases hi : i = k
    · subst hi
      rw [upd_same, if_neg (by omega)]
      have : (a.tmps.setIfInBounds i u).getD i undef = u := by
        have : i < a.tmps.size := by rw [h.size]; exact hk
        simp [Array.getD_eq_getD_getElem?, this]
      rw [this]; exact hv
    · rw [upd_other _ _ _ hi]
      have : (a.tmps.setIfInBounds k u).getD i undef = a.tmps.getD i undef := by
        simp [Array.getD_eq_getD_getElem?, Array.getElem?_setIfInBounds_ne (Ne.symm hi)]
      rw [this]; exact henv

/-! ### 2. Blocks are kept -/
theorem ownsRow_of_block {w w' : World} {t : TypeId} {size n : Nat} {v : Value} {xs : List Value} (h : w.ownsRow 0 t size v n xs) (hb : ∀ g, blkOf v = some g → w'.heap[g]? = w.heap[g]?) : w'.ownsRow 0 t size v n xs := by
  refine ⟨h.1, ?_⟩
  rcases h.2 with hn | ⟨g, cap, cur, rfl, h0, hg, rest⟩
  · exact .inl hn
  · exact .inr ⟨g, cap, cur, rfl, h0, by rw [hb g rfl]; exact hg, rest⟩

theorem BR.mono {x x' : Cx} (h : x.le x') {b : Nat} (hl : x'.loc b = x.loc b) (hb : ∀ g, blkOf (x.loc b) = some g → x'.w.heap[g]? = x.w.heap[g]?) :
    ∀ {m : Blk}, BR x b m → BR x' b m
  | .dead, _ => trivial
  | .cells t cs, ⟨g, us, e, hg, hs, h1⟩ => ⟨g, us, by rw [hl, e], by rw [hb g (by rw [e]; rfl)]; exact hg, VRs.mono h _ _ hs, h1⟩
  | .arr t e xs, ⟨flat, ho, he⟩ => ⟨flat, by rw [hl]; exact ownsRow_of_block ho hb, Els.mono (fun y q => RdC.mono h.ok h.cell e) he⟩
  | .iter s p, ⟨g, e, hg⟩ => ⟨g, by rw [hl, e], by rw [hb g (by rw [e]; rfl)]; exact hg⟩

/-- A live block that has a place lies in memory. -/
theorem BR.lt {x : Cx} {b g : Nat} (hb : blkOf (x.loc b) = some g) : ∀ {m : Blk}, m ≠ .dead → BR x b m → g < x.w.heap.size
  | .dead, h, _ => absurd rfl h
  | .cells t cs, _, ⟨g', us, e, hg, hs, h1⟩ => by
    rw [e] at hb; injection hb with hb; subst hb
    exact (Array.getElem?_eq_some_iff.1 hg).1
  | .arr t e xs, _, ⟨flat, ho, he⟩ => by
    rcases ho.2 with ⟨hv, _⟩ | ⟨g', cap, cur, hv, h0, hg, rest⟩
    · rw [hv] at hb; cases hb
    · rw [hv] at hb; injection hb with hb; subst hb
      exact (Array.getElem?_eq_some_iff.1 hg).1
  | .iter s p, _, ⟨g', e, hg⟩ => by
    rw [e] at hb; injection hb with hb; subst hb
    exact (Array.getElem?_eq_some_iff.1 hg).1

theorem RelL.lt {F : Fr} {s : St} {loc : Nat → Value} {a : Act} {w : World} (h : RelL F s loc a w) {b g : Nat} (hb : live s.mem b) (hg : blkOf (loc b) = some g) : g < w.heap.size :=
  BR.lt (x := cxOf F s loc w) hg hb (h.blk b)

/-- What a state owns is not hidden. -/
theorem RelL.seen {F : Fr} {s : St} {loc : Nat → Value} {a : Act} {w : World} (h : RelL F s loc a w) {b g : Nat} (hb : live s.mem b) (hg : blkOf (loc b) = some g) : ¬ F.hide g := fun hh => by
  obtain ⟨h1, h2⟩ := F.hl g hh
  rcases h.low b g hb hg with h3 | h3
  · exact h2 h3
  · omega

/-- The world turned without a block being written: draws. -/
structure Quiet (w w' : World) : Prop where
  os : w'.os = w.os
  tape : w'.tape = w.tape
  output : w'.output = w.output
  heap : w'.heap = w.heap
theorem Quiet.refl (w : World) : Quiet w w := ⟨rfl, rfl, rfl, rfl⟩
theorem Quiet.drew (w : World) : Quiet w w.drew := ⟨rfl, rfl, rfl, rfl⟩
theorem Quiet.trans {a b c : World} (h : Quiet a b) (k : Quiet b c) : Quiet a c := ⟨k.os.trans h.os, k.tape.trans h.tape, k.output.trans h.output, k.heap.trans h.heap⟩
theorem Quiet.cell {w w' : World} (h : Quiet w w') (a : Addr) : w'.cell? a = w.cell? a := by simp [World.cell?, h.heap]

theorem RelL.quiet {F : Fr} {s : St} {loc : Nat → Value} {a : Act} {w w' : World} (h : RelL F s loc a w) (q : Quiet w w') : RelL F s loc a w' := by
  have hle : (cxOf F s loc w).le (cxOf F s loc w') := by
    refine ⟨fun g hg => ⟨⟨by show g < w'.heap.size; rw [q.heap]; exact hg.1.1, hg.1.2⟩, hg.2⟩, fun a u _ hc => by show w'.cell? a = _; rw [q.cell]; exact hc, fun b => ?_⟩
    show Alike (s.mem b) (loc b) (s.mem b) (loc b)
    cases hm : s.mem b with
    | dead => exact .inl rfl
    | arr t e xs => exact .inr ⟨rfl, rfl, rfl, rfl⟩
    | cells t cs => exact .inr ⟨rfl, trivial⟩
    | iter t p => exact .inr ⟨rfl, trivial⟩
  refine ⟨fun b => (h.blk b).mono hle rfl (fun g _ => by show w'.heap[g]? = _; rw [q.heap]; rfl), h.inj, h.low, fun k => VR.mono hle _ _ (h.env k), h.size, h.defers, ?_⟩
  exact ⟨q.os.trans h.kept.os, q.tape.trans h.kept.tape, q.output.trans h.kept.output, by rw [q.heap]; exact h.kept.size, fun k hk hf => by rw [q.heap]; exact h.kept.block k hk hf⟩

theorem Alike.refl (m : Blk) (l : Value) : Alike m l m l := by
  cases m with
  | dead => exact .inl rfl
  | arr t e xs => exact .inr ⟨rfl, rfl, rfl, rfl⟩
  | cells t cs => exact .inr ⟨rfl, trivial⟩
  | iter t p => exact .inr ⟨rfl, trivial⟩

/-! ### 3. A new block -/
theorem RelL.alloc {F : Fr} {s : St} {loc : Nat → Value} {a : Act} {w : World} (h : RelL F s loc a w) {d : Nat} (hd : s.mem d = .dead) (o : Obj) (x : Blk) (val : Value) (hval : blkOf val = some w.heap.size)
    (hbr : (cxOf F s loc w).le (cxOf F (s.blk d x) (upd loc d val) (w.alloc o)) → BR (cxOf F (s.blk d x) (upd loc d val) (w.alloc o)) d x) :
    RelL F (s.blk d x) (upd loc d val) a (w.alloc o) ∧ (cxOf F s loc w).le (cxOf F (s.blk d x) (upd loc d val) (w.alloc o)) := by
  have hother : ∀ b, b ≠ d → (s.blk d x).mem b = s.mem b ∧ upd loc d val b = loc b := fun b hb => ⟨upd_other _ _ _ hb, upd_other _ _ _ hb⟩
  have hlive : ∀ b, b ≠ d → (live (s.blk d x).mem b ↔ live s.mem b) := fun b hb => by unfold live; rw [(hother b hb).1]
  have hle : (cxOf F s loc w).le (cxOf F (s.blk d x) (upd loc d val) (w.alloc o)) := by
    refine ⟨fun g hg => ⟨⟨?_, hg.1.2⟩, ?_⟩, fun p u hp hc => ?_, fun b => ?_⟩
    · have := hg.1.1
      show g < (w.alloc o).heap.size
      rw [World.size_alloc]; omega
    · rintro ⟨b, hb, hbg⟩
      by_cases hbd : b = d
      · subst hbd
        have hbg' : blkOf (upd loc b val b) = some g := hbg
        rw [upd_same, hval] at hbg'
        injection hbg' with e
        have := hg.1.1
        omega
      · have hb' : live s.mem b := (hlive b hbd).1 hb
        have hbg' : blkOf (loc b) = some g := by rw [← (hother b hbd).2]; exact hbg
        exact hg.2 ⟨b, hb', hbg'⟩
    · show (w.alloc o).cell? p = some u
      rw [World.cell?_alloc_lt w o p hp.1.1]; exact hc
    · show Alike (s.mem b) (loc b) ((s.blk d x).mem b) (upd loc d val b)
      by_cases hbd : b = d
      · subst hbd; rw [hd]; exact .inl rfl
      · rw [(hother b hbd).1, (hother b hbd).2]; exact Alike.refl _ _
  refine ⟨⟨fun b => ?_, fun b b' g hb hb' hg hg' => ?_, fun b g hb hg => ?_, fun k => VR.mono hle _ _ (h.env k), h.size, h.defers, ?_⟩, hle⟩
  · by_cases hbd : b = d
    · subst hbd
      have := hbr hle
      show BR _ b (upd s.mem b x b)
      rw [upd_same]; exact this
    · rw [(hother b hbd).1]
      by_cases hdead : s.mem b = .dead
      · rw [hdead]; trivial
      · exact (h.blk b).mono hle (hother b hbd).2 (fun g hg => heap_alloc_old w o g (h.lt hdead hg))
  · by_cases hbd : b = d
    · by_cases hbd' : b' = d
      · rw [hbd, hbd']
      · exfalso
        subst hbd
        rw [upd_same, hval] at hg
        injection hg with hg
        have h1 := (hlive b' hbd').1 hb'
        rw [(hother b' hbd').2] at hg'
        have := h.lt h1 hg'
        omega
    · by_cases hbd' : b' = d
      · exfalso
        subst hbd'
        rw [upd_same, hval] at hg'
        injection hg' with hg'
        have h1 := (hlive b hbd).1 hb
        rw [(hother b hbd).2] at hg
        have := h.lt h1 hg
        omega
      · rw [(hother b hbd).2] at hg
        rw [(hother b' hbd').2] at hg'
        exact h.inj b b' g ((hlive b hbd).1 hb) ((hlive b' hbd').1 hb') hg hg'
  · by_cases hbd : b = d
    · subst hbd
      rw [upd_same, hval] at hg
      injection hg with hg
      have := h.kept.size
      right; omega
    · rw [(hother b hbd).2] at hg
      exact h.low b g ((hlive b hbd).1 hb) hg
  · exact ⟨h.kept.os, h.kept.tape, h.kept.output, by have := h.kept.size; rw [World.size_alloc]; omega, fun k hk hf => by
      rw [heap_alloc_old w o k (by have := h.kept.size; omega)]; exact h.kept.block k hk hf⟩

/-! ### 4. A block is written in place -/
theorem RelL.write {F : Fr} {s : St} {loc : Nat → Value} {a : Act} {w w' : World} (h : RelL F s loc a w) {b g : Nat} (hb : live s.mem b) (hg : blkOf (loc b) = some g)
    (hos : w'.os = w.os) (htape : w'.tape = w.tape) (hout : w'.output = w.output) (hsize : w'.heap.size = w.heap.size) (hheap : ∀ k, k ≠ g → w'.heap[k]? = w.heap[k]?) (x : Blk)
    (hal : Alike (s.mem b) (loc b) x (loc b)) (hx : x ≠ .dead)
    (hbr : (cxOf F s loc w).le (cxOf F (s.blk b x) loc w') → BR (cxOf F (s.blk b x) loc w') b x) :
    RelL F (s.blk b x) loc a w' ∧ (cxOf F s loc w).le (cxOf F (s.blk b x) loc w') := by
  have hother : ∀ c, c ≠ b → (s.blk b x).mem c = s.mem c := fun c hc => upd_other _ _ _ hc
  have hsame : (s.blk b x).mem b = x := upd_same _ _ _
  have hlive : ∀ c, live (s.blk b x).mem c ↔ live s.mem c := fun c => by
    by_cases hc : c = b
    · subst hc
      unfold live
      rw [hsame]
      exact ⟨fun _ => hb, fun _ => hx⟩
    · unfold live; rw [hother c hc]
  have hle : (cxOf F s loc w).le (cxOf F (s.blk b x) loc w') := by
    refine ⟨fun k hk => ⟨⟨?_, hk.1.2⟩, ?_⟩, fun p u hp hc => ?_, fun c => ?_⟩
    · show k < w'.heap.size
      rw [hsize]; exact hk.1.1
    · rintro ⟨c, hc, hcg⟩
      exact hk.2 ⟨c, (hlive c).1 hc, hcg⟩
    · show w'.cell? p = some u
      have hpg : p.block ≠ g := fun e => hp.2 ⟨b, hb, by rw [hg, e]⟩
      rw [World.cell?_of_block (hheap p.block hpg)]; exact hc
    · show Alike (s.mem c) (loc c) ((s.blk b x).mem c) (loc c)
      by_cases hc : c = b
      · subst hc; rw [hsame]; exact hal
      · rw [hother c hc]; exact Alike.refl _ _
  refine ⟨⟨fun c => ?_, fun c c' k hc hc' hk hk' => h.inj c c' k ((hlive c).1 hc) ((hlive c').1 hc') hk hk', fun c k hc hk => h.low c k ((hlive c).1 hc) hk, fun k => VR.mono hle _ _ (h.env k), h.size, h.defers, ?_⟩, hle⟩
  · by_cases hc : c = b
    · subst hc; rw [hsame]; exact hbr hle
    · rw [hother c hc]
      by_cases hdead : s.mem c = .dead
      · rw [hdead]; trivial
      · refine (h.blk c).mono hle rfl (fun k hk => hheap k (fun e => ?_))
        subst e
        exact hc (h.inj c b k hdead hb hk hg)
  · refine ⟨hos.trans h.kept.os, htape.trans h.kept.tape, hout.trans h.kept.output, by rw [hsize]; exact h.kept.size, fun k hk hf => ?_⟩
    rw [hheap k (fun e => ?_)]
    · exact h.kept.block k hk hf
    · subst e
      rcases h.low b k hb hg with h1 | h1
      · exact hf h1
      · omega

/-! ### 5. References go -/
/-- Behind it block 'b' is not what it was: nothing else is asked of the values that do not speak of it. -/
structure Cx.leB (b : Nat) (x x' : Cx) : Prop where
  ok : ∀ g, x.ok g → x'.ok g
  cell : ∀ (a : Addr) (u : Value), x.ok a.block → x.w.cell? a = some u → x'.w.cell? a = some u
  alike : ∀ c, c ≠ b → Alike (x.mem c) (x.loc c) (x'.mem c) (x'.loc c)

/-- What the block held reads as data now. -/
def Gave (x x' : Cx) (b : Nat) (m : Blk) : Prop :=
  ∀ t e xs, m = .arr t e xs →
    (x.mem b = m → RdC x'.ok x'.w (.slice e) xs [x.loc b]) ∧
    (x.mem b = m → ∀ off len u, VR x (.ownsub b off len) u → RdC x'.ok x'.w (.slice e) ((xs.drop off).take len) [u])

mutual
theorem VR_frz {x x' : Cx} {b : Nat} (h : x.leB b x') (m : Blk) (hm : m = .dead ∨ (x.mem b = m ∧ Gave x x' b m)) : ∀ (v : V) (u : Value), VR x v u → VR x' (frz b m v) u
  | .junk, _, _ => trivial
  | .int _ _, _, e => e
  | .bool _, _, e => e
  | .str _, _, e => e
  | .agg cs, _, ⟨us, e, hs, h1⟩ => ⟨us, e, VRs_frz h m hm cs us hs, h1⟩
  | .im e xs, _, hr => RdC.mono h.ok h.cell (.slice e) hr
  | .own c, u, ⟨e, ha⟩ => by
    simp only [frz]
    by_cases hc : c = b
    · subst hc
      rw [beq_self]
      simp only [cond_true]
      rcases hm with rfl | ⟨hxm, hgv⟩
      · trivial
      · cases m with
        | arr t e' xs =>
          show RdC x'.ok x'.w (.slice e') xs [u]
          rw [e]
          exact (hgv t e' xs rfl).1 hxm
        | _ => trivial
    · rw [beq_ne hc]
      simp only [cond_false]
      obtain ⟨hl, ha'⟩ := (h.alike c hc).isArr ha
      exact ⟨by rw [e, hl], ha'⟩
  | .ownsub c off len, u, hv => by
    simp only [frz]
    by_cases hc : c = b
    · subst hc
      rw [beq_self]
      simp only [cond_true]
      rcases hm with rfl | ⟨hxm, hgv⟩
      · trivial
      · cases m with
        | arr t e' xs =>
          exact (hgv t e' xs rfl).2 hxm off len u hv
        | _ => trivial
    · rw [beq_ne hc]
      simp only [cond_false]
      obtain ⟨t, e, xs, A, n, c', hm', hl, hle, rest⟩ := hv
      obtain ⟨hl', xs', hm'', hn⟩ := (h.alike c hc).arr hm'
      exact ⟨t, e, xs', A, n, c', hm'', by rw [hl', hl], by omega, rest⟩
  | .ptr c off, u, hv => by
    simp only [frz]
    by_cases hc : c = b
    · subst hc; rw [beq_self]; trivial
    · rw [beq_ne hc]
      obtain ⟨hcc, g, hl, e⟩ := hv
      obtain ⟨hl', hc'⟩ := (h.alike c hc).isCell hcc
      exact ⟨hc', g, by rw [hl', hl], e⟩
  | .elt c i p, u, hv => by
    simp only [frz]
    by_cases hc : c = b
    · subst hc; rw [beq_self]; trivial
    · rw [beq_ne hc]
      obtain ⟨t, e, xs, g, n, c', hm', hi, hl, hp, he⟩ := hv
      obtain ⟨hl', xs', hm'', hn⟩ := (h.alike c hc).arr hm'
      exact ⟨t, e, xs', g, n, c', hm'', by omega, by rw [hl', hl], hp, he⟩
  | .at_ e y, _, ⟨a, vs, hu, ho, hr, hc⟩ => ⟨a, vs, hu, h.ok _ ho, RdC.mono h.ok h.cell e hr, fun j u hj => h.cell _ _ (by rw [add_block]; exact ho) (hc j u hj)⟩
  | .nilp, _, e => e
  | .nils, _, e => e
  | .fn f cs, _, ⟨us, e, hs⟩ => ⟨us, e, VRs_frz h m hm cs us hs⟩
  | .tuple cs, _, ⟨us, e, hs⟩ => ⟨us, e, VRs_frz h m hm cs us hs⟩
theorem VRs_frz {x x' : Cx} {b : Nat} (h : x.leB b x') (m : Blk) (hm : m = .dead ∨ (x.mem b = m ∧ Gave x x' b m)) : ∀ (vs : List V) (us : List Value), VRs x vs us → VRs x' (frzs b m vs) us
  | [], _, e => e
  | v :: r, _, ⟨u, q, e, hv, hr⟩ => ⟨u, q, e, VR_frz h m hm v u hv, VRs_frz h m hm r q hr⟩
end

theorem frzB_live {b : Nat} {m : Blk} {c : Blk} : frzB b m c = .dead ↔ c = .dead := by cases c <;> simp [frzB]

theorem RelL.kill {F : Fr} {s : St} {loc : Nat → Value} {a : Act} {w : World} (h : RelL F s loc a w) (b : Nat) : RelL F (s.kill b) loc a w := by
  have hal : ∀ c, Alike (s.mem c) (loc c) ((s.kill b).mem c) (loc c) := fun c => by
    show Alike (s.mem c) (loc c) (frzB b .dead (s.mem c)) (loc c)
    cases hm : s.mem c with
    | dead => exact .inl rfl
    | arr t e xs => exact .inr ⟨rfl, rfl, rfl, rfl⟩
    | cells t cs => exact .inr ⟨rfl, trivial⟩
    | iter t p => exact .inr ⟨rfl, trivial⟩
  have hlive : ∀ c, live (s.kill b).mem c ↔ live s.mem c := fun c => not_congr frzB_live
  have hok : ∀ g, okOf F s.mem loc w g ↔ okOf F (s.kill b).mem loc w g := fun g =>
    ⟨fun hg => ⟨hg.1, fun ⟨c, hc, hcg⟩ => hg.2 ⟨c, (hlive c).1 hc, hcg⟩⟩, fun hg => ⟨hg.1, fun ⟨c, hc, hcg⟩ => hg.2 ⟨c, (hlive c).2 hc, hcg⟩⟩⟩
  have hle : (cxOf F s loc w).le (cxOf F (s.kill b) loc w) := ⟨fun g hg => (hok g).1 hg, fun p u _ hc => hc, hal⟩
  have hleB : (cxOf F s loc w).leB b (cxOf F (s.kill b) loc w) := ⟨hle.ok, hle.cell, fun c _ => hal c⟩
  refine ⟨fun c => ?_, fun c c' g hc hc' hg hg' => h.inj c c' g ((hlive c).1 hc) ((hlive c').1 hc') hg hg', fun c g hc hg => h.low c g ((hlive c).1 hc) hg, fun k => VR_frz hleB .dead (.inl rfl) _ _ (h.env k), h.size, h.defers, h.kept⟩
  have hb := h.blk c
  show BR _ c (frzB b .dead (s.mem c))
  cases hm : s.mem c with
  | dead => trivial
  | cells t cs =>
    rw [hm] at hb
    obtain ⟨g, us, e, hg, hs, h1⟩ := hb
    exact ⟨g, us, e, hg, VRs_frz hleB .dead (.inl rfl) _ _ hs, h1⟩
  | arr t e xs => rw [hm] at hb; exact hb.mono hle rfl (fun g _ => rfl)
  | iter t p => rw [hm] at hb; exact hb.mono hle rfl (fun g _ => rfl)

/-- What an array of the frame's own holds is data, once nobody writes it. -/
theorem arr_gives {x x' : Cx} {b : Nat} {t : TypeId} {e : Ty} {xs : List e.T} (hok : ∀ g, x.ok g → x'.ok g) (hw : x'.w = x.w) (hnew : ∀ g, blkOf (x.loc b) = some g → x'.ok g) (hbr : BR x b (.arr t e xs)) :
    Gave x x' b (.arr t e xs) := by
  intro t' e' xs' heq
  injection heq with h1 h2 h3
  subst h1; subst h2
  have h3 := eq_of_heq h3
  subst h3
  obtain ⟨flat, ho, he⟩ := hbr
  have hmono : ∀ (y : e.T) (q : List Value), RdC x.ok x.w e y q → RdC x'.ok x'.w e y q := fun y q hr => RdC.mono hok (fun a u _ hc => by rw [hw]; exact hc) e hr
  have hlen : ∀ (y : e.T) (q : List Value), RdC x'.ok x'.w e y q → q.length = e.size := fun y q hq => RdC.len e hq
  have he' := Els.mono hmono he
  refine ⟨fun _ => ?_, fun hmb off len u hv => ?_⟩
  · rcases ho.2 with ⟨hv, hn⟩ | ⟨g, cap, cur, hv, h0, hg, hnc, hcm, hcs, htake⟩
    · refine ⟨none, 0, flat, ?_, by omega, he', fun hp => by omega⟩
      rw [hv, hn]
    · refine ⟨some ⟨g, 0, none⟩, cap, flat, by rw [hv], hnc, he', fun hp => ⟨_, rfl, hnew g (by rw [hv]; rfl), ?_⟩⟩
      intro j q hq
      have := ho.cells (g := g) (by rw [hv]; rfl) j q hq
      rw [hw]; exact this
  · obtain ⟨t', e', xs'', A, n, c, hm', hl, hle, c', hlc, hcc, hu⟩ := hv
    rw [hmb] at hm'
    injection hm' with h1 h2 h3
    subst h1; subst h2
    have h3 := eq_of_heq h3
    subst h3
    have hsub := Els.take hlen len (Els.drop hlen off he')
    have hlen2 : ((xs.drop off).take len).length = len := by rw [List.length_take, List.length_drop]; omega
    rcases hu with ⟨hA, hu⟩ | ⟨g, hA, hu | ⟨hc0, _, ad, hu⟩⟩
    · subst hA
      rcases ho.2 with ⟨hv, hn⟩ | ⟨g, cap, cur, hv, _⟩
      · refine ⟨none, c', _, by rw [hu, hlen2], by rw [hlen2]; exact hlc, hsub, fun hp => ?_⟩
        rw [hlen2] at hp
        omega
      · rw [hv] at hl; injection hl with h1; cases h1
    · subst hA
      refine ⟨some ⟨g, off * e.size, none⟩, c', _, by rw [hu, hlen2], by rw [hlen2]; exact hlc, hsub, fun hp => ⟨_, rfl, hnew g (by rw [hl]; rfl), ?_⟩⟩
      intro j q hq
      rw [List.getElem?_take] at hq
      split at hq
      · rw [List.getElem?_drop] at hq
        have := ho.cells (g := g) (by rw [hl]; rfl) _ q hq
        rw [hw]
        rw [Addr.add_lit] at this ⊢
        rw [Nat.zero_add] at this
        exact this
      · cases hq
    · have : len = 0 := by omega
      subst this
      refine ⟨some ad, 0, _, by rw [hu, hlen2], by rw [hlen2]; omega, hsub, fun hp => ?_⟩
      rw [hlen2] at hp
      omega

theorem RelL.freeze1 {F : Fr} {s : St} {loc : Nat → Value} {a : Act} {w : World} (h : RelL F s loc a w) (b : Nat) : RelL F (s.freeze1 b) loc a w := by
  have hmem : ∀ c, c ≠ b → (s.freeze1 b).mem c = frzB b (s.mem b) (s.mem c) := fun c hc => by
    show upd (fun c => frzB b (s.mem b) (s.mem c)) b .dead c = _
    rw [upd_other _ _ _ hc]
  have hmemb : (s.freeze1 b).mem b = .dead := by
    show upd (fun c => frzB b (s.mem b) (s.mem c)) b .dead b = _
    rw [upd_same]
  have hal : ∀ c, c ≠ b → Alike (s.mem c) (loc c) ((s.freeze1 b).mem c) (loc c) := fun c hc => by
    rw [hmem c hc]
    cases hm : s.mem c with
    | dead => exact .inl rfl
    | arr t e xs => exact .inr ⟨rfl, rfl, rfl, rfl⟩
    | cells t cs => exact .inr ⟨rfl, trivial⟩
    | iter t p => exact .inr ⟨rfl, trivial⟩
  have hlive : ∀ c, live (s.freeze1 b).mem c → c ≠ b ∧ live s.mem c := fun c hc => by
    by_cases hcb : c = b
    · subst hcb; exact absurd hmemb hc
    · refine ⟨hcb, fun e => hc ?_⟩
      rw [hmem c hcb, e]; rfl
  have hok : ∀ g, okOf F s.mem loc w g → okOf F (s.freeze1 b).mem loc w g := fun g hg => ⟨hg.1, fun ⟨c, hc, hcg⟩ => hg.2 ⟨c, (hlive c hc).2, hcg⟩⟩
  have hleB : (cxOf F s loc w).leB b (cxOf F (s.freeze1 b) loc w) := ⟨hok, fun p u _ hc => hc, hal⟩
  have hgv : s.mem b = .dead ∨ (((cxOf F s loc w).mem b = s.mem b) ∧ Gave (cxOf F s loc w) (cxOf F (s.freeze1 b) loc w) b (s.mem b)) := by
    cases hm : s.mem b with
    | dead => exact .inl rfl
    | arr t e xs =>
      refine .inr ⟨hm, arr_gives hok rfl (fun g hg => ?_) (hm ▸ h.blk b)⟩
      have hlb : live s.mem b := fun e => by rw [hm] at e; cases e
      exact ⟨⟨h.lt hlb hg, h.seen hlb hg⟩, fun ⟨c, hc, hcg⟩ => (hlive c hc).1 (h.inj c b g (hlive c hc).2 hlb hcg hg)⟩
    | cells t cs => exact .inr ⟨hm, fun _ _ _ e => by cases e⟩
    | iter t p => exact .inr ⟨hm, fun _ _ _ e => by cases e⟩
  refine ⟨fun c => ?_, fun c c' g hc hc' hg hg' => h.inj c c' g (hlive c hc).2 (hlive c' hc').2 hg hg', fun c g hc hg => h.low c g (hlive c hc).2 hg, fun k => VR_frz hleB _ hgv _ _ (h.env k), h.size, h.defers, h.kept⟩
  by_cases hcb : c = b
  · subst hcb; rw [hmemb]; trivial
  · have hb := h.blk c
    rw [hmem c hcb]
    cases hm : s.mem c with
    | dead => trivial
    | cells t cs =>
      rw [hm] at hb
      obtain ⟨g, us, e, hg, hs, h1⟩ := hb
      exact ⟨g, us, e, hg, VRs_frz hleB _ hgv _ _ hs, h1⟩
    | arr t e xs =>
      rw [hm] at hb
      obtain ⟨flat, ho, he⟩ := hb
      exact ⟨flat, ho, Els.mono (fun y q => RdC.mono hok (fun _ _ _ hc => hc) e) he⟩
    | iter t p => rw [hm] at hb; exact hb

theorem RelL.freeze {F : Fr} {loc : Nat → Value} {a : Act} {w : World} : ∀ (l : List Nat) {s : St}, RelL F s loc a w → RelL F (s.freeze l) loc a w
  | [], _, h => h
  | b :: r, _, h => RelL.freeze r (h.freeze1 b)
end AM
namespace AM
open Go

/-! ### 1. The table of types -/
theorem nth_some {α : Type} : ∀ {l : List α} {i : Nat} {x : α}, nth l i = some x → l[i]? = some x
  | [], i, x, h => by cases i <;> simp [nth] at h
  | y :: r, 0, x, h => by simpa [nth] using h
  | y :: r, i + 1, x, h => by simpa using nth_some (l := r) (by simpa [nth] using h)

theorem tab_get {P : Program} : ∀ {tb : Tab}, tabB P tb = true → ∀ {t : TypeId} {i : TI}, tb.get t = some i → i.t = t ∧ tiB P i = true
  | [], _, t, i, h => by simp [Tab.get] at h
  | j :: r, hb, t, i, h => by
    simp only [tabB, Bool.and_eq_true] at hb
    simp only [Tab.get] at h
    cases hc : Nat.beq j.t t
    · rw [hc] at h; simp only [cond_false] at h; exact tab_get hb.2 h
    · rw [hc] at h
      simp only [cond_true, Option.some.injEq] at h
      subst h
      exact ⟨Nat.eq_of_beq_eq_true hc, hb.1⟩

structure TIOk (P : Program) (t : TypeId) (i : TI) : Prop where
  info : ∃ j z, P.info? t = some j ∧ j.size = i.size ∧ j.bytes = i.bytes ∧ j.zero = some z ∧ zbs i.zero z.cells.toList = true ∧
    ∀ e, i.ty = some e → e.size = i.size ∧ e.agg = i.agg ∧ zbs (encZ e) z.cells.toList = true
  kd : kdB P i.kd (P.underlying t) = true
  one : i.agg = false → i.size = 1
  eq : i.eq = true → eqB P t i.ty = true

theorem ti_ok {P : Program} {tb : Tab} (hb : tabB P tb = true) {t : TypeId} {i : TI} (h : tb.get t = some i) : TIOk P t i := by
  obtain ⟨rfl, hi⟩ := tab_get hb h
  unfold tiB at hi
  cases hj : P.info? i.t with
  | none => rw [hj] at hi; cases hi
  | some j =>
    rw [hj] at hi
    cases hz : j.zero with
    | none => simp [hz] at hi
    | some z =>
      simp only [hz, Bool.and_eq_true] at hi
      obtain ⟨⟨⟨h1, h2⟩, h3⟩, h4, h5⟩ := hi
      refine ⟨⟨j, z, hj, Nat.eq_of_beq_eq_true h1, Nat.eq_of_beq_eq_true h2, hz, h4, fun e he => ?_⟩, h3.1.1, fun hf => by have := h3.1.2; rw [hf] at this; exact Nat.eq_of_beq_eq_true (by simpa using this), fun hf => by have := h3.2; rw [hf] at this; simpa using this⟩
      rw [he] at h5
      simp only [Bool.and_eq_true, beq_iff_eq] at h5
      exact ⟨Nat.eq_of_beq_eq_true h5.1.1, h5.1.2, h5.2⟩

theorem ByteArray_empty {s : ByteArray} (h : Nat.beq s.size 0 = true) : s = ByteArray.empty := by
  have h := Nat.eq_of_beq_eq_true h
  cases s with
  | mk d =>
    have : d.size = 0 := h
    have : d = #[] := by simpa using this
    subst this; rfl

theorem zb_VR {x : Cx} : ∀ {v : V} {u : Value}, zb v u = true → VR x v u ∧ u.oneCell' = true
  | .int k n, .int k' m, h => by
    simp only [zb, Bool.and_eq_true, decide_eq_true_eq] at h
    obtain ⟨rfl, rfl⟩ := h
    exact ⟨rfl, rfl⟩
  | .bool b, .bool c, h => by
    simp only [zb, beq_iff_eq] at h
    subst h
    exact ⟨rfl, rfl⟩
  | .str s, .string q, h => by
    simp only [zb, Bool.and_eq_true] at h
    rw [ByteArray_empty h.1, ByteArray_empty h.2]
    exact ⟨rfl, rfl⟩
  | .nils, .slice none 0 0, _ => ⟨rfl, rfl⟩
  | .nilp, .pointer none, _ => ⟨rfl, rfl⟩
  | .junk, u, h => ⟨trivial, by cases u <;> simp_all [zb]⟩
theorem zbs_VRs {x : Cx} : ∀ {vs : List V} {us : List Value}, zbs vs us = true → VRs x vs us ∧ ∀ u ∈ us, u.oneCell' = true
  | [], [], _ => ⟨rfl, by simp⟩
  | v :: r, u :: q, h => by
    simp only [zbs, Bool.and_eq_true] at h
    obtain ⟨h1, h2⟩ := zb_VR (x := x) h.1
    obtain ⟨h3, h4⟩ := zbs_VRs (x := x) h.2
    exact ⟨⟨u, q, rfl, h1, h3⟩, by simp [h2]; exact h4⟩

theorem zbs_append : ∀ {vs ws : List V} {us : List Value}, zbs (vs ++ ws) us = true → ∃ a b, us = a ++ b ∧ zbs vs a = true ∧ zbs ws b = true
  | [], ws, us, h => ⟨[], us, rfl, rfl, h⟩
  | v :: r, ws, [], h => by simp [zbs] at h
  | v :: r, ws, u :: q, h => by
    simp only [List.cons_append, zbs, Bool.and_eq_true] at h
    obtain ⟨a, b, e, h1, h2⟩ := zbs_append h.2
    exact ⟨u :: a, b, by rw [e]; rfl, by simp [zbs, h.1, h1], h2⟩
theorem zbs_one {v : V} {us : List Value} (h : zbs [v] us = true) : ∃ u, us = [u] ∧ zb v u = true := by
  match us with
  | [] => simp [zbs] at h
  | [u] => exact ⟨u, rfl, by simpa [zbs] using h⟩
  | u :: u' :: q => simp [zbs] at h
/-- A type's zero reads as its default. -/
theorem encZ_Rd {ok : Nat → Prop} {w : World} : ∀ (t : Ty) {us : List Value}, zbs (encZ t) us = true → RdC ok w t t.d us
  | .int k, us, h => by
    obtain ⟨u, rfl, hu⟩ := zbs_one h
    have := (zb_VR (x := ⟨ok, w, fun _ => undef, fun _ => .dead⟩) hu).1
    rw [show u = _ from this]; rfl
  | .bool, us, h => by
    obtain ⟨u, rfl, hu⟩ := zbs_one h
    have := (zb_VR (x := ⟨ok, w, fun _ => undef, fun _ => .dead⟩) hu).1
    rw [show u = _ from this]; rfl
  | .str, us, h => by
    obtain ⟨u, rfl, hu⟩ := zbs_one h
    have := (zb_VR (x := ⟨ok, w, fun _ => undef, fun _ => .dead⟩) hu).1
    rw [show u = _ from this]; rfl
  | .slice e, us, h => by
    obtain ⟨u, rfl, hu⟩ := zbs_one h
    have := (zb_VR (x := ⟨ok, w, fun _ => undef, fun _ => .dead⟩) hu).1
    rw [show u = _ from this]
    exact ⟨none, 0, [], rfl, Nat.le_refl _, rfl, fun h => by simp [Ty.d] at h⟩
  | .pair a b, us, h => by
    obtain ⟨p, q, e, h1, h2⟩ := zbs_append h
    exact ⟨p, q, e, encZ_Rd a h1, encZ_Rd b h2⟩
  | .last a, us, h => encZ_Rd a h
  | .ref e, us, h => by
    obtain ⟨u, rfl, hu⟩ := zbs_one h
    have := (zb_VR (x := ⟨ok, w, fun _ => undef, fun _ => .dead⟩) hu).1
    rw [show u = _ from this]; rfl
  | .vec n e, us, h => by
    refine ⟨by simp [Ty.d], ?_⟩
    show Els _ (List.replicate n e.d) us
    have key : ∀ (n : Nat) (us : List Value), zbs (List.replicate n (encZ e)).flatten us = true → Els (fun x q => RdC ok w e x q) (List.replicate n e.d) us := by
      intro n
      induction n with
      | zero =>
        intro us h
        cases us with
        | nil => rfl
        | cons u q => simp [zbs] at h
      | succ n ih =>
        intro us h
        rw [List.replicate_succ, List.flatten_cons] at h
        obtain ⟨p, q, e', h1, h2⟩ := zbs_append h
        exact ⟨p, q, e', encZ_Rd e h1, ih q h2⟩
    exact key n us h

section
variable {P : Program} {t : TypeId} {i : TI} (h : TIOk P t i)
theorem TIOk.sizeOf (h : TIOk P t i) (w : World) : (Go.sizeOf t).run P w = .ok i.size w := by
  obtain ⟨j, z, hj, hs, _⟩ := h.info
  simp [Go.sizeOf, typeInfo, hj, hs]
theorem TIOk.cellsOf (h : TIOk P t i) : P.cellsOf t = i.size := by
  obtain ⟨j, z, hj, hs, _⟩ := h.info
  simp [Program.cellsOf, hj, hs]
theorem TIOk.isAgg (h : TIOk P t i) (w : World) : (Go.isAgg t).run P w = .ok i.agg w := by
  have hk := h.kd
  cases hu : P.underlying t with
  | none => rw [hu] at hk; cases hkd : i.kd <;> simp [hkd, kdB] at hk
  | some d =>
    rw [hu] at hk
    simp only [Go.isAgg, Sem.run_bind, run_underlying hu, Result.andThen_ok]
    cases hkd : i.kd <;> rw [hkd] at hk <;> simp only [TI.agg, hkd] <;> cases d <;> simp_all [kdB]
theorem TIOk.under_slice (h : TIOk P t i) {e : TypeId} (hk : i.kd = .slice e) : P.underlying t = some (.slice e) := by
  have := h.kd
  rw [hk] at this
  cases hu : P.underlying t with
  | none => rw [hu] at this; simp [kdB] at this
  | some d =>
    rw [hu] at this
    cases d <;> simp [kdB] at this
    subst this; rfl
theorem TIOk.under_array (h : TIOk P t i) {n : Nat} {e : TypeId} (hk : i.kd = .array n e) : P.underlying t = some (.array n e) := by
  have := h.kd
  rw [hk] at this
  cases hu : P.underlying t with
  | none => rw [hu] at this; simp [kdB] at this
  | some d =>
    rw [hu] at this
    cases d <;> simp [kdB] at this
    obtain ⟨rfl, rfl⟩ := this; rfl
theorem TIOk.under_int (h : TIOk P t i) {k : IntKind} (hk : i.kd = .int k) : P.underlying t = some (.int k) := by
  have := h.kd
  rw [hk] at this
  cases hu : P.underlying t with
  | none => rw [hu] at this; simp [kdB] at this
  | some d =>
    rw [hu] at this
    cases d <;> simp [kdB] at this
    subst this; rfl
theorem TIOk.under_str (h : TIOk P t i) (hk : i.kd = .str) : P.underlying t = some .string := by
  have := h.kd
  rw [hk] at this
  cases hu : P.underlying t with
  | none => rw [hu] at this; simp [kdB] at this
  | some d =>
    rw [hu] at this
    cases d <;> simp [kdB] at this
    rfl
theorem fields_get {P : Program} : ∀ {fs : List (Nat × TypeId)} {gs : List Field}, fieldsB P fs gs = true → ∀ {k off : Nat} {ft : TypeId}, nth fs k = some (off, ft) → ∃ f, gs[k]? = some f ∧ f.offset = off ∧ f.type = ft ∧ P.cellsOf ft ≠ 0
  | [], [], _, k, off, ft, h => by cases k <;> simp [nth] at h
  | [], _ :: _, hb, _, _, _, _ => by simp [fieldsB] at hb
  | _ :: _, [], hb, _, _, _, _ => by simp [fieldsB] at hb
  | (o, t) :: r, f :: q, hb, 0, off, ft, h => by
    simp only [fieldsB, Bool.and_eq_true] at hb
    simp only [nth, Option.some.injEq, Prod.mk.injEq] at h
    obtain ⟨rfl, rfl⟩ := h
    refine ⟨f, rfl, (Nat.eq_of_beq_eq_true hb.1.1.1).symm, (Nat.eq_of_beq_eq_true hb.1.1.2).symm, ?_⟩
    have := hb.1.2
    intro e
    rw [e] at this
    simp at this
  | (o, t) :: r, f :: q, hb, k + 1, off, ft, h => by
    simp only [fieldsB, Bool.and_eq_true] at hb
    obtain ⟨f', h1, h2⟩ := fields_get (fs := r) (gs := q) hb.2 (k := k) (off := off) (ft := ft) (by simpa [nth] using h)
    exact ⟨f', by simpa using h1, h2⟩
theorem TIOk.field (h : TIOk P t i) {fs : List (Nat × TypeId)} (hk : i.kd = .struct fs) {k off : Nat} {ft : TypeId} (hn : nth fs k = some (off, ft)) :
    ∃ gs f, P.underlying t = some (.struct gs) ∧ gs[k]? = some f ∧ f.offset = off ∧ f.type = ft ∧ P.cellsOf ft ≠ 0 := by
  have := h.kd
  rw [hk] at this
  cases hu : P.underlying t with
  | none => rw [hu] at this; simp [kdB] at this
  | some d =>
    rw [hu] at this
    cases d with
    | struct gs =>
      obtain ⟨f, h1, h2⟩ := fields_get (by simpa [kdB] using this) hn
      exact ⟨gs, f, rfl, by simpa using h1, h2⟩
    | _ => simp [kdB] at this
end

theorem sizeOf_run {P : Program} {t : TypeId} (h : P.cellsOf t ≠ 0) (w : World) : (Go.sizeOf t).run P w = .ok (P.cellsOf t) w := by
  cases hj : P.info? t with
  | none => simp [Program.cellsOf, hj] at h
  | some j => simp [Go.sizeOf, typeInfo, hj, Program.cellsOf]

/-! ### 2. Operands -/
mutual
theorem ofConst_VR {x : Cx} : ∀ (v : Value), VR x (ofConst v) v
  | .bool _ => rfl
  | .int _ _ => rfl
  | .string _ => rfl
  | .pointer none => rfl
  | .pointer (some _) => trivial
  | .slice none 0 0 => rfl
  | .slice none 0 (_ + 1) => trivial
  | .slice none (_ + 1) _ => trivial
  | .slice (some _) _ _ => trivial
  | .agg ⟨cs⟩ => by
    simp only [ofConst]
    cases h : cs.all (fun v => v.oneCell')
    · trivial
    · simp only [cond_true]
      exact ⟨cs, rfl, ofConsts_VR cs, fun q hq => by simpa using List.all_eq_true.1 h q hq⟩
  | .float _ _ => trivial
  | .complex _ _ _ => trivial
  | .map _ => trivial
  | .chan _ => trivial
  | .func _ _ _ => trivial
  | .nilFunc => trivial
  | .iface _ _ => trivial
  | .nilIface => trivial
  | .tuple _ => trivial
theorem ofConsts_VR {x : Cx} : ∀ (vs : List Value), VRs x (ofConsts vs) vs
  | [] => rfl
  | v :: r => ⟨v, r, rfl, ofConst_VR v, ofConsts_VR r⟩
end

theorem RelL.oper {F : Fr} {s : St} {loc : Nat → Value} {a : Act} {w : World} (h : RelL F s loc a w) : ∀ (o : Operand), VR (cxOf F s loc w) (s.val o) (a.eval o)
  | .tmp k => by
    show VR _ (bif Nat.ble GH k then .junk else s.env k) (a.tmps.getD k undef)
    cases hk : Nat.ble GH k
    · have := h.env k
      unfold slotV at this
      rw [if_neg (fun e => by rw [Nat.ble_eq_true_of_le e.1] at hk; cases hk)] at this
      exact this
    · trivial
  | .const v => ofConst_VR v
  | .global _ => trivial
  | .func f => ⟨[], rfl, rfl⟩

theorem RelL.opers {F : Fr} {s : St} {loc : Nat → Value} {a : Act} {w : World} (h : RelL F s loc a w) : ∀ (os : List Operand), VRs (cxOf F s loc w) (os.map s.val) (os.map a.eval)
  | [] => rfl
  | o :: r => ⟨_, _, rfl, h.oper o, h.opers r⟩

/-! ### 3. What an operation comes to -/
def Does (P : Program) (a : Act) (w : World) (o : Oper) (u : Value) (w' : World) : Prop :=
  (execOp a.eval o).run P w = .ok (.value u) w' ∨ ((execOp a.eval o).run P w = .ok .skip w' ∧ u = undef)

theorem Does.wp {P : Program} {a : Act} {w w' : World} {o : Oper} {u : Value} (h : Does P a w o u w') {next : Act → World → Prop} {Q : Exit → Act → World → Prop} (hn : next (a.put o.dst u) w') : o.wp P a w next Q := by
  unfold Oper.wp
  rcases h with h | ⟨h, rfl⟩ <;> rw [h] <;> exact hn

/-- The operation leaves what the machine says. -/
def Meets (P : Program) (F : Fr) (a : Act) (w : World) (o : Oper) (v : V) (s' : St) : Prop :=
  ∃ u w' loc', Does P a w o u w' ∧ RelL F s' loc' a w' ∧ VR (cxOf F s' loc' w') v u

theorem VR_mk {x : Cx} {agg : Bool} {cs : List V} {us : List Value} (h : VRs x cs us) (h1 : ∀ u ∈ us, u.oneCell' = true) {u : Value} (hu : if agg = true then u = .agg us.toArray else us = [u]) : VR x (mkV agg cs) u := by
  cases agg with
  | true =>
    simp only [if_true] at hu
    exact ⟨us, hu, h, h1⟩
  | false =>
    simp only [Bool.false_eq_true, if_false] at hu
    subst hu
    cases cs with
    | nil => cases h
    | cons v r =>
      obtain ⟨u', q, e, hv, hr⟩ := h
      injection e with e1 e2
      subst e1
      exact hv

/-- The run of a load out of cells that are there. -/
theorem run_loadVar_cells {P : Program} {t : TypeId} {i : TI} (h : TIOk P t i) (w : World) (ad : Addr) (us : List Value) (hl : us.length = i.size) (hc : CellsAt w ad us) (h1 : i.agg = false → i.size = 1) :
    ∃ u, (loadVar t ad).run P w = .ok u w ∧ (if i.agg = true then u = .agg us.toArray else us = [u]) := by
  cases hagg : i.agg with
  | true =>
    have hl' : (loadCells ad i.size).run P w = .ok us.toArray w := by
      rw [← hl]; exact run_loadCells_list (P := P) w ad us (fun j v hv => hc j v hv)
    refine ⟨.agg us.toArray, ?_, by simp⟩
    simp [loadVar, Sem.run_bind, h.isAgg, hagg, h.sizeOf, hl']
  | false =>
    have hs := h1 hagg
    match us, hl with
    | [], hl => simp [hs] at hl
    | [u], hl =>
      refine ⟨u, ?_, by simp⟩
      have := hc 0 u rfl
      rw [Addr.add_zero'] at this
      simp [loadVar, Sem.run_bind, h.isAgg, hagg, run_load, this]
    | u :: u' :: q, hl => simp [hs] at hl
theorem nonagg_size : ∀ {e : Ty}, e.agg = false → e.size = 1
  | .int _, _ => rfl
  | .bool, _ => rfl
  | .str, _ => rfl
  | .slice _, _ => rfl
  | .ref _, _ => rfl

theorem cellsAt_of_heap {w : World} {g : Nat} {us : List Value} {t : TypeId} {fr : Nat × Nat} (hg : w.heap[g]? = some (.cells us.toArray t fr)) (o n : Nat) : CellsAt w ⟨g, o, none⟩ ((us.drop o).take n) := by
  intro j u hu
  rw [Addr.add_lit, cell_of_row w g (o + j) us.toArray t fr hg]
  rw [List.getElem?_take] at hu
  split at hu
  · rw [List.getElem?_drop] at hu
    simpa using hu
  · cases hu

end AM
namespace AM
open Go

section
variable {P : Program} {F : Fr} {tb : Tab} {s s' : St} {loc : Nat → Value} {a : Act} {w : World} {o : Oper} {v : V}

/-- An operation that leaves state and world alone. -/
theorem meets_pure (h : RelL F s loc a w) {u : Value} (hr : (execOp a.eval o).run P w = .ok (.value u) w) (hv : VR (cxOf F s loc w) v u) : Meets P F a w o v s :=
  ⟨u, w, loc, .inl hr, h, hv⟩

theorem intOp_run {x : Cx} {op : BinOp} {k : IntKind} {p q : Int} {g : Bool} (hi : intOp op k p q = some (g, v)) (hg : g = true) (t : TypeId) (w : World) : ∃ u, (binOp op t (.int k p) (.int k q)).run P w = .ok u w ∧ VR x v u := by
  cases op <;> simp only [intOp, Option.some.injEq, Prod.mk.injEq, reduceCtorEq] at hi
  case quo | rem =>
    obtain ⟨h0, rfl⟩ := hi
    rw [hg] at h0
    have h0 : ¬ q = 0 := by simpa using h0
    refine ⟨_, ?_, rfl⟩
    simp [binOp, Op.intDiv, h0]
  all_goals
    obtain ⟨h0, rfl⟩ := hi
    refine ⟨_, ?_, rfl⟩
    simp [binOp, Op.intArith, Op.intBits, Op.intCmp]

theorem binV_run {x : Cx} {op : BinOp} {p q : V} {y z : Value} (hp : VR x p y) (hq : VR x q z) {g : Bool} (hi : binV op p q = some (g, v)) (hg : g = true) (t : TypeId) (hb : ∀ b c, p = .bool b → q = .bool c → P.underlying t = some .bool) (w : World) :
    ∃ u, (binOp op t y z).run P w = .ok u w ∧ VR x v u := by
  cases p <;> cases q <;> try (exfalso; cases op <;> simp [binV] at hi; done)
  · rename_i k p k' q
    obtain rfl : y = .int k p := hp
    obtain rfl : z = .int k' q := hq
    by_cases hop : op = .shl ∨ op = .shr
    · rcases hop with rfl | rfl <;>
      · simp only [binV, Option.some.injEq, Prod.mk.injEq] at hi
        obtain ⟨h0, rfl⟩ := hi
        rw [hg] at h0
        have : ¬ q < 0 := by simpa using h0
        refine ⟨_, ?_, rfl⟩
        simp [binOp, Op.shift, this, shl, shr]
    · have hk : (if k = k' then intOp op k p q else none) = some (g, v) := by
        cases op <;> first | exact hi | (exact absurd (.inl rfl) hop) | (exact absurd (.inr rfl) hop)
      split at hk
      · rename_i e
        subst e
        exact intOp_run hk hg t w
      · cases hk
  · rename_i p q
    obtain rfl : y = .bool p := hp
    obtain rfl : z = .bool q := hq
    have hu := hb p q rfl rfl
    cases op <;> simp only [binV, Option.some.injEq, Prod.mk.injEq, reduceCtorEq] at hi
    all_goals
      obtain ⟨h0, rfl⟩ := hi
      have he : ∀ d : Nat, (Op.equalIn (d + 1) t (.bool p) (.bool q)).run P w = .ok (p == q) w := fun d => by simp [Op.equalIn, run_underlying hu]
      refine ⟨_, ?_, rfl⟩
      simp only [binOp]
      simp [Op.equal, Op.maxDepth, he 9999]
  · rename_i p q
    obtain rfl : y = .string p := hp
    obtain rfl : z = .string q := hq
    cases op <;> simp only [binV, Option.some.injEq, Prod.mk.injEq, reduceCtorEq] at hi
    case add =>
      obtain ⟨h0, rfl⟩ := hi
      rw [hg] at h0
      have h1 : ¬ (((p.size + q.size : Nat) : Int) > IntKind.i64.max) := by
        have := of_decide_eq_true h0
        have e : IntKind.i64.max = 9223372036854775807 := by decide
        rw [e]; omega
      refine ⟨_, ?_, rfl⟩
      simp only [binOp, Op.stringOp]
      rw [if_neg h1]; rfl
    all_goals
      obtain ⟨h0, rfl⟩ := hi
      refine ⟨_, ?_, rfl⟩
      simp [binOp, Op.stringOp, strEq]

theorem eqGuard_plain {op : BinOp} {t : TypeId} {x y : Operand} {p q : Value} (h : ∀ cs ds, ¬ (p = .agg cs ∧ q = .agg ds)) (h2 : ¬ (p = .nilIface ∧ q = .nilIface)) (w : World) : (eqGuard op t x y p q).run P w = .ok () w := by
  cases op <;> simp only [eqGuard, Bool.not_true, Bool.not_false, if_true, Bool.false_eq_true, if_false, Sem.run_pure]
  all_goals
    split
    · exact absurd ⟨rfl, rfl⟩ h2
    · exact absurd ⟨rfl, rfl⟩ (h _ _)
    · rfl

theorem binV_plain {x : Cx} {op : BinOp} {p q : V} {y z : Value} (hp : VR x p y) (hq : VR x q z) {r : Bool × V} (hi : binV op p q = some r) : (∀ cs ds, ¬ (y = .agg cs ∧ z = .agg ds)) ∧ ¬ (y = .nilIface ∧ z = .nilIface) := by
  cases p <;> cases q <;> try (exfalso; cases op <;> simp [binV] at hi; done)
  all_goals
    rw [show y = _ from hp]
    exact ⟨by simp, by simp⟩

theorem execOp_binOp {op : BinOp} {t t' : TypeId} {x y : Operand} (ho : o.op = .binOp op t x y t') {p q u : Value} (hx : a.eval x = p) (hy : a.eval y = q) (hg : (eqGuard op t x y p q).run P w = .ok () w) (hr : (binOp op t p q).run P w = .ok u w) :
    (execOp a.eval o).run P w = .ok (.value u) w := by
  subst hx hy
  simp only [execOp, ho, Sem.run_bind, hg, hr, Result.andThen_ok, Sem.run_pure]

/-- A value operation whose run is known. -/
theorem execOp_v {X : Sem Value} {u : Value} {w' : World} (he : execOp a.eval o = (do pure (.value (← X)))) (hr : X.run P w = .ok u w') : (execOp a.eval o).run P w = .ok (.value u) w' := by
  rw [he]
  simp only [Sem.run_bind, hr, Result.andThen_ok, Sem.run_pure]

/-! ### The operations that leave the state alone -/
theorem val_cases (h : RelL F s loc a w) (x : Operand) : VR (cxOf F s loc w) (s.val x) (a.eval x) := h.oper x

theorem optNat_eval (h : RelL F s loc a w) {lo : Option Operand} {d l : Int} (hl : optNat lo s d = some l) : (lo = none ∧ l = d) ∨ ∃ x k, lo = some x ∧ a.eval x = .int k l := by
  cases lo with
  | none => left; exact ⟨rfl, by simpa [optNat, eq_comm] using hl⟩
  | some x =>
    right
    simp only [optNat] at hl
    have hv := h.oper x
    cases hx : s.val x <;> rw [hx] at hl hv <;> simp at hl
    subst hl
    exact ⟨x, _, rfl, hv⟩

theorem idxOk_spec {i : Int} {n : Nat} (h : idxOk i n = true) : 0 ≤ i ∧ i < (n : Int) := by
  simpa [idxOk] using h
theorem sliceOk_spec {l h : Int} {n : Nat} (hs : sliceOk l h n = true) : 0 ≤ l ∧ l ≤ h ∧ h ≤ (n : Int) := by
  have : (0 ≤ l ∧ l ≤ h) ∧ h ≤ (n : Int) := by simpa [sliceOk] using hs
  exact ⟨this.1.1, this.1.2, this.2⟩

theorem run_index_str {t : TypeId} (hu : P.underlying t = some .string) {b : ByteArray} {k : IntKind} {n : Int} (h0 : 0 ≤ n) (h1 : n < (b.size : Int)) (w : World) :
    (Instr.index t (.string b) (.int k n)).run P w = .ok (.int .u8 (byteAt b n.toNat)) w := by
  have hlt : n.toNat < b.size := by omega
  have hb : b[n.toNat]? = some (b[n.toNat]'hlt) := by
    simp [getElem?_def, hlt]
  have hv : byteAt b n.toNat = ((b[n.toNat]'hlt).toNat : Int) := by
    unfold byteAt
    have : b.data.toList.getD n.toNat 0 = b[n.toNat]'hlt := by
      rw [List.getD_eq_getElem?_getD]
      have hl2 : n.toNat < b.data.size := hlt
      simp only [Array.getElem?_toList, Array.getElem?_eq_getElem hl2, Option.getD_some]
      rfl
    rw [this]
  simp [Instr.index, asIntOf, run_underlying hu, h0, hb, hv]

/-- The bounds of a slice expression of two indexes. -/
theorem run_sliceBounds {isSlice : Bool} {len cap : Nat} (hlc : len ≤ cap) {lo hi : Option Value} {l h : Int} (hl : (lo = none ∧ l = 0) ∨ ∃ k, lo = some (.int k l)) (hh : (hi = none ∧ h = len) ∨ ∃ k, hi = some (.int k h)) (h0 : 0 ≤ l) (h1 : l ≤ h) (h2 : h ≤ (len : Int)) (w : World) :
    (Instr.sliceBounds isSlice len cap lo hi none).run P w = .ok (l.toNat, h.toNat, cap) w := by
  have hc : h ≤ (cap : Int) := by omega
  have h0' : 0 ≤ h := by omega
  rcases hl with ⟨rfl, rfl⟩ | ⟨k, rfl⟩ <;> rcases hh with ⟨rfl, rfl⟩ | ⟨k', rfl⟩
  · simp [Instr.sliceBounds]
  · simp [Instr.sliceBounds, Instr.sliceBound, asIntOf, h0', hc]
  · have : l ≤ (len : Int) := h1
    simp [Instr.sliceBounds, Instr.sliceBound, asIntOf, h0, this]
  · have : l ≤ max h 0 := by omega
    simp [Instr.sliceBounds, Instr.sliceBound, asIntOf, h0', hc, h0, this]

end
end AM
namespace AM
open Go

/-! ### 1. Parts of data -/
theorem fld_ty : ∀ {t : Ty} {v : Bool} {k : Nat} {x : t.T} {u : Ty} {y : u.T}, fld t v k x = some ⟨u, y⟩ → fldTy t v k = some u
  | .pair a _, false, 0, x, u, y, h => by simp only [fld, Option.some.injEq, Sigma.mk.injEq] at h; simp [fldTy, h.1]
  | .pair _ b, false, k + 1, x, u, y, h => fld_ty (t := b) (k := k) (x := x.2) h
  | .last a, false, 0, x, u, y, h => by simp only [fld, Option.some.injEq, Sigma.mk.injEq] at h; simp [fldTy, h.1]
  | .vec _ e, true, k, x, u, y, h => by simp only [fld, Option.some.injEq, Sigma.mk.injEq] at h; simp [fldTy, h.1]
  | .pair _ _, true, _, _, _, _, h => by simp [fld] at h
  | .last _, true, _, _, _, _, h => by simp [fld] at h
  | .last _, false, _ + 1, _, _, _, h => by simp [fld] at h
  | .vec _ _, false, _, _, _, _, h => by simp [fld] at h
  | .int _, _, _, _, _, _, h => by simp [fld] at h
  | .bool, _, _, _, _, _, h => by simp [fld] at h
  | .str, _, _, _, _, _, h => by simp [fld] at h
  | .slice _, _, _, _, _, _, h => by simp [fld] at h
  | .ref _, _, _, _, _, _, h => by simp [fld] at h

theorem RdC_fld {ok : Nat → Prop} {w : World} : ∀ {t : Ty} {v : Bool} {k : Nat} {x : t.T} {u : Ty} {y : u.T} {us : List Value}, fld t v k x = some ⟨u, y⟩ → stepOk t v k = true → RdC ok w t x us →
    RdC ok w u y ((us.drop (fldOff t v k)).take u.size)
  | .pair a b, false, 0, x, u, y, us, h, hs, ⟨p, q, e, hp, hq⟩ => by
    simp only [fld, Option.some.injEq, Sigma.mk.injEq] at h
    obtain ⟨rfl, h⟩ := h
    have h := eq_of_heq h
    subst h
    subst e
    have := RdC.len _ hp
    simp only [fldOff, List.drop_zero]
    rw [← this, List.take_left]; exact hp
  | .pair a b, false, k + 1, x, u, y, us, h, hs, ⟨p, q, e, hp, hq⟩ => by
    subst e
    have hl := RdC.len _ hp
    have := RdC_fld (t := b) (v := false) (k := k) (x := x.2) (u := u) (y := y) (us := q) h (by simpa [stepOk, fldTy] using hs) hq
    simp only [fldOff]
    rw [← hl, ← List.drop_drop, List.drop_left]
    exact this
  | .last a, false, 0, x, u, y, us, h, hs, hr => by
    simp only [fld, Option.some.injEq, Sigma.mk.injEq] at h
    obtain ⟨rfl, h⟩ := h
    have h := eq_of_heq h
    subst h
    have hl := RdC.len _ (show RdC ok w a x us from hr)
    simp only [fldOff, List.drop_zero]
    rw [List.take_of_length_le (by omega)]; exact hr
  | .vec n e, true, k, x, u, y, us, h, hs, ⟨hn, he⟩ => by
    simp only [fld, Option.some.injEq, Sigma.mk.injEq] at h
    obtain ⟨rfl, h⟩ := h
    have h := eq_of_heq h
    subst h
    simp only [stepOk, decide_eq_true_eq] at hs
    have hk : k < x.length := by omega
    simp only [fldOff]
    exact Els.get (fun x us hx => RdC.len e hx) he k _ (by rw [List.getD_eq_getElem?_getD, List.getElem?_eq_getElem hk]; rfl)
  | .pair _ _, true, _, _, _, _, _, h, _, _ => by simp [fld] at h
  | .last _, true, _, _, _, _, _, h, _, _ => by simp [fld] at h
  | .last _, false, _ + 1, _, _, _, _, h, _, _ => by simp [fld] at h
  | .vec _ _, false, _, _, _, _, _, h, _, _ => by simp [fld] at h
  | .int _, _, _, _, _, _, _, h, _, _ => by simp [fld] at h
  | .bool, _, _, _, _, _, _, h, _, _ => by simp [fld] at h
  | .str, _, _, _, _, _, _, h, _, _ => by simp [fld] at h
  | .slice _, _, _, _, _, _, _, h, _, _ => by simp [fld] at h
  | .ref _, _, _, _, _, _, _, h, _, _ => by simp [fld] at h

theorem getP_ty : ∀ {p : List (Bool × Nat)} {t : Ty} {x : t.T} {u : Ty} {y : u.T}, getP t p x = some ⟨u, y⟩ → tyP t p = some u
  | [], t, x, u, y, h => by simp only [getP, Option.some.injEq, Sigma.mk.injEq] at h; simp [tyP, h.1]
  | (v, k) :: p, t, x, u, y, h => by
    simp only [getP] at h
    cases hf : fld t v k x with
    | none => rw [hf] at h; cases h
    | some q =>
      obtain ⟨u', y'⟩ := q
      rw [hf] at h
      simp only [tyP, fld_ty hf]
      exact getP_ty h

theorem take_drop_take {α : Type} (l : List α) (a n b m : Nat) (h : b + m ≤ n) : (((l.drop a).take n).drop b).take m = (l.drop (a + b)).take m := by
  rw [List.drop_take, List.take_take, List.drop_drop, Nat.min_eq_left (by omega)]

theorem fld_fits : ∀ {t : Ty} {v : Bool} {k : Nat} {u : Ty}, fldTy t v k = some u → stepOk t v k = true → fldOff t v k + u.size ≤ t.size
  | .pair a b, false, 0, u, h, _ => by simp only [fldTy, Option.some.injEq] at h; subst h; simp [fldOff, Ty.size]
  | .pair a b, false, k + 1, u, h, hs => by
    have := fld_fits (t := b) (v := false) (k := k) (u := u) h (by simpa [stepOk, fldTy] using hs)
    simp only [fldOff, Ty.size]; omega
  | .last a, false, 0, u, h, _ => by simp only [fldTy, Option.some.injEq] at h; subst h; simp [fldOff, Ty.size]
  | .vec n e, true, k, u, h, hs => by
    simp only [fldTy, Option.some.injEq] at h; subst h
    simp only [stepOk, decide_eq_true_eq] at hs
    simp only [fldOff, Ty.size]
    calc k * e.size + e.size = (k + 1) * e.size := by rw [Nat.succ_mul]
      _ ≤ n * e.size := Nat.mul_le_mul_right _ hs
  | .pair _ _, true, _, _, h, _ => by simp [fldTy] at h
  | .last _, true, _, _, h, _ => by simp [fldTy] at h
  | .last _, false, _ + 1, _, h, _ => by simp [fldTy] at h
  | .vec _ _, false, _, _, h, _ => by simp [fldTy] at h
  | .int _, _, _, _, h, _ => by simp [fldTy] at h
  | .bool, _, _, _, h, _ => by simp [fldTy] at h
  | .str, _, _, _, h, _ => by simp [fldTy] at h
  | .slice _, _, _, _, h, _ => by simp [fldTy] at h
  | .ref _, _, _, _, h, _ => by simp [fldTy] at h

theorem okP_cons {t : Ty} {v : Bool} {k : Nat} {p : List (Bool × Nat)} (h : okP t ((v, k) :: p) = true) : stepOk t v k = true ∧ ∃ u, fldTy t v k = some u ∧ okP u p = true := by
  simp only [okP, Bool.and_eq_true] at h
  refine ⟨h.1, ?_⟩
  cases hf : fldTy t v k with
  | none => rw [hf] at h; cases h.2
  | some u => rw [hf] at h; exact ⟨u, rfl, h.2⟩

theorem p_fits : ∀ {p : List (Bool × Nat)} {t u : Ty}, okP t p = true → tyP t p = some u → offP t p + u.size ≤ t.size
  | [], t, u, _, h => by simp only [tyP, Option.some.injEq] at h; subst h; simp [offP]
  | (v, k) :: p, t, u, hk, h => by
    obtain ⟨h1, u', h2, h3⟩ := okP_cons hk
    simp only [tyP, h2] at h
    simp only [offP, h2]
    have a := p_fits h3 h
    have b := fld_fits h2 h1
    omega

theorem RdC_getP {ok : Nat → Prop} {w : World} : ∀ {p : List (Bool × Nat)} {t : Ty} {x : t.T} {u : Ty} {y : u.T} {us : List Value}, getP t p x = some ⟨u, y⟩ → okP t p = true → RdC ok w t x us →
    RdC ok w u y ((us.drop (offP t p)).take u.size)
  | [], t, x, u, y, us, h, _, hr => by
    simp only [getP, Option.some.injEq, Sigma.mk.injEq] at h
    obtain ⟨rfl, h⟩ := h
    have h := eq_of_heq h
    subst h
    have hl := RdC.len _ hr
    simp only [offP, List.drop_zero]
    rw [List.take_of_length_le (by omega)]; exact hr
  | (v, k) :: p, t, x, u, y, us, h, hk, hr => by
    obtain ⟨h1, u1, h2, h3⟩ := okP_cons hk
    simp only [getP] at h
    cases hf : fld t v k x with
    | none => rw [hf] at h; cases h
    | some q =>
      obtain ⟨u', y'⟩ := q
      rw [hf] at h
      have e : u' = u1 := by have := fld_ty hf; rw [h2] at this; exact (Option.some.inj this).symm
      subst e
      have := RdC_getP h h3 (RdC_fld hf h1 hr)
      simp only [offP, h2]
      rw [take_drop_take _ _ _ _ _ (p_fits h3 (getP_ty h))] at this
      exact this

theorem splice_splice {α : Type} (us vs : List α) (a n b m : Nat) (hv : vs.length = m) (h : b + m ≤ n) (hu : a + n ≤ us.length) :
    us.take a ++ (((us.drop a).take n).take b ++ vs ++ ((us.drop a).take n).drop (b + m)) ++ us.drop (a + n) = us.take (a + b) ++ vs ++ us.drop (a + b + m) := by
  have e1 : ((us.drop a).take n).take b = (us.drop a).take b := by rw [List.take_take, Nat.min_eq_left (by omega)]
  have e2 : us.take a ++ (us.drop a).take b = us.take (a + b) := by rw [List.take_add]
  have e3 : ((us.drop a).take n).drop (b + m) ++ us.drop (a + n) = us.drop (a + b + m) := by
    rw [List.drop_take, List.drop_drop]
    have : us.drop (a + n) = (us.drop (a + (b + m))).drop (n - (b + m)) := by rw [List.drop_drop]; congr 1; omega
    rw [this, List.take_append_drop, Nat.add_assoc]
  rw [e1, ← e2, ← e3]
  simp only [List.append_assoc]

theorem RdC_fldSet {ok : Nat → Prop} {w : World} {f : (u : Ty) → u.T → Option u.T} : ∀ {t : Ty} {v : Bool} {k : Nat} {x y : t.T} {u : Ty} {us vs : List Value}, fldSet t v k f x = some y → fldTy t v k = some u → stepOk t v k = true → vs.length = u.size →
    (∀ (z : u.T), RdC ok w u z ((us.drop (fldOff t v k)).take u.size) → ∀ z', f u z = some z' → RdC ok w u z' vs) → RdC ok w t x us → RdC ok w t y (us.take (fldOff t v k) ++ vs ++ us.drop (fldOff t v k + u.size))
  | .pair a b, false, 0, x, y, u, us, vs, h, ht, hs, hl, hf, ⟨p, q, e, hp, hq⟩ => by
    simp only [fldTy, Option.some.injEq] at ht
    subst ht
    subst e
    have hlp := RdC.len _ hp
    simp only [fldSet] at h
    cases hg : f a x.1 with
    | none => rw [hg] at h; cases h
    | some z =>
      rw [hg] at h
      simp only [Option.some.injEq] at h
      subst h
      refine ⟨vs, q, ?_, hf x.1 (by simp only [fldOff, List.drop_zero]; rw [← hlp, List.take_left]; exact hp) z hg, hq⟩
      simp only [fldOff, List.take_zero, List.nil_append, Nat.zero_add]
      rw [← hlp, List.drop_left]
  | .pair a b, false, k + 1, x, y, u, us, vs, h, ht, hs, hl, hf, ⟨p, q, e, hp, hq⟩ => by
    subst e
    have hlp := RdC.len _ hp
    simp only [fldSet] at h
    cases hg : fldSet b false k f x.2 with
    | none => rw [hg] at h; cases h
    | some z =>
      rw [hg] at h
      simp only [Option.some.injEq] at h
      subst h
      have := RdC_fldSet (t := b) (v := false) (k := k) (x := x.2) (y := z) (u := u) (us := q) (vs := vs) hg ht (by simpa [stepOk, fldTy] using hs) hl (fun z hz z' hz' => hf z (by
        simp only [fldOff]; rw [← hlp, ← List.drop_drop, List.drop_left]; exact hz) z' hz') hq
      refine ⟨p, _, ?_, hp, this⟩
      simp only [fldOff]
      rw [← hlp, List.take_append, List.take_of_length_le (by omega), show p.length + fldOff b false k - p.length = fldOff b false k by omega, Nat.add_assoc, ← List.drop_drop, List.drop_left]
      simp only [List.append_assoc]
  | .last a, false, 0, x, y, u, us, vs, h, ht, hs, hl, hf, hr => by
    simp only [fldTy, Option.some.injEq] at ht
    subst ht
    have hlu := RdC.len _ (show RdC ok w a x us from hr)
    have : RdC ok w a y vs := hf x (by simp only [fldOff, List.drop_zero]; rw [List.take_of_length_le (by omega)]; exact hr) y h
    simp only [fldOff, List.take_zero, List.nil_append, Nat.zero_add]
    rw [List.drop_eq_nil_of_le (by omega), List.append_nil]
    exact this
  | .vec n e, true, k, x, y, u, us, vs, h, ht, hs, hl, hf, ⟨hn, he⟩ => by
    simp only [fldTy, Option.some.injEq] at ht
    subst ht
    simp only [stepOk, decide_eq_true_eq] at hs
    have hk : k < x.length := by omega
    simp only [fldSet] at h
    cases hg : f e (x.getD k e.d) with
    | none => rw [hg] at h; cases h
    | some z =>
      rw [hg] at h
      simp only [Option.some.injEq] at h
      subst h
      have hel := Els.get (fun x us hx => RdC.len e hx) he k (x.getD k e.d) (by rw [List.getD_eq_getElem?_getD, List.getElem?_eq_getElem hk]; rfl)
      refine ⟨by rw [List.length_set]; exact hn, ?_⟩
      exact Els.set (fun x us hx => RdC.len e hx) he k z vs hk (hf _ hel z hg)
  | .pair _ _, true, _, _, _, _, _, _, _, h, _, _, _, _ => by simp [fldTy] at h
  | .last _, true, _, _, _, _, _, _, _, h, _, _, _, _ => by simp [fldTy] at h
  | .last _, false, _ + 1, _, _, _, _, _, _, h, _, _, _, _ => by simp [fldTy] at h
  | .vec _ _, false, _, _, _, _, _, _, _, h, _, _, _, _ => by simp [fldTy] at h
  | .int _, _, _, _, _, _, _, _, _, h, _, _, _, _ => by simp [fldTy] at h
  | .bool, _, _, _, _, _, _, _, _, h, _, _, _, _ => by simp [fldTy] at h
  | .str, _, _, _, _, _, _, _, _, h, _, _, _, _ => by simp [fldTy] at h
  | .slice _, _, _, _, _, _, _, _, _, h, _, _, _, _ => by simp [fldTy] at h
  | .ref _, _, _, _, _, _, _, _, _, h, _, _, _, _ => by simp [fldTy] at h

theorem RdC_setP {ok : Nat → Prop} {w : World} {f : (u : Ty) → u.T → Option u.T} : ∀ {p : List (Bool × Nat)} {t : Ty} {x y : t.T} {u : Ty} {us vs : List Value}, setP p f t x = some y → tyP t p = some u → okP t p = true → vs.length = u.size →
    (∀ z z' : u.T, f u z = some z' → RdC ok w u z' vs) → RdC ok w t x us → RdC ok w t y (us.take (offP t p) ++ vs ++ us.drop (offP t p + u.size))
  | [], t, x, y, u, us, vs, h, ht, _, hl, hf, hr => by
    simp only [tyP, Option.some.injEq] at ht
    subst ht
    have hlu := RdC.len _ hr
    simp only [offP, List.take_zero, List.nil_append, Nat.zero_add]
    rw [List.drop_eq_nil_of_le (by omega), List.append_nil]
    exact hf x y h
  | (v, k) :: p, t, x, y, u, us, vs, h, ht, hk, hl, hf, hr => by
    obtain ⟨h1, u1, h2, h3⟩ := okP_cons hk
    simp only [tyP, h2] at ht
    have hfit := p_fits h3 ht
    have hfit2 := fld_fits h2 h1
    have hlu := RdC.len _ hr
    simp only [setP] at h
    have := RdC_fldSet (ok := ok) (w := w) (f := setP p f) (x := x) (y := y) (us := us) (vs := ((us.drop (fldOff t v k)).take u1.size).take (offP u1 p) ++ vs ++ ((us.drop (fldOff t v k)).take u1.size).drop (offP u1 p + u.size)) h h2 h1
      (by simp only [List.length_append, List.length_take, List.length_drop]; omega)
      (fun z hz z' hz' => RdC_setP hz' ht h3 hl hf hz) hr
    simp only [offP, h2]
    rw [splice_splice _ _ _ _ _ _ hl hfit (by omega)] at this
    exact this

/-! ### 2. Cells back as data -/
/-- Blocks that are good once some of the frame's own are given up. -/
def okF (x : Cx) (fs : List Nat) (g : Nat) : Prop := x.ok g ∨ ∃ b ∈ fs, live x.mem b ∧ blkOf (x.loc b) = some g

theorem own_is {x : Cx} {b : Nat} {m : Blk} (hm : isArr m) (h : BR x b m) : ∃ A n c, x.loc b = .slice A n c := by
  cases m with
  | arr t e xs =>
    obtain ⟨flat, ho, _⟩ := h
    rcases ho.2 with ⟨hv, _⟩ | ⟨g, cap, cur, hv, _⟩
    · exact ⟨_, _, _, hv⟩
    · exact ⟨_, _, _, hv⟩
  | _ => exact hm.elim

theorem VR_one {x : Cx} (hbr : ∀ b, BR x b (x.mem b)) {v : V} {u : Value} (h : VR x v u) (hs : v.sure = true) (ha : ∀ cs, v ≠ .agg cs) : u.oneCell' = true := by
  cases v with
  | junk => cases hs
  | tuple _ => cases hs
  | agg cs => exact absurd rfl (ha cs)
  | int k n => rw [show u = _ from h]; rfl
  | bool b => rw [show u = _ from h]; rfl
  | str b => rw [show u = _ from h]; rfl
  | im e xs => obtain ⟨A, c, vs, e, _⟩ := h; injection e with e _; rw [e]; rfl
  | own b =>
    obtain ⟨e, ha⟩ := h
    obtain ⟨A, n, c, hl⟩ := own_is ha (hbr b)
    rw [e, hl]; rfl
  | ownsub b off len =>
    obtain ⟨t, e, xs, A, n, c, _, _, _, c', _, _, hu⟩ := h
    rcases hu with ⟨_, rfl⟩ | ⟨g, _, rfl | ⟨_, _, ad, rfl⟩⟩ <;> rfl
  | ptr b off => obtain ⟨_, g, _, rfl⟩ := h; rfl
  | elt b i p => obtain ⟨t, e, xs, g, n, c, _, _, _, _, rfl⟩ := h; rfl
  | at_ e y => obtain ⟨ad, vs, rfl, _⟩ := h; rfl
  | nilp => rw [show u = _ from h]; rfl
  | nils => rw [show u = _ from h]; rfl
  | fn f cs => obtain ⟨us, rfl, _⟩ := h; rfl
end AM
namespace AM
open Go

theorem okF_l {x : Cx} {fs gs : List Nat} {g : Nat} (h : okF x fs g) : okF x (fs ++ gs) g := by
  rcases h with h | ⟨b, hb, hg⟩
  · exact .inl h
  · exact .inr ⟨b, by simp [hb], hg⟩
theorem okF_r {x : Cx} {fs gs : List Nat} {g : Nat} (h : okF x gs g) : okF x (fs ++ gs) g := by
  rcases h with h | ⟨b, hb, hg⟩
  · exact .inl h
  · exact .inr ⟨b, by simp [hb], hg⟩
theorem okF_cons {x : Cx} {b : Nat} {gs : List Nat} {g : Nat} (h : okF x gs g) : okF x (b :: gs) g := okF_r (fs := [b]) h

theorem RdC_ok {ok ok' : Nat → Prop} {w : World} (h : ∀ g, ok g → ok' g) {t : Ty} {y : t.T} {us : List Value} (hr : RdC ok w t y us) : RdC ok' w t y us := RdC.mono h (fun _ _ _ hc => hc) t hr

/-- What a slice of the frame's own holds, as data. -/
theorem own_data {x : Cx} {b : Nat} {t : TypeId} {e : Ty} {xs : List e.T} (hm : x.mem b = .arr t e xs) (hbr : BR x b (x.mem b)) : RdC (okF x [b]) x.w (.slice e) xs [x.loc b] := by
  have := (arr_gives (x := x) (x' := ⟨okF x [b], x.w, x.loc, x.mem⟩) (b := b) (t := t) (e := e) (xs := xs) (fun g hg => .inl hg) rfl (fun g hg => .inr ⟨b, by simp, (fun e => by rw [hm] at e; cases e), hg⟩) (by rw [hm] at hbr; exact hbr) t e xs rfl).1 hm
  exact this
theorem sub_data {x : Cx} {b off len : Nat} {t : TypeId} {e : Ty} {xs : List e.T} (hm : x.mem b = .arr t e xs) (hbr : BR x b (x.mem b)) {u : Value} (hv : VR x (.ownsub b off len) u) : RdC (okF x [b]) x.w (.slice e) ((xs.drop off).take len) [u] := by
  have := (arr_gives (x := x) (x' := ⟨okF x [b], x.w, x.loc, x.mem⟩) (b := b) (t := t) (e := e) (xs := xs) (fun g hg => .inl hg) rfl (fun g hg => .inr ⟨b, by simp, (fun e => by rw [hm] at e; cases e), hg⟩) (by rw [hm] at hbr; exact hbr) t e xs rfl).2 hm off len u hv
  exact this

theorem dec_sound {x : Cx} (hbr : ∀ b, BR x b (x.mem b)) : ∀ (t : Ty) {cs : List V} {us : List Value} {y : t.T} {rest : List V} {fs : List Nat}, VRs x cs us → dec x.mem t cs = some (y, rest, fs) →
    ∃ p q, us = p ++ q ∧ RdC (okF x fs) x.w t y p ∧ VRs x rest q
  | .int k, [], us, y, rest, fs, hv, h => by simp [dec] at h
  | .int k, v :: r, us, y, rest, fs, ⟨u, q, e, hv, hr⟩, h => by
    cases v <;> simp only [dec, reduceCtorEq] at h
    split at h
    · rename_i k' n hk
      subst hk
      simp only [Option.some.injEq, Prod.mk.injEq] at h
      obtain ⟨rfl, rfl, rfl⟩ := h
      exact ⟨[u], q, e, by rw [show u = _ from hv]; rfl, hr⟩
    · cases h
  | .bool, [], us, y, rest, fs, hv, h => by simp [dec] at h
  | .bool, v :: r, us, y, rest, fs, ⟨u, q, e, hv, hr⟩, h => by
    cases v <;> simp only [dec, reduceCtorEq, Option.some.injEq, Prod.mk.injEq] at h
    obtain ⟨rfl, rfl, rfl⟩ := h
    exact ⟨[u], q, e, by rw [show u = _ from hv]; rfl, hr⟩
  | .str, [], us, y, rest, fs, hv, h => by simp [dec] at h
  | .str, v :: r, us, y, rest, fs, ⟨u, q, e, hv, hr⟩, h => by
    cases v <;> simp only [dec, reduceCtorEq, Option.some.injEq, Prod.mk.injEq] at h
    obtain ⟨rfl, rfl, rfl⟩ := h
    exact ⟨[u], q, e, by rw [show u = _ from hv]; rfl, hr⟩
  | .slice e, [], us, y, rest, fs, hv, h => by simp [dec] at h
  | .slice e, v :: r, us, y, rest, fs, ⟨u, q, eu, hv, hr⟩, h => by
    cases v <;> simp only [dec, reduceCtorEq] at h
    case im e' xs =>
      split at h
      · rename_i he
        subst he
        simp only [Option.some.injEq, Prod.mk.injEq] at h
        obtain ⟨rfl, rfl, rfl⟩ := h
        exact ⟨[u], q, eu, RdC_ok (fun g hg => .inl hg) hv, hr⟩
      · cases h
    case nils =>
      simp only [Option.some.injEq, Prod.mk.injEq] at h
      obtain ⟨rfl, rfl, rfl⟩ := h
      refine ⟨[u], q, eu, ?_, hr⟩
      rw [show u = _ from hv]
      exact ⟨none, 0, [], rfl, Nat.le_refl _, rfl, fun h => by simp at h⟩
    case own b =>
      cases hm : x.mem b <;> rw [hm] at h <;> simp only [reduceCtorEq] at h
      rename_i t' e' xs
      split at h
      · rename_i he
        subst he
        simp only [Option.some.injEq, Prod.mk.injEq] at h
        obtain ⟨rfl, rfl, rfl⟩ := h
        refine ⟨[u], q, eu, ?_, hr⟩
        rw [hv.1]
        exact own_data hm (hbr b)
      · cases h
    case ownsub b off len =>
      cases hm : x.mem b <;> rw [hm] at h <;> simp only [reduceCtorEq] at h
      rename_i t' e' xs
      split at h
      · rename_i he
        subst he
        simp only [Option.some.injEq, Prod.mk.injEq] at h
        obtain ⟨rfl, rfl, rfl⟩ := h
        exact ⟨[u], q, eu, sub_data hm (hbr b) hv, hr⟩
      · cases h
  | .pair a b, cs, us, y, rest, fs, hv, h => by
    simp only [dec] at h
    cases h1 : dec x.mem a cs with
    | none => rw [h1] at h; cases h
    | some p1 =>
      obtain ⟨y1, r1, f1⟩ := p1
      rw [h1] at h
      simp only at h
      cases h2 : dec x.mem b r1 with
      | none => rw [h2] at h; cases h
      | some p2 =>
        obtain ⟨y2, r2, f2⟩ := p2
        rw [h2] at h
        simp only [Option.some.injEq, Prod.mk.injEq] at h
        obtain ⟨rfl, rfl, rfl⟩ := h
        obtain ⟨p, q, e1, hp, hq⟩ := dec_sound hbr a hv h1
        obtain ⟨p', q', e2, hp', hq'⟩ := dec_sound hbr b hq h2
        exact ⟨p ++ p', q', by rw [e1, e2, List.append_assoc], ⟨p, p', rfl, RdC_ok (fun g hg => okF_l hg) hp, RdC_ok (fun g hg => okF_r hg) hp'⟩, hq'⟩
  | .last a, cs, us, y, rest, fs, hv, h => dec_sound hbr a hv h
  | .ref e, [], us, y, rest, fs, hv, h => by simp [dec] at h
  | .ref e, v :: r, us, y, rest, fs, ⟨u, q, eu, hv, hr⟩, h => by
    cases v <;> simp only [dec, reduceCtorEq] at h
    case nilp =>
      simp only [Option.some.injEq, Prod.mk.injEq] at h
      obtain ⟨rfl, rfl, rfl⟩ := h
      exact ⟨[u], q, eu, by rw [show u = _ from hv]; rfl, hr⟩
    case at_ e' z =>
      split at h
      · rename_i he
        subst he
        simp only [Option.some.injEq, Prod.mk.injEq] at h
        obtain ⟨rfl, rfl, rfl⟩ := h
        obtain ⟨ad, vs, hu, ho, hrd, hc⟩ := hv
        exact ⟨[u], q, eu, ⟨ad, vs, by rw [hu], .inl ho, RdC_ok (fun g hg => .inl hg) hrd, hc⟩, hr⟩
      · cases h
    case ptr b off =>
      cases off with
      | succ n => simp at h
      | zero =>
        simp only at h
        obtain ⟨hcell, g, hl, hu⟩ := hv
        cases hm : x.mem b <;> rw [hm] at h <;> simp only [reduceCtorEq] at h
        rename_i t' cs
        have hb := hbr b
        rw [hm] at hb
        obtain ⟨g', us', hl', hg, hs, h1⟩ := hb
        rw [hl] at hl'
        injection hl' with hl'
        injection hl' with hl'
        injection hl' with hgg _ _
        subst hgg
        cases hd : dec x.mem e cs with
        | none => rw [hd] at h; cases h
        | some p1 =>
          obtain ⟨y1, r1, f1⟩ := p1
          rw [hd] at h
          cases r1 with
          | cons a b => simp at h
          | nil =>
            simp only [Option.some.injEq, Prod.mk.injEq] at h
            obtain ⟨rfl, rfl, rfl⟩ := h
            obtain ⟨p, q', e1, hp, hq⟩ := dec_sound hbr e hs hd
            rw [show q' = [] from hq, List.append_nil] at e1
            subst e1
            refine ⟨[u], q, eu, ⟨⟨g, 0, none⟩, us', by rw [hu], .inr ⟨b, by simp, (fun e => by rw [hm] at e; cases e), by rw [hl]; rfl⟩, RdC_ok (fun g hg => okF_cons hg) hp, ?_⟩, hr⟩
            have := cellsAt_of_heap hg 0 us'.length
            simpa using this
  | .vec n e, cs, us, y, rest, fs, hv, h => by
    simp only [dec] at h
    cases hn : Nat.beq n 0
    · rw [hn] at h
      simp only [cond_false] at h
      have key : ∀ (k : Nat) {cs : List V} {us : List Value} {y : List e.T} {rest : List V} {fs : List Nat}, VRs x cs us → decN (dec x.mem e) k cs = some (y, rest, fs) →
          ∃ p q, us = p ++ q ∧ (y.length = k ∧ Els (fun z q => RdC (okF x fs) x.w e z q) y p) ∧ VRs x rest q := by
        intro k
        induction k with
        | zero =>
          intro cs us y rest fs hv h
          simp only [decN, Option.some.injEq, Prod.mk.injEq] at h
          obtain ⟨rfl, rfl, rfl⟩ := h
          exact ⟨[], us, rfl, ⟨rfl, rfl⟩, hv⟩
        | succ k ih =>
          intro cs us y rest fs hv h
          simp only [decN] at h
          cases h1 : dec x.mem e cs with
          | none => simp only [h1, reduceCtorEq] at h
          | some p =>
            obtain ⟨z, r, f⟩ := p
            simp only [h1] at h
            cases h2 : decN (dec x.mem e) k r with
            | none => simp only [h2, reduceCtorEq] at h
            | some p2 =>
              obtain ⟨zs, r2, g⟩ := p2
              simp only [h2, Option.some.injEq, Prod.mk.injEq] at h
              obtain ⟨rfl, rfl, rfl⟩ := h
              obtain ⟨p, q, e1, hp, hq⟩ := dec_sound hbr e hv h1
              obtain ⟨p', q', e2, ⟨hl, hp'⟩, hq'⟩ := ih hq h2
              refine ⟨p ++ p', q', by rw [e1, e2, List.append_assoc], ⟨by simp [hl], p, p', rfl, RdC_ok (fun g hg => okF_l hg) hp, ?_⟩, hq'⟩
              exact Els.mono (fun z q hz => RdC_ok (fun g hg => okF_r hg) hz) hp'
      obtain ⟨p, q, e1, hp, hq⟩ := key n hv h
      exact ⟨p, q, e1, hp, hq⟩
    · rw [hn] at h; cases h

/-- A value's cells. -/
theorem VR_cells {x : Cx} (hbr : ∀ b, BR x b (x.mem b)) {v : V} {u : Value} (h : VR x v u) (hs : v.sure = true) : VRs x v.cellsOf u.cells.toList ∧ ∀ q ∈ u.cells.toList, q.oneCell' = true := by
  by_cases ha : ∃ cs, v = .agg cs
  · obtain ⟨cs, rfl⟩ := ha
    obtain ⟨us, rfl, hv, h1⟩ := h
    exact ⟨hv, h1⟩
  · have h1 := VR_one hbr h hs (fun cs e => ha ⟨cs, e⟩)
    have e1 : v.cellsOf = [v] := by cases v <;> first | rfl | exact absurd ⟨_, rfl⟩ ha
    have e2 : u.cells.toList = [u] := by cases u <;> first | rfl | (simp [Value.oneCell'] at h1)
    rw [e1, e2]
    exact ⟨⟨u, [], rfl, h, rfl⟩, by simpa using h1⟩

theorem dec_sure {m : Nat → Blk} {t : Ty} {v : V} {y : t.T} {fs : List Nat} (h : decV m t v = some (y, fs)) : v.sure = true ∨ True := .inr trivial

theorem decV_sound {x : Cx} (hbr : ∀ b, BR x b (x.mem b)) {t : Ty} {v : V} {u : Value} {y : t.T} {fs : List Nat} (hv : VR x v u) (hs : v.sure = true) (h : decV x.mem t v = some (y, fs)) :
    RdC (okF x fs) x.w t y u.cells.toList := by
  unfold decV at h
  obtain ⟨hc, _⟩ := VR_cells hbr hv hs
  cases hd : dec x.mem t v.cellsOf with
  | none => rw [hd] at h; cases h
  | some p =>
    obtain ⟨y', r, f⟩ := p
    rw [hd] at h
    cases r with
    | cons a b => simp at h
    | nil =>
      simp only [Option.some.injEq, Prod.mk.injEq] at h
      obtain ⟨rfl, rfl⟩ := h
      obtain ⟨p, q, e, hp, hq⟩ := dec_sound hbr t hc hd
      rw [show q = [] from hq, List.append_nil] at e
      rw [e]; exact hp

/-- What is decoded is sure. -/
theorem dec_cells_sure {m : Nat → Blk} : ∀ (t : Ty) {v : V} {r : List V} {z : t.T × List V × List Nat}, dec m t (v :: r) = some z → v.sure = true
  | .int k, v, r, z, h => by cases v <;> simp [dec] at h <;> rfl
  | .bool, v, r, z, h => by cases v <;> simp [dec] at h <;> rfl
  | .str, v, r, z, h => by cases v <;> simp [dec] at h <;> rfl
  | .slice e, v, r, z, h => by cases v <;> simp [dec] at h <;> rfl
  | .pair a b, v, r, z, h => by
    simp only [dec] at h
    cases h1 : dec m a (v :: r) with
    | none => rw [h1] at h; cases h
    | some p => exact dec_cells_sure a h1
  | .last a, v, r, z, h => dec_cells_sure a h
  | .ref e, v, r, z, h => by cases v <;> simp [dec] at h <;> rfl
  | .vec n e, v, r, z, h => by
    cases n with
    | zero => simp [dec] at h
    | succ n =>
      simp only [dec, decN] at h
      cases h1 : dec m e (v :: r) with
      | none => simp [h1] at h
      | some p => exact dec_cells_sure e h1
theorem decV_sure {m : Nat → Blk} {t : Ty} {v : V} {z : t.T × List Nat} (h : decV m t v = some z) : v.sure = true := by
  unfold decV at h
  cases v <;> first
    | rfl
    | (simp only [V.cellsOf] at h
       cases hd : dec m t [_] with
       | none => rw [hd] at h; cases h
       | some p => exact dec_cells_sure t hd)
end AM
namespace AM
open Go

section
variable {P : Program} {F : Fr} {tb : Tab} {s s' : St} {loc : Nat → Value} {a : Act} {w : World} {o : Oper} {v : V}

theorem freeze_mem : ∀ (fs : List Nat) (s : St) (b : Nat), live (s.freeze fs).mem b → live s.mem b ∧ b ∉ fs
  | [], s, b, h => ⟨h, by simp⟩
  | c :: r, s, b, h => by
    have ⟨h1, h2⟩ := freeze_mem r (s.freeze1 c) b h
    have hbc : b ≠ c := fun e => by
      subst e
      apply h1
      show upd (fun d => frzB b (s.mem b) (s.mem d)) b Blk.dead b = Blk.dead
      rw [upd_same]
    refine ⟨fun e => h1 ?_, by simp [hbc, h2]⟩
    show upd (fun d => frzB c (s.mem c) (s.mem d)) c Blk.dead b = _
    rw [upd_other _ _ _ hbc, e]; rfl

theorem freeze_keeps : ∀ (fs : List Nat) (s : St) (b : Nat), b ∉ fs → ∀ {t : TypeId} {e : Ty} {xs : List e.T}, s.mem b = .arr t e xs → (s.freeze fs).mem b = .arr t e xs
  | [], s, b, _, t, e, xs, h => h
  | c :: r, s, b, hb, t, e, xs, h => by
    simp only [List.mem_cons, not_or] at hb
    refine freeze_keeps r (s.freeze1 c) b hb.2 ?_
    show upd (fun d => frzB c (s.mem c) (s.mem d)) c Blk.dead b = _
    rw [upd_other _ _ _ hb.1, h]; rfl
theorem freeze_dead : ∀ (fs : List Nat) (s : St) (b : Nat), s.mem b = .dead → (s.freeze fs).mem b = .dead
  | [], s, b, h => h
  | c :: r, s, b, h => by
    refine freeze_dead r (s.freeze1 c) b ?_
    show upd (fun d => frzB c (s.mem c) (s.mem d)) c Blk.dead b = _
    by_cases hbc : b = c
    · subst hbc; rw [upd_same]
    · rw [upd_other _ _ _ hbc, h]; rfl

theorem freeze_ok (h : RelL F s loc a w) {fs : List Nat} {g : Nat} (hg : okF (cxOf F s loc w) fs g) : okOf F (s.freeze fs).mem loc w g := by
  rcases hg with hg | ⟨b, hb, hlb, hbg⟩
  · exact ⟨hg.1, fun ⟨c, hc, hcg⟩ => hg.2 ⟨c, (freeze_mem fs s c hc).1, hcg⟩⟩
  · refine ⟨⟨h.lt hlb hbg, h.seen hlb hbg⟩, fun ⟨c, hc, hcg⟩ => ?_⟩
    obtain ⟨h1, h2⟩ := freeze_mem fs s c hc
    have := h.inj c b g h1 hlb hcg hbg
    subst this
    exact h2 hb

/-! ### Loads -/
theorem load_sound (hb : tabB P tb = true) (h : RelL F s loc a w) {t : TypeId} {x : Operand} {g : Bool} (hl : loadA tb s t (s.val x) = some (g, v, s')) : ∃ ad u, a.eval x = .pointer (some ad) ∧ (loadVar t ad).run P w = .ok u w ∧ VR (cxOf F s loc w) v u ∧ s' = s := by
  have hv := h.oper x
  generalize s.val x = vx at hl hv
  cases vx <;> simp only [loadA, reduceCtorEq] at hl
  case at_ e y =>
    cases hti : tb.get t with
    | none => rw [hti] at hl; cases hl
    | some i =>
      rw [hti] at hl
      simp only at hl
      cases hc : (Nat.beq i.size e.size && (i.agg == e.agg))
      · rw [hc] at hl; cases hl
      · rw [hc] at hl
        simp only [cond_true, Option.some.injEq, Prod.mk.injEq] at hl
        obtain ⟨_, rfl, rfl⟩ := hl
        simp only [Bool.and_eq_true, beq_iff_eq] at hc
        have hs := Nat.eq_of_beq_eq_true hc.1
        obtain ⟨ad, vs, hx, hok, hrd, hcell⟩ := hv
        have hti := ti_ok hb hti
        obtain ⟨u, hr, hu⟩ := run_loadVar_cells hti w ad vs (by rw [RdC.len e hrd, hs]) hcell (fun hf => by rw [hs]; exact nonagg_size (by rw [← hc.2]; exact hf))
        refine ⟨_, _, hx, hr, ?_, rfl⟩
        unfold encV
        refine VR_mk (VRs_enc e hrd) (RdC.one e hrd) ?_
        rw [← hc.2]; exact hu
  case ptr b off =>
    cases hti : tb.get t with
    | none => rw [hti] at hl; cases hl
    | some i =>
      rw [hti] at hl
      cases hm : s.mem b <;> rw [hm] at hl <;> simp only [reduceCtorEq] at hl
      rename_i tt cs
      cases hc : Nat.ble (off + i.size) cs.length
      · rw [hc] at hl; cases hl
      · rw [hc] at hl
        simp only [cond_true, Option.some.injEq, Prod.mk.injEq] at hl
        obtain ⟨_, rfl, rfl⟩ := hl
        have hle := Nat.le_of_ble_eq_true hc
        obtain ⟨_, g', hl', hx⟩ := hv
        have hbr := h.blk b
        rw [hm] at hbr
        obtain ⟨g, us, hl2, hgh, hs, h1⟩ := hbr
        have hl2 : loc b = .pointer (some ⟨g, 0, none⟩) := hl2
        have hl' : loc b = .pointer (some ⟨g', 0, none⟩) := hl'
        rw [hl'] at hl2
        injection hl2 with e1; injection e1 with e1; injection e1 with e1 _ _
        subst e1
        have hlen := VRs.len hs
        have hti := ti_ok hb hti
        have hsz : ((us.drop off).take i.size).length = i.size := by rw [List.length_take, List.length_drop]; omega
        have h1' : ∀ u ∈ (us.drop off).take i.size, u.oneCell' = true := fun u hu => h1 u (List.mem_of_mem_drop (List.mem_of_mem_take hu))
        by_cases hagg : i.agg = true
        · obtain ⟨u, hr, hu⟩ := run_loadVar_cells hti w ⟨g', off, none⟩ _ hsz (cellsAt_of_heap hgh off i.size) (fun hf => by rw [hagg] at hf; cases hf)
          exact ⟨_, _, hx, hr, VR_mk (VRs.take _ (VRs.drop _ hs)) h1' hu, rfl⟩
        · have hagg : i.agg = false := by simpa using hagg
          obtain ⟨u, hr, hu⟩ := run_loadVar_cells hti w ⟨g', off, none⟩ _ hsz (cellsAt_of_heap hgh off i.size) hti.one
          exact ⟨_, _, hx, hr, VR_mk (VRs.take _ (VRs.drop _ hs)) h1' hu, rfl⟩
  case elt b i p =>
    cases hti : tb.get t with
    | none => rw [hti] at hl; cases hl
    | some j =>
      rw [hti] at hl
      cases hm : s.mem b <;> rw [hm] at hl <;> simp only [reduceCtorEq] at hl
      rename_i tt e xs
      cases hgp : getP e p (xs.getD i e.d) with
      | none => rw [hgp] at hl; cases hl
      | some q =>
        obtain ⟨u, y⟩ := q
        rw [hgp] at hl
        simp only at hl
        cases hc : (Nat.beq j.size u.size && (j.agg == u.agg))
        · rw [hc] at hl; cases hl
        · rw [hc] at hl
          simp only [cond_true, Option.some.injEq, Prod.mk.injEq] at hl
          obtain ⟨_, rfl, rfl⟩ := hl
          simp only [Bool.and_eq_true, beq_iff_eq] at hc
          have hs := Nat.eq_of_beq_eq_true hc.1
          obtain ⟨t', e', xs', g, n, c, hm', hi, hlb, hp, hx⟩ := hv
          have hm' : s.mem b = .arr t' e' xs' := hm'
          rw [hm] at hm'
          injection hm' with q1 q2 q3
          subst q1; subst q2
          have q3 := eq_of_heq q3
          subst q3
          have hbr := h.blk b
          rw [hm] at hbr
          obtain ⟨flat, hown, hels⟩ := hbr
          have hlb : loc b = .slice (some ⟨g, 0, none⟩) n c := hlb
          have hel := Els.get (fun x us hx => RdC.len e hx) hels i (xs.getD i e.d) (by rw [List.getD_eq_getElem?_getD, List.getElem?_eq_getElem hi]; rfl)
          have hrd := RdC_getP hgp hp hel
          have hfit := p_fits hp (getP_ty hgp)
          rw [take_drop_take _ _ _ _ _ hfit] at hrd
          have hcell : CellsAt w ⟨g, i * e.size + offP e p, none⟩ ((flat.drop (i * e.size + offP e p)).take u.size) := by
            intro k q hq
            rw [List.getElem?_take] at hq
            split at hq
            · rw [List.getElem?_drop] at hq
              have := hown.cells (g := g) (by show Value.ownBlock (loc b) = _; rw [hlb]; rfl) _ q hq
              rw [Addr.add_lit] at this ⊢
              rw [Nat.zero_add] at this
              exact this
            · cases hq
          have hti := ti_ok hb hti
          obtain ⟨uu, hr, hu⟩ := run_loadVar_cells hti w _ _ (by rw [RdC.len u hrd, hs]) hcell (fun hf => by rw [hs]; exact nonagg_size (by rw [← hc.2]; exact hf))
          refine ⟨_, _, hx, hr, ?_, rfl⟩
          unfold encV
          refine VR_mk (VRs_enc u hrd) (RdC.one u hrd) ?_
          rw [← hc.2]; exact hu

theorem meets_load (hb : tabB P tb = true) (h : RelL F s loc a w) {t : TypeId} {x : Operand} (ho : o.op = .load t x) {g : Bool} (hl : loadA tb s t (s.val x) = some (g, v, s')) : g = true → Meets P F a w o v s' := by
  intro hg
  obtain ⟨ad, u, hx, hr, hv, rfl⟩ := load_sound hb h hl
  refine meets_pure h (execOp_v (X := Instr.loadAt t (a.eval x)) (by simp [execOp, ho]) ?_) hv
  simp [Instr.loadAt, Instr.sureAddr, hx, hr]
end
end AM
namespace AM
open Go

section
variable {P : Program} {F : Fr} {tb : Tab} {s s' : St} {loc : Nat → Value} {a : Act} {w : World} {o : Oper} {v : V}

theorem cellsAt_sub {w : World} {ad : Addr} {us : List Value} (h : CellsAt w ad us) (off n : Nat) : CellsAt w (ad.add off) ((us.drop off).take n) := by
  intro j u hu
  rw [Addr.add_add]
  rw [List.getElem?_take] at hu
  split at hu
  · rw [List.getElem?_drop] at hu
    exact h _ u hu
  · cases hu

theorem run_fieldAt {st : TypeId} {i : TI} (hi : TIOk P st i) {fs : List (Nat × TypeId)} (hk : i.kd = .struct fs) {f off : Nat} {ft : TypeId} (hn : nth fs f = some (off, ft)) (ad : Addr) (w : World) :
    (Instr.fieldAt st (.pointer (some ad)) f).run P w = .ok (.pointer (some (ad.add off))) w := by
  obtain ⟨gs, fl, hu, hf, ho, ht, hne⟩ := hi.field hk hn
  have hs := sizeOf_run (P := P) (t := fl.type) (by rw [ht]; exact hne) w
  rw [ht] at hs
  simp [Instr.fieldAt, run_underlying hu, hf, Instr.sureAddr, fieldPlace, ht, hs, hne, ho]

theorem stepOk_ty : ∀ {t : Ty} {v : Bool} {k : Nat}, stepOk t v k = true → ∃ u, fldTy t v k = some u
  | .vec n e, true, k, _ => ⟨e, rfl⟩
  | .pair _ _, true, _, h => by simp [stepOk] at h
  | .last _, true, _, h => by simp [stepOk] at h
  | .int _, true, _, h => by simp [stepOk] at h
  | .bool, true, _, h => by simp [stepOk] at h
  | .str, true, _, h => by simp [stepOk] at h
  | .slice _, true, _, h => by simp [stepOk] at h
  | .ref _, true, _, h => by simp [stepOk] at h
  | t, false, k, h => by
    have : (fldTy t false k).isSome = true := by cases t <;> simpa [stepOk] using h
    exact Option.isSome_iff_exists.1 this
theorem okP_snoc : ∀ {p : List (Bool × Nat)} {t u : Ty} {v : Bool} {k : Nat}, okP t p = true → tyP t p = some u → stepOk u v k = true → okP t (p ++ [(v, k)]) = true
  | [], t, u, v, k, _, ht, hs => by
    simp only [tyP, Option.some.injEq] at ht
    subst ht
    obtain ⟨u, hu⟩ := stepOk_ty hs
    simp [okP, hs, hu]
  | (v', k') :: p, t, u, v, k, hk, ht, hs => by
    obtain ⟨h1, u1, h2, h3⟩ := okP_cons hk
    simp only [tyP, h2] at ht
    have := okP_snoc h3 ht hs
    simp only [List.cons_append, okP, h1, h2, this, Bool.true_and]
theorem offP_snoc : ∀ {p : List (Bool × Nat)} {t u : Ty} {v : Bool} {k : Nat}, okP t p = true → tyP t p = some u → stepOk u v k = true → offP t (p ++ [(v, k)]) = offP t p + fldOff u v k
  | [], t, u, v, k, _, ht, hs => by
    simp only [tyP, Option.some.injEq] at ht
    subst ht
    obtain ⟨u, hu⟩ := stepOk_ty hs
    simp [offP, hu]
  | (v', k') :: p, t, u, v, k, hk, ht, hs => by
    obtain ⟨h1, u1, h2, h3⟩ := okP_cons hk
    simp only [tyP, h2] at ht
    have := offP_snoc (v := v) (k := k) h3 ht hs
    simp only [List.cons_append, offP, h2, this, Nat.add_assoc]

theorem meets_fieldAddr (hb : tabB P tb = true) (h : RelL F s loc a w) {st : TypeId} {x : Operand} {f : Nat} (ho : o.op = .fieldAddr st x f) {g : Bool} (hl : fieldAddrA tb s st f (s.val x) = some (g, v, s')) : g = true → Meets P F a w o v s' := by
  intro hg
  have hv := h.oper x
  have hrun : ∀ {ad ad' : Addr}, a.eval x = .pointer (some ad) → (Instr.fieldAt st (.pointer (some ad)) f).run P w = .ok (.pointer (some ad')) w → (execOp a.eval o).run P w = .ok (.value (.pointer (some ad'))) w := by
    intro ad u hx hr
    exact execOp_v (X := Instr.fieldAt st (a.eval x) f) (by simp [execOp, ho]) (by rw [hx]; exact hr)
  generalize s.val x = vx at hl hv
  cases hti : tb.get st with
  | none => cases vx <;> simp [fieldAddrA, hti] at hl
  | some i =>
    have hok := ti_ok hb hti
    obtain ⟨t0, kd, sz, byt, ty, zr, eqq⟩ := i
    cases kd with
    | struct fs =>
      have hkd : (TI.mk t0 (.struct fs) sz byt ty zr eqq).kd = .struct fs := rfl
      cases hn : nth fs f with
      | none => cases vx <;> simp only [fieldAddrA, hti, hn, reduceCtorEq] at hl <;> (split at hl <;> simp_all)
      | some q =>
        obtain ⟨off, ft⟩ := q
        cases vx <;> simp only [fieldAddrA, hti, hn, reduceCtorEq] at hl
        case at_ e y =>
          cases hf : fld e false f y with
          | none => rw [hf] at hl; cases hl
          | some q =>
            obtain ⟨u, z⟩ := q
            rw [hf] at hl
            simp only at hl
            cases hc : Nat.beq off (fldOff e false f)
            · rw [hc] at hl; cases hl
            · rw [hc] at hl
              simp only [cond_true, Option.some.injEq, Prod.mk.injEq] at hl
              obtain ⟨_, rfl, rfl⟩ := hl
              have hoff := Nat.eq_of_beq_eq_true hc
              obtain ⟨ad, vs, hx, hokb, hrd, hcell⟩ := hv
              refine meets_pure h (hrun hx (run_fieldAt hok hkd hn ad w)) ?_
              refine ⟨ad.add off, _, rfl, by rw [add_block]; exact hokb, RdC_fld hf (by simp [stepOk, fld_ty hf]) hrd, ?_⟩
              rw [hoff]
              exact cellsAt_sub hcell _ _
        case ptr b off' =>
          simp only [Option.some.injEq, Prod.mk.injEq] at hl
          obtain ⟨_, rfl, rfl⟩ := hl
          obtain ⟨hc, g', hlb, hx⟩ := hv
          refine meets_pure h (hrun hx (run_fieldAt hok hkd hn _ w)) ⟨hc, g', hlb, ?_⟩
          rw [Addr.add_lit]
        case elt b i' p =>
          cases hm : s.mem b <;> rw [hm] at hl <;> simp only [reduceCtorEq] at hl
          rename_i tt e xs
          cases hty : tyP e p with
          | none => simp only [hn, hty, reduceCtorEq] at hl
          | some u =>
            simp only [hn, hty] at hl
            cases hc : (Nat.beq off (fldOff u false f) && (fldTy u false f).isSome)
            · rw [hc] at hl; cases hl
            · rw [hc] at hl
              simp only [cond_true, Option.some.injEq, Prod.mk.injEq] at hl
              obtain ⟨_, rfl, rfl⟩ := hl
              simp only [Bool.and_eq_true] at hc
              have hoff := Nat.eq_of_beq_eq_true hc.1
              obtain ⟨t', e', xs', g, n, c, hm', hi', hlb, hp, hx⟩ := hv
              have hm'' : s.mem b = .arr t' e' xs' := hm'
              rw [hm] at hm''
              injection hm'' with q1 q2 q3
              subst q1; subst q2
              refine meets_pure h (hrun hx (run_fieldAt hok hkd hn _ w)) ⟨tt, e, xs', g, n, c, hm', hi', hlb, ?_, ?_⟩
              · exact okP_snoc hp hty (by simpa [stepOk] using hc.2)
              · rw [Addr.add_lit, offP_snoc hp hty (by simpa [stepOk] using hc.2), hoff, Nat.add_assoc]
    | _ => cases vx <;> simp only [fieldAddrA, hti, reduceCtorEq] at hl

theorem run_indexAt_slice {t et : TypeId} {j : TI} (hu : P.underlying t = some (.slice et)) (hj : TIOk P et j) {ad : Addr} {n c : Nat} {k : IntKind} {ix : Int} (h0 : 0 ≤ ix) (h1 : ix < (n : Int)) (w : World) :
    (Instr.indexAt t (.slice (some ad) n c) (.int k ix)).run P w = .ok (.pointer (some (ad.add (ix.toNat * j.size)))) w := by
  simp [Instr.indexAt, asIntOf, run_underlying hu, h0, h1, hj.sizeOf]
theorem run_indexAt_arr {t et : TypeId} {m : Nat} {j : TI} (hu : P.underlying t = some (.array m et)) (hj : TIOk P et j) {ad : Addr} {k : IntKind} {ix : Int} (h0 : 0 ≤ ix) (h1 : ix < (m : Int)) (w : World) :
    (Instr.indexAt t (.pointer (some ad)) (.int k ix)).run P w = .ok (.pointer (some (ad.add (ix.toNat * j.size)))) w := by
  simp [Instr.indexAt, asIntOf, run_underlying hu, Instr.sureAddr, h0, h1, hj.sizeOf]

theorem im_get {x : Cx} {e : Ty} {xs : List e.T} {u : Value} (h : RdC x.ok x.w (.slice e) xs [u]) {i : Nat} (hi : i < xs.length) :
    ∃ ad c vs, u = .slice (some ad) xs.length c ∧ x.ok ad.block ∧ RdC x.ok x.w e (xs.getD i e.d) ((vs.drop (i * e.size)).take e.size) ∧ CellsAt x.w ad vs := by
  obtain ⟨A, c, vs, hu, hc, he, hz⟩ := h
  obtain ⟨ad, rfl, hok, hcell⟩ := hz (by omega)
  injection hu with hu _
  exact ⟨ad, c, vs, hu, hok, Els.get (fun x us hx => RdC.len e hx) he i _ (by rw [List.getD_eq_getElem?_getD, List.getElem?_eq_getElem hi]; rfl), hcell⟩

/-- The block of a slice of the frame's own that holds something. -/
theorem own_some {x : Cx} {b : Nat} {t : TypeId} {e : Ty} {xs : List e.T} (hbr : BR x b (.arr t e xs)) (hn : 0 < xs.length) : ∃ g c, x.loc b = .slice (some ⟨g, 0, none⟩) xs.length c := by
  obtain ⟨flat, ho, _⟩ := hbr
  rcases ho.2 with ⟨hv, h0⟩ | ⟨g, cap, cur, hv, _⟩
  · omega
  · exact ⟨g, cap, hv⟩

theorem meets_indexAddr (hb : tabB P tb = true) (h : RelL F s loc a w) {t : TypeId} {x ix : Operand} (ho : o.op = .indexAddr t x ix) {g : Bool} (hl : indexAddrA tb s t (s.val x) (s.val ix) = some (g, v, s')) : g = true → Meets P F a w o v s' := by
  intro hg
  have hv := h.oper x
  have hw := h.oper ix
  have hrun : ∀ {p q u : Value}, a.eval x = p → a.eval ix = q → (Instr.indexAt t p q).run P w = .ok u w → (execOp a.eval o).run P w = .ok (.value u) w := by
    intro p q u hx hq hr
    exact execOp_v (X := Instr.indexAt t (a.eval x) (a.eval ix)) (by simp [execOp, ho]) (by rw [hx, hq]; exact hr)
  generalize s.val x = vx at hl hv
  generalize s.val ix = vi at hl hw
  cases vi <;> simp only [indexAddrA, reduceCtorEq] at hl
  rename_i k n
  have hix : a.eval ix = .int k n := hw
  cases hti : tb.get t with
  | none => cases vx <;> simp only [hti, reduceCtorEq] at hl <;> (split at hl <;> simp_all)
  | some i =>
    have hok := ti_ok hb hti
    obtain ⟨t0, kd, sz, byt, ty, zr, eqq⟩ := i
    cases vx <;> simp only [hti, reduceCtorEq] at hl
    case im e xs =>
      cases kd <;> simp only [reduceCtorEq] at hl
      rename_i et
      cases hte : tb.get et with
      | none => rw [hte] at hl; cases hl
      | some j =>
        rw [hte] at hl
        try simp only at hl
        cases hc : Nat.beq j.size e.size
        · rw [hc] at hl; cases hl
        · rw [hc] at hl
          simp only [cond_true, Option.some.injEq, Prod.mk.injEq] at hl
          obtain ⟨rfl, rfl, rfl⟩ := hl
          obtain ⟨h0, h1⟩ := idxOk_spec hg
          have hsz := Nat.eq_of_beq_eq_true hc
          obtain ⟨ad, c, vs, hx, hokb, hrd, hcell⟩ := im_get hv (i := n.toNat) (by omega)
          refine meets_pure h (hrun hx hix (run_indexAt_slice (hok.under_slice rfl) (ti_ok hb hte) h0 h1 w)) ?_
          rw [hsz]
          exact ⟨_, _, rfl, by rw [add_block]; exact hokb, hrd, cellsAt_sub hcell _ _⟩
    case own b =>
      cases kd <;> cases hm : s.mem b <;> simp only [hm, reduceCtorEq] at hl
      rename_i et tt e xs
      cases hte : tb.get et with
      | none => rw [hte] at hl; cases hl
      | some j =>
        rw [hte] at hl
        try simp only at hl
        cases hc : Nat.beq j.size e.size
        · rw [hc] at hl; cases hl
        · rw [hc] at hl
          simp only [cond_true, Option.some.injEq, Prod.mk.injEq] at hl
          obtain ⟨rfl, rfl, rfl⟩ := hl
          obtain ⟨h0, h1⟩ := idxOk_spec hg
          have hsz := Nat.eq_of_beq_eq_true hc
          obtain ⟨g, c, hlb⟩ := own_some (x := cxOf F s loc w) (b := b) (hm ▸ h.blk b) (by omega)
          have hx : a.eval x = .slice (some ⟨g, 0, none⟩) xs.length c := by rw [hv.1]; exact hlb
          refine meets_pure h (hrun hx hix (run_indexAt_slice (hok.under_slice rfl) (ti_ok hb hte) h0 h1 w)) ?_
          refine ⟨tt, e, xs, g, xs.length, c, hm, by omega, hlb, rfl, ?_⟩
          rw [Addr.add_lit, hsz]
          simp [offP]
    case ownsub b off len =>
      cases kd <;> cases hm : s.mem b <;> simp only [hm, reduceCtorEq] at hl
      rename_i et tt e xs
      cases hte : tb.get et with
      | none => rw [hte] at hl; cases hl
      | some j =>
        rw [hte] at hl
        try simp only at hl
        cases hc : Nat.beq j.size e.size
        · rw [hc] at hl; cases hl
        · rw [hc] at hl
          simp only [cond_true, Option.some.injEq, Prod.mk.injEq] at hl
          obtain ⟨rfl, rfl, rfl⟩ := hl
          obtain ⟨h0, h1⟩ := idxOk_spec hg
          have hsz := Nat.eq_of_beq_eq_true hc
          obtain ⟨t', e', xs', A, n', c, hm', hlb, hle, c', hlc, hcc, hu⟩ := hv
          have hm'' : s.mem b = .arr t' e' xs' := hm'
          rw [hm] at hm''
          injection hm'' with q1 q2 q3
          subst q1; subst q2
          have q3 := eq_of_heq q3
          subst q3
          obtain ⟨g, c2, hlb2⟩ := own_some (x := cxOf F s loc w) (b := b) (hm ▸ h.blk b) (by omega)
          rw [hlb2] at hlb
          injection hlb with hA hn' hc'
          subst hA; subst hn'; subst hc'
          rcases hu with ⟨hA, _⟩ | ⟨g2, hA, hu | ⟨hc0, _, _⟩⟩
          · cases hA
          · injection hA with hA
            injection hA with hA _ _
            subst hA
            refine meets_pure h (hrun hu hix (run_indexAt_slice (hok.under_slice rfl) (ti_ok hb hte) h0 h1 w)) ?_
            refine ⟨tt, e, xs, g, xs.length, _, hm, by omega, hlb2, rfl, ?_⟩
            rw [Addr.add_lit, hsz, Nat.add_mul]
            simp [offP]
          · omega
    case at_ e y =>
      cases e <;> simp only [reduceCtorEq] at hl
      rename_i m e
      try simp only [hti] at hl
      cases kd <;> simp only [reduceCtorEq] at hl
      rename_i m' et
      cases hte : tb.get et with
      | none => rw [hte] at hl; cases hl
      | some j =>
        rw [hte] at hl
        try simp only at hl
        cases hc : (Nat.beq j.size e.size && Nat.beq m m' && Nat.ble 2 m)
        · rw [hc] at hl; cases hl
        · rw [hc] at hl
          simp only [cond_true, Option.some.injEq, Prod.mk.injEq] at hl
          obtain ⟨rfl, rfl, rfl⟩ := hl
          simp only [Bool.and_eq_true] at hc
          obtain ⟨h0, h1⟩ := idxOk_spec hg
          have hsz := Nat.eq_of_beq_eq_true hc.1.1
          have hmm := Nat.eq_of_beq_eq_true hc.1.2
          subst hmm
          obtain ⟨ad, vs, hx, hokb, hrd, hcell⟩ := hv
          refine meets_pure h (hrun hx hix (run_indexAt_arr (hok.under_array rfl) (ti_ok hb hte) h0 h1 w)) ?_
          rw [hsz]
          refine ⟨_, _, rfl, by rw [add_block]; exact hokb, RdC_fld (t := .vec m e) (v := true) (k := n.toNat) (x := y) rfl (by simp [stepOk]; omega) hrd, cellsAt_sub hcell _ _⟩
    case ptr b off =>
      cases kd <;> simp only [reduceCtorEq] at hl
      rename_i m' et
      cases hte : tb.get et with
      | none => rw [hte] at hl; cases hl
      | some j =>
        rw [hte] at hl
        try simp only at hl
        cases hc : Nat.ble 2 m'
        · rw [hc] at hl; cases hl
        · rw [hc] at hl
          simp only [cond_true, Option.some.injEq, Prod.mk.injEq] at hl
          obtain ⟨rfl, rfl, rfl⟩ := hl
          obtain ⟨h0, h1⟩ := idxOk_spec hg
          obtain ⟨hcl, g', hlb, hx⟩ := hv
          refine meets_pure h (hrun hx hix (run_indexAt_arr (hok.under_array rfl) (ti_ok hb hte) h0 h1 w)) ⟨hcl, g', hlb, ?_⟩
          rw [Addr.add_lit]
    case elt b i' p =>
      cases kd <;> cases hm : s.mem b <;> simp only [hm, reduceCtorEq] at hl
      rename_i m' et tt e xs
      cases hte : tb.get et with
      | none => rw [hte] at hl; cases hl
      | some j =>
        rw [hte] at hl
        cases hty : tyP e p with
        | none => rw [hty] at hl; cases hl
        | some u =>
          rw [hty] at hl
          cases u <;> simp only [reduceCtorEq] at hl
          rename_i m u
          cases hc : (Nat.beq j.size u.size && Nat.beq m m' && Nat.ble 2 m)
          · rw [hc] at hl; cases hl
          · rw [hc] at hl
            simp only [cond_true, Option.some.injEq, Prod.mk.injEq] at hl
            obtain ⟨rfl, rfl, rfl⟩ := hl
            simp only [Bool.and_eq_true] at hc
            obtain ⟨h0, h1⟩ := idxOk_spec hg
            have hsz := Nat.eq_of_beq_eq_true hc.1.1
            have hmm := Nat.eq_of_beq_eq_true hc.1.2
            subst hmm
            obtain ⟨t', e', xs', g, n', c, hm', hi', hlb, hp, hx⟩ := hv
            have hm'' : s.mem b = .arr t' e' xs' := hm'
            rw [hm] at hm''
            injection hm'' with q1 q2 q3
            subst q1; subst q2
            have hst : stepOk (.vec m u) true n.toNat = true := by simp [stepOk]; omega
            refine meets_pure h (hrun hx hix (run_indexAt_arr (hok.under_array rfl) (ti_ok hb hte) h0 h1 w)) ⟨tt, e, xs', g, n', c, hm', hi', hlb, okP_snoc hp hty hst, ?_⟩
            rw [Addr.add_lit, offP_snoc hp hty hst, hsz, Nat.add_assoc]
            rfl
end
end AM
namespace AM
open Go

section
variable {P : Program} {F : Fr} {tb : Tab} {s s' : St} {loc : Nat → Value} {a : Act} {w : World} {o : Oper} {v : V}

theorem opt_val (h : RelL F s loc a w) {lo : Option Operand} {d l : Int} (hl : optNat lo s d = some l) : (lo.map a.eval = none ∧ l = d) ∨ ∃ k, lo.map a.eval = some (.int k l) := by
  rcases optNat_eval h hl with ⟨rfl, rfl⟩ | ⟨x, k, rfl, hx⟩
  · exact .inl ⟨rfl, rfl⟩
  · exact .inr ⟨k, by simp [hx]⟩

theorem run_sliceAt_str {t : TypeId} (hu : P.underlying t = some .string) {b : ByteArray} {lo hi : Option Value} {l h : Int} (hlo : (lo = none ∧ l = 0) ∨ ∃ k, lo = some (.int k l)) (hhi : (hi = none ∧ h = (b.size : Nat)) ∨ ∃ k, hi = some (.int k h))
    (h0 : 0 ≤ l) (h1 : l ≤ h) (h2 : h ≤ (b.size : Int)) (w : World) : (Instr.sliceAt t (.string b) lo hi none).run P w = .ok (.string (b.extract l.toNat h.toNat)) w := by
  have := run_sliceBounds (P := P) (isSlice := false) (len := b.size) (cap := b.size) (Nat.le_refl _) hlo hhi h0 h1 h2 w
  simp [Instr.sliceAt, Instr.slice, run_underlying hu, this]

theorem run_sliceAt_slice {t et : TypeId} {j : TI} (hu : P.underlying t = some (.slice et)) (hj : TIOk P et j) {A : Option Addr} {n c : Nat} (hnc : n ≤ c) {lo hi : Option Value} {l h : Int} (hlo : (lo = none ∧ l = 0) ∨ ∃ k, lo = some (.int k l)) (hhi : (hi = none ∧ h = (n : Nat)) ∨ ∃ k, hi = some (.int k h))
    (h0 : 0 ≤ l) (h1 : l ≤ h) (h2 : h ≤ (n : Int)) (w : World) :
    (Instr.sliceAt t (.slice A n c) lo hi none).run P w = .ok (.slice (if c = l.toNat then A else A.map (·.add (l.toNat * j.size))) (h.toNat - l.toNat) (c - l.toNat)) w := by
  have := run_sliceBounds (P := P) (isSlice := true) (len := n) (cap := c) hnc hlo hhi h0 h1 h2 w
  simp [Instr.sliceAt, Instr.slice, run_underlying hu, this, hj.sizeOf]

theorem meets_slice (hb : tabB P tb = true) (h : RelL F s loc a w) {t : TypeId} {x : Operand} {lo hi mx : Option Operand} (ho : o.op = .slice t x lo hi mx) {g : Bool} (hl : sliceA tb s t (s.val x) lo hi mx = some (g, v, s')) : g = true → Meets P F a w o v s' := by
  intro hg
  have hv := h.oper x
  cases mx with
  | some m => simp [sliceA] at hl
  | none =>
  have hrun : ∀ {p u : Value}, a.eval x = p → (Instr.sliceAt t p (lo.map a.eval) (hi.map a.eval) none).run P w = .ok u w → (execOp a.eval o).run P w = .ok (.value u) w := by
    intro p u hx hr
    exact execOp_v (X := Instr.sliceAt t (a.eval x) (lo.map a.eval) (hi.map a.eval) none) (by simp [execOp, ho]) (by rw [hx]; exact hr)
  generalize s.val x = vx at hl hv
  simp only [sliceA] at hl
  cases hti : tb.get t with
  | none => simp only [hti, reduceCtorEq] at hl
  | some i =>
    have hok := ti_ok hb hti
    obtain ⟨t0, kd, sz, byt, ty, zr, eqq⟩ := i
    rw [hti] at hl
    cases kd <;> simp only [reduceCtorEq] at hl
    case str =>
      cases vx <;> simp only [reduceCtorEq] at hl
      rename_i b
      cases h1 : optNat lo s 0 with
      | none => rw [h1] at hl; cases hl
      | some l =>
        cases h2 : optNat hi s b.size with
        | none => rw [h1, h2] at hl; cases hl
        | some hh =>
          rw [h1, h2] at hl
          simp only [Option.some.injEq, Prod.mk.injEq] at hl
          obtain ⟨rfl, rfl, rfl⟩ := hl
          obtain ⟨q0, q1, q2⟩ := sliceOk_spec hg
          exact meets_pure h (hrun hv (run_sliceAt_str (hok.under_str rfl) (opt_val h h1) (opt_val h h2) q0 q1 q2 w)) rfl
    case slice et =>
      cases hte : tb.get et with
      | none => rw [hte] at hl; cases hl
      | some j =>
        have hj := ti_ok hb hte
        rw [hte] at hl
        cases vx <;> simp only [reduceCtorEq] at hl
        case im e xs =>
          cases h1 : optNat lo s 0 with
          | none => rw [h1] at hl; cases hl
          | some l =>
            cases h2 : optNat hi s xs.length with
            | none => rw [h1, h2] at hl; cases hl
            | some hh =>
              rw [h1, h2] at hl
              simp only at hl
              cases hc : Nat.beq j.size e.size
              · rw [hc] at hl; cases hl
              · rw [hc] at hl
                simp only [cond_true, Option.some.injEq, Prod.mk.injEq] at hl
                obtain ⟨rfl, rfl, rfl⟩ := hl
                obtain ⟨q0, q1, q2⟩ := sliceOk_spec hg
                have hsz := Nat.eq_of_beq_eq_true hc
                obtain ⟨A, c, vs, hx, hnc, hels, hz⟩ := hv
                have hx : a.eval x = .slice A xs.length c := by injection hx
                refine meets_pure h (hrun hx (run_sliceAt_slice (hok.under_slice rfl) hj hnc (opt_val h h1) (opt_val h h2) q0 q1 q2 w)) ?_
                have hlen : (cut xs l hh).length = hh.toNat - l.toNat := by simp only [cut, List.length_take, List.length_drop]; omega
                have hle : ∀ (y : e.T) (q : List Value), RdC (cxOf F s loc w).ok (cxOf F s loc w).w e y q → q.length = e.size := fun y q hq => RdC.len e hq
                refine ⟨_, c - l.toNat, _, by rw [hlen], by rw [hlen]; omega, Els.take hle _ (Els.drop hle _ hels), fun hp => ?_⟩
                rw [hlen] at hp
                obtain ⟨ad, rfl, hokb, hcell⟩ := hz (by omega)
                rw [if_neg (by omega), hsz]
                exact ⟨_, rfl, by rw [add_block]; exact hokb, cellsAt_sub hcell _ _⟩
        case own b =>
          cases hm : s.mem b <;> rw [hm] at hl <;> simp only [reduceCtorEq] at hl
          rename_i tt e xs
          cases h1 : optNat lo s 0 with
          | none => rw [h1] at hl; cases hl
          | some l =>
            cases h2 : optNat hi s xs.length with
            | none => rw [h1, h2] at hl; cases hl
            | some hh =>
              rw [h1, h2] at hl
              simp only at hl
              cases hc : Nat.beq j.size e.size
              · rw [hc] at hl; cases hl
              · rw [hc] at hl
                simp only [cond_true, Option.some.injEq, Prod.mk.injEq] at hl
                obtain ⟨rfl, rfl, rfl⟩ := hl
                obtain ⟨q0, q1, q2⟩ := sliceOk_spec hg
                have hsz := Nat.eq_of_beq_eq_true hc
                have hbr := h.blk b
                rw [hm] at hbr
                obtain ⟨flat, hown, hels⟩ := hbr
                have hx : a.eval x = loc b := hv.1
                rcases hown.2 with ⟨hlb, hn0⟩ | ⟨g', cap, cur, hlb, _, _, hnc, _⟩
                · have hlb : loc b = .slice none 0 0 := hlb
                  rw [hlb] at hx
                  have hl0 : l.toNat = 0 := by omega
                  have hh0 : hh.toNat = 0 := by omega
                  refine meets_pure h (hrun hx (run_sliceAt_slice (A := none) (n := 0) (c := 0) (hok.under_slice rfl) hj (Nat.le_refl _) (opt_val h h1) (by rw [hn0] at h2; exact opt_val h h2) q0 q1 (by omega) w)) ?_
                  refine ⟨tt, e, xs, none, 0, 0, hm, hlb, by omega, 0, by omega, by omega, .inl ⟨rfl, ?_⟩⟩
                  rw [hl0, hh0]; rfl
                · have hlb : loc b = .slice (some ⟨g', 0, none⟩) xs.length cap := hlb
                  rw [hlb] at hx
                  refine meets_pure h (hrun hx (run_sliceAt_slice (hok.under_slice rfl) hj hnc (opt_val h h1) (opt_val h h2) q0 q1 q2 w)) ?_
                  refine ⟨tt, e, xs, _, _, cap, hm, hlb, by omega, cap - l.toNat, by omega, by omega, .inr ⟨g', rfl, ?_⟩⟩
                  by_cases hcl : cap = l.toNat
                  · rw [if_pos hcl]
                    by_cases hl0 : l.toNat = 0
                    · left
                      rw [hl0, Nat.zero_mul]
                    · right
                      exact ⟨by omega, hl0, ⟨g', 0, none⟩, by
                        have : hh.toNat - l.toNat = 0 := by omega
                        have h3 : cap - l.toNat = 0 := by omega
                        rw [this, h3]⟩
                  · rw [if_neg hcl]
                    left
                    simp only [Option.map_some, Addr.add_lit, Nat.zero_add, hsz]
        case ownsub b off len =>
          cases hm : s.mem b <;> rw [hm] at hl <;> simp only [reduceCtorEq] at hl
          rename_i tt e xs
          cases h1 : optNat lo s 0 with
          | none => rw [h1] at hl; cases hl
          | some l =>
            cases h2 : optNat hi s len with
            | none => rw [h1, h2] at hl; cases hl
            | some hh =>
              rw [h1, h2] at hl
              simp only at hl
              cases hc : Nat.beq j.size e.size
              · rw [hc] at hl; cases hl
              · rw [hc] at hl
                simp only [cond_true, Option.some.injEq, Prod.mk.injEq] at hl
                obtain ⟨rfl, rfl, rfl⟩ := hl
                obtain ⟨q0, q1, q2⟩ := sliceOk_spec hg
                have hsz := Nat.eq_of_beq_eq_true hc
                obtain ⟨t', e', xs', A, n', c, hm', hlb, hle, c', hlc, hcc, hu⟩ := hv
                have hm'' : s.mem b = .arr t' e' xs' := hm'
                rw [hm] at hm''
                injection hm'' with r1 r2 r3
                subst r1; subst r2
                have r3 := eq_of_heq r3
                subst r3
                rcases hu with ⟨rfl, hu⟩ | ⟨g2, rfl, hu | ⟨hc0, hoff, ad, hu⟩⟩
                · refine meets_pure h (hrun hu (run_sliceAt_slice (hok.under_slice rfl) hj hlc (opt_val h h1) (opt_val h h2) q0 q1 q2 w)) ?_
                  refine ⟨tt, e, xs, none, n', c, hm, hlb, by omega, c' - l.toNat, by omega, by omega, .inl ⟨rfl, ?_⟩⟩
                  congr 1
                  split <;> rfl
                · refine meets_pure h (hrun hu (run_sliceAt_slice (hok.under_slice rfl) hj hlc (opt_val h h1) (opt_val h h2) q0 q1 q2 w)) ?_
                  refine ⟨tt, e, xs, _, n', c, hm, hlb, by omega, c' - l.toNat, by omega, by omega, .inr ⟨g2, rfl, ?_⟩⟩
                  by_cases hcl : c' = l.toNat
                  · rw [if_pos hcl]
                    by_cases hl0 : off + l.toNat = 0
                    · left
                      have h3 : off = 0 := by omega
                      have h4 : l.toNat = 0 := by omega
                      rw [h3, h4]
                    · right
                      exact ⟨by omega, hl0, _, by
                        have h3 : hh.toNat - l.toNat = 0 := by omega
                        have h4 : c' - l.toNat = 0 := by omega
                        rw [h3, h4]⟩
                  · rw [if_neg hcl]
                    left
                    simp only [Option.map_some, Addr.add_lit, hsz, Nat.add_mul]
                · subst hc0
                  have hlen0 : len = 0 := by omega
                  subst hlen0
                  refine meets_pure h (hrun hu (run_sliceAt_slice (n := 0) (c := 0) (hok.under_slice rfl) hj (Nat.le_refl _) (opt_val h h1) (opt_val h h2) q0 q1 q2 w)) ?_
                  have h4 : l.toNat = 0 := by omega
                  have h5 : hh.toNat = 0 := by omega
                  refine ⟨tt, e, xs, _, n', c, hm, hlb, by omega, 0, by omega, by omega, .inr ⟨g2, rfl, .inr ⟨rfl, by omega, ad, ?_⟩⟩⟩
                  rw [h4, h5]; rfl

theorem meets_field (hb : tabB P tb = true) (h : RelL F s loc a w) {st : TypeId} {x : Operand} {f : Nat} (ho : o.op = .field st x f) {g : Bool} (hl : opA tb s 0 (.field st x f) = some (g, v, s')) : g = true → Meets P F a w o v s' := by
  intro hg
  have hv := h.oper x
  simp only [opA] at hl
  generalize s.val x = vx at hl hv
  cases hti : tb.get st with
  | none => simp only [hti, reduceCtorEq] at hl
  | some i =>
    have hok := ti_ok hb hti
    obtain ⟨t0, kd, sz, byt, ty, zr, eqq⟩ := i
    rw [hti] at hl
    cases kd <;> cases vx <;> simp only [reduceCtorEq] at hl
    rename_i fs cs
    cases hn : nth fs f with
    | none => simp only [hn, reduceCtorEq] at hl
    | some q =>
      obtain ⟨off, ft⟩ := q
      simp only [hn] at hl
      cases hte : tb.get ft with
      | none => simp only [hte, reduceCtorEq] at hl
      | some j =>
        simp only [hte] at hl
        cases hc : Nat.ble (off + j.size) cs.length
        · rw [hc] at hl; cases hl
        · rw [hc] at hl
          simp only [cond_true, Option.some.injEq, Prod.mk.injEq] at hl
          obtain ⟨rfl, rfl, rfl⟩ := hl
          have hle := Nat.le_of_ble_eq_true hc
          obtain ⟨us, hx, hs, h1⟩ := hv
          obtain ⟨gs, fl, hu, hf, hof, hft, hne⟩ := hok.field rfl hn
          have hj := ti_ok hb hte
          have hlen := VRs.len hs
          subst hft; subst hof
          have h1' : ∀ u ∈ (us.drop fl.offset).take j.size, u.oneCell' = true := fun u hu => h1 u (List.mem_of_mem_drop (List.mem_of_mem_take hu))
          have hr : ∃ u, (Instr.field st (.agg us.toArray) f).run P w = .ok u w ∧ (if j.agg = true then u = .agg ((us.drop fl.offset).take j.size).toArray else (us.drop fl.offset).take j.size = [u]) := by
            cases hagg : j.agg with
            | true =>
              refine ⟨.agg ((us.drop fl.offset).take j.size).toArray, ?_, by simp⟩
              simp [Instr.field, run_underlying hu, hf, asAgg, part, hj.isAgg, hagg, hj.sizeOf]
            | false =>
              have hs1 := hj.one hagg
              have hlt : fl.offset < us.length := by omega
              refine ⟨us[fl.offset], ?_, ?_⟩
              · simp [Instr.field, run_underlying hu, hf, asAgg, part, hj.isAgg, hagg, hlt]
              · simp only [Bool.false_eq_true, if_false]
                rw [hs1, List.drop_eq_getElem_cons hlt]; rfl
          obtain ⟨u, hr, hu'⟩ := hr
          refine meets_pure h (execOp_v (X := Instr.field st (a.eval x) f) (by simp [execOp, ho]) (by rw [hx]; exact hr)) (VR_mk (VRs.take _ (VRs.drop _ hs)) h1' hu')
end
end AM
namespace AM
open Go

section
variable {P : Program} {F : Fr} {tb : Tab} {s s' : St} {loc : Nat → Value} {a : Act} {w : World} {o : Oper} {v : V}

theorem VRs_set {x : Cx} {cs ds : List V} {us qs : List Value} (h : VRs x cs us) (hd : VRs x ds qs) (off : Nat) : VRs x (setCells cs off ds) (us.take off ++ qs ++ us.drop (off + qs.length)) := by
  unfold setCells
  rw [← VRs.len hd]
  exact VRs.append (VRs.append (VRs.take _ h) hd) (VRs.drop _ h)

/-- A store into cells that are there. -/
theorem run_storeAt_cells {t : TypeId} {i : TI} (hi : TIOk P t i) {g off : Nat} {cur : Array Value} {tt : TypeId} (hg : w.heap[g]? = some (.cells cur tt (0, 0))) {u : Value} (hl : u.cells.size = i.size) (h1 : ∀ q ∈ u.cells.toList, q.oneCell' = true) (hle : off + i.size ≤ cur.size) :
    (Instr.storeAt t (.pointer (some ⟨g, off, none⟩)) u).run P w = .ok () (w.setRow g (cur.toList.take off ++ u.cells.toList ++ cur.toList.drop (off + u.cells.toList.length)).toArray) := by
  have hst := run_storeCells_at (P := P) g off tt u.cells.toList 0 cur w hg (by simp; omega) h1
  simp only [Nat.add_zero] at hst
  simp [Instr.storeAt, Instr.sureAddr, storeVar, hi.sizeOf, hl, hst]

theorem execOp_u {X : Sem Unit} {w' : World} (he : execOp a.eval o = (do X; pure .skip)) (hr : X.run P w = .ok () w') : (execOp a.eval o).run P w = .ok .skip w' := by
  rw [he]
  simp only [Sem.run_bind, hr, Result.andThen_ok, Sem.run_pure]

theorem hasN_not : ∀ {l : List Nat} {b : Nat}, hasN l b = false → b ∉ l
  | [], b, _ => by simp
  | x :: r, b, h => by
    simp only [hasN] at h
    cases hx : Nat.beq x b
    · rw [hx] at h
      simp only [cond_false] at h
      have hne : b ≠ x := fun e => by subst e; simp at hx
      simp [hne, hasN_not h]
    · rw [hx] at h; cases h

theorem fldSet_some {f : (u : Ty) → u.T → Option u.T} : ∀ {t : Ty} {v : Bool} {k : Nat} {x y : t.T} {u : Ty}, fldSet t v k f x = some y → fldTy t v k = some u → ∃ z0 z1, f u z0 = some z1
  | .pair a b, false, 0, x, y, u, h, ht => by
    simp only [fldTy, Option.some.injEq] at ht
    subst ht
    simp only [fldSet] at h
    cases hg : f a x.1 with
    | none => rw [hg] at h; cases h
    | some z => exact ⟨_, _, hg⟩
  | .pair a b, false, k + 1, x, y, u, h, ht => by
    simp only [fldSet] at h
    cases hg : fldSet b false k f x.2 with
    | none => rw [hg] at h; cases h
    | some z => exact fldSet_some (t := b) (v := false) (k := k) hg ht
  | .last a, false, 0, x, y, u, h, ht => by
    simp only [fldTy, Option.some.injEq] at ht
    subst ht
    exact ⟨x, y, h⟩
  | .vec n e, true, k, x, y, u, h, ht => by
    simp only [fldTy, Option.some.injEq] at ht
    subst ht
    simp only [fldSet] at h
    cases hg : f e (x.getD k e.d) with
    | none => rw [hg] at h; cases h
    | some z => exact ⟨_, _, hg⟩
  | .pair _ _, true, _, _, _, _, _, h => by simp [fldTy] at h
  | .last _, true, _, _, _, _, _, h => by simp [fldTy] at h
  | .last _, false, _ + 1, _, _, _, _, h => by simp [fldTy] at h
  | .vec _ _, false, _, _, _, _, _, h => by simp [fldTy] at h
  | .int _, _, _, _, _, _, _, h => by simp [fldTy] at h
  | .bool, _, _, _, _, _, _, h => by simp [fldTy] at h
  | .str, _, _, _, _, _, _, h => by simp [fldTy] at h
  | .slice _, _, _, _, _, _, _, h => by simp [fldTy] at h
  | .ref _, _, _, _, _, _, _, h => by simp [fldTy] at h
theorem setP_some {f : (u : Ty) → u.T → Option u.T} : ∀ {p : List (Bool × Nat)} {t : Ty} {x y : t.T} {u : Ty}, setP p f t x = some y → tyP t p = some u → ∃ z0 z1, f u z0 = some z1
  | [], t, x, y, u, h, ht => by
    simp only [tyP, Option.some.injEq] at ht
    subst ht
    exact ⟨x, y, h⟩
  | (v, k) :: p, t, x, y, u, h, ht => by
    simp only [tyP] at ht
    cases hf : fldTy t v k with
    | none => rw [hf] at ht; cases ht
    | some u1 =>
      rw [hf] at ht
      simp only [setP] at h
      obtain ⟨z0, z1, h1⟩ := fldSet_some h hf
      exact setP_some h1 ht
theorem splice_take {α : Type} (cur vs : List α) (off k m : Nat) (hv : vs.length = k) (h1 : off + k ≤ m) (h2 : m ≤ cur.length) :
    (cur.take off ++ vs ++ cur.drop (off + k)).take m = (cur.take m).take off ++ vs ++ (cur.take m).drop (off + k) := by
  have hl : (cur.take off ++ vs).length = off + k := by rw [List.length_append, List.length_take, hv]; omega
  rw [List.take_append, List.take_of_length_le (by omega), hl, List.take_take, Nat.min_eq_left (by omega), List.drop_take]

theorem meets_store (hb : tabB P tb = true) (h : RelL F s loc a w) {t : TypeId} {x y : Operand} (ho : o.op = .store t x y) {g : Bool} (hl : storeA tb s t (s.val x) (s.val y) = some (g, v, s')) : g = true → Meets P F a w o v s' := by
  intro hg
  have hv := h.oper x
  have hw := h.oper y
  generalize s.val x = vx at hl hv
  generalize s.val y = vy at hl hw
  have hrun : ∀ {p : Value} {w' : World}, a.eval x = p → (Instr.storeAt t p (a.eval y)).run P w = .ok () w' → Does P a w o undef w' := by
    intro p w' hx hr
    exact .inr ⟨execOp_u (X := Instr.storeAt t (a.eval x) (a.eval y)) (by simp [execOp, ho]) (by rw [hx]; exact hr), rfl⟩
  cases hti : tb.get t with
  | none => cases vx <;> simp only [storeA, hti, reduceCtorEq] at hl
  | some i =>
    have hok := ti_ok hb hti
    cases vx <;> simp only [storeA, hti, reduceCtorEq] at hl
    case ptr b off =>
      cases hm : s.mem b <;> rw [hm] at hl <;> simp only [reduceCtorEq] at hl
      rename_i tt cs
      cases hc : (vy.sure && Nat.ble (off + i.size) cs.length && Nat.beq vy.cellsOf.length i.size)
      · rw [hc] at hl; cases hl
      · rw [hc] at hl
        simp only [cond_true, Option.some.injEq, Prod.mk.injEq] at hl
        obtain ⟨rfl, rfl, rfl⟩ := hl
        simp only [Bool.and_eq_true] at hc
        have hle := Nat.le_of_ble_eq_true hc.1.2
        have hsz := Nat.eq_of_beq_eq_true hc.2
        obtain ⟨hvs, h1⟩ := VR_cells (x := cxOf F s loc w) h.blk hw hc.1.1
        have hlen := VRs.len hvs
        have hbr := h.blk b
        rw [hm] at hbr
        obtain ⟨g, us, hlb, hgh, hus, hone⟩ := hbr
        have hlb : loc b = .pointer (some ⟨g, 0, none⟩) := hlb
        obtain ⟨_, g', hlb', hx⟩ := hv
        have hlb' : loc b = .pointer (some ⟨g', 0, none⟩) := hlb'
        rw [hlb] at hlb'
        injection hlb' with e1; injection e1 with e1; injection e1 with e1 _ _
        subst e1
        have hlu := VRs.len hus
        have hcs : (a.eval y).cells.size = i.size := by have : (a.eval y).cells.size = (a.eval y).cells.toList.length := by simp
                                                        omega
        have hr := run_storeAt_cells (w := w) hok (off := off) hgh hcs h1 (by simp; omega)
        simp only at hr
        have hlive : live s.mem b := fun e => by rw [hm] at e; cases e
        have hwr := h.write (w' := w.setRow g (us.take off ++ (a.eval y).cells.toList ++ us.drop (off + (a.eval y).cells.toList.length)).toArray) hlive (g := g) (by rw [hlb]; rfl) rfl rfl rfl (by simp [World.setRow]) (fun k hk => setRow_other w g k _ hk)
          (.cells tt (setCells cs off vy.cellsOf)) (by rw [hm]; exact .inr ⟨rfl, trivial⟩) (by simp) (fun hle' => by
            refine ⟨g, _, hlb, setRow_heap w g _ _ tt (0, 0) hgh, VRs_set (VRs.mono hle' _ _ hus) (VRs.mono hle' _ _ hvs) off, ?_⟩
            intro u hu
            simp only [List.mem_append] at hu
            rcases hu with (hu | hu) | hu
            · exact hone u (List.mem_of_mem_take hu)
            · exact h1 u hu
            · exact hone u (List.mem_of_mem_drop hu))
        exact ⟨undef, _, loc, hrun hx hr, hwr.1, trivial⟩
    case elt b i' p =>
      cases hm : s.mem b <;> rw [hm] at hl <;> simp only [reduceCtorEq] at hl
      rename_i tt e xs
      cases hty : tyP e p with
      | none => rw [hty] at hl; cases hl
      | some u =>
        cases hsp : setP p (putF s vy) e (xs.getD i' e.d) with
        | none => rw [hty, hsp] at hl; cases hl
        | some z =>
          rw [hty, hsp] at hl
          simp only at hl
          cases hc : (Nat.beq i.size u.size && !(hasN (putNames s vy u) b))
          · rw [hc] at hl; cases hl
          · rw [hc] at hl
            simp only [cond_true, Option.some.injEq, Prod.mk.injEq] at hl
            obtain ⟨rfl, rfl, rfl⟩ := hl
            simp only [Bool.and_eq_true, Bool.not_eq_true'] at hc
            have hsz := Nat.eq_of_beq_eq_true hc.1
            have hnb := hasN_not hc.2
            obtain ⟨t', e', xs', g, n, c, hm', hi', hlb, hp, hx⟩ := hv
            have hm'' : s.mem b = .arr t' e' xs' := hm'
            rw [hm] at hm''
            injection hm'' with q1 q2 q3
            subst q1; subst q2
            have q3 := eq_of_heq q3
            subst q3
            have hlb : loc b = .slice (some ⟨g, 0, none⟩) n c := hlb
            -- what is stored is data at the type of the part
            have hput : ∀ (z0 z1 : u.T), putF s vy u z0 = some z1 → vy.sure = true ∧ RdC (okF (cxOf F s loc w) (putNames s vy u)) w u z1 (a.eval y).cells.toList := by
              intro z0 z1 hz
              unfold putF at hz
              unfold putNames
              cases hd : decV s.mem u vy with
              | none => rw [hd] at hz; cases hz
              | some q =>
                obtain ⟨z2, fs⟩ := q
                rw [hd] at hz
                simp only [Option.map_some, Option.some.injEq] at hz
                subst hz
                have hs := decV_sure hd
                exact ⟨hs, decV_sound (x := cxOf F s loc w) h.blk hw hs hd⟩
            have hfr := h.freeze (putNames s vy u)
            have hmem' := freeze_keeps (putNames s vy u) s b hnb hm
            have hlive : live (s.freeze (putNames s vy u)).mem b := fun e => by rw [hmem'] at e; cases e
            -- the block's own cells
            have hbr := hfr.blk b
            rw [hmem'] at hbr
            obtain ⟨flat, hown, hels⟩ := hbr
            rcases hown.2 with ⟨hv0, hn0⟩ | ⟨g2, cap, cur, hv0, h00, hgh, hnc, hcm, hcs, htake⟩
            · rw [hn0] at hi'; omega
            · have hv0 : loc b = .slice (some ⟨g2, 0, none⟩) xs.length cap := hv0
              rw [hlb] at hv0
              injection hv0 with e1 e2 e3
              injection e1 with e1; injection e1 with e1 _ _
              subst e1; subst e2; subst e3
              have hokp : ∀ gg, okF (cxOf F s loc w) (putNames s vy u) gg → (cxOf F (s.freeze (putNames s vy u)) loc w).ok gg := fun gg hgg => freeze_ok h hgg
              have hel : ∀ (y0 : e.T) (q : List Value), RdC (cxOf F (s.freeze (putNames s vy u)) loc w).ok w e y0 q → q.length = e.size := fun y0 q hq => RdC.len e hq
              have hget := Els.get hel hels i' (xs.getD i' e.d) (by rw [List.getD_eq_getElem?_getD, List.getElem?_eq_getElem hi']; rfl)
              obtain ⟨z0, z1, hz01⟩ := setP_some hsp hty
              have hsure : vy.sure = true := (hput z0 z1 hz01).1
              have hcl : (a.eval y).cells.toList.length = u.size := RdC.len u (hput z0 z1 hz01).2
              have hnew := RdC_setP (vs := (a.eval y).cells.toList) hsp hty hp hcl (fun z0 z1 hz => RdC_ok hokp (hput z0 z1 hz).2) hget
              have hset := Els.set hel hels i' z _ hi' hnew
              have hfit := p_fits hp hty
              have hflat : flat.length = xs.length * e.size := hown.1
              have hbound : i' * e.size + e.size ≤ flat.length := by
                rw [hflat]
                calc i' * e.size + e.size = (i' + 1) * e.size := by rw [Nat.succ_mul]
                  _ ≤ xs.length * e.size := Nat.mul_le_mul_right _ hi'
              rw [splice_splice _ _ _ _ _ _ hcl hfit hbound] at hset
              have hcurlen : xs.length * e.size ≤ cur.size := by rw [hcs]; exact Nat.mul_le_mul_right _ hnc
              have hcs2 : (a.eval y).cells.size = i.size := by rw [hsz, ← hcl]; simp
              obtain ⟨_, hone⟩ := VR_cells (x := cxOf F s loc w) h.blk hw hsure
              have hr := run_storeAt_cells (w := w) hok (off := i' * e.size + offP e p) hgh hcs2 hone (by omega)
              have hwr := hfr.write (w' := w.setRow g (cur.toList.take (i' * e.size + offP e p) ++ (a.eval y).cells.toList ++ cur.toList.drop (i' * e.size + offP e p + (a.eval y).cells.toList.length)).toArray) hlive (g := g) (by rw [hlb]; rfl) rfl rfl rfl (by simp [World.setRow]) (fun k hk => setRow_other w g k _ hk)
                (.arr tt e (xs.set i' z)) (by rw [hmem']; exact .inr ⟨rfl, rfl, rfl, by simp⟩) (by simp) (fun hle' => by
                  refine ⟨flat.take (i' * e.size + offP e p) ++ (a.eval y).cells.toList ++ flat.drop (i' * e.size + offP e p + u.size), ?_, Els.mono (fun y0 q hq => RdC.mono hle'.ok hle'.cell e hq) hset⟩
                  refine ⟨?_, .inr ⟨g, c, _, by show loc b = _; rw [hlb, List.length_set], Nat.zero_le _, setRow_heap w g _ _ tt (0, 0) hgh, by rw [List.length_set]; exact hnc, hcm, ?_, ?_⟩⟩
                  · rw [List.length_set]
                    simp only [List.length_append, List.length_take, List.length_drop]
                    omega
                  · simp only [List.size_toArray, List.length_append, List.length_take, List.length_drop, Array.length_toList]
                    omega
                  · rw [List.length_set, hcl]
                    have hlc : cur.toList.length = cur.size := by simp
                    rw [← htake]
                    exact splice_take _ _ _ _ _ hcl (by omega) (by omega))
              exact ⟨undef, _, loc, hrun hx hr, hwr.1, trivial⟩
end
end AM
