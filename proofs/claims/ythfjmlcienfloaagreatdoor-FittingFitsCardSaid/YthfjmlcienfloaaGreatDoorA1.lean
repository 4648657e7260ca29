import Derived.Calls
import Derived.KernelRfl
import Derived.Laws.Sem
import Derived.Deep.MidRow
import Derived.Deep.AppendSrc
import Derived.Room.Entries
import Derived.RangeFuncCalls
import Derived.RangeFuncSeq
import Derived.Laws.StructEq
import Derived.Deep.Upon
namespace Go.Ev
open Go

abbrev Bytes := List UInt8

/-- Codes of the types whose values are closed data. -/
inductive Tc where
  | int (k : IntKind)
  | bool
  | str
  | slice (t : Tc)
  | pair (a b : Tc)
  | st (t : Tc)
  deriving DecidableEq

@[reducible] def Tc.den : Tc → Type
  | .int _ => Int
  | .bool => Bool
  | .str => Bytes
  | .slice t => List t.den
  | .pair a b => a.den × b.den
  | .st t => t.den

def Tc.size : Tc → Nat
  | .pair a b => a.size + b.size
  | .st t => t.size
  | _ => 1

def Tc.dflt : (t : Tc) → t.den
  | .int _ => (0 : Int)
  | .bool => false
  | .str => ([] : Bytes)
  | .slice t => ([] : List t.den)
  | .pair a b => (a.dflt, b.dflt)
  | .st t => t.dflt

/-- A type without slices. -/
def Tc.flat : Tc → Bool
  | .slice _ => false
  | .pair a b => a.flat && b.flat
  | .st t => t.flat
  | _ => true

/-- Values of a frame. -/
inductive FV where
  | undef
  | skp
  | dat (t : Tc) (x : t.den)
  | nil0
  | nilm
  | nilp
  | nilf
  | nili
  | ub
  | slc (k : Nat)
  | ptr (k off : Nat)
  | ep (k i off : Nat)
  | fp (t : Tc) (x : t.den)
  | mp (k : Nat)
  | agg (l : List FV)
  | tup (l : List FV)
  | clos (f : FuncId) (l : List FV)

instance : Inhabited FV := ⟨.undef⟩

/-- Regions of memory that a frame owns alone (or, frz, that nobody writes any more). -/
inductive Reg where
  | abs
  | dead
  | box (cells : List FV)
  | arr (t : Tc) (xs : List t.den)
  | frz (t : Tc) (xs : List t.den)
  | map (tk tv : Tc) (es : (Tc.slice (.pair tk tv)).den)
  | fwd (j : Nat)
  | mit (k : Nat) (tk tv : Tc) (es : (Tc.slice (.pair tk tv)).den) (rem : (Tc.slice tk).den) (cur : (Tc.slice tk).den) (pend : Bool)

instance : Inhabited Reg := ⟨.abs⟩

/-- A frame: its slots, and its regions by number. -/
structure Fr where
  slots : List FV
  regs : List (Nat × Reg)

def regAt : List (Nat × Reg) → Nat → Reg
  | [], _ => .abs
  | (i, r) :: l, k => cond (Nat.beq i k) r (regAt l k)

def regPut : List (Nat × Reg) → Nat → Reg → List (Nat × Reg)
  | [], k, r => [(k, r)]
  | (i, x) :: l, k, r => cond (Nat.beq i k) ((i, r) :: l) (cond (Nat.blt k i) ((k, r) :: (i, x) :: l) ((i, x) :: regPut l k r))

def Fr.slot (fr : Fr) (i : Nat) : FV := fr.slots.getD i .undef
def Fr.reg (fr : Fr) (k : Nat) : Reg := regAt fr.regs k
def Fr.setS (fr : Fr) (i : Nat) (v : FV) : Fr := { fr with slots := fr.slots.set i v }
def Fr.setR (fr : Fr) (k : Nat) (r : Reg) : Fr := { fr with regs := regPut fr.regs k r }

/-- Programs over frames. -/
inductive Pr (α : Type) where
  | ret (a : α)
  | fail
  | getS (i : Nat) (k : FV → Pr α)
  | getR (i : Nat) (k : Reg → Pr α)
  | setS (i : Nat) (v : FV) (k : Pr α)
  | setR (i : Nat) (r : Reg) (k : Pr α)
  | ite (b : Bool) (p q : Pr α)
  | opt (o : Option Fr) (k : Fr → Pr α)

def Pr.bind {α β : Type} : Pr α → (α → Pr β) → Pr β
  | .ret a, f => f a
  | .fail, _ => .fail
  | .getS i k, f => .getS i fun v => (k v).bind f
  | .getR i k, f => .getR i fun v => (k v).bind f
  | .setS i v k, f => .setS i v (k.bind f)
  | .setR i r k, f => .setR i r (k.bind f)
  | .ite b p q, f => .ite b (p.bind f) (q.bind f)
  | .opt o k, f => .opt o fun v => (k v).bind f

instance : Monad Pr where
  pure := Pr.ret
  bind := Pr.bind

/-- A program's run, with what follows. -/
def Pr.exec {α : Type} {ρ : Type} : Pr α → Fr → (α → Fr → Option ρ) → Option ρ
  | .ret a, fr, K => K a fr
  | .fail, _, _ => none
  | .getS i k, fr, K => (k (fr.slot i)).exec fr K
  | .getR i k, fr, K => (k (fr.reg i)).exec fr K
  | .setS i v k, fr, K => k.exec (fr.setS i v) K
  | .setR i r k, fr, K => k.exec (fr.setR i r) K
  | .ite b p q, fr, K => cond b (p.exec fr K) (q.exec fr K)
  | .opt o k, fr, K => o.bind fun v => (k v).exec fr K

end Go.Ev

namespace Go.Ev
open Go

/-- What a frame has to know of a type of the program. -/
structure TI where
  size : Nat
  agg : Bool
  zeros : List FV
  tc : Option Tc
  flds : List (Nat × TypeId)
  elem : Option TypeId
  bytes : Nat
  eq : Bool
  pe : Option TypeId
  mpt : Option (TypeId × TypeId)
  ifc : Bool

/-- What a function does. md: which arguments are closed data; ret: its results may hold parts of those; ok: on what it is asked for. -/
structure Spec where
  md : List Bool
  ret : Bool
  ok : Fr → Bool
  fn : Fr → Option Fr

/-- gl: what is known of package-level variables; it: functions that hand over the elements of a captured slice with their numbers, from the last one on. -/
structure Env where
  tt : TypeId → Option TI
  fs : FuncId → Option Spec
  gl : (Nat → Prop) → Array Obj → Prop
  it : FuncId → Option Tc

def FV.asD (t : Tc) : FV → Option t.den
  | .dat t' x => if h : t' = t then some (h ▸ x) else none
  | .nil0 => match t with
    | .slice _ => some []
    | _ => none
  | _ => none

/-- The leaves of a value. -/
def leaves : (t : Tc) → t.den → List FV
  | .int k, x => [.dat (.int k) x]
  | .bool, x => [.dat .bool x]
  | .str, x => [.dat .str x]
  | .slice t, x => [.dat (.slice t) x]
  | .pair a b, x => leaves a x.1 ++ leaves b x.2
  | .st t, x => leaves t x

def FV.split : FV → List FV
  | .agg l => l
  | .dat (.st t) x => leaves t x
  | v => [v]

/-- Part of a value: the type t' at the cell off. -/
def sub : (t : Tc) → t.den → Nat → (t' : Tc) → Option t'.den
  | .pair a b, x, off, t' => if h : Tc.pair a b = t' then (if off = 0 then some (h ▸ x) else none) else if off < a.size then sub a x.1 off t' else sub b x.2 (off - a.size) t'
  | .st t, x, off, t' => if h : Tc.st t = t' then (if off = 0 then some (h ▸ x) else none) else sub t x off t'
  | .int k, x, off, t' => if h : Tc.int k = t' then (if off = 0 then some (h ▸ x) else none) else none
  | .bool, x, off, t' => if h : Tc.bool = t' then (if off = 0 then some (h ▸ x) else none) else none
  | .str, x, off, t' => if h : Tc.str = t' then (if off = 0 then some (h ▸ x) else none) else none
  | .slice t, x, off, t' => if h : Tc.slice t = t' then (if off = 0 then some (h ▸ x) else none) else none

def upd : (t : Tc) → t.den → Nat → (t' : Tc) → t'.den → Option t.den
  | .pair a b, x, off, t', y => if h : t' = Tc.pair a b then (if off = 0 then some (h ▸ y) else none) else if off < a.size then (upd a x.1 off t' y).map fun z => (z, x.2) else (upd b x.2 (off - a.size) t' y).map fun z => (x.1, z)
  | .st t, x, off, t', y => if h : t' = Tc.st t then (if off = 0 then some (h ▸ y) else none) else upd t x off t' y
  | .int k, _, off, t', y => if h : t' = Tc.int k then (if off = 0 then some (h ▸ y) else none) else none
  | .bool, _, off, t', y => if h : t' = Tc.bool then (if off = 0 then some (h ▸ y) else none) else none
  | .str, _, off, t', y => if h : t' = Tc.str then (if off = 0 then some (h ▸ y) else none) else none
  | .slice t, _, off, t', y => if h : t' = Tc.slice t then (if off = 0 then some (h ▸ y) else none) else none

def Tc.isSt : Tc → Bool
  | .st _ => true
  | _ => false

def popt {α β : Type} (o : Option α) (k : α → Pr β) : Pr β := match o with
  | some a => k a
  | none => .fail

/-- What a region holds; fz: nobody writes it any more. -/
def takeAt (fz : Bool) (t : Tc) (k : Nat) : Pr (List t.den) :=
  .getR k fun r => match r with
    | .arr t' xs => if h : t' = t then (if fz then .setR k (.frz t' xs) (.ret (h ▸ xs)) else .ret (h ▸ xs)) else .fail
    | .frz t' xs => if h : t' = t then .ret (h ▸ xs) else .fail
    | _ => .fail

/-- Closed data out of leaves. -/
def closeL (fz : Bool) : (t : Tc) → List FV → Pr (t.den × List FV)
  | .pair a b, l => (closeL fz a l).bind fun p => (closeL fz b p.2).bind fun q => .ret ((p.1, q.1), q.2)
  | .st t, l => closeL fz t l
  | .slice t, v :: l => match v with
    | .slc k => (takeAt fz t k).bind fun xs => .ret (xs, l)
    | v => popt (v.asD (.slice t)) fun x => .ret (x, l)
  | .int k, v :: l => popt (v.asD (.int k)) fun x => .ret (x, l)
  | .bool, v :: l => popt (v.asD .bool) fun x => .ret (x, l)
  | .str, v :: l => popt (v.asD .str) fun x => .ret (x, l)
  | _, [] => .fail

/-- Closed data out of a value. -/
def closeG (fz : Bool) (t : Tc) (v : FV) : Pr t.den :=
  match v with
  | .agg l => match t with
    | .st t0 => (closeL fz t0 l).bind fun p => match p.2 with
      | [] => .ret p.1
      | _ => .fail
    | _ => .fail
  | .slc k => match t with
    | .slice t0 => takeAt fz t0 k
    | _ => .fail
  | v => popt (v.asD t) .ret

abbrev closeD (t : Tc) (v : FV) : Pr t.den := closeG true t v

def constFV : Value → Pr FV
  | .int k n => .ret (.dat (.int k) n)
  | .bool b => .ret (.dat .bool b)
  | .string s => .ret (.dat .str s.data.toList)
  | .pointer none => .ret .nilp
  | .map none => .ret .nilm
  | .nilFunc => .ret .nilf
  | .nilIface => .ret .nili
  | .slice none 0 0 => .ret .nil0
  | _ => .fail

def opnd : Operand → Pr FV
  | .tmp t => .getS t .ret
  | .const v => constFV v
  | .func f => .ret (.clos f [])
  | .global _ => .fail

def opnds : List Operand → Pr (List FV)
  | [] => .ret []
  | x :: l => (opnd x).bind fun v => (opnds l).bind fun vs => .ret (v :: vs)

def asInt (v : FV) : Pr (IntKind × Int) := match v with
  | .dat (.int k) n => .ret (k, n)
  | _ => .fail
def asI (v : FV) : Pr Int := match v with
  | .dat (.int _) n => .ret n
  | _ => .fail
def asB (v : FV) : Pr Bool := match v with
  | .dat .bool b => .ret b
  | _ => .fail

def guard (b : Bool) {α : Type} (p : Pr α) : Pr α := .ite b p .fail

def dI (k : IntKind) (n : Int) : FV := .dat (.int k) n
def dB (b : Bool) : FV := .dat .bool b
def dS (s : Bytes) : FV := .dat .str s

abbrev bLess : Bytes → Bytes → Bool := Op.bytesLess

def intOp (op : BinOp) (k : IntKind) (a b : Int) : Pr FV := match op with
  | .add => .ret (dI k (k.wrap (a + b)))
  | .sub => .ret (dI k (k.wrap (a - b)))
  | .mul => .ret (dI k (k.wrap (a * b)))
  | .quo => .ite (b == 0) .fail (.ret (dI k (k.wrap (a.tdiv b))))
  | .rem => .ite (b == 0) .fail (.ret (dI k (a.tmod b)))
  | .and => .ret (dI k (k.wrap (BitVec.ofInt k.bits a &&& BitVec.ofInt k.bits b).toNat))
  | .or => .ret (dI k (k.wrap (BitVec.ofInt k.bits a ||| BitVec.ofInt k.bits b).toNat))
  | .xor => .ret (dI k (k.wrap (BitVec.ofInt k.bits a ^^^ BitVec.ofInt k.bits b).toNat))
  | .andNot => .ret (dI k (k.wrap (BitVec.ofInt k.bits a &&& ~~~BitVec.ofInt k.bits b).toNat))
  | .eql => .ret (dB (a == b))
  | .neq => .ret (dB (a != b))
  | .lss => .ret (dB (decide (a < b)))
  | .leq => .ret (dB (decide (a ≤ b)))
  | .gtr => .ret (dB (decide (a > b)))
  | .geq => .ret (dB (decide (a ≥ b)))
  | _ => .fail

def shOp (op : BinOp) (k : IntKind) (a b : Int) : Pr FV := .ite (decide (b < 0)) .fail (match op with
  | .shl => .ret (dI k (k.wrap (a * 2 ^ (min b.toNat k.bits))))
  | .shr => .ret (dI k (a.fdiv (2 ^ (min b.toNat k.bits))))
  | _ => .fail)

def strOp (op : BinOp) (a b : Bytes) : Pr FV := match op with
  | .add => guard (decide (a.length + b.length ≤ 9223372036854775807)) (.ret (dS (a ++ b)))
  | .eql => .ret (dB (a == b))
  | .neq => .ret (dB (!(a == b)))
  | .lss => .ret (dB (bLess a b))
  | .leq => .ret (dB (bLess a b || a == b))
  | .gtr => .ret (dB (!(bLess a b || a == b)))
  | .geq => .ret (dB (!bLess a b))
  | _ => .fail

/-- Equality of data without slices. -/
def Tc.beq : (t : Tc) → t.den → t.den → Bool
  | .int _, (x : Int), (y : Int) => x == y
  | .bool, (x : Bool), (y : Bool) => x == y
  | .str, (x : Bytes), (y : Bytes) => x == y
  | .pair a b, x, y => a.beq x.1 y.1 && b.beq x.2 y.2
  | .st t, x, y => t.beq x y
  | .slice _, _, _ => false

/-- Whether an empty slice is nil is not known. -/
def ubV (op : BinOp) : Pr FV := match op with
  | .eql => .ret .ub
  | .neq => .ret .ub
  | _ => .fail

/-- An equality that is known. -/
def boolOp (op : BinOp) (b : Bool) : Pr FV := match op with
  | .eql => .ret (dB b)
  | .neq => .ret (dB (!b))
  | _ => .fail

/-- A slice held against nil. -/
def nilCmpV (E : Env) (op : BinOp) (xt : TypeId) (x : FV) : Pr FV := popt (E.tt xt) fun ti => popt ti.elem fun _ => match x with
  | .dat (.slice _) xs => .ite xs.isEmpty (ubV op) (boolOp op false)
  | .nil0 => ubV op
  | .slc k => .getR k fun r => match r with
    | .arr _ xs => .ite xs.isEmpty (ubV op) (boolOp op false)
    | .frz _ xs => .ite xs.isEmpty (ubV op) (boolOp op false)
    | _ => .fail
  | _ => .fail

def binV (E : Env) (op : BinOp) (xt : TypeId) (x y : FV) : Pr FV :=
  match x, y with
  | .dat (.int k) a, .dat (.int k') b => match op with
    | .shl => shOp .shl k a b
    | .shr => shOp .shr k a b
    | op => if k = k' then intOp op k a b else .fail
  | .dat .str a, .dat .str b => strOp op a b
  | .nilp, .nilp => popt (E.tt xt) fun ti => popt ti.pe fun _ => boolOp op true
  | .ptr k _, .nilp => popt (E.tt xt) fun ti => popt ti.pe fun _ => .getR k fun r => match r with
    | .box _ => boolOp op false
    | _ => .fail
  | .ptr k o, .ptr k' o' => popt (E.tt xt) fun ti => popt ti.pe fun _ => .getR k fun r => match r with
    | .box _ => if k = k' ∧ o = o' then boolOp op true else .fail
    | _ => .fail
  | x, y => popt (E.tt xt) fun ti => popt ti.tc fun t => if ti.eq && t.flat then (closeD t x).bind fun a => (closeD t y).bind fun b => match op with
      | .eql => .ret (dB (t.beq a b))
      | .neq => .ret (dB (!t.beq a b))
      | _ => .fail
      else .fail

def unV (op : UnOp) (x : FV) : Pr FV := match op, x with
  | .neg, .dat (.int k) n => .ret (dI k (k.wrap (0 - n)))
  | .xor, .dat (.int k) n => .ret (dI k (k.wrap (BitVec.ofInt k.bits (if k.signed then -1 else k.max) ^^^ BitVec.ofInt k.bits n).toNat))
  | .not, .dat .bool b => .ret (dB (!b))
  | _, _ => .fail

def convV (E : Env) (src dst : TypeId) (x : FV) : Pr FV := match x with
  | .dat (.int _) n => popt (E.tt src) fun si => popt (E.tt dst) fun ti => match si.tc, ti.tc with
    | some (.int _), some (.int k) => .ret (dI k (k.wrap n))
    | some (.int _), some .str => .ret (dS (Utf8.encode n).data.toList)
    | _, _ => .fail
  | .dat .str s => popt (E.tt src) fun si => popt (E.tt dst) fun ti => match si.tc, ti.tc with
    | some .str, some .str => .ret (dS s)
    | _, _ => .fail
  | _ => .fail

/-- The number of the region that an operation makes. -/
def siteOf (dst : Option Tmp) : Nat := 1000 + 8 * dst.getD 0

/-- A new region. -/
def newReg (dst : Option Tmp) (r : Reg) (v : FV) : Pr FV := .getR (siteOf dst) fun q => match q with
  | .abs => .setR (siteOf dst) r (.ret v)
  | _ => .fail

/-- The offset that stands for: the slice from this element on. -/
def sufMark : Nat := 1048575
/-- The offset that stands for: of a slice that nobody changes, what is behind this element, without room. -/
def fullMark : Nat := 1048574

def loadV (E : Env) (t : TypeId) (a : FV) : Pr FV := popt (E.tt t) fun ti => match a with
  | .ptr k off => .getR k fun r => match r with
    | .box cs => if ti.agg then (if off + ti.size ≤ cs.length then .ret (.agg ((cs.drop off).take ti.size)) else .fail) else popt cs[off]? .ret
    | _ => .fail
  | .ep k i off => if off = sufMark then .fail else .getR k fun r => match r with
    | .arr t' xs => popt ti.tc fun tc => guard (decide (i < xs.length)) (popt (sub t' (xs.getD i t'.dflt) off tc) fun y => .ret (.dat tc y))
    | _ => .fail
  | .fp t' x => if ti.tc = some t' then .ret (.dat t' x) else .fail
  | _ => .fail

/-- A value that can be laid into memory. -/
def chk (v : FV) : Pr Unit := match v with
  | .undef => .fail
  | .skp => .fail
  | .tup _ => .fail
  | .ep _ _ _ => .fail
  | .mp k => .getR k fun r => match r with
    | .map _ _ _ => .ret ()
    | .fwd _ => .ret ()
    | _ => .fail
  | .slc k => .getR k fun r => match r with
    | .arr _ _ => .ret ()
    | .frz _ _ => .ret ()
    | _ => .fail
  | .ptr k _ => .getR k fun r => match r with
    | .box _ => .ret ()
    | _ => .fail
  | _ => .ret ()

def storeV (E : Env) (t : TypeId) (a v : FV) : Pr Unit := popt (E.tt t) fun ti => match a with
  | .ptr k off => (chk v).bind fun _ => .getR k fun r => match r with
    | .box cs => if v.split.length = ti.size ∧ off + ti.size ≤ cs.length then .setR k (.box (cs.take off ++ v.split ++ cs.drop (off + ti.size))) (.ret ()) else .fail
    | _ => .fail
  | .ep k i off => if off = sufMark then .fail else popt ti.tc fun tc => (closeD tc v).bind fun y => .getR k fun r => match r with
    | .arr t' xs => guard (decide (i < xs.length)) (popt (upd t' (xs.getD i t'.dflt) off tc y) fun z => .setR k (.arr t' (xs.set i z)) (.ret ()))
    | _ => .fail
  | _ => .fail

def fieldAddrV (E : Env) (s : TypeId) (a : FV) (f : Nat) : Pr FV := popt (E.tt s) fun ti => popt ti.flds[f]? fun p => popt (E.tt p.2) fun fi => match a with
  | .ptr k off => .getR k fun r => match r with
    | .box _ => .ret (.ptr k (off + p.1))
    | _ => .fail
  | .ep k i off => if off = sufMark ∨ off + p.1 = sufMark ∨ off + p.1 = fullMark then .fail else .getR k fun r => match r with
    | .arr _ xs => guard (decide (i < xs.length)) (.ret (.ep k i (off + p.1)))
    | _ => .fail
  | .fp t x => popt fi.tc fun tc => popt (sub t x p.1 tc) fun y => .ret (.fp tc y)
  | _ => .fail

def fieldV (E : Env) (s : TypeId) (a : FV) (f : Nat) : Pr FV := popt (E.tt s) fun ti => popt ti.flds[f]? fun p => popt (E.tt p.2) fun fi => match a with
  | .agg l => if fi.agg then (if p.1 + fi.size ≤ l.length then .ret (.agg ((l.drop p.1).take fi.size)) else .fail) else (if p.1 + fi.size ≤ l.length then popt l[p.1]? .ret else .fail)
  | .dat t x => guard t.isSt (popt fi.tc fun tc => popt (sub t x p.1 tc) fun y => .ret (.dat tc y))
  | _ => .fail

/-- What a slice holds. -/
def contentV (v : FV) (t : Tc) : Pr (List t.den) := match v with
  | .slc k => takeAt false t k
  | v => popt (v.asD (.slice t)) .ret

def elemTc (E : Env) (t : TypeId) : Option (Tc × Nat) := (E.tt t).bind fun ti => ti.elem.bind fun e => (E.tt e).bind fun ei => ei.tc.map fun tc => (tc, ei.bytes)

def indexAddrV (E : Env) (t : TypeId) (x i : FV) : Pr FV := popt (elemTc E t) fun (tc, _) => (asI i).bind fun n => match x with
  | .slc k => .getR k fun r => match r with
    | .arr t' xs => if t' = tc then guard (decide (0 ≤ n)) (guard (decide (n < (xs.length : Int))) (.ret (.ep k n.toNat 0))) else .fail
    | .frz t' xs => if t' = tc then guard (decide (0 ≤ n)) (guard (decide (n < (xs.length : Int))) (.ret (.fp t' (xs.getD n.toNat t'.dflt)))) else .fail
    | _ => .fail
  | .dat (.slice t') xs => if t' = tc then guard (decide (0 ≤ n)) (guard (decide (n < (xs.length : Int))) (.ret (.fp t' (xs.getD n.toNat t'.dflt)))) else .fail
  | .ep k i o => if o = sufMark then .getR k fun r => match r with
    | .arr t' xs => if t' = tc then guard (decide (i < xs.length)) (guard (decide (0 ≤ n)) (guard (decide (n < ((xs.length - i : Nat) : Int))) (.ret (.ep k (i + n.toNat) 0)))) else .fail
    | _ => .fail
    else .fail
  | _ => .fail

def strT (E : Env) (t : TypeId) : Bool := match E.tt t with
  | some ti => match ti.tc with
    | some .str => true
    | _ => false
  | none => false

def indexV (E : Env) (t : TypeId) (x i : FV) : Pr FV := guard (strT E t) <| (asI i).bind fun n => match x with
  | .dat .str s => guard (decide (0 ≤ n)) (guard (decide (n < (s.length : Int))) (.ret (dI .u8 (s.getD n.toNat 0).toNat)))
  | _ => .fail

def optI (v : Option FV) (d : Int) : Pr Int := match v with
  | some v => asI v
  | none => .ret d

/-- s[lo:hi] of strings and of slices; what is cut out of a slice is frozen. -/
def sliceV (E : Env) (t : TypeId) (x : FV) (lo hi : Option FV) : Pr FV := match x with
  | .dat .str s => guard (strT E t) <| (optI hi s.length).bind fun h => (optI lo 0).bind fun l => guard (decide (0 ≤ l)) (guard (decide (l ≤ h)) (guard (decide (h ≤ (s.length : Int))) (.ret (dS ((s.take h.toNat).drop l.toNat)))))
  | x => popt (elemTc E t) fun (tc, _) => (closeD (.slice tc) x).bind fun s => (optI hi s.length).bind fun h => (optI lo 0).bind fun l => guard (decide (0 ≤ l)) (guard (decide (l ≤ h)) (guard (decide (h ≤ (s.length : Int))) (.ret (.dat (.slice tc) ((s.take h.toNat).drop l.toNat)))))

/-- The same, the slice being handed on: nobody else uses it any more. -/
def resliceV (E : Env) (dst : Option Tmp) (t : TypeId) (x : FV) (lo hi : Option FV) : Pr FV := match x with
  | .slc k => popt (elemTc E t) fun (tc, _) => (takeAt false tc k).bind fun s => (optI hi s.length).bind fun h => (optI lo 0).bind fun l => guard (decide (0 ≤ l)) (guard (decide (l ≤ h)) (guard (decide (h ≤ (s.length : Int)))
      (.getR k fun r => match r with
        | .arr _ _ => .setR k .dead (newReg dst (.arr tc ((s.take h.toNat).drop l.toNat)) (.slc (siteOf dst)))
        | _ => .fail)))
  | _ => .fail

/-- The slice from an element on, for what comes next alone. -/
def sufV (E : Env) (t : TypeId) (x : FV) (lo hi : Option FV) : Pr FV := match hi with
  | some _ => .fail
  | none => match x with
    | .slc k => popt (elemTc E t) fun p => .getR k fun r => match r with
      | .arr t' xs => if t' = p.1 then (optI none xs.length).bind fun _ => (optI lo 0).bind fun l => guard (decide (0 ≤ l)) (guard (decide (l < (xs.length : Int))) (.ret (.ep k l.toNat sufMark))) else .fail
      | _ => .fail
    | _ => .fail

/-- s[lo:len:len]: what is behind an element, without room. -/
def fullV (E : Env) (t : TypeId) (x : FV) (lo hi : Option FV) (mx : FV) : Pr FV := match x with
  | .slc k => popt (elemTc E t) fun p => (takeAt true p.1 k).bind fun s => (asI mx).bind fun m => (optI hi s.length).bind fun h => (optI lo 0).bind fun l =>
      guard (decide (m = (s.length : Int))) (guard (decide (h = (s.length : Int))) (guard (decide (0 ≤ l)) (guard (decide (l ≤ (s.length : Int))) (.ret (.ep k l.toNat fullMark)))))
  | _ => .fail

/-- The slice of all up to an element, with no more room than is asked. -/
def cutV (E : Env) (t : TypeId) (x hi mx : FV) : Pr FV := popt (elemTc E t) fun p => (closeD (.slice p.1) x).bind fun s => (asI hi).bind fun h => (asI mx).bind fun m =>
  guard (decide (0 ≤ h)) (guard (decide (h ≤ m)) (guard (decide (m ≤ (s.length : Int))) (.ret (.dat (.slice p.1) (s.take h.toNat)))))

def clearV (E : Env) (t : TypeId) (x : FV) : Pr FV := popt (elemTc E t) fun p => match x with
  | .ep k i o => if o = sufMark then .getR k fun r => match r with
    | .arr t' xs => if t' = p.1 then guard (decide (i < xs.length)) (.setR k (.arr t' (xs.take i ++ List.replicate (xs.length - i) t'.dflt)) (.ret (.tup []))) else .fail
    | _ => .fail
    else .fail
  | _ => .fail

def bytesI (s : Bytes) : List Int := s.map fun b => (b.toNat : Int)

/-- What append reads. -/
def srcV (E : Env) (t2 : TypeId) (y : FV) (t : Tc) : Pr (List t.den) := match y with
  | .dat .str s => if h : t = .int .u8 then (if strT E t2 then .ret (h ▸ bytesI s) else .fail) else .fail
  | y => popt (elemTc E t2) fun e2 => if e2.1 = t then contentV y t else .fail

def appendV (E : Env) (dst : Option Tmp) (t t2 : TypeId) (x y : FV) : Pr FV := popt (elemTc E t) fun e => 
  (srcV E t2 y e.1).bind fun ys => match x with
  | .nil0 => guard (decide (ys.length * e.2 ≤ 140737488355328)) (newReg dst (.arr e.1 ys) (.slc (siteOf dst)))
  | .slc k => .getR k fun r => match r with
    | .arr t' xs => if h : t' = e.1 then guard (decide ((xs.length + ys.length) * e.2 ≤ 140737488355328)) (.setR k .dead (newReg dst (.arr e.1 ((h ▸ xs) ++ ys)) (.slc (siteOf dst)))) else .fail
    | _ => .fail
  | .ep k i o => if o = fullMark then .getR k fun r => match r with
    | .frz t' xs => if h : t' = e.1 then guard (decide (((xs.drop i).length + ys.length) * e.2 ≤ 140737488355328))
        (.ite ys.isEmpty (.ret (.dat (.slice e.1) (h ▸ xs.drop i))) (newReg dst (.arr e.1 ((h ▸ xs.drop i) ++ ys)) (.slc (siteOf dst)))) else .fail
    | _ => .fail
    else .fail
  | _ => .fail

/-- s[:0:0] -/
def zeroV (E : Env) (t : TypeId) (x : FV) : Pr FV := popt (elemTc E t) fun _ => match x with
  | .dat (.slice _) _ => .ret .nil0
  | .nil0 => .ret .nil0
  | .slc k => .getR k fun r => match r with
    | .arr _ _ => .ret .nil0
    | .frz _ _ => .ret .nil0
    | _ => .fail
  | _ => .fail

def makeV (E : Env) (dst : Option Tmp) (t : TypeId) (n c : FV) : Pr FV := popt (elemTc E t) fun e => (asI n).bind fun l => (asI c).bind fun m =>
  guard (decide (0 ≤ l)) (guard (decide (l ≤ m)) (guard (decide (m * e.2 ≤ 140737488355328)) (newReg dst (.arr e.1 (List.replicate l.toNat e.1.dflt)) (.slc (siteOf dst)))))

/-! maps -/
/-- A type of keys: whole numbers, strings, or (q: its values are compared part by part) a structure of such. -/
def keyTc (q : Bool) : Tc → Bool
  | .int _ => true
  | .str => true
  | .st t => q && t.flat
  | _ => false

def mapTc (E : Env) (t : TypeId) : Option (Tc × Tc) := (E.tt t).bind fun ti => ti.mpt.bind fun p => (E.tt p.1).bind fun ki => (E.tt p.2).bind fun vi => ki.tc.bind fun tk => vi.tc.bind fun tv => cond (keyTc ki.eq tk) (some (tk, tv)) none

def mapFind (tk tv : Tc) (k : tk.den) : List (tk.den × tv.den) → Option tv.den
  | [] => none
  | x :: l => cond (tk.beq x.1 k) (some x.2) (mapFind tk tv k l)

def mapPut (tk tv : Tc) (k : tk.den) (v : tv.den) : List (tk.den × tv.den) → List (tk.den × tv.den)
  | [] => [(k, v)]
  | x :: l => cond (tk.beq x.1 k) ((k, v) :: l) (x :: mapPut tk tv k v l)

def mapDel (tk tv : Tc) (k : tk.den) : List (tk.den × tv.den) → List (tk.den × tv.den)
  | [] => []
  | x :: l => cond (tk.beq x.1 k) l (x :: mapDel tk tv k l)

def makeMapV (E : Env) (dst : Option Tmp) (t : TypeId) : Pr FV := popt (E.tt t) fun ti => popt ti.mpt fun _ => match mapTc E t with
  | some p => newReg dst (.map p.1 p.2 []) (.mp (siteOf dst))
  | none => newReg dst (.map .str .bool []) (.mp (siteOf dst))

def Tc.isSl : Tc → Bool
  | .slice _ => true
  | _ => false

/-- What a look-up hands back; a slice that is not there is nil. -/
def lookR (tv : Tc) (ok : Bool) (o : Option tv.den) : Pr FV := cond tv.isSl
  (.ite o.isSome (.ret (cond ok (.tup [.dat tv (o.getD tv.dflt), dB true]) (.dat tv (o.getD tv.dflt)))) (.ret (cond ok (.tup [.nil0, dB false]) .nil0)))
  (.ret (cond ok (.tup [.dat tv (o.getD tv.dflt), dB o.isSome]) (.dat tv (o.getD tv.dflt))))

/-- What the map of a region holds. -/
def mapAt (j : Nat) (k : (tk tv : Tc) → (Tc.slice (.pair tk tv)).den → Pr FV) : Pr FV := .getR j fun r => match r with
  | .map tk tv es => k tk tv es
  | .fwd q => .getR q fun r' => match r' with
    | .mit _ tk tv es _ _ _ => k tk tv es
    | _ => .fail
  | _ => .fail

def lookupV (E : Env) (t : TypeId) (x i : FV) (ok : Bool) : Pr FV := match x with
  | .mp j => mapAt j fun tk tv es => guard (decide (mapTc E t = some (tk, tv))) ((closeD tk i).bind fun k => lookR tv ok (mapFind tk tv k es))
  | .nilm => popt (mapTc E t) fun p => (closeD p.1 i).bind fun _ => lookR p.2 ok none
  | _ => .fail

def mapUpdateV (E : Env) (t : TypeId) (m k v : FV) : Pr FV := match m with
  | .mp j => mapAt j fun tk tv _ => guard (decide (mapTc E t = some (tk, tv))) ((closeD tk k).bind fun x => (closeD tv v).bind fun y => .getR j fun r => match r with
    | .map tk' tv' es => if h : tk' = tk ∧ tv' = tv then .setR j (.map tk tv (mapPut tk tv x y (h.1 ▸ h.2 ▸ es))) (.ret .skp) else .fail
    | .fwd q => .getR q fun r' => match r' with
      | .mit j' tk' tv' es rem cur pend => if h : tk' = tk ∧ tv' = tv ∧ j' = j then .ite (mapFind tk tv x (h.1 ▸ h.2.1 ▸ es)).isSome
          (.setR q (.mit j tk tv (mapPut tk tv x y (h.1 ▸ h.2.1 ▸ es)) (h.1 ▸ rem) (h.1 ▸ cur) pend) (.ret .skp))
          (.setR q .dead (.setR j (.map tk tv (mapPut tk tv x y (h.1 ▸ h.2.1 ▸ es))) (.ret .skp))) else .fail
      | _ => .fail
    | _ => .fail)
  | _ => .fail

def deleteV (E : Env) (t : TypeId) (m k : FV) : Pr FV := match m with
  | .mp j => .getR j fun r => match r with
    | .map tk tv es => guard (decide (mapTc E t = some (tk, tv))) (popt (k.asD tk) fun x => .setR j (.map tk tv (mapDel tk tv x es)) (.ret (.tup [])))
    | _ => .fail
  | _ => .fail

/-- A range over a map begins: the map goes into the iterator's region. -/
def rangeV (E : Env) (dst : Option Tmp) (t : TypeId) (x : FV) : Pr FV := match x with
  | .mp j => .getR j fun r => match r with
    | .map tk tv es => guard (decide (mapTc E t = some (tk, tv))) (.getR (siteOf dst) fun q => match q with
      | .abs => .setR j (.fwd (siteOf dst)) (.setR (siteOf dst) (.mit j tk tv es (es.map fun p => p.1) [] false) (.ret (.ptr (siteOf dst) 0)))
      | _ => .fail)
    | _ => .fail
  | _ => .fail

/-- The next step: which entry comes is not known yet. -/
def nextV (it : FV) (isS : Bool) : Pr FV := cond isS .fail (match it with
  | .ptr q o => if o = 0 then .getR q fun r => match r with
    | .mit j tk tv es rem _ pend => guard (!pend) (.ite rem.isEmpty
      (.getR j fun r' => match r' with
        | .fwd q' => guard (Nat.beq q' q) (.setR q .dead (.setR j (.map tk tv es) (.ret (.tup [dB false]))))
        | _ => .fail)
      (.setR q (.mit j tk tv es rem [] true) (.ret (.tup [dB true, .undef, .undef]))))
    | _ => .fail
    else .fail
  | _ => .fail)

/-- The entry that has come. -/
def entryV (it : FV) : Pr FV := match it with
  | .ptr q o => if o = 0 then .getR q fun r => match r with
    | .mit j tk tv es rem cur pend => match cur with
      | [x] => guard (!pend && tk.flat) (popt (mapFind tk tv x es) fun y => .setR q (.mit j tk tv es rem [] false) (.ret (.tup [.dat tk x, .dat tv y])))
      | _ => .fail
    | _ => .fail
    else .fail
  | _ => .fail

def lenS (E : Env) (t : TypeId) (x : FV) : Pr FV := popt (elemTc E t) fun _ => match x with
  | .dat (.slice _) xs => .ret (dI .i64 xs.length)
  | .nil0 => .ret (dI .i64 0)
  | .slc k => .getR k fun r => match r with
    | .arr _ xs => .ret (dI .i64 xs.length)
    | .frz _ xs => .ret (dI .i64 xs.length)
    | _ => .fail
  | .ep k i o => if o = sufMark then .getR k fun r => match r with
    | .arr _ xs => guard (decide (i < xs.length)) (.ret (dI .i64 ((xs.length - i : Nat) : Int)))
    | _ => .fail
    else .fail
  | _ => .fail

def lenV (E : Env) (t : TypeId) (x : FV) : Pr FV := match x with
  | .dat .str s => guard (strT E t) (.ret (dI .i64 s.length))
  | x => lenS E t x

def mxV (l : List FV) : Pr FV := match l with
  | [.dat (.int k) a, .dat (.int k') b] => if k = k' then .ret (dI k (if a < b then b else a)) else .fail
  | _ => .fail
def mnV (l : List FV) : Pr FV := match l with
  | [.dat (.int k) a, .dat (.int k') b] => if k = k' then .ret (dI k (if b < a then b else a)) else .fail
  | _ => .fail

end Go.Ev

namespace Go.Ev
open Go

mutual
def FV.ids : FV → List Nat
  | .slc k => [k]
  | .ptr k _ => [k]
  | .ep k _ _ => [k]
  | .mp k => [k]
  | .agg l => idsL l
  | .tup l => idsL l
  | .clos _ l => idsL l
  | _ => []
def idsL : List FV → List Nat
  | [] => []
  | v :: l => v.ids ++ idsL l
end

mutual
def FV.ren (f : Nat → Option Nat) : FV → FV
  | .slc k => match f k with | some j => .slc j | none => .undef
  | .ptr k o => match f k with | some j => .ptr j o | none => .undef
  | .ep k i o => match f k with | some j => .ep j i o | none => .undef
  | .mp k => match f k with | some j => .mp j | none => .undef
  | .agg l => .agg (renL f l)
  | .tup l => .tup (renL f l)
  | .clos g l => .clos g (renL f l)
  | v => v
def renL (f : Nat → Option Nat) : List FV → List FV
  | [] => []
  | v :: l => v.ren f :: renL f l
end

def Reg.ren (f : Nat → Option Nat) : Reg → Reg
  | .box cs => .box (renL f cs)
  | .fwd j => match f j with | some i => .fwd i | none => .dead
  | .mit k tk tv es rem cur p => .mit ((f k).getD 0) tk tv es rem cur p
  | r => r

def posIn : List Nat → Nat → Option Nat
  | [], _ => none
  | x :: l, k => cond (Nat.beq x k) (some 0) ((posIn l k).map (· + 1))

def mem (k : Nat) (l : List Nat) : Bool := l.any (Nat.beq k)

/-- All regions that are reached from some. -/
def collect : Nat → List Nat → List Nat → Pr (List Nat)
  | _, [], acc => .ret acc
  | 0, _ :: _, _ => .fail
  | n + 1, k :: todo, acc => cond (mem k acc) (collect n todo acc) (.getR k fun r => match r with
    | .box cs => collect n (todo ++ idsL cs) (acc ++ [k])
    | .fwd j => collect n (todo ++ [j]) (acc ++ [k])
    | .mit j _ _ _ _ _ _ => collect n (todo ++ [j]) (acc ++ [k])
    | _ => collect n todo (acc ++ [k]))

def getRs : List Nat → Pr (List Reg)
  | [] => .ret []
  | k :: l => .getR k fun r => (getRs l).bind fun rs => .ret (r :: rs)

def setRs : List (Nat × Reg) → Pr Unit
  | [] => .ret ()
  | (k, r) :: l => .setR k r (setRs l)

def numbered : Nat → List Reg → List (Nat × Reg)
  | _, [] => []
  | i, r :: l => (i, r) :: numbered (i + 1) l

mutual
def FV.noS : FV → Bool
  | .dat t _ => t.flat
  | .undef => true
  | .skp => true
  | .nil0 => true
  | .nilp => true
  | .nili => true
  | .slc _ => true
  | .ptr _ _ => true
  | .tup l => noSL l
  | .agg l => noSL l
  | _ => false
def noSL : List FV → Bool
  | [] => true
  | v :: l => v.noS && noSL l
end

def Reg.noS : Reg → Bool
  | .abs => true
  | .dead => true
  | .box cs => noSL cs
  | .arr t _ => t.flat
  | .frz _ _ => false
  | .map tk tv _ => tk.flat && tv.flat
  | .fwd _ => false
  | .mit _ _ _ _ _ _ _ => false

def Fr.noS (fr : Fr) : Bool := noSL fr.slots && fr.regs.all fun p => p.2.noS

/-- Arguments as a function takes them: closed data (fz: frozen; else lent), or as they are. -/
def argVs (E : Env) (fz : Bool) : List Bool → List TypeId → List FV → Pr (List FV)
  | true :: md, t :: ts, v :: l => popt (E.tt t) fun ti => popt ti.tc fun tc => (closeG fz tc v).bind fun x => (argVs E fz md ts l).bind fun r => .ret (.dat tc x :: r)
  | false :: md, _ :: ts, v :: l => (argVs E fz md ts l).bind fun r => .ret (v :: r)
  | _, [], [] => .ret []
  | _, _, _ => .fail

/-- The regions that are lent. -/
def lentIds : List Bool → List FV → List Nat
  | true :: md, v :: l => v.ids ++ lentIds md l
  | false :: md, _ :: l => lentIds md l
  | _, _ => []

def allAbs : List Nat → Pr Unit
  | [] => .ret ()
  | k :: l => .getR k fun r => match r with
    | .abs => allAbs l
    | _ => .fail

def backId (ids : List Nat) (site : Nat) (j : Nat) : Nat := ids.getD j (site + (j - ids.length))

/-- The regions that were handed over, as they came back. -/
def bk (out : Fr) (f : Nat → Option Nat) : Nat → List Nat → List (Nat × Reg)
  | _, [] => []
  | j, k :: l => (k, (out.reg j).ren f) :: bk out f (j + 1) l

def resFV : List FV → FV
  | [v] => v
  | l => .tup l

def callOut (dst : Option Tmp) (ids : List Nat) (out : Fr) : Pr FV :=
  let site := siteOf dst
  let fresh := (out.regs.filter fun p => Nat.ble ids.length p.1).map fun p => p.1
  if fresh.all (fun j => Nat.blt j (ids.length + 8) && !mem (backId ids site j) ids) then
    (allAbs (fresh.map fun j => backId ids site j)).bind fun _ =>
    (setRs (bk out (fun j => some (backId ids site j)) 0 ids)).bind fun _ =>
    (setRs (fresh.map fun j => (backId ids site j, (out.reg j).ren fun j => some (backId ids site j)))).bind fun _ =>
    .ret ((resFV out.slots).ren fun j => some (backId ids site j))
  else .fail

def callPk (sp : Spec) (dst : Option Tmp) (ids : List Nat) (pk : Fr) : Pr FV := guard (sp.ok pk) (.opt (sp.fn pk) fun out =>
  if sp.ret || out.noS then callOut dst ids out else .fail)

def callV (E : Env) (dst : Option Tmp) (f : FuncId) (tys : List TypeId) (args caps : List FV) : Pr FV :=
  popt (E.fs f) fun sp => (argVs E sp.ret sp.md tys args).bind fun as =>
    (collect 200 (idsL (as ++ caps)) []).bind fun ids => (getRs ids).bind fun rs =>
      if (sp.ret || (lentIds sp.md args).all (fun k => !mem k ids)) then
        callPk sp dst ids ⟨renL (posIn ids) (as ++ caps), numbered 0 (rs.map (Reg.ren (posIn ids)))⟩
      else .fail

def isNilI : Operand → Bool
  | .const .nilIface => true
  | _ => false

/-- A nil interface held against nil. -/
def nilIV (E : Env) (op : BinOp) (xt : TypeId) (x : FV) : Pr FV := match x with
  | .nili => popt (E.tt xt) fun ti => guard ti.ifc (boolOp op true)
  | _ => .fail

def isNilS : Operand → Bool
  | .const (.slice none 0 0) => true
  | _ => false

def zeroOp : Operand → Bool
  | .const (.int _ n) => n == 0
  | _ => false

structure Cfg where
  /-- Of a loop (the number of the block around it): the slots that are kept, and those in which a slice is made one of its own. -/
  loops : List (Nat × List Nat × List (Nat × Tc))
  /-- The targets of slicings whose operand is used no more. -/
  cons : List Nat
  /-- Of a variable in memory (the slot of its address): the fields in which a slice is made one of its own. -/
  boxes : List (Nat × List (Nat × Tc))

def boxCfg : List (Nat × List (Nat × Tc)) → Nat → List (Nat × Tc)
  | [], _ => []
  | (i, c) :: l, d => cond (Nat.beq i d) c (boxCfg l d)

/-- Empty slices of nobody's among cells become own ones. -/
def ownL (site : Nat) : Nat → List (Nat × Tc) → List FV → Pr (List FV)
  | _, [], l => .ret l
  | j, (off, t) :: r, l => match l[off]? with
    | some .nil0 => .getR (site + 1 + j) fun q => match q with
      | .abs => .setR (site + 1 + j) (.arr t []) (ownL site (j + 1) r (l.set off (.slc (site + 1 + j))))
      | _ => .fail
    | _ => ownL site (j + 1) r l

def fillPts {α : Type} : List α → List (Nat × α) → Option (List α)
  | xs, [] => some xs
  | xs, (i, x) :: l => if i < xs.length then fillPts (xs.set i x) l else none

def buildArr (E : Env) (tc : Tc) : List (Nat × Operand) → List tc.den → Pr (List tc.den)
  | [], xs => .ret xs
  | (i, x) :: l, xs => if i < xs.length then (opnd x).bind fun v => (closeD tc v).bind fun y => buildArr E tc l (xs.set i y) else .fail

def splice (l m : List FV) (o : Nat) : List FV := l.take o ++ m ++ l.drop (o + m.length)

def buildSt (E : Env) (flds : List (Nat × TypeId)) : List (Nat × Operand) → List FV → Pr (List FV)
  | [], cs => .ret cs
  | (i, x) :: l, cs => popt flds[i]? fun ot => popt (E.tt ot.2) fun ft => (opnd x).bind fun v => (chk v).bind fun _ =>
    if v.split.length = ft.size ∧ ot.1 + ft.size ≤ cs.length then buildSt E flds l (splice cs v.split ot.1) else .fail

def oopnd : Option Operand → Pr (Option FV)
  | none => .ret none
  | some x => (opnd x).bind fun v => .ret (some v)

def hinted (C : Cfg) (dst : Option Tmp) : Bool := match dst with
  | some d => mem (200000 + d) C.cons
  | none => false

/-- A value that is made closed data at once. -/
def hintV (E : Env) (C : Cfg) (dst : Option Tmp) (t : TypeId) (v : FV) : Pr FV := cond (hinted C dst)
  (popt (E.tt t) fun ti => popt ti.tc fun tc => (closeD tc v).bind fun x => .ret (.dat tc x)) (.ret v)

def opP (E : Env) (C : Cfg) (o : Oper) : Pr FV :=
  match o.op with
  | .move x => opnd x
  | .assign x => opnd x
  | .pick c a b => (opnd c).bind fun v => (asB v).bind fun q => .ite q (opnd a) (opnd b)
  | .alloc e => popt (E.tt e) fun ti => (ownL (siteOf o.dst) 0 (boxCfg C.boxes (o.dst.getD 0)) ti.zeros).bind fun cs => newReg o.dst (.box cs) (.ptr (siteOf o.dst) 0)
  | .box e x => popt (E.tt e) fun ti => (opnd x).bind fun v => (chk v).bind fun _ => if v.split.length = ti.size then (ownL (siteOf o.dst) 0 (boxCfg C.boxes (o.dst.getD 0)) v.split).bind fun cs => newReg o.dst (.box cs) (.ptr (siteOf o.dst) 0) else .fail
  | .build t ps => popt (E.tt t) fun ti => if ti.agg && !ti.flds.isEmpty then (buildSt E ti.flds ps.toList ti.zeros).bind fun l => (ownL (siteOf o.dst) 0 (boxCfg C.boxes (o.dst.getD 0)) l).bind fun l => hintV E C o.dst t (.agg l) else .fail
  | .buildSlice t n ps => popt (elemTc E t) fun e => if n * e.1.size ≤ 16777216 then (buildArr E e.1 ps.toList (List.replicate n e.1.dflt)).bind fun xs => newReg o.dst (.arr e.1 xs) (.slc (siteOf o.dst)) else .fail
  | .load t a => (opnd a).bind fun v => (loadV E t v).bind fun u => hintV E C o.dst t u
  | .store t a x => (opnd a).bind fun v => (opnd x).bind fun u => (storeV E t v u).bind fun _ => .ret .skp
  | .nilCheck x => (opnd x).bind fun v => match v with
    | .ptr k _ => .getR k fun r => match r with
      | .box _ => .ret v
      | _ => .fail
    | .ep k i o => if o = sufMark then .fail else .getR k fun r => match r with
      | .arr _ xs => guard (decide (i < xs.length)) (.ret v)
      | _ => .fail
    | .fp _ _ => .ret v
    | .clos _ _ => .ret v
    | _ => .fail
  | .binOp op xt x y _ => if isNilS y then (opnd x).bind fun v => nilCmpV E op xt v else if isNilI y then (opnd x).bind fun v => nilIV E op xt v else (opnd x).bind fun v => (opnd y).bind fun u => binV E op xt v u
  | .unOp op _ x => (opnd x).bind fun v => unV op v
  | .convert src dst x => (opnd x).bind fun v => convV E src dst v
  | .makeFunc (.func f) first captured => if first.size = 0 then (opnds captured.toList).bind fun l => .ret (.clos f l) else .fail
  | .makeMap t none => makeMapV E o.dst t
  | .range t x => (opnd x).bind fun v => rangeV E o.dst t v
  | .next it isS => (opnd it).bind fun v => nextV v isS
  | .entry it => (opnd it).bind fun v => entryV v
  | .lookup t x i ok => (opnd x).bind fun v => (opnd i).bind fun u => lookupV E t v u ok
  | .mapUpdate t m k x => (opnd m).bind fun v => (opnd k).bind fun u => (opnd x).bind fun y => mapUpdateV E t v u y
  | .insert t m k x => (opnd m).bind fun v => (opnd k).bind fun u => (opnd x).bind fun y => mapUpdateV E t v u y
  | .makeSlice t n c => (opnd n).bind fun v => (opnd c).bind fun u => makeV E o.dst t v u
  | .slice t x none (some hi) (some mx) => if zeroOp hi && zeroOp mx then (opnd x).bind fun v => zeroV E t v else (opnd x).bind fun v => (opnd hi).bind fun h => (opnd mx).bind fun m => cutV E t v h m
  | .slice t x (some lo) (some hi) (some mx) => (opnd x).bind fun v => (opnd lo).bind fun l => (opnd hi).bind fun h => (opnd mx).bind fun m => fullV E t v (some l) (some h) m
  | .slice _ _ (some _) none (some _) => .fail
  | .slice t x lo hi none => (opnd x).bind fun v => (oopnd lo).bind fun l => (oopnd hi).bind fun h => if mem (o.dst.getD 0) C.cons then resliceV E o.dst t v l h else if mem (100000 + o.dst.getD 0) C.cons then sufV E t v l h else sliceV E t v l h
  | .fieldAddr s x f => (opnd x).bind fun v => fieldAddrV E s v f
  | .field s x f => (opnd x).bind fun v => fieldV E s v f
  | .indexAddr t x i => (opnd x).bind fun v => (opnd i).bind fun u => indexAddrV E t v u
  | .index t x i => (opnd x).bind fun v => (opnd i).bind fun u => indexV E t v u
  | .extract t i => (opnd t).bind fun v => match v with
    | .tup l => popt l[i]? .ret
    | _ => .fail
  | .call c => (opnds c.args.toList).bind fun args => match c.callee with
    | .builtin .len => match args, c.argTypes.toList with
      | [x], [t] => lenV E t x
      | _, _ => .fail
    | .builtin .append => match args, c.argTypes.toList with
      | [x, y], [t, t2] => appendV E o.dst t t2 x y
      | _, _ => .fail
    | .builtin .clear => match args, c.argTypes.toList with
      | [x], [t] => clearV E t x
      | _, _ => .fail
    | .builtin .delete => match args, c.argTypes.toList with
      | [x, y], [t, _] => deleteV E t x y
      | _, _ => .fail
    | .builtin .max => mxV args
    | .builtin .min => mnV args
    | .value f => (opnd f).bind fun g => match g with
      | .clos f caps => callV E o.dst f c.argTypes.toList args caps
      | _ => .fail
    | _ => .fail
  | _ => .fail

def putP (o : Oper) (p : Pr FV) : Pr Unit := p.bind fun v => match o.dst with
  | some d => .setS d v (.ret ())
  | none => .ret ()

/-- An operation under its guard. -/
def gop (E : Env) (C : Cfg) (ops : List Oper) (o : Oper) : Pr Unit := match o.guard with
  | none => putP o (opP E C o)
  | some (j, want) => match (ops[j]?).bind (·.dst) with
    | none => .fail
    | some g => .getS g fun v => match v with
      | .dat .bool b => .ite b (.setS g (dB true) (cond want (putP o (opP E C o)) (putP o (.ret .skp)))) (.setS g (dB false) (cond want (putP o (.ret .skp)) (putP o (opP E C o))))
      | .skp => .setS g .skp (putP o (.ret .skp))
      | _ => .fail

def runOps (E : Env) (C : Cfg) (ops : List Oper) {ρ : Type} : List Oper → Fr → (Fr → Option ρ) → Option ρ
  | [], fr, K => K fr
  | o :: rest, fr, K => (gop E C ops o).exec fr fun _ fr' => runOps E C ops rest fr' K

/-- The same with what is read and written: slot i is 2i, region k is 2k+1. -/
def Pr.execT {α ρ : Type} : Pr α → Fr → List Nat → List Nat → (α → Fr → List Nat → List Nat → Option ρ) → Option ρ
  | .ret a, fr, r, w, K => K a fr r w
  | .fail, _, _, _, _ => none
  | .getS i k, fr, r, w, K => (k (fr.slot i)).execT fr (2 * i :: r) w K
  | .getR i k, fr, r, w, K => (k (fr.reg i)).execT fr ((2 * i + 1) :: r) w K
  | .setS i v k, fr, r, w, K => k.execT (fr.setS i v) r (2 * i :: w) K
  | .setR i x k, fr, r, w, K => k.execT (fr.setR i x) r ((2 * i + 1) :: w) K
  | .ite b p q, fr, r, w, K => cond b (p.execT fr r w K) (q.execT fr r w K)
  | .opt o k, fr, r, w, K => match o with
    | some v => (k v).execT fr r w K
    | none => none

def edgesOf (o : Oper) : List Nat := (o.after.toList.filter fun e => Region.binds .any e).map fun e => e.on

/-- What stands before each operation, by way of others. -/
def ancs : List Oper → List (List Nat) → List (List Nat)
  | [], acc => acc
  | o :: rest, acc => ancs rest (acc ++ [(edgesOf o).flatMap fun i => i :: acc.getD i []])

def edgesBack : Nat → List Oper → Bool
  | _, [] => true
  | n, o :: rest => (edgesOf o).all (fun i => Nat.blt i n) && edgesBack (n + 1) rest

def disj (a b : List Nat) : Bool := a.all fun x => !mem x b

/-- No two operations without an order touch one thing that either writes. -/
def indepAll (anc : List (List Nat)) (ft : List (List Nat × List Nat)) : Bool :=
  (List.range ft.length).all fun j => (List.range j).all fun i => mem i (anc.getD j []) ||
    (disj (ft.getD i ([], [])).2 (ft.getD j ([], [])).1 && disj (ft.getD i ([], [])).2 (ft.getD j ([], [])).2 && disj (ft.getD i ([], [])).1 (ft.getD j ([], [])).2)

def runOpsT (E : Env) (C : Cfg) (ops : List Oper) {ρ : Type} : List Oper → List (List Nat × List Nat) → Fr → (Fr → Option ρ) → Option ρ
  | [], ft, fr, K => if indepAll (ancs ops []) ft && edgesBack 0 ops then K fr else none
  | o :: rest, ft, fr, K => (gop E C ops o).execT fr [] [] fun _ fr' r w => runOpsT E C ops rest (ft ++ [(r, cond o.guard.isSome w.dropLast w)]) fr' K

inductive Ex where
  | normal
  | exit (i : Nat)
  | ret

/-- All regions that are reached, in order. -/
def collectF (regs : List (Nat × Reg)) : Nat → List Nat → List Nat → Option (List Nat)
  | _, [], acc => some acc
  | 0, _ :: _, _ => none
  | n + 1, k :: todo, acc => cond (mem k acc) (collectF regs n todo acc) (match regAt regs k with
    | .box cs => collectF regs n (todo ++ idsL cs) (acc ++ [k])
    | .fwd j => collectF regs n (todo ++ [j]) (acc ++ [k])
    | .mit j _ _ _ _ _ _ => collectF regs n (todo ++ [j]) (acc ++ [k])
    | _ => collectF regs n todo (acc ++ [k]))

def keepS (keep : List Nat) : Nat → List FV → List FV
  | _, [] => []
  | i, v :: l => cond (mem i keep) v .undef :: keepS keep (i + 1) l

def ownS : List (Nat × Tc) → Nat → Fr → Option Fr
  | [], _, fr => some fr
  | (i, t) :: l, j, fr => match fr.slot i with
    | .nil0 => match fr.reg (900 + j) with
      | .abs => ownS l (j + 1) ((fr.setR (900 + j) (.arr t [])).setS i (.slc (900 + j)))
      | _ => none
    | _ => ownS l (j + 1) fr

def newNo (base pre : Nat) (ids : List Nat) (k : Nat) : Option Nat := (posIn ids k).map fun j => cond (Nat.blt j pre) j (base + j)

/-- Slices that are frozen where a region begins (300000 + 1000 * region + slot). -/
def preF : List Nat → Nat → Fr → Fr
  | [], _, fr => fr
  | n :: l, id, fr => cond (Nat.beq (n / 1000) (300 + id)) (match fr.slot (n % 1000) with
    | .slc k => match fr.reg k with
      | .arr t xs => preF l id (fr.setR k (.frz t xs))
      | _ => preF l id fr
    | _ => preF l id fr) (preF l id fr)

/-- A frame with only some slots, and with its regions numbered anew; pre: so many stay as they are. -/
def pack (base pre : Nat) (fr : Fr) : Option Fr :=
  (collectF fr.regs 200 (List.range pre ++ idsL fr.slots) []).map fun ids =>
    ⟨renL (newNo base pre ids) fr.slots, (numbered 0 (ids.map fun k => (fr.reg k).ren (newNo base pre ids))).map fun p => (cond (Nat.blt p.1 pre) p.1 (base + p.1), p.2)⟩

def norm (pre : Nat) (keep : List Nat) (own : List (Nat × Tc)) (fr : Fr) : Option Fr :=
  (ownS own 0 fr).bind fun fr1 => pack 500 pre ⟨keepS keep 0 fr1.slots, fr1.regs⟩

def loopCfg : List (Nat × List Nat × List (Nat × Tc)) → Nat → List Nat × List (Nat × Tc)
  | [], _ => ([], [])
  | (i, c) :: l, b => cond (Nat.beq i b) c (loopCfg l b)

/-- How a result is handed over: as it is, as closed data, or (a slice) as one of its own. -/
inductive RM where
  | raw
  | data (t : Tc)
  | own (t : Tc)
  | take (t : Tc)
  | move (t : Tc)

/-- Closed data, and the slice itself is gone. -/
def killV (v : FV) : Pr Unit := match v with
  | .slc k => .setR k .dead (.ret ())
  | _ => .ret ()

def resV (E : Env) : List ResultVar → Pr (List FV)
  | [] => .ret []
  | .tmp t :: l => .getS t fun v => (resV E l).bind fun vs => .ret (v :: vs)
  | .cell a t :: l => .getS a fun v => (loadV E t v).bind fun u => (resV E l).bind fun vs => .ret (u :: vs)

def resM : Nat → List RM → List FV → Pr (List FV)
  | j, .data t :: m, v :: l => (closeD t v).bind fun x => (resM (j + 1) m l).bind fun r => .ret (.dat t x :: r)
  | j, .take t :: m, v :: l => (closeD (.slice t) v).bind fun x => (killV v).bind fun _ => (resM (j + 1) m l).bind fun r => .ret (.dat (.slice t) x :: r)
  | j, .move t :: m, v :: l => match v with
    | .nil0 => .getR (900 + j) fun q => match q with
      | .abs => .setR (900 + j) (.arr t []) ((resM (j + 1) m l).bind fun r => .ret (.slc (900 + j) :: r))
      | _ => .fail
    | .slc k => .getR k fun r => match r with
      | .arr t' xs => .getR (900 + j) fun q => match q with
        | .abs => .setR k .dead (.setR (900 + j) (.arr t' xs) ((resM (j + 1) m l).bind fun r => .ret (.slc (900 + j) :: r)))
        | _ => .fail
      | _ => .fail
    | _ => .fail
  | j, .own t :: m, v :: l => match v with
    | .nil0 => .getR (900 + j) fun q => match q with
      | .abs => .setR (900 + j) (.arr t []) ((resM (j + 1) m l).bind fun r => .ret (.slc (900 + j) :: r))
      | _ => .fail
    | v => (resM (j + 1) m l).bind fun r => .ret (v :: r)
  | j, .raw :: m, v :: l => (resM (j + 1) m l).bind fun r => .ret (v :: r)
  | _, [], [] => .ret []
  | _, _, _ => .fail

def fin (E : Env) (pre : Nat) (rs : List ResultVar) (ms : List RM) : Ex → Fr → Option Fr
  | .exit _, _ => none
  | _, fr => ((resV E rs).bind (resM 0 ms)).exec fr fun l fr' => pack pre pre ⟨l, fr'.regs⟩

end Go.Ev

namespace Go.Ev
open Go

/-- Where a region lies. -/
structure Loc where
  blk : Nat
  off : Nat
  cap : Nat
  nil : Bool
  base : Option Addr

def cellAt (h : Array Obj) (b o : Nat) : Option Value := match h[b]? with
  | some (.cells c _ _) => c[o]?
  | _ => none

def RelD (S : Nat → Prop) (h : Array Obj) : (t : Tc) → t.den → List Value → Prop
  | .int k, n, cs => cs = [.int k n]
  | .bool, b, cs => cs = [.bool b]
  | .str, s, cs => cs = [.string ⟨List.toArray s⟩]
  | .slice t, xs, cs => ∃ a cap, cs = [.slice a (List.length xs) cap] ∧ List.length xs ≤ cap ∧ ∀ i x, xs[i]? = some x →
      ∃ ad, a = some ad ∧ ad.spot = none ∧ S ad.block ∧ ∃ ecs, RelD S h t x ecs ∧ ∀ j v, ecs[j]? = some v → cellAt h ad.block (ad.off + i * t.size + j) = some v
  | .pair a b, x, cs => ∃ c1 c2, cs = c1 ++ c2 ∧ RelD S h a x.1 c1 ∧ RelD S h b x.2 c2
  | .st t, x, cs => RelD S h t x cs

def RelVal (S : Nat → Prop) (h : Array Obj) (t : Tc) (x : t.den) (v : Value) : Prop := match t, x with
  | .st t, x => ∃ cs, v = .agg cs.toArray ∧ RelD S h (.st t) x cs
  | .pair _ _, _ => False
  | t, x => RelD S h t x [v]

structure Vw where
  sl : Nat → Value → Prop
  pt : Nat → Nat → Value → Prop
  el : Nat → Nat → Nat → Value → Prop
  mp : Nat → Value → Prop
  S : Nat → Prop
  h : Array Obj

mutual
def RelV (V : Vw) : FV → Value → Prop
  | .undef, _ => True
  | .skp, v => v = Go.undef
  | .dat t x, v => RelVal V.S V.h t x v
  | .nil0, v => ∃ a, v = .slice a 0 0
  | .nilm, v => v = .map none
  | .nilp, v => v = .pointer none
  | .nilf, v => v = .nilFunc
  | .nili, v => v = .nilIface
  | .ub, v => ∃ b, v = .bool b
  | .slc k, v => V.sl k v
  | .ptr k o, v => V.pt k o v
  | .ep k i o, v => V.el k i o v
  | .fp t x, v => ∃ ad cs, v = .pointer (some ad) ∧ ad.spot = none ∧ V.S ad.block ∧ RelD V.S V.h t x cs ∧ ∀ j u, cs[j]? = some u → cellAt V.h ad.block (ad.off + j) = some u
  | .mp k, v => V.mp k v
  | .agg l, v => ∃ vs, v = .agg (List.toArray vs) ∧ RelVs V l vs ∧ ∀ u ∈ vs, u.oneCell' = true
  | .tup l, v => ∃ vs, v = .tuple (List.toArray vs) ∧ RelVs V l vs
  | .clos f l, v => ∃ vs, v = .func (.func f) #[] (List.toArray vs) ∧ RelVs V l vs
def RelVs (V : Vw) : List FV → List Value → Prop
  | [], vs => vs = []
  | v :: l, vs => ∃ u us, vs = u :: us ∧ RelV V v u ∧ RelVs V l us
end

def hdl (l : Loc) (n : Nat) : Value := if l.nil then .slice l.base 0 0 else .slice (some ⟨l.blk, l.off, none⟩) n l.cap

/-- The keys of entries, in their order. -/
def RelK (S : Nat → Prop) (h : Array Obj) (tk : Tc) : List tk.den → List MapEntry → Prop
  | [], es => es = []
  | x :: l, es => ∃ e es', es = e :: es' ∧ RelVal S h tk x e.key ∧ RelK S h tk l es'

def slRel (rg : Nat → Reg) (loc : Nat → Loc) (S : Nat → Prop) (h : Array Obj) (k : Nat) (v : Value) : Prop := match rg k with
  | .abs => False
  | .arr _ xs => v = hdl (loc k) xs.length
  | .frz t xs => RelD S h (.slice t) xs [v]
  | _ => True

def ptRel (rg : Nat → Reg) (loc : Nat → Loc) (k o : Nat) (v : Value) : Prop := match rg k with
  | .abs => False
  | .box _ => v = .pointer (some ⟨(loc k).blk, o, none⟩)
  | .mit _ _ _ _ _ _ _ => v = .pointer (some ⟨(loc k).off, o, none⟩)
  | _ => True

/-- An element's address; at the mark: the slice from it on. -/
def ElOK (l : Loc) (sz n i o : Nat) (v : Value) : Prop := if o = sufMark then ∃ c, v = .slice (some ⟨l.blk, l.off + i * sz, none⟩) (n - i) c else v = .pointer (some ⟨l.blk, l.off + i * sz + o, none⟩)
theorem ElOK_pt {l : Loc} {sz n i o : Nat} {v : Value} (h : o ≠ sufMark) : ElOK l sz n i o v ↔ v = .pointer (some ⟨l.blk, l.off + i * sz + o, none⟩) := by unfold ElOK; rw [if_neg h]

def elRel (rg : Nat → Reg) (loc : Nat → Loc) (S : Nat → Prop) (h : Array Obj) (k i o : Nat) (v : Value) : Prop := match rg k with
  | .abs => False
  | .arr t xs => o ≠ fullMark ∧ ((loc k).nil = false → ElOK (loc k) t.size xs.length i o v)
  | .frz t xs => o = fullMark → RelD S h (.slice t) (xs.drop i) [v] ∧ ∃ a n, v = .slice a n n
  | _ => True

def mpRel (rg : Nat → Reg) (loc : Nat → Loc) (k : Nat) (v : Value) : Prop := match rg k with
  | .abs => False
  | .map _ _ _ => v = .map (some (loc k).blk)
  | .fwd _ => v = .map (some (loc k).blk)
  | .mit _ _ _ _ _ _ _ => v = .map (some (loc k).blk)
  | _ => True

def view (rg : Nat → Reg) (loc : Nat → Loc) (S : Nat → Prop) (h : Array Obj) : Vw :=
  { sl := slRel rg loc S h, pt := ptRel rg loc, el := elRel rg loc S h, mp := mpRel rg loc, S, h }

/-- The entries of a map. -/
def RelE (S : Nat → Prop) (h : Array Obj) (tk tv : Tc) : List (tk.den × tv.den) → List MapEntry → Prop
  | [], es => es = []
  | x :: l, es => ∃ e es', es = e :: es' ∧ RelVal S h tk x.1 e.key ∧ RelVal S h tv x.2 e.val ∧ RelE S h tk tv l es'

/-- Each entry of a map has a key and a stamp of its own, older than the clock. -/
def Steady (es : Array MapEntry) (clock : Nat) : Prop := (∀ x ∈ es.toList, x.born < clock) ∧ (es.toList.map (·.born)).Nodup ∧ (es.toList.map (·.key)).Nodup

/-- The entries that are still to come. -/
def leftOf (es : List MapEntry) (seen : Array Nat) : List MapEntry := es.filter fun e => !seen.contains e.born

/-- Where an iterator stands. -/
def IterAt (S : Nat → Prop) (h : Array Obj) (tk : Tc) (es : List MapEntry) (rem cur : List tk.den) (pend : Bool) (seen : Array Nat) : Prop := match pend with
  | false => RelK S h tk rem (leftOf es seen) ∧ ∀ x, cur = [x] → ∃ e ∈ es, seen.back? = some e.born ∧ RelVal S h tk x e.key
  | true => ∃ i, i < rem.length ∧ RelK S h tk (rem.eraseIdx i) (leftOf es seen) ∧ ∃ x, rem[i]? = some x ∧ ∃ e ∈ es, seen.back? = some e.born ∧ RelVal S h tk x e.key

def RelR (V : Vw) (l : Loc) : Reg → Prop
  | .box cells => ∃ c e, V.h[l.blk]? = some (.cells c e (0, 0)) ∧ RelVs V cells c.toList ∧ ∀ u ∈ c.toList, u.oneCell' = true
  | .arr t xs => (l.nil = true ∧ xs = []) ∨ (l.nil = false ∧ ∃ c e, V.h[l.blk]? = some (.cells c e (0, 0)) ∧ xs.length ≤ l.cap ∧ l.off + l.cap * t.size ≤ c.size ∧
      ∀ i x, xs[i]? = some x → ∃ ecs, RelD V.S V.h t x ecs ∧ ∀ j u, ecs[j]? = some u → c[l.off + i * t.size + j]? = some u)
  | .map tk tv es => ∃ ents clock, V.h[l.blk]? = some (.map ents clock) ∧ RelE V.S V.h tk tv es ents.toList ∧ Steady ents clock
  | .fwd j => V.mp j (.map (some l.blk))
  | .mit _ tk tv es rem cur pend => ∃ ents clock seen, V.h[l.blk]? = some (.map ents clock) ∧ RelE V.S V.h tk tv es ents.toList ∧ Steady ents clock ∧ V.h[l.off]? = some (.mapIter (some l.blk) clock seen clock) ∧
      IterAt V.S V.h tk ents.toList rem cur pend seen ∧ ¬ V.S l.off
  | _ => True

/-- A region that has its block alone. -/
def owns (l : Loc) : Reg → Prop
  | .box _ => True
  | .arr _ _ => l.nil = false
  | .map _ _ _ => True
  | .mit _ _ _ _ _ _ _ => True
  | _ => False

/-- A region that has a second block. -/
def Reg.aux : Reg → Bool
  | .mit _ _ _ _ _ _ _ => true
  | _ => false

structure Core (rg : Nat → Reg) (loc : Nat → Loc) (S : Nat → Prop) (h : Array Obj) : Prop where
  reg : ∀ k, RelR (view rg loc S h) (loc k) (rg k)
  inj : ∀ k k', owns (loc k) (rg k) → owns (loc k') (rg k') → (loc k).blk = (loc k').blk → k = k'
  nS : ∀ k, owns (loc k) (rg k) → ¬ S (loc k).blk
  bS : ∀ b, S b → b < h.size

/-- The state in which a function was entered: memory, the blocks that it may change, those that nobody changes. -/
structure Ent where
  h : Array Obj
  own : Nat → Prop
  S : Nat → Prop

structure Keep (en : Ent) (rg : Nat → Reg) (loc : Nat → Loc) (S : Nat → Prop) (h : Array Obj) : Prop where
  size : en.h.size ≤ h.size
  same : ∀ b, b < en.h.size → ¬ en.own b → h[b]? = en.h[b]?
  sub : ∀ b, en.S b → S b
  src : ∀ b, S b → en.S b ∨ en.own b ∨ en.h.size ≤ b
  mine : ∀ k, owns (loc k) (rg k) → en.own (loc k).blk ∨ en.h.size ≤ (loc k).blk
  apart : ∀ b, en.S b → ¬ en.own b
  bnd : ∀ b, en.S b → b < en.h.size
  auxs : ∀ k, (rg k).aux = true → en.h.size ≤ (loc k).off

def St (en : Ent) (vs : List FV) (us : List Value) (rg : Nat → Reg) (h : Array Obj) : Prop :=
  ∃ loc S, Core rg loc S h ∧ RelVs (view rg loc S h) vs us ∧ Keep en rg loc S h

/-! ### first facts -/

theorem RelD_len {S : Nat → Prop} {h : Array Obj} : ∀ (t : Tc) (x : t.den) (cs : List Value), RelD S h t x cs → cs.length = t.size
  | .int _, _, _, e => by cases e; rfl
  | .bool, _, _, e => by cases e; rfl
  | .str, _, _, e => by cases e; rfl
  | .slice _, _, _, ⟨_, _, e, _⟩ => by cases e; rfl
  | .pair a b, x, _, ⟨c1, c2, e, h1, h2⟩ => by
    subst e
    simp [Tc.size, RelD_len a _ _ h1, RelD_len b _ _ h2]
  | .st t, x, cs, e => RelD_len t x cs e

theorem RelD_mono {S S' : Nat → Prop} {h h' : Array Obj} (hs : ∀ b, S b → S' b ∧ h'[b]? = h[b]?) : ∀ (t : Tc) (x : t.den) (cs : List Value),
    RelD S h t x cs → RelD S' h' t x cs
  | .int _, _, _, e => e
  | .bool, _, _, e => e
  | .str, _, _, e => e
  | .slice t, xs, _, ⟨a, cap, e, hl, hc⟩ => ⟨a, cap, e, hl, fun i x hx => by
      obtain ⟨ad, ea, hsp, hS, ecs, he, hcs⟩ := hc i x hx
      refine ⟨ad, ea, hsp, (hs _ hS).1, ecs, RelD_mono hs t x ecs he, fun j v hj => ?_⟩
      have := hcs j v hj
      unfold cellAt at this ⊢
      rw [(hs _ hS).2]; exact this⟩
  | .pair a b, x, _, ⟨c1, c2, e, h1, h2⟩ => ⟨c1, c2, e, RelD_mono hs a _ _ h1, RelD_mono hs b _ _ h2⟩
  | .st t, x, cs, e => RelD_mono hs t x cs e

theorem RelVal_mono {S S' : Nat → Prop} {h h' : Array Obj} (hs : ∀ b, S b → S' b ∧ h'[b]? = h[b]?) (t : Tc) (x : t.den) (v : Value)
    (e : RelVal S h t x v) : RelVal S' h' t x v := by
  cases t with
  | st t => obtain ⟨cs, e1, e2⟩ := e; exact ⟨cs, e1, RelD_mono hs _ _ _ e2⟩
  | pair a b => exact e
  | _ => exact RelD_mono hs _ _ _ e

theorem RelE_mono {S S' : Nat → Prop} {h h' : Array Obj} (hs : ∀ b, S b → S' b ∧ h'[b]? = h[b]?) (tk tv : Tc) : ∀ (l : List (tk.den × tv.den)) (es : List MapEntry),
    RelE S h tk tv l es → RelE S' h' tk tv l es
  | [], _, e => e
  | _ :: l, _, ⟨e, es', h0, h1, h2, h3⟩ => ⟨e, es', h0, RelVal_mono hs _ _ _ h1, RelVal_mono hs _ _ _ h2, RelE_mono hs tk tv l es' h3⟩

theorem RelK_mono {S S' : Nat → Prop} {h h' : Array Obj} (hs : ∀ b, S b → S' b ∧ h'[b]? = h[b]?) (tk : Tc) : ∀ (l : List tk.den) (es : List MapEntry), RelK S h tk l es → RelK S' h' tk l es
  | [], _, e => e
  | _ :: l, _, ⟨e, es', h0, h1, h2⟩ => ⟨e, es', h0, RelVal_mono hs _ _ _ h1, RelK_mono hs tk l es' h2⟩

theorem IterAt_mono {S S' : Nat → Prop} {h h' : Array Obj} (hs : ∀ b, S b → S' b ∧ h'[b]? = h[b]?) {tk : Tc} {es : List MapEntry} {rem cur : List tk.den} {pend : Bool} {seen : Array Nat}
    (hi : IterAt S h tk es rem cur pend seen) : IterAt S' h' tk es rem cur pend seen := by
  cases pend with
  | false =>
    refine ⟨RelK_mono hs _ _ _ hi.1, fun x hx => ?_⟩
    obtain ⟨e, he, h1, h2⟩ := hi.2 x hx
    exact ⟨e, he, h1, RelVal_mono hs _ _ _ h2⟩
  | true =>
    obtain ⟨i, h1, h2, x, h3, e, h4, h5, h6⟩ := hi
    exact ⟨i, h1, RelK_mono hs _ _ _ h2, x, h3, e, h4, h5, RelVal_mono hs _ _ _ h6⟩

structure Vw.le (V V' : Vw) : Prop where
  sl : ∀ k v, V.sl k v → V'.sl k v
  pt : ∀ k o v, V.pt k o v → V'.pt k o v
  el : ∀ k i o v, V.el k i o v → V'.el k i o v
  mp : ∀ k v, V.mp k v → V'.mp k v
  S : ∀ b, V.S b → V'.S b ∧ V'.h[b]? = V.h[b]?

mutual
theorem RelV_mono {V V' : Vw} (hl : V.le V') : ∀ (v : FV) (u : Value), RelV V v u → RelV V' v u
  | .undef, _, _ => trivial
  | .skp, _, e => e
  | .dat t x, v, e => RelVal_mono hl.S t x v e
  | .nil0, _, e => e
  | .nilm, _, e => e
  | .nilp, _, e => e
  | .nilf, _, e => e
  | .nili, _, e => e
  | .ub, _, e => e
  | .slc k, v, e => hl.sl k v e
  | .ptr k o, v, e => hl.pt k o v e
  | .ep k i o, v, e => hl.el k i o v e
  | .fp t x, v, ⟨ad, cs, e1, e2, e3, e4, e5⟩ => ⟨ad, cs, e1, e2, (hl.S _ e3).1, RelD_mono hl.S _ _ _ e4, fun j u hj => by
      have := e5 j u hj
      unfold cellAt at this ⊢
      rw [(hl.S _ e3).2]; exact this⟩
  | .mp k, v, e => hl.mp k v e
  | .agg l, _, ⟨vs, e, h, ho⟩ => ⟨vs, e, RelVs_mono hl l vs h, ho⟩
  | .tup l, _, ⟨vs, e, h⟩ => ⟨vs, e, RelVs_mono hl l vs h⟩
  | .clos _ l, _, ⟨vs, e, h⟩ => ⟨vs, e, RelVs_mono hl l vs h⟩
theorem RelVs_mono {V V' : Vw} (hl : V.le V') : ∀ (l : List FV) (us : List Value), RelVs V l us → RelVs V' l us
  | [], _, e => e
  | v :: l, _, ⟨u, us, e, h1, h2⟩ => ⟨u, us, e, RelV_mono hl v u h1, RelVs_mono hl l us h2⟩
end

theorem RelVs_len {V : Vw} : ∀ (l : List FV) (us : List Value), RelVs V l us → us.length = l.length
  | [], _, e => by cases e; rfl
  | _ :: l, _, ⟨_, us, e, _, h⟩ => by subst e; simp [RelVs_len l us h]

theorem RelVs_append {V : Vw} : ∀ (l m : List FV) (us ws : List Value), RelVs V l us → RelVs V m ws → RelVs V (l ++ m) (us ++ ws)
  | [], _, _, _, e, h => by cases e; exact h
  | _ :: l, m, _, ws, ⟨u, us, e, h1, h2⟩, h => by subst e; exact ⟨u, us ++ ws, rfl, h1, RelVs_append l m us ws h2 h⟩

theorem RelVs_split {V : Vw} : ∀ (l m : List FV) (us : List Value), RelVs V (l ++ m) us → ∃ u1 u2, us = u1 ++ u2 ∧ RelVs V l u1 ∧ RelVs V m u2
  | [], _, us, h => ⟨[], us, rfl, rfl, h⟩
  | v :: l, m, _, ⟨u, us, e, h1, h2⟩ => by
    obtain ⟨u1, u2, e1, h3, h4⟩ := RelVs_split l m us h2
    subst e; subst e1
    exact ⟨u :: u1, u2, rfl, ⟨u, u1, rfl, h1, h3⟩, h4⟩

theorem RelVs_get {V : Vw} : ∀ (l : List FV) (us : List Value) (i : Nat) (v : FV), RelVs V l us → l[i]? = some v → ∃ u, us[i]? = some u ∧ RelV V v u
  | [], _, _, _, _, h => by simp at h
  | _ :: _, _, 0, _, ⟨u, us, e, h1, _⟩, h => by subst e; simp at h; subst h; exact ⟨u, rfl, h1⟩
  | _ :: l, _, i + 1, v, ⟨_, us, e, _, h2⟩, h => by subst e; simp at h; simpa using RelVs_get l us i v h2 h

theorem RelVs_set {V : Vw} : ∀ (l : List FV) (us : List Value) (i : Nat) (v : FV) (u : Value), RelVs V l us → RelV V v u → RelVs V (l.set i v) (us.set i u)
  | [], _, _, _, _, e, _ => by cases e; rfl
  | _ :: _, _, 0, _, w, ⟨_, us, e, _, h2⟩, h => by subst e; exact ⟨w, us, rfl, h, h2⟩
  | _ :: l, _, i + 1, v, w, ⟨u, us, e, h1, h2⟩, h => by subst e; exact ⟨u, us.set i w, rfl, h1, RelVs_set l us i v w h2 h⟩

theorem RelVs_take {V : Vw} : ∀ (n : Nat) (l : List FV) (us : List Value), RelVs V l us → RelVs V (l.take n) (us.take n)
  | 0, _, _, _ => rfl
  | _ + 1, [], _, e => by cases e; rfl
  | n + 1, _ :: l, _, ⟨u, us, e, h1, h2⟩ => by subst e; exact ⟨u, us.take n, rfl, h1, RelVs_take n l us h2⟩

theorem RelVs_drop {V : Vw} : ∀ (n : Nat) (l : List FV) (us : List Value), RelVs V l us → RelVs V (l.drop n) (us.drop n)
  | 0, _, _, h => h
  | _ + 1, [], _, e => by cases e; rfl
  | n + 1, _ :: l, _, ⟨u, us, e, _, h2⟩ => by subst e; exact RelVs_drop n l us h2

theorem regAt_put (l : List (Nat × Reg)) (k : Nat) (r : Reg) (j : Nat) : regAt (regPut l k r) j = if k = j then r else regAt l j := by
  induction l with
  | nil => simp [regPut, regAt, cond_eq_ite]
  | cons p l ih =>
    obtain ⟨i, x⟩ := p
    simp only [regPut]
    by_cases h1 : i = k
    · subst h1
      by_cases h2 : i = j <;> simp [regAt, h2, cond_eq_ite]
    · have hb : Nat.beq i k = false := by
        cases e : Nat.beq i k
        · rfl
        · exact absurd (Nat.eq_of_beq_eq_true e) h1
      rw [hb]
      simp only [cond_false]
      cases h3 : Nat.blt k i with
      | true =>
        simp only [cond_true, regAt]
        by_cases h2 : k = j
        · simp [h2]
        · simp [h2, cond_eq_ite]
      | false =>
        simp only [cond_false, regAt, ih]
        by_cases h2 : i = j
        · subst h2; simp [Ne.symm h1]
        · simp [h2, cond_eq_ite]

theorem Fr.reg_setR (fr : Fr) (k : Nat) (r : Reg) (j : Nat) : (fr.setR k r).reg j = if k = j then r else fr.reg j := regAt_put _ _ _ _
@[simp] theorem Fr.reg_setS (fr : Fr) (i : Nat) (v : FV) : (fr.setS i v).reg = fr.reg := rfl
@[simp] theorem Fr.slots_setR (fr : Fr) (k : Nat) (r : Reg) : (fr.setR k r).slots = fr.slots := rfl
@[simp] theorem Fr.slots_setS (fr : Fr) (i : Nat) (v : FV) : (fr.setS i v).slots = fr.slots.set i v := rfl

/-- A program's end. -/
def Pr.go {α : Type} : Pr α → Fr → Option (α × Fr)
  | .ret a, fr => some (a, fr)
  | .fail, _ => none
  | .getS i k, fr => (k (fr.slot i)).go fr
  | .getR i k, fr => (k (fr.reg i)).go fr
  | .setS i v k, fr => k.go (fr.setS i v)
  | .setR i r k, fr => k.go (fr.setR i r)
  | .ite b p q, fr => if b then p.go fr else q.go fr
  | .opt o k, fr => o.bind fun v => (k v).go fr

theorem Pr.exec_go {α ρ : Type} (p : Pr α) : ∀ (fr : Fr) (K : α → Fr → Option ρ), p.exec fr K = (p.go fr).bind fun x => K x.1 x.2 := by
  induction p with
  | ret a => intro fr K; rfl
  | fail => intro fr K; rfl
  | getS i k ih => intro fr K; exact ih _ fr K
  | getR i k ih => intro fr K; exact ih _ fr K
  | setS i v k ih => intro fr K; exact ih _ K
  | setR i r k ih => intro fr K; exact ih _ K
  | ite b p q ih1 ih2 => intro fr K; cases b <;> simp [Pr.exec, Pr.go, ih1, ih2]
  | opt o k ih =>
    intro fr K
    cases o with
    | none => rfl
    | some v => exact ih v fr K

theorem Pr.go_bind {α β : Type} (p : Pr α) (f : α → Pr β) : ∀ fr, (p.bind f).go fr = (p.go fr).bind fun x => (f x.1).go x.2 := by
  induction p with
  | ret a => intro fr; rfl
  | fail => intro fr; rfl
  | getS i k ih => intro fr; exact ih _ fr
  | getR i k ih => intro fr; exact ih _ fr
  | setS i v k ih => intro fr; exact ih _
  | setR i r k ih => intro fr; exact ih _
  | ite b p q ih1 ih2 => intro fr; cases b <;> simp [Pr.bind, Pr.go, ih1, ih2]
  | opt o k ih =>
    intro fr
    cases o with
    | none => rfl
    | some v => exact ih v fr

/-- Inversion. -/
theorem Pr.go_bind_some {α β : Type} {p : Pr α} {f : α → Pr β} {fr : Fr} {b : β} {fr' : Fr} (h : (p.bind f).go fr = some (b, fr')) :
    ∃ a fr1, p.go fr = some (a, fr1) ∧ (f a).go fr1 = some (b, fr') := by
  rw [Pr.go_bind] at h
  cases e : p.go fr with
  | none => rw [e] at h; simp at h
  | some x => rw [e] at h; exact ⟨x.1, x.2, rfl, h⟩

theorem go_popt {α β : Type} {o : Option α} {k : α → Pr β} {fr : Fr} {b : β} {fr' : Fr} (h : (popt o k).go fr = some (b, fr')) :
    ∃ a, o = some a ∧ (k a).go fr = some (b, fr') := by
  cases o with
  | none => simp [popt, Pr.go] at h
  | some a => exact ⟨a, rfl, h⟩

theorem go_guard {β : Type} {b : Bool} {p : Pr β} {fr : Fr} {x : β} {fr' : Fr} (h : (guard b p).go fr = some (x, fr')) :
    b = true ∧ p.go fr = some (x, fr') := by
  cases b with
  | false => simp [guard, Pr.go] at h
  | true => exact ⟨rfl, by simpa [guard, Pr.go] using h⟩

theorem go_ret {α : Type} {a b : α} {fr fr' : Fr} (h : (Pr.ret a).go fr = some (b, fr')) : a = b ∧ fr = fr' := by
  simp [Pr.go] at h; exact h

theorem go_fail {α : Type} {b : α} {fr fr' : Fr} (h : (Pr.fail : Pr α).go fr = some (b, fr')) : False := by
  simp [Pr.go] at h

end Go.Ev

set_option linter.unusedSimpArgs false
set_option linter.unusedVariables false
namespace Go.Ev
open Go

structure Ctx (en : Ent) (rg : Nat → Reg) (loc : Nat → Loc) (S : Nat → Prop) (h : Array Obj) : Prop where
  core : Core rg loc S h
  keep : Keep en rg loc S h

theorem RelR_mono {V V' : Vw} {r : Reg} (hl : V.le V') (l : Loc) (hb : owns l r → V'.h[l.blk]? = V.h[l.blk]?) (ha : r.aux = true → V'.h[l.off]? = V.h[l.off]? ∧ (V'.S l.off → V.S l.off)) (hr : RelR V l r) : RelR V' l r := by
  cases r with
  | box cells =>
    obtain ⟨c, e, h1, h2, h3⟩ := hr
    exact ⟨c, e, by rw [hb trivial]; exact h1, RelVs_mono hl _ _ h2, h3⟩
  | arr t xs =>
    rcases hr with ⟨h1, h2⟩ | ⟨h1, c, e, h2, h3, h4, h5⟩
    · exact .inl ⟨h1, h2⟩
    · refine .inr ⟨h1, c, e, by rw [hb h1]; exact h2, h3, h4, fun i x hx => ?_⟩
      obtain ⟨ecs, g1, g2⟩ := h5 i x hx
      exact ⟨ecs, RelD_mono hl.S _ _ _ g1, g2⟩
  | map tk tv es =>
    obtain ⟨ents, clock, h1, h2, h3⟩ := hr
    exact ⟨ents, clock, by rw [hb trivial]; exact h1, RelE_mono hl.S _ _ _ _ h2, h3⟩
  | fwd j => exact hl.mp _ _ hr
  | mit k tk tv es rem cur pend =>
    obtain ⟨ents, clock, seen, h1, h2, h3, h4, h5, h6⟩ := hr
    exact ⟨ents, clock, seen, by rw [hb trivial]; exact h1, RelE_mono hl.S _ _ _ _ h2, h3, by rw [(ha rfl).1]; exact h4, IterAt_mono hl.S h5, fun hs => h6 ((ha rfl).2 hs)⟩
  | _ => trivial

theorem own_lt {rg loc S h} (hc : Core rg loc S h) {k : Nat} (hk : owns (loc k) (rg k)) : (loc k).blk < h.size := by
  have hr := hc.reg k
  cases hq : rg k with
  | box cells =>
    rw [hq] at hr
    obtain ⟨c, e, h1, _⟩ := hr
    exact (Array.getElem?_eq_some_iff.1 h1).1
  | arr t xs =>
    rw [hq] at hr hk
    rcases hr with ⟨h1, _⟩ | ⟨_, c, e, h2, _⟩
    · simp [owns, h1] at hk
    · exact (Array.getElem?_eq_some_iff.1 h2).1
  | map tk tv es =>
    rw [hq] at hr
    obtain ⟨ents, clock, h1, _⟩ := hr
    exact (Array.getElem?_eq_some_iff.1 h1).1
  | mit _ tk tv es _ _ _ =>
    rw [hq] at hr
    obtain ⟨ents, clock, _, h1, _⟩ := hr
    exact (Array.getElem?_eq_some_iff.1 h1).1
  | _ => rw [hq] at hk; exact hk.elim

theorem aux_lt {rg loc S h} (hc : Core rg loc S h) {k : Nat} (hk : (rg k).aux = true) : (loc k).off < h.size := by
  have hr := hc.reg k
  cases hq : rg k with
  | mit _ tk tv es _ _ _ =>
    rw [hq] at hr
    obtain ⟨ents, clock, _, _, _, _, h1, _⟩ := hr
    exact (Array.getElem?_eq_some_iff.1 h1).1
  | _ => rw [hq] at hk; cases hk

/-- Two second blocks are two. -/
theorem aux_inj {rg loc S h} (hc : Core rg loc S h) {i k : Nat} (hi : (rg i).aux = true) (hk : (rg k).aux = true) (e : (loc i).off = (loc k).off) : i = k := by
  have hr := hc.reg i
  have hr2 := hc.reg k
  cases hq : rg i with
  | mit _ tk tv es _ _ _ =>
    cases hp : rg k with
    | mit _ tk' tv' es' _ _ _ =>
      rw [hq] at hr
      rw [hp] at hr2
      obtain ⟨_, _, _, _, _, _, h1, _⟩ := hr
      obtain ⟨_, _, _, _, _, _, h2, _⟩ := hr2
      have h1' : h[(loc i).off]? = _ := h1
      have h2' : h[(loc k).off]? = _ := h2
      rw [e, h2'] at h1'
      simp only [Option.some.injEq, Obj.mapIter.injEq] at h1'
      exact hc.inj i k (by rw [hq]; trivial) (by rw [hp]; trivial) h1'.1.symm
    | _ => rw [hp] at hk; cases hk
  | _ => rw [hq] at hi; cases hi

/-- A second block is nobody's first one. -/
theorem aux_ne {rg loc S h} (hc : Core rg loc S h) {i k : Nat} (hi : (rg i).aux = true) (hk : owns (loc k) (rg k)) : (loc i).off ≠ (loc k).blk := by
  have hr := hc.reg i
  have hr2 := hc.reg k
  intro e
  cases hq : rg i with
  | mit _ tk tv es _ _ _ =>
    rw [hq] at hr
    obtain ⟨ents, clock, _, _, _, _, h1, _⟩ := hr
    have h1' : h[(loc i).off]? = _ := h1
    rw [e] at h1'
    cases hp : rg k with
    | box cells =>
      rw [hp] at hr2
      obtain ⟨c, t, h2, _⟩ := hr2
      have h2' : h[(loc k).blk]? = _ := h2
      rw [h1'] at h2'; cases h2'
    | arr t xs =>
      rw [hp] at hr2 hk
      rcases hr2 with ⟨h2, _⟩ | ⟨_, c, t, h2, _⟩
      · simp [owns, h2] at hk
      · have h2' : h[(loc k).blk]? = _ := h2
        rw [h1'] at h2'; cases h2'
    | map tk tv es =>
      rw [hp] at hr2
      obtain ⟨_, _, h2, _⟩ := hr2
      have h2' : h[(loc k).blk]? = _ := h2
      rw [h1'] at h2'; cases h2'
    | mit _ tk tv es _ _ _ =>
      rw [hp] at hr2
      obtain ⟨_, _, _, h2, _⟩ := hr2
      have h2' : h[(loc k).blk]? = _ := h2
      rw [h1'] at h2'; cases h2'
    | _ => rw [hp] at hk; exact hk.elim
  | _ => rw [hq] at hi; cases hi

/-- One region is written, or handed over to another number. -/
def modR (rg : Nat → Reg) (k j : Nat) (r : Reg) : Nat → Reg := fun i => if i = j then r else if i = k then .dead else rg i
def modL (loc : Nat → Loc) (j : Nat) (l : Loc) : Nat → Loc := fun i => if i = j then l else loc i

theorem view_le_mod {rg loc S h h'} {k j : Nat} {r : Reg} {l : Loc} (hS : ∀ b, S b → h'[b]? = h[b]?) (hj : j = k ∨ rg j = .abs)
    (hsl : j = k → ∀ v, slRel rg loc S h k v → slRel (modR rg k j r) (modL loc j l) S h' k v)
    (hpt : j = k → ∀ o v, ptRel rg loc k o v → ptRel (modR rg k j r) (modL loc j l) k o v)
    (hel : j = k → ∀ i o v, elRel rg loc S h k i o v → elRel (modR rg k j r) (modL loc j l) S h' k i o v)
    (hmp : j = k → ∀ v, mpRel rg loc k v → mpRel (modR rg k j r) (modL loc j l) k v) :
    (view rg loc S h).le (view (modR rg k j r) (modL loc j l) S h') := by
  have hSS : ∀ b, S b → S b ∧ h'[b]? = h[b]? := fun b hb => ⟨hb, hS b hb⟩
  refine ⟨fun i v e => ?_, fun i o v e => ?_, fun i a o v e => ?_, fun i v e => ?_, hSS⟩
  · simp only [view] at e ⊢
    by_cases hij : i = j
    · subst hij
      rcases hj with rfl | hj
      · exact hsl rfl v e
      · simp [slRel, hj] at e
    · by_cases hik : i = k
      · subst hik; simp [slRel, modR, hij]
      · simp only [slRel, modR, hij, hik, if_false, modL] at e ⊢
        cases hq : rg i with
        | frz t xs => rw [hq] at e; exact RelD_mono hSS _ _ _ e
        | _ => rw [hq] at e; exact e
  · simp only [view] at e ⊢
    by_cases hij : i = j
    · subst hij
      rcases hj with rfl | hj
      · exact hpt rfl o v e
      · simp [ptRel, hj] at e
    · by_cases hik : i = k
      · subst hik; simp [ptRel, modR, hij]
      · simpa only [ptRel, modR, hij, hik, if_false, modL] using e
  · simp only [view] at e ⊢
    by_cases hij : i = j
    · subst hij
      rcases hj with rfl | hj
      · exact hel rfl a o v e
      · simp [elRel, hj] at e
    · by_cases hik : i = k
      · subst hik; simp [elRel, modR, hij]
      · simp only [elRel, modR, hij, hik, if_false, modL] at e ⊢
        cases hq : rg i with
        | frz t xs => rw [hq] at e; intro hm; exact ⟨RelD_mono hSS _ _ _ (e hm).1, (e hm).2⟩
        | _ => rw [hq] at e; exact e
  · simp only [view] at e ⊢
    by_cases hij : i = j
    · subst hij
      rcases hj with rfl | hj
      · exact hmp rfl v e
      · simp [mpRel, hj] at e
    · by_cases hik : i = k
      · subst hik; simp [mpRel, modR, hij]
      · simpa only [mpRel, modR, hij, hik, if_false, modL] using e

theorem ctx_mod {en : Ent} {rg loc S h h'} {k j : Nat} {r : Reg} {l : Loc} (hc : Ctx en rg loc S h) (hk : owns (loc k) (rg k)) (hj : j = k ∨ rg j = .abs)
    (hl : owns l r → l.blk = (loc k).blk) (hsz : h'.size = h.size) (hoth : ∀ b, b ≠ (loc k).blk → h'[b]? = h[b]?)
    (hsl : j = k → ∀ v, slRel rg loc S h k v → slRel (modR rg k j r) (modL loc j l) S h' k v)
    (hpt : j = k → ∀ o v, ptRel rg loc k o v → ptRel (modR rg k j r) (modL loc j l) k o v)
    (hel : j = k → ∀ i o v, elRel rg loc S h k i o v → elRel (modR rg k j r) (modL loc j l) S h' k i o v)
    (hmp : j = k → ∀ v, mpRel rg loc k v → mpRel (modR rg k j r) (modL loc j l) k v)
    (hr : (view rg loc S h).le (view (modR rg k j r) (modL loc j l) S h') → RelR (view (modR rg k j r) (modL loc j l) S h') l r)
    (hau : r.aux = true → j = k ∧ (rg k).aux = true ∧ l.off = (loc k).off := by intro h; cases h) :
    Ctx en (modR rg k j r) (modL loc j l) S h' ∧ (view rg loc S h).le (view (modR rg k j r) (modL loc j l) S h') := by
  have hS : ∀ b, S b → h'[b]? = h[b]? := fun b hb => hoth b (fun e => hc.core.nS k hk (e ▸ hb))
  have hle := view_le_mod (l := l) (r := r) hS hj hsl hpt hel hmp
  -- who owns what, now
  have hown : ∀ i, owns (modL loc j l i) (modR rg k j r i) → (i = j ∧ owns l r) ∨ (i ≠ j ∧ i ≠ k ∧ owns (loc i) (rg i)) := by
    intro i hi
    by_cases hij : i = j
    · subst hij; simp only [modL, modR, if_true] at hi; exact .inl ⟨rfl, hi⟩
    · by_cases hik : i = k
      · subst hik; simp [modL, modR, hij, owns] at hi
      · simp only [modL, modR, hij, hik, if_false] at hi; exact .inr ⟨hij, hik, hi⟩
  have hL : ∀ i, i ≠ j → modL loc j l i = loc i := fun i hi => by simp [modL, hi]
  have hLj : modL loc j l j = l := by simp [modL]
  refine ⟨⟨⟨fun i => ?_, fun a b ha hb hab => ?_, fun i hi => ?_, fun b hb => ?_⟩, ⟨?_, fun b hb hn => ?_, hc.keep.sub, hc.keep.src, fun i hi => ?_, hc.keep.apart, hc.keep.bnd, fun i hi => ?_⟩⟩, hle⟩
  · by_cases hij : i = j
    · subst hij; simp only [modL, modR, if_true]; exact hr hle
    · by_cases hik : i = k
      · subst hik; simp [modR, hij, RelR]
      · have := hc.core.reg i
        rw [hL i hij]
        simp only [modR, hij, hik, if_false]
        refine RelR_mono hle (loc i) (fun ho => ?_) (fun ha => ⟨hoth _ (aux_ne hc.core ha hk), fun hs => hs⟩) this
        exact hoth _ (fun e => hik (hc.core.inj i k ho hk e))
  · rcases hown a ha with ⟨rfl, ha'⟩ | ⟨ha1, ha2, ha'⟩ <;> rcases hown b hb with ⟨rfl, hb'⟩ | ⟨hb1, hb2, hb'⟩
    · rfl
    · rw [hLj, hL b hb1, hl ha'] at hab
      exact absurd (hc.core.inj k b hk hb' hab).symm hb2
    · rw [hLj, hL a ha1, hl hb'] at hab
      exact absurd (hc.core.inj a k ha' hk hab) ha2
    · rw [hL a ha1, hL b hb1] at hab
      exact hc.core.inj a b ha' hb' hab
  · rcases hown i hi with ⟨rfl, hi'⟩ | ⟨h1, h2, hi'⟩
    · rw [hLj, hl hi']; exact hc.core.nS k hk
    · rw [hL i h1]; exact hc.core.nS i hi'
  · rw [hsz]; exact hc.core.bS b hb
  · rw [hsz]; exact hc.keep.size
  · rcases hc.keep.mine k hk with hm | hm
    · rw [hoth b (fun e => hn (e ▸ hm))]; exact hc.keep.same b hb hn
    · rw [hoth b (fun e => by subst e; omega)]; exact hc.keep.same b hb hn
  · rcases hown i hi with ⟨rfl, hi'⟩ | ⟨h1, h2, hi'⟩
    · rw [hLj, hl hi']; exact hc.keep.mine k hk
    · rw [hL i h1]; exact hc.keep.mine i hi'
  · by_cases hij : i = j
    · subst hij
      simp only [modR, if_true] at hi
      obtain ⟨g1, g2, g3⟩ := hau hi
      rw [hLj, g3]; exact hc.keep.auxs k g2
    · rw [hL i hij]
      by_cases hik : i = k
      · subst hik; simp [modR, hij, Reg.aux] at hi
      · simp only [modR, hij, hik, if_false] at hi; exact hc.keep.auxs i hi

/-- A region in a block of its own that was just made (or in none). -/
theorem ctx_new {en : Ent} {rg loc S h h'} {j : Nat} {r : Reg} {l : Loc} (hc : Ctx en rg loc S h) (hj : rg j = .abs)
    (hl : owns l r → l.blk = h.size ∧ h.size < h'.size) (hsz : h.size ≤ h'.size) (hoth : ∀ b, b < h.size → h'[b]? = h[b]?)
    (hr : (view rg loc S h).le (view (modR rg j j r) (modL loc j l) S h') → RelR (view (modR rg j j r) (modL loc j l) S h') l r) (hau : r.aux = false := by rfl) :
    Ctx en (modR rg j j r) (modL loc j l) S h' ∧ (view rg loc S h).le (view (modR rg j j r) (modL loc j l) S h') := by
  have hS : ∀ b, S b → h'[b]? = h[b]? := fun b hb => hoth b (hc.core.bS b hb)
  have hle : (view rg loc S h).le (view (modR rg j j r) (modL loc j l) S h') := view_le_mod (l := l) (r := r) hS (.inl rfl)
    (fun _ v e => by simp [slRel, hj] at e) (fun _ o v e => by simp [ptRel, hj] at e) (fun _ i o v e => by simp [elRel, hj] at e) (fun _ v e => by simp [mpRel, hj] at e)
  have hown : ∀ i, owns (modL loc j l i) (modR rg j j r i) → (i = j ∧ owns l r) ∨ (i ≠ j ∧ owns (loc i) (rg i)) := by
    intro i hi
    by_cases hij : i = j
    · subst hij; simp only [modL, modR, if_true] at hi; exact .inl ⟨rfl, hi⟩
    · simp only [modL, modR, hij, if_false] at hi; exact .inr ⟨hij, hi⟩
  have hL : ∀ i, i ≠ j → modL loc j l i = loc i := fun i hi => by simp [modL, hi]
  have hLj : modL loc j l j = l := by simp [modL]
  refine ⟨⟨⟨fun i => ?_, fun a b ha hb hab => ?_, fun i hi => ?_, fun b hb => ?_⟩, ⟨?_, fun b hb hn => ?_, hc.keep.sub, hc.keep.src, fun i hi => ?_, hc.keep.apart, hc.keep.bnd, fun i hi => ?_⟩⟩, hle⟩
  · by_cases hij : i = j
    · subst hij; simp only [modL, modR, if_true]; exact hr hle
    · have := hc.core.reg i
      rw [hL i hij]
      simp only [modR, hij, if_false]
      exact RelR_mono hle (loc i) (fun ho => hoth _ (own_lt hc.core ho)) (fun ha => ⟨hoth _ (aux_lt hc.core ha), fun hs => hs⟩) this
  · rcases hown a ha with ⟨rfl, ha'⟩ | ⟨ha1, ha'⟩ <;> rcases hown b hb with ⟨rfl, hb'⟩ | ⟨hb1, hb'⟩
    · rfl
    · rw [hLj, hL b hb1, (hl ha').1] at hab
      have := own_lt hc.core hb'; omega
    · rw [hLj, hL a ha1, (hl hb').1] at hab
      have := own_lt hc.core ha'; omega
    · rw [hL a ha1, hL b hb1] at hab
      exact hc.core.inj a b ha' hb' hab
  · rcases hown i hi with ⟨rfl, hi'⟩ | ⟨h1, hi'⟩
    · rw [hLj, (hl hi').1]; exact fun hb => absurd (hc.core.bS _ hb) (Nat.lt_irrefl _)
    · rw [hL i h1]; exact hc.core.nS i hi'
  · exact Nat.lt_of_lt_of_le (hc.core.bS b hb) hsz
  · exact Nat.le_trans hc.keep.size hsz
  · rw [hoth b (Nat.lt_of_lt_of_le hb hc.keep.size)]; exact hc.keep.same b hb hn
  · rcases hown i hi with ⟨rfl, hi'⟩ | ⟨h1, hi'⟩
    · rw [hLj, (hl hi').1]; exact .inr hc.keep.size
    · rw [hL i h1]; exact hc.keep.mine i hi'
  · by_cases hij : i = j
    · subst hij; simp only [modR, if_true] at hi; rw [hau] at hi; cases hi
    · rw [hL i hij]; simp only [modR, hij, if_false] at hi; exact hc.keep.auxs i hi

theorem modR_self (rg : Nat → Reg) (k : Nat) (r : Reg) : modR rg k k r = fun i => if i = k then r else rg i := by
  funext i; simp only [modR]; split <;> rfl

/-- A region is given up. -/
theorem ctx_kill {en : Ent} {rg loc S h} {k : Nat} (hc : Ctx en rg loc S h) :
    Ctx en (fun i => if i = k then .dead else rg i) loc S h ∧ (view rg loc S h).le (view (fun i => if i = k then .dead else rg i) loc S h) := by
  have hle : (view rg loc S h).le (view (fun i => if i = k then .dead else rg i) loc S h) := by
    refine ⟨fun i v e => ?_, fun i o v e => ?_, fun i a o v e => ?_, fun i v e => ?_, fun b hb => ⟨hb, rfl⟩⟩ <;> simp only [view] at e ⊢ <;> by_cases hik : i = k
    · subst hik; simp [slRel]
    · simpa only [slRel, hik, if_false] using e
    · subst hik; simp [ptRel]
    · simpa only [ptRel, hik, if_false] using e
    · subst hik; simp [elRel]
    · simpa only [elRel, hik, if_false] using e
    · subst hik; simp [mpRel]
    · simpa only [mpRel, hik, if_false] using e
  have hown : ∀ i, owns (loc i) (if i = k then .dead else rg i) → owns (loc i) (rg i) := by
    intro i hi
    by_cases hik : i = k
    · subst hik; simp [owns] at hi
    · simpa only [hik, if_false] using hi
  refine ⟨⟨⟨fun i => ?_, fun a b ha hb hab => hc.core.inj a b (hown a ha) (hown b hb) hab, fun i hi => hc.core.nS i (hown i hi), hc.core.bS⟩,
    ⟨hc.keep.size, hc.keep.same, hc.keep.sub, hc.keep.src, fun i hi => hc.keep.mine i (hown i hi), hc.keep.apart, hc.keep.bnd, fun i hi => hc.keep.auxs i (by by_cases hik : i = k <;> simp [hik, Reg.aux] at hi ⊢ <;> exact hi)⟩⟩, hle⟩
  by_cases hik : i = k
  · subst hik; simp [RelR]
  · simp only [hik, if_false]
    exact RelR_mono hle (loc i) (fun _ => rfl) (fun _ => ⟨rfl, fun hs => hs⟩) (hc.core.reg i)

/-- A region that nobody writes any more. -/
theorem ctx_freeze {en : Ent} {rg loc S h} {k : Nat} {t : Tc} {xs : List t.den} (hc : Ctx en rg loc S h) (hk : rg k = .arr t xs) :
    ∃ S', Ctx en (fun i => if i = k then .frz t xs else rg i) loc S' h ∧ (view rg loc S h).le (view (fun i => if i = k then .frz t xs else rg i) loc S' h) ∧
      ∀ v, v = hdl (loc k) xs.length → RelD S' h (.slice t) xs [v] := by
  refine ⟨fun b => S b ∨ ((loc k).nil = false ∧ b = (loc k).blk), ?_⟩
  have hreg := hc.core.reg k
  rw [hk] at hreg
  have hS : ∀ b, S b → (S b ∨ ((loc k).nil = false ∧ b = (loc k).blk)) ∧ h[b]? = h[b]? := fun b hb => ⟨.inl hb, rfl⟩
  have hD : ∀ v, v = hdl (loc k) xs.length → RelD (fun b => S b ∨ ((loc k).nil = false ∧ b = (loc k).blk)) h (.slice t) xs [v] := by
    rintro v rfl
    rcases hreg with ⟨h1, h2⟩ | ⟨h1, c, e, h2, h3, h4, h5⟩
    · subst h2
      exact ⟨(loc k).base, 0, by simp [hdl, h1], by simp, fun i x hx => by simp at hx⟩
    · refine ⟨some ⟨(loc k).blk, (loc k).off, none⟩, (loc k).cap, by simp [hdl, h1], h3, fun i x hx => ?_⟩
      obtain ⟨ecs, g1, g2⟩ := h5 i x hx
      refine ⟨_, rfl, rfl, .inr ⟨h1, rfl⟩, ecs, RelD_mono hS _ _ _ g1, fun j u hu => ?_⟩
      have h2' : h[(loc k).blk]? = some (.cells c e (0, 0)) := h2
      simp only [cellAt, h2']
      exact g2 j u hu
  have hle : (view rg loc S h).le (view (fun i => if i = k then .frz t xs else rg i) loc (fun b => S b ∨ ((loc k).nil = false ∧ b = (loc k).blk)) h) := by
    refine ⟨fun i v e => ?_, fun i o v e => ?_, fun i a o v e => ?_, fun i v e => ?_, hS⟩ <;> simp only [view] at e ⊢ <;> by_cases hik : i = k
    · subst hik; simp only [slRel, if_true]; simp only [slRel, hk] at e; exact hD v e
    · simp only [slRel, hik, if_false] at e ⊢
      cases hq : rg i with
      | frz t xs => rw [hq] at e; exact RelD_mono hS _ _ _ e
      | _ => rw [hq] at e; exact e
    · subst hik; simp [ptRel]
    · simpa only [ptRel, hik, if_false] using e
    · subst hik; simp only [elRel, hk] at e; simp only [elRel, if_true]; exact fun hm => absurd hm e.1
    · simp only [elRel, hik, if_false] at e ⊢
      cases hq : rg i with
      | frz t xs => rw [hq] at e; intro hm; exact ⟨RelD_mono hS _ _ _ (e hm).1, (e hm).2⟩
      | _ => rw [hq] at e; exact e
    · subst hik; simp [mpRel]
    · simpa only [mpRel, hik, if_false] using e
  have hown : ∀ i, owns (loc i) (if i = k then .frz t xs else rg i) → i ≠ k ∧ owns (loc i) (rg i) := by
    intro i hi
    by_cases hik : i = k
    · subst hik; simp [owns] at hi
    · exact ⟨hik, by simpa only [hik, if_false] using hi⟩
  have hko : (loc k).nil = false → owns (loc k) (rg k) := fun hn => by rw [hk]; exact hn
  refine ⟨⟨⟨fun i => ?_, fun a b ha hb hab => hc.core.inj a b (hown a ha).2 (hown b hb).2 hab, fun i hi => ?_, fun b hb => ?_⟩,
    ⟨hc.keep.size, hc.keep.same, fun b hb => .inl (hc.keep.sub b hb), fun b hb => ?_, fun i hi => hc.keep.mine i (hown i hi).2, hc.keep.apart, hc.keep.bnd, fun i hi => hc.keep.auxs i (by by_cases hik : i = k <;> simp [hik, Reg.aux] at hi ⊢ <;> exact hi)⟩⟩, hle, hD⟩
  · by_cases hik : i = k
    · subst hik; simp [RelR]
    · simp only [hik, if_false]
      exact RelR_mono hle (loc i) (fun _ => rfl) (fun ha => ⟨rfl, fun hs => hs.elim id fun ⟨hn, e⟩ => absurd e (aux_ne hc.core ha (by rw [hk]; exact hn))⟩) (hc.core.reg i)
  · rintro (hb | ⟨hn, hb⟩)
    · exact hc.core.nS i (hown i hi).2 hb
    · exact (hown i hi).1 (hc.core.inj i k (hown i hi).2 (hko hn) hb)
  · rcases hb with hb | ⟨hn, hb⟩
    · exact hc.core.bS b hb
    · subst hb; exact own_lt hc.core (hko hn)
  · rcases hb with hb | ⟨hn, hb⟩
    · exact hc.keep.src b hb
    · subst hb
      rcases hc.keep.mine k (hko hn) with h | h
      · exact .inr (.inl h)
      · exact .inr (.inr h)

/-- What a region has is handed over to another one, which stands for it from now on. -/
def movR (rg : Nat → Reg) (a b : Nat) (ra r : Reg) : Nat → Reg := fun i => if i = b then r else if i = a then ra else rg i

theorem view_le_move {rg loc S h h'} {a b : Nat} {ra r : Reg} {l : Loc} (hS : ∀ x, S x → h'[x]? = h[x]?)
    (hsl : ∀ i, i = a ∨ i = b → ∀ v, slRel rg loc S h i v → slRel (movR rg a b ra r) (modL loc b l) S h' i v)
    (hpt : ∀ i, i = a ∨ i = b → ∀ o v, ptRel rg loc i o v → ptRel (movR rg a b ra r) (modL loc b l) i o v)
    (hel : ∀ i, i = a ∨ i = b → ∀ j o v, elRel rg loc S h i j o v → elRel (movR rg a b ra r) (modL loc b l) S h' i j o v)
    (hmp : ∀ i, i = a ∨ i = b → ∀ v, mpRel rg loc i v → mpRel (movR rg a b ra r) (modL loc b l) i v) :
    (view rg loc S h).le (view (movR rg a b ra r) (modL loc b l) S h') := by
  have hSS : ∀ x, S x → S x ∧ h'[x]? = h[x]? := fun x hx => ⟨hx, hS x hx⟩
  have hr : ∀ i, i ≠ a → i ≠ b → movR rg a b ra r i = rg i := fun i h1 h2 => by simp [movR, h1, h2]
  have hL : ∀ i, i ≠ b → modL loc b l i = loc i := fun i h2 => by simp [modL, h2]
  refine ⟨fun i v e => ?_, fun i o v e => ?_, fun i j o v e => ?_, fun i v e => ?_, hSS⟩ <;> simp only [view] at e ⊢ <;> by_cases h1 : i = a
  · exact hsl i (.inl h1) v e
  · by_cases h2 : i = b
    · exact hsl i (.inr h2) v e
    · simp only [slRel, hr i h1 h2, hL i h2] at e ⊢
      cases hq : rg i with
      | frz t xs => rw [hq] at e; exact RelD_mono hSS _ _ _ e
      | _ => rw [hq] at e; exact e
  · exact hpt i (.inl h1) o v e
  · by_cases h2 : i = b
    · exact hpt i (.inr h2) o v e
    · simpa only [ptRel, hr i h1 h2, hL i h2] using e
  · exact hel i (.inl h1) j o v e
  · by_cases h2 : i = b
    · exact hel i (.inr h2) j o v e
    · simp only [elRel, hr i h1 h2, hL i h2] at e ⊢
      cases hq : rg i with
      | frz t xs => rw [hq] at e; intro hm; exact ⟨RelD_mono hSS _ _ _ (e hm).1, (e hm).2⟩
      | _ => rw [hq] at e; exact e
  · exact hmp i (.inl h1) v e
  · by_cases h2 : i = b
    · exact hmp i (.inr h2) v e
    · simpa only [mpRel, hr i h1 h2, hL i h2] using e

theorem ctx_hand {en : Ent} {rg loc S h h'} {a b : Nat} {ra r : Reg} {l : Loc} (hc : Ctx en rg loc S h) (hab : a ≠ b) (hk : owns (loc a) (rg a)) (hb : ¬ owns (loc b) (rg b)) (hra : ¬ owns (loc a) ra)
    (hl : l.blk = (loc a).blk) (hau : ra.aux = false) (hau2 : r.aux = true → en.h.size ≤ l.off) (hsz : h.size ≤ h'.size) (hoth : ∀ x, x < h.size → x ≠ (loc a).blk → h'[x]? = h[x]?)
    (hle : (view rg loc S h).le (view (movR rg a b ra r) (modL loc b l) S h'))
    (hRa : RelR (view (movR rg a b ra r) (modL loc b l) S h') (loc a) ra) (hRb : RelR (view (movR rg a b ra r) (modL loc b l) S h') l r) :
    Ctx en (movR rg a b ra r) (modL loc b l) S h' := by
  have hown : ∀ i, owns (modL loc b l i) (movR rg a b ra r i) → (i = b) ∨ (i ≠ b ∧ i ≠ a ∧ owns (loc i) (rg i)) := by
    intro i hi
    by_cases hij : i = b
    · exact .inl hij
    · by_cases hik : i = a
      · subst hik; simp only [modL, movR, hij, if_false, if_true] at hi; exact absurd hi hra
      · simp only [modL, movR, hij, hik, if_false] at hi; exact .inr ⟨hij, hik, hi⟩
  have hL : ∀ i, i ≠ b → modL loc b l i = loc i := fun i hi => by simp [modL, hi]
  have hLb : modL loc b l b = l := by simp [modL]
  have hlt := own_lt hc.core hk
  refine ⟨⟨fun i => ?_, fun x y hx hy hxy => ?_, fun i hi => ?_, fun x hx => Nat.lt_of_lt_of_le (hc.core.bS x hx) hsz⟩, ⟨Nat.le_trans hc.keep.size hsz, fun x hx hn => ?_, hc.keep.sub, hc.keep.src, fun i hi => ?_, hc.keep.apart, hc.keep.bnd, fun i hi => ?_⟩⟩
  · by_cases hij : i = b
    · subst hij; rw [hLb]; simpa only [movR, if_true] using hRb
    · rw [hL i hij]
      by_cases hik : i = a
      · subst hik; simpa only [movR, hij, if_false, if_true] using hRa
      · have := hc.core.reg i
        simp only [movR, hij, hik, if_false]
        refine RelR_mono hle (loc i) (fun ho => ?_) (fun ha => ⟨hoth _ (aux_lt hc.core ha) (aux_ne hc.core ha hk), fun hs => hs⟩) this
        exact hoth _ (own_lt hc.core ho) (fun e => hik (hc.core.inj i a ho hk e))
  · rcases hown x hx with rfl | ⟨h1, h2, hx'⟩ <;> rcases hown y hy with rfl | ⟨g1, g2, hy'⟩
    · rfl
    · rw [hLb, hL y g1, hl] at hxy
      exact absurd (hc.core.inj a y hk hy' hxy).symm g2
    · rw [hLb, hL x h1, hl] at hxy
      exact absurd (hc.core.inj x a hx' hk hxy) h2
    · rw [hL x h1, hL y g1] at hxy
      exact hc.core.inj x y hx' hy' hxy
  · rcases hown i hi with rfl | ⟨h1, h2, hi'⟩
    · rw [hLb, hl]; exact hc.core.nS a hk
    · rw [hL i h1]; exact hc.core.nS i hi'
  · rcases hc.keep.mine a hk with hm | hm
    · rw [hoth x (Nat.lt_of_lt_of_le hx hc.keep.size) (fun e => hn (e ▸ hm))]; exact hc.keep.same x hx hn
    · rw [hoth x (Nat.lt_of_lt_of_le hx hc.keep.size) (fun e => by subst e; omega)]; exact hc.keep.same x hx hn
  · rcases hown i hi with rfl | ⟨h1, h2, hi'⟩
    · rw [hLb, hl]; exact hc.keep.mine a hk
    · rw [hL i h1]; exact hc.keep.mine i hi'
  · by_cases hij : i = b
    · subst hij; simp only [movR, if_true] at hi; rw [hLb]; exact hau2 hi
    · rw [hL i hij]
      by_cases hik : i = a
      · subst hik; simp only [movR, hij, if_false, if_true] at hi; rw [hau] at hi; cases hi
      · simp only [movR, hij, hik, if_false] at hi; exact hc.keep.auxs i hi

/-- The second block of a region is written. -/
theorem ctx_aux {en : Ent} {rg loc S h h'} {q : Nat} {r : Reg} (hc : Ctx en rg loc S h) (hq : (rg q).aux = true) (hr : r.aux = true) (hsz : h'.size = h.size) (hoth : ∀ b, b ≠ (loc q).off → h'[b]? = h[b]?)
    (hpt : ∀ o v, ptRel rg loc q o v → ptRel (fun i => if i = q then r else rg i) loc q o v) (hmp : ∀ v, mpRel rg loc q v → mpRel (fun i => if i = q then r else rg i) loc q v)
    (hR : (view rg loc S h).le (view (fun i => if i = q then r else rg i) loc S h') → RelR (view (fun i => if i = q then r else rg i) loc S h') (loc q) r) :
    Ctx en (fun i => if i = q then r else rg i) loc S h' ∧ (view rg loc S h).le (view (fun i => if i = q then r else rg i) loc S h') := by
  have hnS : ¬ S (loc q).off := by
    have hreg := hc.core.reg q
    cases hp : rg q with
    | mit _ tk tv es _ _ _ => rw [hp] at hreg; obtain ⟨_, _, _, _, _, _, _, _, h6⟩ := hreg; exact h6
    | _ => rw [hp] at hq; cases hq
  have hS : ∀ b, S b → S b ∧ h'[b]? = h[b]? := fun b hb => ⟨hb, hoth b (fun e => hnS (e ▸ hb))⟩
  have hle : (view rg loc S h).le (view (fun i => if i = q then r else rg i) loc S h') := by
    refine ⟨fun i v e => ?_, fun i o v e => ?_, fun i j o v e => ?_, fun i v e => ?_, hS⟩ <;> simp only [view] at e ⊢ <;> by_cases hiq : i = q
    · subst hiq; simp only [slRel, if_true]; cases r <;> simp [Reg.aux] at hr; trivial
    · simp only [slRel, hiq, if_false] at e ⊢
      cases hp : rg i with
      | frz t xs => rw [hp] at e; exact RelD_mono hS _ _ _ e
      | _ => rw [hp] at e; exact e
    · subst hiq; exact hpt o v e
    · simpa only [ptRel, hiq, if_false] using e
    · subst hiq; simp only [elRel, if_true]; cases r <;> simp [Reg.aux] at hr; trivial
    · simp only [elRel, hiq, if_false] at e ⊢
      cases hp : rg i with
      | frz t xs => rw [hp] at e; intro hm; exact ⟨RelD_mono hS _ _ _ (e hm).1, (e hm).2⟩
      | _ => rw [hp] at e; exact e
    · subst hiq; exact hmp v e
    · simpa only [mpRel, hiq, if_false] using e
  have ho : owns (loc q) (rg q) := by
    cases hp : rg q with
    | mit _ tk tv es _ _ _ => trivial
    | _ => rw [hp] at hq; cases hq
  have hown : ∀ i, owns (loc i) (if i = q then r else rg i) → owns (loc i) (rg i) := by
    intro i hi
    by_cases hiq : i = q
    · subst hiq; exact ho
    · simpa only [hiq, if_false] using hi
  refine ⟨⟨⟨fun i => ?_, fun a b ha hb hab => hc.core.inj a b (hown a ha) (hown b hb) hab, fun i hi => hc.core.nS i (hown i hi), fun b hb => by rw [hsz]; exact hc.core.bS b hb⟩,
    ⟨by rw [hsz]; exact hc.keep.size, fun b hb hn => by rw [hoth b (fun e => by subst e; have := hc.keep.auxs q hq; omega)]; exact hc.keep.same b hb hn, hc.keep.sub, hc.keep.src, fun i hi => hc.keep.mine i (hown i hi), hc.keep.apart, hc.keep.bnd, fun i hi => hc.keep.auxs i (by by_cases hiq : i = q <;> simp [hiq] at hi ⊢ <;> first | exact hq | exact hi)⟩⟩, hle⟩
  by_cases hiq : i = q
  · subst hiq; simpa using hR hle
  · simp only [hiq, if_false]
    exact RelR_mono hle (loc i) (fun h => hoth _ (fun e => aux_ne hc.core hq h e.symm)) (fun ha => ⟨hoth _ (fun e => hiq (aux_inj hc.core ha hq e)), fun hs => hs⟩) (hc.core.reg i)

end Go.Ev

set_option linter.unusedSimpArgs false
set_option linter.unusedVariables false
namespace Go.Ev
open Go

/-! ### memory -/
theorem cell_at (w : World) (b o : Nat) : w.cell? ⟨b, o, none⟩ = cellAt w.heap b o := by
  unfold World.cell? cellAt
  cases h : w.heap[b]? with
  | none => rfl
  | some o => cases o <;> rfl

theorem cell_ad (w : World) (ad : Addr) (h : ad.spot = none) (j : Nat) : w.cell? (ad.add j) = cellAt w.heap ad.block (ad.off + j) := by
  obtain ⟨b, o, s⟩ := ad
  simp only at h; subst h
  rw [Addr.add_mid, cell_at]

def putL (c : Array Value) : Nat → List Value → Array Value
  | _, [] => c
  | o, v :: vs => putL (c.setIfInBounds o v) (o + 1) vs

theorem putL_size : ∀ (vs : List Value) (c : Array Value) (o : Nat), (putL c o vs).size = c.size
  | [], _, _ => rfl
  | v :: vs, c, o => by simp [putL, putL_size vs]

theorem putL_get : ∀ (vs : List Value) (c : Array Value) (o i : Nat), o + vs.length ≤ c.size →
    (putL c o vs)[i]? = if o ≤ i ∧ i < o + vs.length then vs[i - o]? else c[i]?
  | [], c, o, i, _ => by
    have : ¬ (o ≤ i ∧ i < o + ([] : List Value).length) := by simp only [List.length_nil]; omega
    rw [if_neg this]; rfl
  | v :: vs, c, o, i, h => by
    simp only [putL]
    rw [putL_get vs _ (o + 1) i (by simp at h ⊢; omega)]
    simp only [List.length_cons] at h ⊢
    by_cases h1 : i = o
    · subst h1
      rw [if_neg (by omega), if_pos (by omega)]
      simp
      try rw [Array.getElem?_setIfInBounds_self_of_lt (by omega)]
    · rw [Array.getElem?_setIfInBounds_ne (by omega)]
      by_cases h2 : o + 1 ≤ i ∧ i < o + 1 + vs.length
      · rw [if_pos h2, if_pos (by omega)]
        obtain ⟨m, rfl⟩ : ∃ m, i = o + (m + 1) := ⟨i - o - 1, by omega⟩
        simp [show o + (m + 1) - o = m + 1 by omega, show o + (m + 1) - (o + 1) = m by omega]
      · rw [if_neg h2, if_neg (by omega)]

theorem setCells_heap (b : Nat) : ∀ (vs : List Value) (o : Nat) (w : World) (c : Array Value) (e : TypeId) (fz : Nat × Nat), w.heap[b]? = some (.cells c e fz) →
    (w.setCells b o vs).heap.size = w.heap.size ∧ (∀ i, i ≠ b → (w.setCells b o vs).heap[i]? = w.heap[i]?) ∧ (w.setCells b o vs).heap[b]? = some (.cells (putL c o vs) e fz)
  | [], _, _, _, _, _, h => ⟨rfl, fun _ _ => rfl, h⟩
  | v :: vs, o, w, c, e, fz, h => by
    have h1 : (w.setCell ⟨b, o, none⟩ v).heap[b]? = some (.cells (c.setIfInBounds o v) e fz) := by
      simp [World.setCell, Array.getElem?_modify, h]
    obtain ⟨g1, g2, g3⟩ := setCells_heap b vs (o + 1) (w.setCell ⟨b, o, none⟩ v) _ e fz h1
    simp only [World.setCells]
    refine ⟨by rw [g1]; simp [World.setCell], fun i hi => ?_, g3⟩
    rw [g2 i hi]
    simp [World.setCell, Array.getElem?_modify, Ne.symm hi]

/-! ### values of one cell -/
theorem RelD_one {S : Nat → Prop} {h : Array Obj} : ∀ (t : Tc) (x : t.den) (cs : List Value), RelD S h t x cs → ∀ v ∈ cs, v.oneCell' = true
  | .int _, _, _, e => by cases e; intro v hv; simp at hv; subst hv; rfl
  | .bool, _, _, e => by cases e; intro v hv; simp at hv; subst hv; rfl
  | .str, _, _, e => by cases e; intro v hv; simp at hv; subst hv; rfl
  | .slice _, _, _, ⟨_, _, e, _⟩ => by cases e; intro v hv; simp at hv; subst hv; rfl
  | .pair a b, x, _, ⟨c1, c2, e, h1, h2⟩ => by
    subst e; intro v hv
    rcases List.mem_append.1 hv with hv | hv
    · exact RelD_one a _ _ h1 v hv
    · exact RelD_one b _ _ h2 v hv
  | .st t, x, cs, e => RelD_one t x cs e

/-- A value that is one cell. -/
def FV.leaf : FV → Bool
  | .undef => false
  | .skp => false
  | .agg _ => false
  | .tup _ => false
  | .dat (.st _) _ => false
  | .dat (.pair _ _) _ => false
  | .slc _ => false
  | _ => true

/-! ### the types' table -/
def Tc.top : Tc → Bool
  | .pair _ _ => false
  | _ => true

def veq : Value → Value → Bool
  | .int k n, .int k' n' => decide (k = k') && n == n'
  | .bool a, .bool b => a == b
  | .string a, .string b => a.data.toList == b.data.toList
  | .pointer none, .pointer none => true
  | .map none, .map none => true
  | .nilFunc, .nilFunc => true
  | .nilIface, .nilIface => true
  | .slice none 0 0, .slice none 0 0 => true
  | _, _ => false

theorem veq_eq {a b : Value} (h : veq a b = true) : a = b := by
  unfold veq at h
  split at h
  · simp at h; rw [h.1, h.2]
  · simp at h; rw [h]
  · simp at h
    rename_i a b
    cases a; cases b
    simp at h; rw [h]
  all_goals first | rfl | simp at h

def vseq : List Value → List Value → Bool
  | [], [] => true
  | a :: l, b :: m => veq a b && vseq l m
  | _, _ => false

theorem vseq_eq : ∀ {l m : List Value}, vseq l m = true → l = m
  | [], [], _ => rfl
  | [], _ :: _, h => by simp [vseq] at h
  | _ :: _, [], h => by simp [vseq] at h
  | a :: l, b :: m, h => by
    simp [vseq] at h
    rw [veq_eq h.1, vseq_eq h.2]

def dz : Tc → List Value
  | .int k => [.int k 0]
  | .bool => [.bool false]
  | .str => [.string ⟨#[]⟩]
  | .slice _ => [.slice none 0 0]
  | .pair a b => dz a ++ dz b
  | .st t => dz t

theorem dz_rel (S : Nat → Prop) (h : Array Obj) : ∀ t : Tc, RelD S h t t.dflt (dz t)
  | .int _ => rfl
  | .bool => rfl
  | .str => rfl
  | .slice _ => ⟨none, 0, rfl, by simp [Tc.dflt], fun i x hx => by simp [Tc.dflt] at hx⟩
  | .pair a b => ⟨dz a, dz b, rfl, dz_rel S h a, dz_rel S h b⟩
  | .st t => dz_rel S h t

def fvz : FV → Option Value
  | .dat (.int k) n => some (.int k n)
  | .dat .bool b => some (.bool b)
  | .dat .str s => some (.string ⟨s.toArray⟩)
  | .nil0 => some (.slice none 0 0)
  | .nilp => some (.pointer none)
  | .nilm => some (.map none)
  | .nilf => some .nilFunc
  | .nili => some .nilIface
  | _ => none

theorem fvz_rel (V : Vw) {v : FV} {u : Value} (h : fvz v = some u) : RelV V v u := by
  unfold fvz at h
  split at h <;> simp at h <;> subst h <;> simp [RelV, RelVal, RelD]

def fvzs : List FV → Option (List Value)
  | [] => some []
  | v :: l => (fvz v).bind fun u => (fvzs l).bind fun us => some (u :: us)

theorem fvzs_rel (V : Vw) : ∀ {l : List FV} {us : List Value}, fvzs l = some us → RelVs V l us
  | [], us, h => by simp [fvzs] at h; subst h; rfl
  | v :: l, us, h => by
    simp only [fvzs, Option.bind_eq_some_iff] at h
    obtain ⟨u, h1, us', h2, h3⟩ := h
    simp at h3
    exact ⟨u, us', h3.symm, fvz_rel V h1, fvzs_rel V h2⟩

def eqFs (P : Program) (rc : TypeId → Tc → Bool) : List Field → Nat → Tc → Bool
  | [], _, _ => false
  | f :: fs, off, c => match fs with
    | [] => f.name != "_" && f.offset == off && ((P.info? f.type).map (·.size)) == some c.size && c.top && rc f.type c
    | _ :: _ => match c with
      | .pair a b => f.name != "_" && f.offset == off && ((P.info? f.type).map (·.size)) == some a.size && a.top && rc f.type a && eqFs P rc fs (off + a.size) b
      | _ => false

/-- A type whose values are compared part by part. -/
def eqOk (P : Program) : Nat → TypeId → Tc → Bool
  | 0, _, _ => false
  | n + 1, t, tc => match P.underlying t, tc with
    | some (.int _), .int _ => true
    | some .bool, .bool => true
    | some .string, .str => true
    | some (.struct fs), .st c => !P.stoodInHeld t && eqFs P (eqOk P n) fs.toList 0 c
    | _, _ => false

def zokB (z : Value) (tc : Tc) : Bool := match z with
  | .agg _ => tc.isSt
  | _ => !tc.isSt

structure OkTI (P : Program) (t : TypeId) (ti : TI) : Prop where
  info : ∃ i, P.info? t = some i ∧ i.size = ti.size ∧ i.bytes = ti.bytes ∧ ∃ z, i.zero = some z ∧ fvzs ti.zeros = some z.cells.toList ∧ z.cells.size = ti.size ∧
    (∀ tc, ti.tc = some tc → dz tc = z.cells.toList)
  und : ∃ d, P.underlying t = some d ∧ d.isRow = ti.agg ∧ (∀ e, ti.elem = some e → d = .slice e) ∧
    (∀ (i o ft : Nat), ti.flds[i]? = some (o, ft) → ∃ (fs : Array Field) (f : Field), d = .struct fs ∧ fs[i]? = some f ∧ f.offset = o ∧ f.type = ft) ∧
    (∀ k, ti.tc = some (.int k) → d = .int k) ∧ (ti.tc = some .str → d = .string) ∧
    (ti.flds ≠ [] → ∃ fs : Array Field, d = .struct fs ∧ fs.size = ti.flds.length ∧ ∀ f ∈ fs.toList, (P.info? f.type).isSome = true)
  pos : 0 < ti.size
  bpos : 0 < ti.bytes
  tcs : ∀ tc, ti.tc = some tc → tc.size = ti.size ∧ tc.isSt = ti.agg ∧ tc.top = true
  eqs : ∀ tc, ti.tc = some tc → ti.eq = true → eqOk P 50 t tc = true ∧ P.eqGuardType P.depth t = false
  ptr : ∀ e, ti.pe = some e → P.underlying t = some (.pointer e) ∧ ∃ i, P.info? e = some i ∧ i.size ≠ 0
  zok : ∀ i z tc, P.info? t = some i → i.zero = some z → ti.tc = some tc → zokB z tc = true
  mps : ∀ k e, ti.mpt = some (k, e) → P.underlying t = some (.map k e)
  ifcs : ti.ifc = true → ∃ ms, P.underlying t = some (.interface ms)

def fldsOk (fs : Array Field) : Nat → List (Nat × TypeId) → Bool
  | _, [] => true
  | i, (o, ft) :: l => (match fs[i]? with
    | some f => f.offset == o && f.type == ft
    | none => false) && fldsOk fs (i + 1) l

theorem fldsOk_spec {fs : Array Field} : ∀ (l : List (Nat × TypeId)) (n : Nat), fldsOk fs n l = true → ∀ i o ft, l[i]? = some (o, ft) → ∃ f, fs[n + i]? = some f ∧ f.offset = o ∧ f.type = ft
  | [], _, _, i, o, ft, h => by simp at h
  | (o', ft') :: l, n, hok, i, o, ft, h => by
    simp only [fldsOk, Bool.and_eq_true] at hok
    cases i with
    | zero =>
      simp at h
      obtain ⟨rfl, rfl⟩ := h
      cases hf : fs[n]? with
      | none => rw [hf] at hok; simp at hok
      | some f => rw [hf] at hok; simp at hok; exact ⟨f, by simp [hf], hok.1⟩
    | succ i =>
      simp at h
      have := fldsOk_spec l (n + 1) hok.2 i o ft h
      rwa [show n + 1 + i = n + (i + 1) by omega] at this

def okTI (P : Program) (t : TypeId) (ti : TI) : Bool :=
  (match P.info? t with
    | some i => i.size == ti.size && i.bytes == ti.bytes && (match i.zero with
      | some z => (match fvzs ti.zeros with | some us => vseq us z.cells.toList | none => false) && z.cells.size == ti.size && (match ti.tc with | some tc => vseq (dz tc) z.cells.toList | none => true)
      | none => false)
    | none => false) &&
  (match P.underlying t with
    | some d => d.isRow == ti.agg && (match ti.elem with | some e => (match d with | .slice e' => e' == e | _ => false) | none => true) &&
      (match ti.flds with | [] => true | l => (match d with | .struct fs => fldsOk fs 0 l && fs.size == l.length && fs.toList.all (fun f => (P.info? f.type).isSome) | _ => false)) &&
      (match ti.tc with | some (.int k) => (match d with | .int k' => decide (k' = k) | _ => false) | some .str => (match d with | .string => true | _ => false) | _ => true)
    | none => false) &&
  decide (0 < ti.size) && decide (0 < ti.bytes) && (match ti.tc with | some tc => tc.size == ti.size && tc.isSt == ti.agg && tc.top && (!ti.eq || (eqOk P 50 t tc && !P.eqGuardType P.depth t)) | none => true) &&
  (match ti.pe with | some e => (match P.underlying t with | some (.pointer e') => decide (e' = e) | _ => false) && (match P.info? e with | some i => decide (i.size ≠ 0) | none => false) | none => true) &&
  (match P.info? t with | some i => (match i.zero with | some z => (match ti.tc with | some tc => zokB z tc | none => true) | none => true) | none => true) &&
  (match ti.mpt with | some p => (match P.underlying t with | some (.map k e) => decide (k = p.1) && decide (e = p.2) | _ => false) | none => true) &&
  (!ti.ifc || (match P.underlying t with | some (.interface _) => true | _ => false))

theorem okTI_spec {P : Program} {t : TypeId} {ti : TI} (h : okTI P t ti = true) : OkTI P t ti := by
  simp only [okTI, Bool.and_eq_true, decide_eq_true_eq] at h
  obtain ⟨⟨⟨⟨⟨⟨⟨⟨h1, h2⟩, h3⟩, h3b⟩, h4⟩, h5⟩, h6⟩, h7⟩, h8⟩ := h
  have hifc : ti.ifc = true → ∃ ms, P.underlying t = some (.interface ms) := by
    intro he
    rw [he] at h8
    simp only [Bool.not_true, Bool.false_or] at h8
    split at h8
    · rename_i ms hu; exact ⟨ms, hu⟩
    · cases h8
  have hzok : ∀ i z tc, P.info? t = some i → i.zero = some z → ti.tc = some tc → zokB z tc = true := by
    intro i z tc hi hz ht
    rw [hi] at h6
    simp only [hz, ht] at h6
    exact h6
  have hmps : ∀ k e, ti.mpt = some (k, e) → P.underlying t = some (.map k e) := by
    intro k e he
    rw [he] at h7
    simp only at h7
    split at h7
    · rename_i k' e' hu
      simp only [Bool.and_eq_true, decide_eq_true_eq] at h7
      rw [hu, h7.1, h7.2]
    · cases h7
  have hptr : ∀ e, ti.pe = some e → P.underlying t = some (.pointer e) ∧ ∃ i, P.info? e = some i ∧ i.size ≠ 0 := by
    intro e he
    rw [he] at h5
    simp only [Bool.and_eq_true] at h5
    obtain ⟨q1, q2⟩ := h5
    constructor
    · split at q1
      · rename_i e' hu
        have := of_decide_eq_true q1
        subst this; exact hu
      · cases q1
    · split at q2
      · rename_i i hi; exact ⟨i, hi, of_decide_eq_true q2⟩
      · cases q2
  refine ⟨?_, ?_, h3, h3b, ?_, ?_, hptr, hzok, hmps, hifc⟩
  · cases hi : P.info? t with
    | none => rw [hi] at h1; simp at h1
    | some i =>
      rw [hi] at h1
      simp only [Bool.and_eq_true, beq_iff_eq] at h1
      obtain ⟨⟨a1, a2⟩, a3⟩ := h1
      refine ⟨i, rfl, a1, a2, ?_⟩
      cases hz : i.zero with
      | none => rw [hz] at a3; simp at a3
      | some z =>
        rw [hz] at a3
        simp only [Bool.and_eq_true, beq_iff_eq] at a3
        obtain ⟨⟨b1, b2⟩, b3⟩ := a3
        refine ⟨z, rfl, ?_, b2, fun tc htc => ?_⟩
        · cases hf : fvzs ti.zeros with
          | none => rw [hf] at b1; simp at b1
          | some us => rw [hf] at b1; rw [vseq_eq b1]
        · rw [htc] at b3; exact vseq_eq b3
  · cases hd : P.underlying t with
    | none => rw [hd] at h2; simp at h2
    | some d =>
      rw [hd] at h2
      simp only [Bool.and_eq_true, beq_iff_eq] at h2
      obtain ⟨⟨⟨a1, a2⟩, a3⟩, a4⟩ := h2
      refine ⟨d, rfl, a1, fun e he => ?_, fun i o ft hf => ?_, fun k hk => ?_, fun hk => ?_, fun hne => ?_⟩
      · rw [he] at a2
        cases d <;> simp at a2
        rw [a2]
      · cases hfl : ti.flds with
        | nil => rw [hfl] at hf; simp at hf
        | cons p l =>
          rw [hfl] at a3 hf
          cases d <;> simp at a3
          rename_i fs
          obtain ⟨f, g1, g2, g3⟩ := fldsOk_spec _ 0 a3.1.1 i o ft hf
          exact ⟨fs, f, rfl, by simpa using g1, g2, g3⟩
      · rw [hk] at a4
        cases d <;> simp at a4
        rw [a4]
      · rw [hk] at a4
        cases d <;> simp at a4
        rfl
      · cases hfl : ti.flds with
        | nil => exact absurd hfl hne
        | cons p l =>
          rw [hfl] at a3
          cases d <;> simp only [Bool.and_eq_true, Bool.false_eq_true, beq_iff_eq, List.all_eq_true] at a3
          rename_i fs
          exact ⟨fs, rfl, a3.1.2, a3.2⟩
  · intro tc htc
    rw [htc] at h4
    simp only [Bool.and_eq_true, beq_iff_eq] at h4
    exact ⟨h4.1.1.1, h4.1.1.2, h4.1.2⟩
  · intro tc htc he
    rw [htc, he] at h4
    simp only [Bool.and_eq_true, beq_iff_eq, Bool.not_true, Bool.false_or, Bool.not_eq_true'] at h4
    exact h4.2

/-! ### closed data -/
theorem RelVal_top {S h} {t : Tc} {x : t.den} {v : Value} (hr : RelVal S h t x v) : t.top = true := by
  cases t <;> first | rfl | exact hr.elim

theorem RelVal_cells {S h} {t : Tc} {x : t.den} {v : Value} (hr : RelVal S h t x v) : RelD S h t x v.cells.toList := by
  cases t with
  | st t =>
    obtain ⟨cs, e1, e2⟩ := hr
    subst e1
    simpa [Value.cells] using e2
  | pair a b => exact hr.elim
  | int k => cases hr; rfl
  | bool => cases hr; rfl
  | str => cases hr; rfl
  | slice t =>
    obtain ⟨a, cap, e, h1, h2⟩ := hr
    simp at e; subst e
    exact ⟨a, cap, rfl, h1, h2⟩

theorem RelVal_of_cells {S h} {t : Tc} {x : t.den} {cs : List Value} (ht : t.top = true) (hr : RelD S h t x cs) :
    RelVal S h t x (if t.isSt then .agg cs.toArray else cs.headD undef) := by
  cases t with
  | st t => exact ⟨cs, rfl, hr⟩
  | pair a b => simp [Tc.top] at ht
  | int k => cases hr; rfl
  | bool => cases hr; rfl
  | str => cases hr; rfl
  | slice t =>
    obtain ⟨a, cap, e, h1, h2⟩ := hr
    subst e
    exact ⟨a, cap, rfl, h1, h2⟩

theorem leaves_rel {V : Vw} : ∀ (t : Tc) (x : t.den) (cs : List Value), RelD V.S V.h t x cs → RelVs V (leaves t x) cs
  | .int _, _, _, e => by cases e; exact ⟨_, _, rfl, rfl, rfl⟩
  | .bool, _, _, e => by cases e; exact ⟨_, _, rfl, rfl, rfl⟩
  | .str, _, _, e => by cases e; exact ⟨_, _, rfl, rfl, rfl⟩
  | .slice t, xs, _, ⟨a, cap, e, h1, h2⟩ => by subst e; exact ⟨_, _, rfl, ⟨a, cap, rfl, h1, h2⟩, rfl⟩
  | .pair a b, x, _, ⟨c1, c2, e, h1, h2⟩ => by subst e; exact RelVs_append _ _ _ _ (leaves_rel a _ _ h1) (leaves_rel b _ _ h2)
  | .st t, x, cs, e => leaves_rel t x cs e

theorem RelVal_one {S h} {t : Tc} {x : t.den} {v : Value} (hr : RelVal S h t x v) : ∀ u ∈ v.cells.toList, u.oneCell' = true :=
  RelD_one t x _ (RelVal_cells hr)

/-- What chk lets by. -/
def Stor (rg : Nat → Reg) : FV → Prop
  | .undef => False
  | .skp => False
  | .tup _ => False
  | .ep _ _ _ => False
  | .mp k => (∃ tk tv es, rg k = .map tk tv es) ∨ ∃ j, rg k = .fwd j
  | .slc k => (∃ t xs, rg k = .arr t xs) ∨ ∃ t xs, rg k = .frz t xs
  | .ptr k _ => ∃ cs, rg k = .box cs
  | _ => True

theorem chk_go {v : FV} {fr fr1 : Fr} {x : Unit} (h : (chk v).go fr = some (x, fr1)) : fr1 = fr ∧ Stor fr.reg v := by
  unfold chk at h
  cases v <;> simp only [Pr.go] at h <;> first | (cases h; done) | (simp at h; exact ⟨h.symm, trivial⟩) | skip
  · rename_i k
    cases hr : fr.reg k <;> simp only [hr, Pr.go] at h <;> first | (cases h; done) | (simp at h; exact ⟨h.symm, by simp [Stor, hr]⟩)
  · rename_i k o
    cases hr : fr.reg k <;> simp only [hr, Pr.go] at h <;> first | (cases h; done) | (simp at h; exact ⟨h.symm, by simp [Stor, hr]⟩)
  · rename_i k
    cases hr : fr.reg k <;> simp only [hr, Pr.go] at h <;> first | (cases h; done) | (simp at h; exact ⟨h.symm, by simp [Stor, hr]⟩)

theorem split_rel {rg loc S h} {v : FV} {u : Value} (hr : RelV (view rg loc S h) v u) (hs : Stor rg v) :
    RelVs (view rg loc S h) v.split u.cells.toList ∧ ∀ c ∈ u.cells.toList, c.oneCell' = true := by
  have one : ∀ {v : FV} {u : Value}, v.split = [v] → u.oneCell' = true → RelV (view rg loc S h) v u →
      RelVs (view rg loc S h) v.split u.cells.toList ∧ ∀ c ∈ u.cells.toList, c.oneCell' = true := by
    intro v u h1 h2 h3
    have : u.cells = #[u] := by cases u <;> first | rfl | simp [Value.oneCell'] at h2
    rw [h1, this]
    exact ⟨⟨_, _, rfl, h3, rfl⟩, by intro c hc; simp at hc; subst hc; exact h2⟩
  cases v with
  | agg l => obtain ⟨vs, e, h1, h2⟩ := hr; subst e; exact ⟨by simpa [FV.split, Value.cells] using h1, by simpa [Value.cells] using h2⟩
  | dat t x =>
    refine ⟨?_, RelVal_one hr⟩
    cases t with
    | st t => exact leaves_rel t x _ (RelVal_cells (t := .st t) hr)
    | pair a b => exact hr.elim
    | int k => cases hr; exact ⟨_, _, rfl, rfl, rfl⟩
    | bool => cases hr; exact ⟨_, _, rfl, rfl, rfl⟩
    | str => cases hr; exact ⟨_, _, rfl, rfl, rfl⟩
    | slice t =>
      have h' := hr
      obtain ⟨a, cap, e, h1, h2⟩ := hr
      simp at e; subst e
      exact ⟨_, _, rfl, h', rfl⟩
  | undef => exact hs.elim
  | skp => exact hs.elim
  | tup l => exact hs.elim
  | ep k i o => exact hs.elim
  | mp k =>
    refine one rfl ?_ hr
    have hr' : mpRel rg loc k u := hr
    rcases hs with ⟨tk, tv, es, hk⟩ | ⟨j, hk⟩
    · simp only [mpRel, hk] at hr'; subst hr'; rfl
    · simp only [mpRel, hk] at hr'; subst hr'; rfl
  | nil0 => exact one rfl (by obtain ⟨a, rfl⟩ := hr; rfl) hr
  | nilm => exact one rfl (by cases hr; rfl) hr
  | nilp => exact one rfl (by cases hr; rfl) hr
  | nilf => exact one rfl (by cases hr; rfl) hr
  | nili => exact one rfl (by cases hr; rfl) hr
  | ub => exact one rfl (by obtain ⟨b, rfl⟩ := hr; rfl) hr
  | fp t x => exact one rfl (by obtain ⟨ad, cs, e, _⟩ := hr; subst e; rfl) hr
  | clos f l => exact one rfl (by obtain ⟨vs, e, _⟩ := hr; subst e; rfl) hr
  | slc k =>
    refine one rfl ?_ hr
    have hr' : slRel rg loc S h k u := hr
    rcases hs with ⟨t, xs, hk⟩ | ⟨t, xs, hk⟩
    · simp only [slRel, hk] at hr'; subst hr'; unfold hdl; split <;> rfl
    · simp only [slRel, hk] at hr'
      obtain ⟨a, cap, e, _⟩ := hr'
      simp at e; subst e; rfl
  | ptr k o =>
    refine one rfl ?_ hr
    have hr' : ptRel rg loc k o u := hr
    obtain ⟨cs, hk⟩ := hs
    simp only [ptRel, hk] at hr'; subst hr'; rfl

end Go.Ev

set_option linter.unusedSimpArgs false
set_option linter.unusedVariables false
namespace Go.Ev
open Go

def entOf (pk : Fr) (loc : Nat → Loc) (S : Nat → Prop) (h : Array Obj) : Ent :=
  { h := h, own := fun b => ∃ k, owns (loc k) (pk.reg k) ∧ (loc k).blk = b, S := S }

/-- The outside is as it was. -/
def Sm (w w1 : World) : Prop := w1.os = w.os ∧ w1.output = w.output
theorem Sm.rfl' {w : World} : Sm w w := ⟨rfl, rfl⟩
theorem Sm.trans {a b c : World} (h : Sm a b) (k : Sm b c) : Sm a c := ⟨k.1.trans h.1, k.2.trans h.2⟩

/-- A function's contract: on a package of arguments it returns the package of its results. -/
def Sound (P : Program) (G : (Nat → Prop) → Array Obj → Prop) (f : FuncId) (s : Spec) : Prop :=
  ∀ (pk out : Fr), s.ok pk = true → s.fn pk = some out → ∀ (vals : List Value) (w : World) (loc : Nat → Loc) (S : Nat → Prop), Core pk.reg loc S w.heap → G S w.heap →
    RelVs (view pk.reg loc S w.heap) pk.slots vals →
    Calls P f vals.toArray w fun e w' => ∃ u, e = .returned u ∧ Sm w w' ∧ ∃ loc' S', Ctx (entOf pk loc S w.heap) out.reg loc' S' w'.heap ∧
      (view pk.reg loc S w.heap).le (view out.reg loc' S' w'.heap) ∧ RelV (view out.reg loc' S' w'.heap) (resFV out.slots) u

/-- A call of it is one of a function with a body. -/
def Enters (P : Program) (f : FuncId) : Prop := ∀ (args : Array Value) (w : World), (callFunc f args).run P w = .ok (.enter f args) w

/-- A function that hands over the elements of a slice (in a cell of a block b), with their numbers, from the last one on. -/
def BackOK (P : Program) (g : FuncId) (t : Tc) : Prop :=
  ∀ (W : World) (b : Nat) (e : TypeId) (u : Value) (S : Nat → Prop) (xs : List t.den), W.heap[b]? = some (.cells #[u] e (0, 0)) → RelD S W.heap (.slice t) xs [u] → (∀ s, S s → s < W.heap.size) → xs.length ≤ 1099511627776 →
    ∀ (l : Nat) (J : Nat → World → Prop), (∀ j W1, J j W1 → W1.heap[b]? = W.heap[b]? ∧ ∀ s, S s → W1.heap[s]? = W.heap[s]?) →
      (∀ m W1 v x, xs[m]? = some x → RelVal (fun s => S s ∨ s = b) W1.heap t x v → J (m + 1) W1 → ∀ n, YieldAt Fence.wide n P l #[.int .i64 m, v] W1 fun e W' => e = .returned (.bool true) ∧ J m W') →
      J xs.length W → ∀ n, CallsIn Fence.wide n P g #[.func (.yield l) #[] #[], .pointer (some ⟨b, 0, none⟩)] W fun e W' => (∃ v, e = .returned v) ∧ J 0 W'

structure EnvOk (P : Program) (E : Env) : Prop where
  tts : ∀ t ti, E.tt t = some ti → OkTI P t ti
  fss : ∀ f s, E.fs f = some s → Sound P E.gl f s ∧ Enters P f
  gm : ∀ S S' h h', E.gl S h → (∀ b, S b → S' b ∧ h'[b]? = h[b]?) → E.gl S' h'
  its : ∀ g t, E.it g = some t → BackOK P g t ∧ Enters P g

def Good (en : Ent) (rg : Nat → Reg) (loc : Nat → Loc) (S : Nat → Prop) (h : Array Obj) (rg1 : Nat → Reg) (h1 : Array Obj) (v : FV) (u : Value) : Prop :=
  ∃ loc1 S1, Ctx en rg1 loc1 S1 h1 ∧ (view rg loc S h).le (view rg1 loc1 S1 h1) ∧ RelV (view rg1 loc1 S1 h1) v u

def OpOK (P : Program) (en : Ent) (rg : Nat → Reg) (loc : Nat → Loc) (S : Nat → Prop) (w : World) (res : Result Next) (rg1 : Nat → Reg) (v : FV) : Prop :=
  (∃ u w1, res = .ok (.value u) w1 ∧ Sm w w1 ∧ Good en rg loc S w.heap rg1 w1.heap v u) ∨
  (∃ w1, res = .ok .skip w1 ∧ Sm w w1 ∧ Good en rg loc S w.heap rg1 w1.heap v undef) ∨
  (∃ f args w1, res = .ok (.enter f args) w1 ∧ Calls P f args w1 fun e w' => ∃ u, e = .returned u ∧ Sm w w' ∧ Good en rg loc S w.heap rg1 w'.heap v u)

theorem Vw.le_refl (V : Vw) : V.le V := ⟨fun _ _ h => h, fun _ _ _ h => h, fun _ _ _ _ h => h, fun _ _ h => h, fun _ h => ⟨h, rfl⟩⟩
theorem Vw.le_trans {A B C : Vw} (h1 : A.le B) (h2 : B.le C) : A.le C :=
  ⟨fun k v h => h2.sl k v (h1.sl k v h), fun k o v h => h2.pt k o v (h1.pt k o v h), fun k i o v h => h2.el k i o v (h1.el k i o v h), fun k v h => h2.mp k v (h1.mp k v h),
    fun b h => ⟨(h2.S b (h1.S b h).1).1, by rw [(h2.S b (h1.S b h).1).2, (h1.S b h).2]⟩⟩

theorem setR_reg (fr : Fr) (k : Nat) (r : Reg) : (fr.setR k r).reg = fun i => if i = k then r else fr.reg i := by
  funext i; rw [Fr.reg_setR]; by_cases h : k = i
  · subst h; simp
  · simp [h, Ne.symm h]

/-! ### operands -/
theorem slot_rel {V : Vw} {fr : Fr} {tmps : Array Value} (hs : RelVs V fr.slots tmps.toList) (t : Nat) : RelV V (fr.slot t) (tmps.getD t undef) := by
  unfold Fr.slot
  rw [List.getD_eq_getElem?_getD]
  cases h : fr.slots[t]? with
  | none => exact trivial
  | some v =>
    obtain ⟨u, h1, h2⟩ := RelVs_get _ _ t v hs h
    have : tmps.getD t undef = u := by
      rw [Array.getElem?_toList] at h1
      simp [Array.getD_eq_getD_getElem?, h1]
    rw [this]; exact h2

theorem const_rel {V : Vw} {c : Value} {fr fr1 : Fr} {v : FV} (h : (constFV c).go fr = some (v, fr1)) : fr1 = fr ∧ RelV V v c := by
  unfold constFV at h
  split at h <;> simp [Pr.go] at h <;> obtain ⟨rfl, rfl⟩ := h <;> simp [RelV, RelVal, RelD]

theorem opnd_ok {V : Vw} {x : Operand} {fr fr1 : Fr} {a : Act} {v : FV} (h : (opnd x).go fr = some (v, fr1)) (hs : RelVs V fr.slots a.tmps.toList) :
    fr1 = fr ∧ RelV V v (a.eval x) := by
  cases x with
  | tmp t =>
    simp [opnd, Pr.go] at h
    obtain ⟨rfl, rfl⟩ := h
    exact ⟨rfl, slot_rel hs t⟩
  | const c => exact const_rel h
  | global g => simp [opnd, Pr.go] at h
  | func f =>
    simp [opnd, Pr.go] at h
    obtain ⟨rfl, rfl⟩ := h
    exact ⟨rfl, [], rfl, rfl⟩

theorem opnds_ok {V : Vw} {fr : Fr} {a : Act} (hs : RelVs V fr.slots a.tmps.toList) : ∀ (l : List Operand) {fr1 : Fr} {vs : List FV}, (opnds l).go fr = some (vs, fr1) →
    fr1 = fr ∧ RelVs V vs (l.map a.eval)
  | [], fr1, vs, h => by simp [opnds, Pr.go] at h; obtain ⟨rfl, rfl⟩ := h; exact ⟨rfl, rfl⟩
  | x :: l, fr1, vs, h => by
    simp only [opnds] at h
    obtain ⟨v, fr2, h1, h2⟩ := Pr.go_bind_some h
    obtain ⟨rfl, g1⟩ := opnd_ok h1 hs
    obtain ⟨ws, fr3, h3, h4⟩ := Pr.go_bind_some h2
    obtain ⟨rfl, g2⟩ := opnds_ok hs l h3
    obtain ⟨rfl, rfl⟩ := go_ret h4
    exact ⟨rfl, _, _, rfl, g1, g2⟩

theorem oopnd_ok {V : Vw} {x : Option Operand} {fr fr1 : Fr} {a : Act} {v : Option FV} (h : (oopnd x).go fr = some (v, fr1)) (hs : RelVs V fr.slots a.tmps.toList) :
    fr1 = fr ∧ ((x = none ∧ v = none) ∨ ∃ y u, x = some y ∧ v = some u ∧ RelV V u (a.eval y)) := by
  cases x with
  | none => simp [oopnd, Pr.go] at h; obtain ⟨rfl, rfl⟩ := h; exact ⟨rfl, .inl ⟨rfl, rfl⟩⟩
  | some y =>
    simp only [oopnd] at h
    obtain ⟨u, fr2, h1, h2⟩ := Pr.go_bind_some h
    obtain ⟨rfl, g⟩ := opnd_ok h1 hs
    obtain ⟨rfl, rfl⟩ := go_ret h2
    exact ⟨rfl, .inr ⟨y, u, rfl, rfl, g⟩⟩

/-! ### closed data -/
theorem asD_rel {S h} {V : Vw} (hV : V.S = S ∧ V.h = h) {t : Tc} {v : FV} {x : t.den} {u : Value} (hx : v.asD t = some x) (hr : RelV V v u) : RelVal S h t x u := by
  obtain ⟨rfl, rfl⟩ := hV
  unfold FV.asD at hx
  split at hx
  · rename_i t' y
    split at hx
    · rename_i e; subst e; cases hx; exact hr
    · cases hx
  · split at hx
    · cases hx; obtain ⟨a0, rfl⟩ := hr; exact ⟨a0, 0, rfl, by simp, fun i x hx => by simp at hx⟩
    · cases hx
  · cases hx

theorem takeAt_ok {en : Ent} {t : Tc} {k : Nat} {fr fr1 : Fr} {xs : List t.den} {loc S h} (hg : (takeAt true t k).go fr = some (xs, fr1)) (hc : Ctx en fr.reg loc S h)
    {v : Value} (hv : slRel fr.reg loc S h k v) :
    fr1.slots = fr.slots ∧ ∃ S1, Ctx en fr1.reg loc S1 h ∧ (view fr.reg loc S h).le (view fr1.reg loc S1 h) ∧ RelD S1 h (.slice t) xs [v] := by
  simp only [takeAt, Pr.go] at hg
  cases hk : fr.reg k with
  | arr t' ys =>
    simp only [hk] at hg
    split at hg
    · rename_i e
      subst e
      simp [Pr.go] at hg
      obtain ⟨rfl, rfl⟩ := hg
      refine ⟨rfl, ?_⟩
      obtain ⟨S1, h1, h2, h3⟩ := ctx_freeze hc hk
      rw [setR_reg]
      refine ⟨S1, h1, h2, h3 v ?_⟩
      simpa [slRel, hk] using hv
    · simp [Pr.go] at hg
  | frz t' ys =>
    simp only [hk] at hg
    split at hg
    · rename_i e
      subst e
      simp [Pr.go] at hg
      obtain ⟨rfl, rfl⟩ := hg
      refine ⟨rfl, S, hc, Vw.le_refl _, ?_⟩
      simpa [slRel, hk] using hv
    · simp [Pr.go] at hg
  | _ => simp [hk, Pr.go] at hg

theorem closeL_ok {en : Ent} {loc h} : ∀ (t : Tc) (l : List FV) {fr fr1 : Fr} {p : t.den × List FV} {S : Nat → Prop} {us : List Value}, (closeL true t l).go fr = some (p, fr1) →
    Ctx en fr.reg loc S h → RelVs (view fr.reg loc S h) l us →
    fr1.slots = fr.slots ∧ ∃ S1 cs us', us = cs ++ us' ∧ Ctx en fr1.reg loc S1 h ∧ (view fr.reg loc S h).le (view fr1.reg loc S1 h) ∧ RelD S1 h t p.1 cs ∧ RelVs (view fr1.reg loc S1 h) p.2 us'
  | .pair a b, l, fr, fr1, p, S, us, hg, hc, hr => by
    simp only [closeL] at hg
    obtain ⟨q, fr2, h1, h2⟩ := Pr.go_bind_some hg
    obtain ⟨q2, fr3, h3, h4⟩ := Pr.go_bind_some h2
    obtain ⟨rfl, rfl⟩ := go_ret h4
    obtain ⟨g1, S1, c1, u1, rfl, g2, g3, g4, g5⟩ := closeL_ok a l h1 hc hr
    obtain ⟨k1, S2, c2, u2, rfl, k2, k3, k4, k5⟩ := closeL_ok b _ h3 g2 g5
    exact ⟨by rw [k1, g1], S2, c1 ++ c2, u2, by rw [List.append_assoc], k2, Vw.le_trans g3 k3, ⟨c1, c2, rfl, RelD_mono k3.S _ _ _ g4, k4⟩, k5⟩
  | .st t, l, fr, fr1, p, S, us, hg, hc, hr => closeL_ok t l hg hc hr
  | .slice t, [], fr, fr1, p, S, us, hg, hc, hr => by simp [closeL, Pr.go] at hg
  | .slice t, v :: l, fr, fr1, p, S, us, hg, hc, hr => by
    obtain ⟨u, us', rfl, r1, r2⟩ := hr
    simp only [closeL] at hg
    split at hg
    · rename_i k
      obtain ⟨xs, fr2, h1, h2⟩ := Pr.go_bind_some hg
      obtain ⟨rfl, rfl⟩ := go_ret h2
      obtain ⟨g1, S1, g2, g3, g4⟩ := takeAt_ok h1 hc r1
      exact ⟨g1, S1, [u], us', rfl, g2, g3, g4, RelVs_mono g3 _ _ r2⟩
    · obtain ⟨x, h1, h2⟩ := go_popt hg
      obtain ⟨rfl, rfl⟩ := go_ret h2
      exact ⟨rfl, S, [u], us', rfl, hc, Vw.le_refl _, asD_rel ⟨rfl, rfl⟩ h1 r1, r2⟩
  | .int k, [], fr, fr1, p, S, us, hg, hc, hr => by simp [closeL, Pr.go] at hg
  | .int k, v :: l, fr, fr1, p, S, us, hg, hc, hr => by
    obtain ⟨u, us', rfl, r1, r2⟩ := hr
    simp only [closeL] at hg
    obtain ⟨x, h1, h2⟩ := go_popt hg
    obtain ⟨rfl, rfl⟩ := go_ret h2
    exact ⟨rfl, S, [u], us', rfl, hc, Vw.le_refl _, asD_rel (t := .int k) ⟨rfl, rfl⟩ h1 r1, r2⟩
  | .bool, [], fr, fr1, p, S, us, hg, hc, hr => by simp [closeL, Pr.go] at hg
  | .bool, v :: l, fr, fr1, p, S, us, hg, hc, hr => by
    obtain ⟨u, us', rfl, r1, r2⟩ := hr
    simp only [closeL] at hg
    obtain ⟨x, h1, h2⟩ := go_popt hg
    obtain ⟨rfl, rfl⟩ := go_ret h2
    exact ⟨rfl, S, [u], us', rfl, hc, Vw.le_refl _, asD_rel (t := .bool) ⟨rfl, rfl⟩ h1 r1, r2⟩
  | .str, [], fr, fr1, p, S, us, hg, hc, hr => by simp [closeL, Pr.go] at hg
  | .str, v :: l, fr, fr1, p, S, us, hg, hc, hr => by
    obtain ⟨u, us', rfl, r1, r2⟩ := hr
    simp only [closeL] at hg
    obtain ⟨x, h1, h2⟩ := go_popt hg
    obtain ⟨rfl, rfl⟩ := go_ret h2
    exact ⟨rfl, S, [u], us', rfl, hc, Vw.le_refl _, asD_rel (t := .str) ⟨rfl, rfl⟩ h1 r1, r2⟩

theorem closeD_ok {en : Ent} {loc S h} {t : Tc} {v : FV} {fr fr1 : Fr} {x : t.den} {u : Value} (hg : (closeD t v).go fr = some (x, fr1)) (hc : Ctx en fr.reg loc S h)
    (hr : RelV (view fr.reg loc S h) v u) :
    fr1.slots = fr.slots ∧ ∃ S1, Ctx en fr1.reg loc S1 h ∧ (view fr.reg loc S h).le (view fr1.reg loc S1 h) ∧ RelVal S1 h t x u := by
  unfold closeD closeG at hg
  split at hg
  · rename_i l
    cases t with
    | st t0 =>
      simp only at hg
      obtain ⟨p, fr2, h1, h2⟩ := Pr.go_bind_some hg
      split at h2
      · rename_i hp
        obtain ⟨rfl, rfl⟩ := go_ret h2
        obtain ⟨vs, rfl, r1, r2⟩ := hr
        obtain ⟨g1, S1, cs, us', e, g2, g3, g4, g5⟩ := closeL_ok t0 l h1 hc r1
        rw [hp] at g5
        cases g5
        simp at e; subst e
        exact ⟨g1, S1, g2, g3, vs, rfl, g4⟩
      · simp [Pr.go] at h2
    | _ => simp [Pr.go] at hg
  · rename_i k
    cases t with
    | slice t0 =>
      obtain ⟨g1, S1, g2, g3, g4⟩ := takeAt_ok hg hc hr
      exact ⟨g1, S1, g2, g3, g4⟩
    | _ => simp [Pr.go] at hg
  · obtain ⟨y, h1, h2⟩ := go_popt hg
    obtain ⟨rfl, rfl⟩ := go_ret h2
    exact ⟨rfl, S, hc, Vw.le_refl _, asD_rel ⟨rfl, rfl⟩ h1 hr⟩

/-- A new value over what was there. -/
theorem good_same {en rg loc S h} (hc : Ctx en rg loc S h) {v : FV} {u : Value} (hr : RelV (view rg loc S h) v u) : Good en rg loc S h rg h v u :=
  ⟨loc, S, hc, Vw.le_refl _, hr⟩

theorem Good.from {en rg loc S h rg1 loc1 S1 h1 rg2 h2} {v : FV} {u : Value} (hle : (view rg loc S h).le (view rg1 loc1 S1 h1)) (hg : Good en rg1 loc1 S1 h1 rg2 h2 v u) :
    Good en rg loc S h rg2 h2 v u := by
  obtain ⟨loc2, S2, a, b, c⟩ := hg
  exact ⟨loc2, S2, a, Vw.le_trans hle b, c⟩

end Go.Ev

set_option linter.unusedSimpArgs false
set_option linter.unusedVariables false
namespace Go.Ev
open Go

/-- What a plain operation comes to. -/
def Yields (P : Program) (s : Sem Value) (w : World) (V : Vw) (v : FV) : Prop := ∃ u, s.run P w = .ok u w ∧ RelV V v u

theorem str_toList (s : Bytes) : (⟨s.toArray⟩ : ByteArray).toList = s := by rw [ByteArray.toList_eq]

theorem str_append (a b : Bytes) : (⟨a.toArray⟩ : ByteArray) ++ ⟨b.toArray⟩ = ⟨(a ++ b).toArray⟩ := by
  apply ByteArray.ext
  simp

theorem intOp_ok {P : Program} {V : Vw} {op : BinOp} {k : IntKind} {a b : Int} {fr fr1 : Fr} {v : FV} {w : World} {xt : TypeId} (h : (intOp op k a b).go fr = some (v, fr1))
    (h1 : op ≠ .shl) (h2 : op ≠ .shr) : fr1 = fr ∧ Yields P (binOp op xt (.int k a) (.int k b)) w V v := by
  cases op <;> simp only [intOp] at h <;> first
    | exact absurd rfl h1
    | exact absurd rfl h2
    | (obtain ⟨rfl, rfl⟩ := go_ret h
       refine ⟨rfl, _, ?_, rfl⟩
       simp [binOp, Op.intArith, Op.intBits, Op.intCmp])
    | (simp only [Pr.go] at h
       split at h
       · simp at h
       · rename_i hb
         simp at h hb
         obtain ⟨rfl, rfl⟩ := h
         refine ⟨rfl, _, ?_, rfl⟩
         simp [binOp, Op.intDiv, hb])

theorem shOp_ok {P : Program} {V : Vw} {op : BinOp} {k k' : IntKind} {a b : Int} {fr fr1 : Fr} {v : FV} {w : World} {xt : TypeId} (h : (shOp op k a b).go fr = some (v, fr1))
    (hop : op = .shl ∨ op = .shr) : fr1 = fr ∧ Yields P (binOp op xt (.int k a) (.int k' b)) w V v := by
  simp only [shOp, Pr.go] at h
  split at h
  · simp at h
  · rename_i hb
    simp at hb
    rcases hop with rfl | rfl
    · obtain ⟨rfl, rfl⟩ := go_ret h
      refine ⟨rfl, _, ?_, rfl⟩
      simp [binOp, Op.shift, Int.not_lt.2 hb]
    · obtain ⟨rfl, rfl⟩ := go_ret h
      refine ⟨rfl, _, ?_, rfl⟩
      simp [binOp, Op.shift, Int.not_lt.2 hb]

theorem strOp_ok {P : Program} {V : Vw} {op : BinOp} {a b : Bytes} {fr fr1 : Fr} {v : FV} {w : World} {xt : TypeId} (h : (strOp op a b).go fr = some (v, fr1)) :
    fr1 = fr ∧ Yields P (binOp op xt (.string ⟨a.toArray⟩) (.string ⟨b.toArray⟩)) w V v := by
  cases op <;> simp only [strOp] at h <;> first
    | exact (go_fail h).elim
    | (obtain ⟨rfl, rfl⟩ := go_ret h
       refine ⟨rfl, _, ?_, rfl⟩
       simp [binOp, Op.stringOp, str_toList])
    | (obtain ⟨hb, h⟩ := go_guard h
       obtain ⟨rfl, rfl⟩ := go_ret h
       simp at hb
       refine ⟨rfl, _, ?_, rfl⟩
       have h1 : ByteArray.size ⟨a.toArray⟩ = a.length := by simp [ByteArray.size]
       have h2 : ByteArray.size ⟨b.toArray⟩ = b.length := by simp [ByteArray.size]
       have h3 : IntKind.i64.max = 9223372036854775807 := by decide
       have h4 : ¬ (IntKind.i64.max < ((a.length : Int) + (b.length : Int))) := by rw [h3]; omega
       simp [binOp, Op.stringOp, str_append, h1, h2, h4]
       omega)

theorem unV_ok {P : Program} {V : Vw} {op : UnOp} {x v : FV} {u : Value} {fr fr1 : Fr} {w : World} (h : (unV op x).go fr = some (v, fr1)) (hr : RelV V x u) :
    fr1 = fr ∧ Yields P (Op.unary op u) w V v := by
  unfold unV at h
  split at h
  · obtain ⟨rfl, rfl⟩ := go_ret h; cases hr
    exact ⟨rfl, _, by simp [Op.unary, Op.intArith], rfl⟩
  · obtain ⟨rfl, rfl⟩ := go_ret h; cases hr
    exact ⟨rfl, _, by simp [Op.unary, Op.intBits], rfl⟩
  · obtain ⟨rfl, rfl⟩ := go_ret h; cases hr
    exact ⟨rfl, _, by simp [Op.unary], rfl⟩
  · exact (go_fail h).elim

theorem run_under {P : Program} {t : TypeId} {ti : TI} (hti : OkTI P t ti) : ∃ d, P.underlying t = some d ∧ (∀ w : World, (underlying t).run P w = .ok d w) := by
  obtain ⟨d, h, _⟩ := hti.und
  exact ⟨d, h, run_underlying h⟩

theorem convV_ok {P : Program} {E : Env} (hE : EnvOk P E) {V : Vw} {src dst : TypeId} {x v : FV} {u : Value} {fr fr1 : Fr} {w : World} (h : (convV E src dst x).go fr = some (v, fr1))
    (hr : RelV V x u) : fr1 = fr ∧ Yields P (convert src dst u) w V v := by
  unfold convV at h
  split at h
  · rename_i k n
    cases hr
    obtain ⟨si, hs, h⟩ := go_popt h
    obtain ⟨ti, ht, h⟩ := go_popt h
    obtain ⟨ds, es, _, _, _, ks, _, _⟩ := (hE.tts _ _ hs).und
    obtain ⟨d, ed, _, _, _, kd, sd, _⟩ := (hE.tts _ _ ht).und
    split at h
    · rename_i k1 k2 e1 e2
      obtain ⟨rfl, rfl⟩ := go_ret h
      have := ks _ e1; have := kd _ e2; subst ds; subst d
      exact ⟨rfl, _, by simp [convert, run_underlying es, run_underlying ed, Conv.intToInt], rfl⟩
    · rename_i k1 e1 e2
      obtain ⟨rfl, rfl⟩ := go_ret h
      have := ks _ e1; have := sd e2; subst ds; subst d
      refine ⟨rfl, _, by simp [convert, run_underlying es, run_underlying ed, Conv.intToString]; rfl, ?_⟩
      simp [RelV, RelVal, RelD, dS]
    · exact (go_fail h).elim
  · rename_i s
    cases hr
    obtain ⟨si, hs, h⟩ := go_popt h
    obtain ⟨ti, ht, h⟩ := go_popt h
    obtain ⟨ds, es, _, _, _, _, ks, _⟩ := (hE.tts _ _ hs).und
    obtain ⟨d, ed, _, _, _, _, sd, _⟩ := (hE.tts _ _ ht).und
    split at h
    · rename_i e1 e2
      obtain ⟨rfl, rfl⟩ := go_ret h
      have := ks e1; have := sd e2; subst ds; subst d
      exact ⟨rfl, _, by simp [convert, run_underlying es, run_underlying ed], rfl⟩
    · exact (go_fail h).elim
  · exact (go_fail h).elim

theorem extract_ok {P : Program} {V : Vw} {l : List FV} {i : Nat} {v : FV} {u : Value} {w : World} (h : l[i]? = some v) (hr : RelV V (.tup l) u) :
    Yields P (Instr.extract u i) w V v := by
  obtain ⟨vs, rfl, hr⟩ := hr
  obtain ⟨u, h1, h2⟩ := RelVs_get _ _ _ _ hr h
  exact ⟨u, by simp [Instr.extract, h1], h2⟩

/-! ### parts of data -/
theorem sub_rel {S h} : ∀ (t : Tc) (x : t.den) (off : Nat) (t' : Tc) (y : t'.den) (cs : List Value), sub t x off t' = some y → RelD S h t x cs →
    ∃ a c b, cs = a ++ c ++ b ∧ a.length = off ∧ RelD S h t' y c := by
  have one : ∀ (t : Tc) (x : t.den) (off : Nat) (t' : Tc) (y : t'.den) (cs : List Value), (if h : t = t' then (if off = 0 then some (h ▸ x) else none) else none) = some y →
      RelD S h t x cs → ∃ a c b, cs = a ++ c ++ b ∧ a.length = off ∧ RelD S h t' y c := by
    intro t x off t' y cs hs hr
    split at hs
    · rename_i e; subst e
      split at hs
      · rename_i e; subst e; cases hs
        exact ⟨[], cs, [], by simp, rfl, hr⟩
      · cases hs
    · cases hs
  intro t
  induction t with
  | int k => intro x off t' y cs hs hr; exact one (.int k) x off t' y cs hs hr
  | bool => intro x off t' y cs hs hr; exact one .bool x off t' y cs hs hr
  | str => intro x off t' y cs hs hr; exact one .str x off t' y cs hs hr
  | slice t _ => intro x off t' y cs hs hr; exact one (.slice t) x off t' y cs hs hr
  | st t ih =>
    intro x off t' y cs hs hr
    simp only [sub] at hs
    split at hs
    · rename_i e; subst e
      split at hs
      · rename_i e; subst e; cases hs; exact ⟨[], cs, [], by simp, rfl, hr⟩
      · cases hs
    · exact ih x off t' y cs hs hr
  | pair a b iha ihb =>
    intro x off t' y cs hs hr
    simp only [sub] at hs
    split at hs
    · rename_i e; subst e
      split at hs
      · rename_i e; subst e; cases hs; exact ⟨[], cs, [], by simp, rfl, hr⟩
      · cases hs
    · obtain ⟨c1, c2, rfl, r1, r2⟩ := hr
      split at hs
      · obtain ⟨a1, c, b1, rfl, h1, h2⟩ := iha _ _ _ _ _ hs r1
        exact ⟨a1, c, b1 ++ c2, by simp, h1, h2⟩
      · obtain ⟨a1, c, b1, rfl, h1, h2⟩ := ihb _ _ _ _ _ hs r2
        refine ⟨c1 ++ a1, c, b1, by simp, ?_, h2⟩
        have := RelD_len _ _ _ r1
        simp; omega

theorem upd_rel {S h} : ∀ (t : Tc) (x : t.den) (off : Nat) (t' : Tc) (y : t'.den) (z : t.den) (cs ds : List Value), upd t x off t' y = some z → RelD S h t x cs → RelD S h t' y ds →
    ∃ a c b, cs = a ++ c ++ b ∧ a.length = off ∧ c.length = ds.length ∧ RelD S h t z (a ++ ds ++ b) := by
  have one : ∀ (t : Tc) (x : t.den) (off : Nat) (t' : Tc) (y : t'.den) (z : t.den) (cs ds : List Value), (if h : t' = t then (if off = 0 then some (h ▸ y) else none) else none) = some z →
      RelD S h t x cs → RelD S h t' y ds → ∃ a c b, cs = a ++ c ++ b ∧ a.length = off ∧ c.length = ds.length ∧ RelD S h t z (a ++ ds ++ b) := by
    intro t x off t' y z cs ds hs hr hd
    split at hs
    · rename_i e; subst e
      split at hs
      · rename_i e; subst e; cases hs
        exact ⟨[], cs, [], by simp, rfl, by rw [RelD_len _ _ _ hr, RelD_len _ _ _ hd], by simpa using hd⟩
      · cases hs
    · cases hs
  intro t
  induction t with
  | int k => intro x off t' y z cs ds hs hr hd; exact one (.int k) x off t' y z cs ds hs hr hd
  | bool => intro x off t' y z cs ds hs hr hd; exact one .bool x off t' y z cs ds hs hr hd
  | str => intro x off t' y z cs ds hs hr hd; exact one .str x off t' y z cs ds hs hr hd
  | slice t _ => intro x off t' y z cs ds hs hr hd; exact one (.slice t) x off t' y z cs ds hs hr hd
  | st t ih =>
    intro x off t' y z cs ds hs hr hd
    simp only [upd] at hs
    split at hs
    · rename_i e; subst e
      split at hs
      · rename_i e; subst e; cases hs
        exact ⟨[], cs, [], by simp, rfl, by rw [RelD_len _ _ _ hr, RelD_len _ _ _ hd], by simpa using hd⟩
      · cases hs
    · exact ih x off t' y z cs ds hs hr hd
  | pair a b iha ihb =>
    intro x off t' y z cs ds hs hr hd
    simp only [upd] at hs
    split at hs
    · rename_i e; subst e
      split at hs
      · rename_i e; subst e; cases hs
        exact ⟨[], cs, [], by simp, rfl, by rw [RelD_len _ _ _ hr, RelD_len _ _ _ hd], by simpa using hd⟩
      · cases hs
    · obtain ⟨c1, c2, rfl, r1, r2⟩ := hr
      split at hs
      · simp only [Option.map_eq_some_iff] at hs
        obtain ⟨q, hq, rfl⟩ := hs
        obtain ⟨a1, c, b1, rfl, h1, h2, h3⟩ := iha _ _ _ _ _ _ _ hq r1 hd
        exact ⟨a1, c, b1 ++ c2, by simp, h1, h2, a1 ++ ds ++ b1, c2, by simp, h3, r2⟩
      · simp only [Option.map_eq_some_iff] at hs
        obtain ⟨q, hq, rfl⟩ := hs
        obtain ⟨a1, c, b1, rfl, h1, h2, h3⟩ := ihb _ _ _ _ _ _ _ hq r2 hd
        refine ⟨c1 ++ a1, c, b1, by simp, ?_, h2, c1, a1 ++ ds ++ b1, by simp, r1, h3⟩
        have := RelD_len _ _ _ r1
        simp; omega

end Go.Ev

set_option linter.unusedSimpArgs false
set_option linter.unusedVariables false
namespace Go.Ev
open Go

theorem agg_run {P : Program} {t : TypeId} {ti : TI} (hti : OkTI P t ti) (w : World) : (isAgg t).run P w = .ok ti.agg w := by
  obtain ⟨d, hd, hr, _⟩ := hti.und
  unfold isAgg
  rw [Sem.run_bind, run_underlying hd w]
  rw [← hr]
  cases d <;> simp [TypeDesc.isRow]

theorem size_run {P : Program} {t : TypeId} {ti : TI} (hti : OkTI P t ti) (w : World) : (sizeOf t).run P w = .ok ti.size w := by
  obtain ⟨i, hi, hs, _⟩ := hti.info
  simp [sizeOf, typeInfo, hi, hs]

theorem loadAt_cells {P : Program} {t : TypeId} {ti : TI} (hti : OkTI P t ti) (w : World) (ad : Addr) (hsp : ad.spot = none) (cs : List Value) (hl : cs.length = ti.size)
    (hc : ∀ j u, cs[j]? = some u → cellAt w.heap ad.block (ad.off + j) = some u) :
    (Instr.loadAt t (.pointer (some ad))).run P w = .ok (if ti.agg then .agg cs.toArray else cs.headD undef) w := by
  have hlc : (loadCells ad cs.length).run P w = .ok cs.toArray w := run_loadCells_list w ad cs fun j u hu => by rw [cell_ad w ad hsp]; exact hc j u hu
  rw [hl] at hlc
  simp only [Instr.loadAt, Instr.sureAddr, loadVar, Sem.run_bind, Sem.run_pure, Result.andThen_ok, agg_run hti]
  cases ha : ti.agg with
  | true => simp [size_run hti, hlc]
  | false =>
    have hp := hti.pos
    cases cs with
    | nil => simp at hl; omega
    | cons u us =>
      have h0 := hc 0 u (by simp)
      have : w.cell? ad = some u := by
        have := cell_ad w ad hsp 0
        simp only [Addr.add, if_true] at this
        rw [this]; exact h0
      simp [this]

theorem cell_blk {h : Array Obj} {b : Nat} {c : Array Value} {e : TypeId} {fz : Nat × Nat} (hb : h[b]? = some (.cells c e fz)) (o : Nat) : cellAt h b o = c[o]? := by
  simp [cellAt, hb]

theorem load_ok {P : Program} {E : Env} (hE : EnvOk P E) {loc S} {t : TypeId} {a v : FV} {u : Value} {fr fr1 : Fr} {w : World} (h : (loadV E t a).go fr = some (v, fr1))
    (hc : Core fr.reg loc S w.heap) (hr : RelV (view fr.reg loc S w.heap) a u) : fr1 = fr ∧ Yields P (Instr.loadAt t u) w (view fr.reg loc S w.heap) v := by
  unfold loadV at h
  replace h := go_popt h; obtain ⟨ti, ht, h⟩ := h
  have hti := hE.tts _ _ ht
  cases a
  case ptr k off =>
    cases hk : fr.reg k
    case' box cs => skip
    all_goals simp only [Pr.go, hk] at h
    all_goals first | (simp [Pr.go] at h; done) | skip
    have hreg := hc.reg k
    rw [hk] at hreg
    obtain ⟨c, e, hb, hv, ho⟩ := hreg
    have hu : u = .pointer (some ⟨(loc k).blk, off, none⟩) := by simpa [RelV, view, ptRel, hk] using hr
    subst hu
    have hlen := RelVs_len _ _ hv
    by_cases ha : ti.agg = true
    · rw [if_pos ha] at h
      split at h
      · rename_i hle
        obtain ⟨rfl, rfl⟩ := go_ret h
        refine ⟨rfl, _, loadAt_cells hti w ⟨_, _, none⟩ rfl ((c.toList.drop off).take ti.size) (by simp at hlen ⊢; omega) (fun j u hu => ?_), ?_⟩
        · have hb' : w.heap[(loc k).blk]? = some (.cells c e (0, 0)) := hb
          rw [cell_blk hb']
          rw [List.getElem?_take] at hu
          split at hu
          · rw [List.getElem?_drop, Array.getElem?_toList] at hu; exact hu
          · cases hu
        · rw [if_pos ha]
          refine ⟨_, rfl, RelVs_take _ _ _ (RelVs_drop _ _ _ hv), fun u hu => ho u (List.mem_of_mem_drop (List.mem_of_mem_take hu))⟩
      · exact (go_fail h).elim
    · rw [if_neg ha] at h
      replace h := go_popt h; obtain ⟨x, hx, h⟩ := h
      obtain ⟨rfl, rfl⟩ := go_ret h
      obtain ⟨u, hu1, hu2⟩ := RelVs_get _ _ _ _ hv hx
      have hb' : w.heap[(loc k).blk]? = some (.cells c e (0, 0)) := hb
      refine ⟨rfl, u, ?_, hu2⟩
      have hcell : w.cell? ⟨(loc k).blk, off, none⟩ = some u := by rw [cell_at, cell_blk hb']; simpa using hu1
      have ha' : ti.agg = false := by simpa using ha
      simp [Instr.loadAt, Instr.sureAddr, loadVar, agg_run hti, ha', hcell]
  case ep k i off =>
    by_cases hmk : off = sufMark
    · simp only [hmk, if_true] at h; exact (go_fail h).elim
    simp only [hmk, if_false] at h
    cases hk : fr.reg k
    case' arr t' xs => skip
    all_goals simp only [Pr.go, hk] at h
    all_goals first | (simp [Pr.go] at h; done) | skip
    replace h := go_popt h; obtain ⟨tc, htc, h⟩ := h
    replace h := go_guard h; obtain ⟨hi, h⟩ := h
    replace h := go_popt h; obtain ⟨y, hy, h⟩ := h
    obtain ⟨rfl, rfl⟩ := go_ret h
    simp at hi
    have hreg := hc.reg k
    rw [hk] at hreg
    rcases hreg with ⟨_, hx⟩ | ⟨hnil, c, e, hb, h1, h2, h3⟩
    · subst hx; simp at hi
    have hu : u = .pointer (some ⟨(loc k).blk, (loc k).off + i * t'.size + off, none⟩) := by
      have : elRel fr.reg loc S w.heap k i off u := hr
      simp only [elRel, hk] at this
      exact (ElOK_pt hmk).1 (this.2 hnil)
    subst hu
    have hxi : xs[i]? = some (xs.getD i t'.dflt) := by simp [List.getD, hi]
    obtain ⟨ecs, g1, g2⟩ := h3 i _ hxi
    obtain ⟨p, q, r, rfl, hp, hq⟩ := sub_rel _ _ _ _ _ _ hy g1
    have hb' : w.heap[(loc k).blk]? = some (.cells c e (0, 0)) := hb
    obtain ⟨hsz, hst, htop⟩ := hti.tcs tc htc
    refine ⟨rfl, _, loadAt_cells hti w ⟨_, _, none⟩ rfl q (by rw [RelD_len _ _ _ hq]; exact hsz) (fun j u hu => ?_), ?_⟩
    · rw [cell_blk hb']
      have hj : j < q.length := (List.getElem?_eq_some_iff.1 hu).1
      have := g2 (off + j) u (by
        rw [List.append_assoc, List.getElem?_append_right (by omega), hp, show off + j - off = j by omega, List.getElem?_append_left hj]; exact hu)
      rw [← this]; congr 1; simp only [view]; omega
    · rw [← hst]; exact RelVal_of_cells htop hq
  case fp t' x =>
    simp only at h
    split at h
    · rename_i htc
      obtain ⟨rfl, rfl⟩ := go_ret h
      obtain ⟨ad, cs, rfl, hsp, _, hq, hcell⟩ := hr
      obtain ⟨hsz, hst, htop⟩ := hti.tcs _ htc
      refine ⟨rfl, _, loadAt_cells hti w ad hsp cs (by rw [RelD_len _ _ _ hq]; exact hsz) hcell, ?_⟩
      rw [← hst]; exact RelVal_of_cells htop hq
    · exact (go_fail h).elim
  all_goals exact (go_fail h).elim

theorem field_info {P : Program} {E : Env} (hE : EnvOk P E) {s : TypeId} {ti : TI} (ht : E.tt s = some ti) {f o : Nat} {ft : TypeId} (hf : ti.flds[f]? = some (o, ft)) :
    ∃ (fs : Array Field) (g : Field), P.underlying s = some (.struct fs) ∧ fs[f]? = some g ∧ g.offset = o ∧ g.type = ft := by
  obtain ⟨d, hd, _, _, h, _⟩ := (hE.tts _ _ ht).und
  obtain ⟨fs, g, rfl, h1, h2, h3⟩ := h f o ft hf
  exact ⟨fs, g, hd, h1, h2, h3⟩

theorem add_off (b o n : Nat) : (⟨b, o, none⟩ : Addr).add n = ⟨b, o + n, none⟩ := Addr.add_mid b o n

theorem fieldAddr_ok {P : Program} {E : Env} (hE : EnvOk P E) {loc S} {s : TypeId} {a v : FV} {f : Nat} {u : Value} {fr fr1 : Fr} {w : World} (h : (fieldAddrV E s a f).go fr = some (v, fr1))
    (hc : Core fr.reg loc S w.heap) (hr : RelV (view fr.reg loc S w.heap) a u) : fr1 = fr ∧ Yields P (Instr.fieldAt s u f) w (view fr.reg loc S w.heap) v := by
  unfold fieldAddrV at h
  replace h := go_popt h; obtain ⟨ti, ht, h⟩ := h
  replace h := go_popt h; obtain ⟨p, hf, h⟩ := h
  obtain ⟨o, ft⟩ := p
  replace h := go_popt h; obtain ⟨fi, hfi, h⟩ := h
  obtain ⟨fs, g, hu, hg, ho, hft⟩ := field_info hE ht hf
  have hft' := hE.tts _ _ hfi
  have hpos := hft'.pos
  have hrun : ∀ ad : Addr, (Instr.fieldAt s (.pointer (some ad)) f).run P w = .ok (.pointer (some (ad.add o))) w := by
    intro ad
    subst ho; subst hft
    simp [Instr.fieldAt, run_underlying hu, hg, Instr.sureAddr, fieldPlace, size_run hft', Nat.pos_iff_ne_zero.1 hpos]
  cases a
  case ptr k off =>
    cases hk : fr.reg k
    all_goals simp only [Pr.go, hk] at h
    all_goals first | (simp [Pr.go] at h; done) | skip
    obtain ⟨rfl, rfl⟩ := go_ret h
    have hu : u = .pointer (some ⟨(loc k).blk, off, none⟩) := by simpa [RelV, view, ptRel, hk] using hr
    subst hu
    exact ⟨rfl, _, hrun _, by rw [add_off]; simp [RelV, view, ptRel, hk]⟩
  case ep k i off =>
    by_cases hmm : off = sufMark ∨ off + o = sufMark ∨ off + o = fullMark
    · simp only [hmm, if_true] at h; exact (go_fail h).elim
    simp only [hmm, if_false] at h
    have hmk : off ≠ sufMark := fun e => hmm (.inl e)
    have hmk2 : off + o ≠ sufMark := fun e => hmm (.inr (.inl e))
    have hmk3 : off + o ≠ fullMark := fun e => hmm (.inr (.inr e))
    cases hk : fr.reg k
    case' arr t' xs => skip
    all_goals simp only [Pr.go, hk] at h
    all_goals first | (simp [Pr.go] at h; done) | skip
    replace h := go_guard h; obtain ⟨hi, h⟩ := h
    obtain ⟨rfl, rfl⟩ := go_ret h
    simp at hi
    have hreg := hc.reg k
    rw [hk] at hreg
    rcases hreg with ⟨_, hx⟩ | ⟨hnil, _⟩
    · subst hx; simp at hi
    have hu : u = .pointer (some ⟨(loc k).blk, (loc k).off + i * t'.size + off, none⟩) := by
      have : elRel fr.reg loc S w.heap k i off u := hr
      simp only [elRel, hk] at this
      exact (ElOK_pt hmk).1 (this.2 hnil)
    subst hu
    refine ⟨rfl, _, hrun _, ?_⟩
    rw [add_off]
    show elRel fr.reg loc S w.heap k i (off + o) _
    simp only [elRel, hk]
    exact ⟨hmk3, fun _ => (ElOK_pt hmk2).2 (by rw [Nat.add_assoc])⟩
  case fp t' x =>
    replace h := go_popt h; obtain ⟨tc, htc, h⟩ := h
    replace h := go_popt h; obtain ⟨y, hy, h⟩ := h
    obtain ⟨rfl, rfl⟩ := go_ret h
    obtain ⟨ad, cs, rfl, hsp, hS, hq, hcell⟩ := hr
    obtain ⟨p, q, r, rfl, hp, hq'⟩ := sub_rel _ _ _ _ _ _ hy hq
    refine ⟨rfl, _, hrun ad, ad.add o, q, rfl, ?_, ?_, hq', fun j u hu => ?_⟩
    · unfold Addr.add; split <;> simp_all
    · unfold Addr.add; split <;> exact hS
    · have hj : j < q.length := (List.getElem?_eq_some_iff.1 hu).1
      have := hcell (o + j) u (by
        rw [List.append_assoc, List.getElem?_append_right (by omega), hp, show o + j - o = j by omega, List.getElem?_append_left hj]; exact hu)
      have e1 : (ad.add o).block = ad.block := by unfold Addr.add; split <;> rfl
      have e2 : (ad.add o).off = ad.off + o := by unfold Addr.add; split <;> simp_all
      rw [e1, e2, Nat.add_assoc]; exact this
  all_goals exact (go_fail h).elim

theorem part_run {P : Program} {t : TypeId} {ti : TI} (hti : OkTI P t ti) (w : World) (cs : List Value) (o : Nat) (hl : o + ti.size ≤ cs.length) :
    (part t cs.toArray o).run P w = .ok (if ti.agg then .agg ((cs.drop o).take ti.size).toArray else ((cs.drop o).take ti.size).headD undef) w := by
  have hp := hti.pos
  simp only [part, Sem.run_bind, agg_run hti, Result.andThen_ok]
  cases ti.agg with
  | true =>
    simp [size_run hti, List.take_drop]
  | false =>
    have hlt : o < cs.length := by omega
    obtain ⟨n, hn⟩ : ∃ n, ti.size = n + 1 := ⟨ti.size - 1, by omega⟩
    rw [hn, List.drop_eq_getElem_cons hlt]
    simp only [List.take_succ_cons, List.headD_cons]
    simp [hlt]

theorem field_ok {P : Program} {E : Env} (hE : EnvOk P E) {V : Vw} {s : TypeId} {a v : FV} {f : Nat} {u : Value} {fr fr1 : Fr} {w : World} (h : (fieldV E s a f).go fr = some (v, fr1))
    (hr : RelV V a u) : fr1 = fr ∧ Yields P (Instr.field s u f) w V v := by
  unfold fieldV at h
  replace h := go_popt h; obtain ⟨ti, ht, h⟩ := h
  replace h := go_popt h; obtain ⟨p, hf, h⟩ := h
  obtain ⟨o, ft⟩ := p
  replace h := go_popt h; obtain ⟨fi, hfi, h⟩ := h
  obtain ⟨fs, g, hu, hg, ho, hft⟩ := field_info hE ht hf
  have hft' := hE.tts _ _ hfi
  have hpos := hft'.pos
  subst ho; subst hft
  have hrun : ∀ cs : List Value, g.offset + fi.size ≤ cs.length →
      (Instr.field s (.agg cs.toArray) f).run P w = .ok (if fi.agg then .agg ((cs.drop g.offset).take fi.size).toArray else ((cs.drop g.offset).take fi.size).headD undef) w := by
    intro cs hl
    simp [Instr.field, run_underlying hu, hg, asAgg, part_run hft' w cs _ hl]
  cases a
  case dat t x =>
    replace h := go_guard h; obtain ⟨hst0, h⟩ := h
    replace h := go_popt h; obtain ⟨tc, htc, h⟩ := h
    replace h := go_popt h; obtain ⟨y, hy, h⟩ := h
    obtain ⟨rfl, rfl⟩ := go_ret h
    cases t with
    | st t =>
      obtain ⟨cs, rfl, hq⟩ := hr
      obtain ⟨p, q, r, rfl, hp, hq'⟩ := sub_rel _ _ _ _ _ _ hy hq
      obtain ⟨hsz, hst, htop⟩ := hft'.tcs tc htc
      have hl := RelD_len _ _ _ hq'
      simp only at hp
      refine ⟨rfl, _, hrun _ (by simp; omega), ?_⟩
      have e : ((p ++ q ++ r).drop g.offset).take fi.size = q := by
        rw [← hp, List.append_assoc, List.drop_left, ← hsz, ← hl, List.take_left]
      rw [e, ← hst]
      exact RelVal_of_cells htop hq'
    | pair a b => exact hr.elim
    | _ => exact absurd hst0 (by simp [Tc.isSt])
  case agg l =>
    obtain ⟨vs, rfl, hv, hone⟩ := hr
    have hlen := RelVs_len _ _ hv
    simp only at h
    split at h
    · rename_i ha
      split at h
      · rename_i hle
        obtain ⟨rfl, rfl⟩ := go_ret h
        refine ⟨rfl, _, hrun _ (by omega), ?_⟩
        rw [if_pos ha]
        exact ⟨_, rfl, RelVs_take _ _ _ (RelVs_drop _ _ _ hv), fun u hu => hone u (List.mem_of_mem_drop (List.mem_of_mem_take hu))⟩
      · exact (go_fail h).elim
    · rename_i ha
      split at h
      · rename_i hle
        replace h := go_popt h; obtain ⟨x, hx, h⟩ := h
        obtain ⟨rfl, rfl⟩ := go_ret h
        obtain ⟨u, hu1, hu2⟩ := RelVs_get _ _ _ _ hv hx
        refine ⟨rfl, _, hrun _ (by omega), ?_⟩
        rw [if_neg ha]
        have hlt : g.offset < vs.length := by omega
        obtain ⟨n, hn⟩ : ∃ n, fi.size = n + 1 := ⟨fi.size - 1, by omega⟩
        rw [hn, List.drop_eq_getElem_cons hlt]
        rw [List.getElem?_eq_getElem hlt] at hu1
        simp at hu1
        simp [hu1]; exact hu2
      · exact (go_fail h).elim
  all_goals exact (go_fail h).elim

end Go.Ev

set_option linter.unusedSimpArgs false
set_option linter.unusedVariables false
namespace Go.Ev
open Go

theorem putL_list (c : Array Value) (o : Nat) (vs : List Value) (h : o + vs.length ≤ c.size) :
    (putL c o vs).toList = c.toList.take o ++ vs ++ c.toList.drop (o + vs.length) := by
  apply List.ext_getElem?
  intro i
  rw [Array.getElem?_toList, putL_get vs c o i h]
  by_cases h1 : i < o
  · rw [if_neg (by omega), List.append_assoc, List.getElem?_append_left (by simp; omega), List.getElem?_take, if_pos h1, Array.getElem?_toList]
  · by_cases h2 : i < o + vs.length
    · rw [if_pos (by omega), List.append_assoc, List.getElem?_append_right (by simp; omega), List.getElem?_append_left (by simp; omega)]
      congr 1; simp; omega
    · rw [if_neg (by omega), List.getElem?_append_right (by simp; omega), List.getElem?_drop, Array.getElem?_toList]
      congr 1; simp; omega

theorem storeAt_cells {P : Program} {t : TypeId} {ti : TI} (hti : OkTI P t ti) (w : World) (b o : Nat) (v : Value) (c : Array Value) (e : TypeId) (hb : w.heap[b]? = some (.cells c e (0, 0)))
    (hs : v.cells.size = ti.size) (hl : o + ti.size ≤ c.size) (h1 : ∀ u ∈ v.cells.toList, u.oneCell' = true) :
    (Instr.storeAt t (.pointer (some ⟨b, o, none⟩)) v).run P w = .ok () (w.setCells b o v.cells.toList) := by
  have hst := run_storeCells_cells (P := P) b o v.cells.toList 0 w (fun j hj => by
      rw [cell_at, cell_blk hb]
      simp at hj
      have : o + 0 + j < c.size := by omega
      simp only [Array.getElem?_eq_getElem this, Option.isSome_some]) (fun j hj => by simp [World.frozen?, hb]) h1
  simp only [Nat.add_zero] at hst
  simp [Instr.storeAt, Instr.sureAddr, storeVar, size_run hti, hs, hst]

/-- What a store leaves. -/
def Left' (en : Ent) (rg : Nat → Reg) (loc : Nat → Loc) (S : Nat → Prop) (h : Array Obj) (rg1 : Nat → Reg) (h1 : Array Obj) : Prop :=
  ∃ loc1 S1, Ctx en rg1 loc1 S1 h1 ∧ (view rg loc S h).le (view rg1 loc1 S1 h1)

theorem modL_self (loc : Nat → Loc) (k : Nat) : modL loc k (loc k) = loc := by
  funext i; simp only [modL]; split
  · rename_i h; rw [h]
  · rfl

theorem setR_mod (fr : Fr) (k : Nat) (r : Reg) : (fr.setR k r).reg = modR fr.reg k k r := by rw [setR_reg, modR_self]

theorem store_ok {P : Program} {E : Env} (hE : EnvOk P E) {en : Ent} {loc S} {t : TypeId} {a x : FV} {ua ux : Value} {fr fr1 : Fr} {w : World} {q : Unit} (h : (storeV E t a x).go fr = some (q, fr1))
    (hc : Ctx en fr.reg loc S w.heap) (ha : RelV (view fr.reg loc S w.heap) a ua) (hx : RelV (view fr.reg loc S w.heap) x ux) :
    fr1.slots = fr.slots ∧ ∃ w1, (Instr.storeAt t ua ux).run P w = .ok () w1 ∧ Sm w w1 ∧ Left' en fr.reg loc S w.heap fr1.reg w1.heap := by
  unfold storeV at h
  replace h := go_popt h; obtain ⟨ti, ht, h⟩ := h
  have hti := hE.tts _ _ ht
  cases a
  case ptr k off =>
    replace h := Pr.go_bind_some h; obtain ⟨q0, fr0, hchk, h⟩ := h
    obtain ⟨rfl, hstor⟩ := chk_go hchk
    obtain ⟨hsp, hone⟩ := split_rel hx hstor
    cases hk : fr0.reg k
    case' box cs => skip
    all_goals simp only [Pr.go, hk] at h
    all_goals first | (simp [Pr.go] at h; done) | skip
    split at h
    · rename_i hcond
      obtain ⟨hlen, hle⟩ := hcond
      simp only [Pr.go, Option.some.injEq, Prod.mk.injEq] at h
      obtain ⟨_, rfl⟩ := h
      have hreg := hc.core.reg k
      rw [hk] at hreg
      obtain ⟨c, e, hb, hv, ho⟩ := hreg
      have hb' : w.heap[(loc k).blk]? = some (.cells c e (0, 0)) := hb
      have hu : ua = .pointer (some ⟨(loc k).blk, off, none⟩) := by simpa [RelV, view, ptRel, hk] using ha
      subst hu
      have hlc := RelVs_len _ _ hv
      have hls := RelVs_len _ _ hsp
      have hlc' : c.size = cs.length := by simpa using hlc
      have hls' : ux.cells.size = ti.size := by simp at hls; omega
      have hfit : off + ux.cells.toList.length ≤ c.size := by simp; omega
      refine ⟨rfl, _, storeAt_cells hti w _ off ux c e hb' hls' (by omega) hone, ⟨World.os_setCells _ _ _ _, World.output_setCells _ _ _ _⟩, ?_⟩
      obtain ⟨g1, g2, g3⟩ := setCells_heap (loc k).blk ux.cells.toList off w c e (0, 0) hb'
      have hm := ctx_mod (h' := (w.setCells (loc k).blk off ux.cells.toList).heap) (k := k) (j := k) (r := .box (cs.take off ++ x.split ++ cs.drop (off + ti.size))) (l := loc k) hc
        (by rw [hk]; trivial) (.inl rfl) (fun _ => rfl) g1 g2
        (fun _ v hv => by simp [slRel, modR]) (fun _ o v hv => by
          simp only [ptRel, hk] at hv
          simp only [ptRel, modR, if_true, modL]; exact hv) (fun _ i o v hv => by simp [elRel, modR]) (fun _ v hv => by simp [mpRel, modR])
        (fun hle => by
          refine ⟨_, e, g3, ?_, ?_⟩
          · rw [putL_list c off _ hfit]
            refine RelVs_append _ _ _ _ (RelVs_append _ _ _ _ (RelVs_take _ _ _ (RelVs_mono hle _ _ hv)) (RelVs_mono hle _ _ hsp)) ?_
            rw [show off + ux.cells.toList.length = off + ti.size by simp; omega]
            exact RelVs_drop _ _ _ (RelVs_mono hle _ _ hv)
          · rw [putL_list c off _ hfit]
            intro u hu
            simp only [List.mem_append] at hu
            rcases hu with (hu | hu) | hu
            · exact ho u (List.mem_of_mem_take hu)
            · exact hone u hu
            · exact ho u (List.mem_of_mem_drop hu))
      rw [modL_self, ← setR_mod] at hm
      exact ⟨loc, S, hm.1, hm.2⟩
    · exact (go_fail h).elim
  case ep k i off =>
    by_cases hmk : off = sufMark
    · simp only [hmk, if_true] at h; exact (go_fail h).elim
    simp only [hmk, if_false] at h
    replace h := go_popt h; obtain ⟨tc, htc, h⟩ := h
    replace h := Pr.go_bind_some h; obtain ⟨y, fr0, hclose, h⟩ := h
    obtain ⟨hs0, S1, hc1, hle1, hy⟩ := closeD_ok hclose hc hx
    have ha1 := RelV_mono hle1 _ _ ha
    cases hk : fr0.reg k
    case' arr t' xs => skip
    all_goals simp only [Pr.go, hk] at h
    all_goals first | (simp [Pr.go] at h; done) | skip
    replace h := go_guard h; obtain ⟨hi, h⟩ := h
    replace h := go_popt h; obtain ⟨z, hz, h⟩ := h
    simp [Pr.go] at h; subst h
    simp at hi
    have hreg := hc1.core.reg k
    rw [hk] at hreg
    rcases hreg with ⟨_, hx⟩ | ⟨hnil, c, e, hb, h1, h2, h3⟩
    · subst hx; simp at hi
    have hb' : w.heap[(loc k).blk]? = some (.cells c e (0, 0)) := hb
    have hu : ua = .pointer (some ⟨(loc k).blk, (loc k).off + i * t'.size + off, none⟩) := by
      have : elRel fr0.reg loc S1 w.heap k i off ua := ha1
      simp only [elRel, hk] at this
      exact (ElOK_pt hmk).1 (this.2 hnil)
    subst hu
    obtain ⟨hsz, hst, htop⟩ := hti.tcs tc htc
    have hyc := RelVal_cells hy
    have hyl := RelD_len _ _ _ hyc
    have hxi : xs[i]? = some (xs.getD i t'.dflt) := by simp [List.getD, hi]
    obtain ⟨ecs, e1, e2⟩ := h3 i _ hxi
    obtain ⟨p, m, r, rfl, hp, hm, hzr⟩ := upd_rel _ _ _ _ _ _ _ _ hz e1 hyc
    have hel := RelD_len _ _ _ e1
    simp at hel
    have hmul : i * t'.size + t'.size ≤ (loc k).cap * t'.size := by
      rw [← Nat.succ_mul]; exact Nat.mul_le_mul_right _ (by omega)
    have hyl' : ux.cells.size = ti.size := by simp at hyl; omega
    have hfit : (loc k).off + i * t'.size + off + ux.cells.toList.length ≤ c.size := by simp at hm ⊢; omega
    refine ⟨hs0, _, storeAt_cells hti w _ _ ux c e hb' hyl' (by simp at hfit; omega) (RelVal_one hy), ⟨World.os_setCells _ _ _ _, World.output_setCells _ _ _ _⟩, ?_⟩
    obtain ⟨g1, g2, g3⟩ := setCells_heap (loc k).blk ux.cells.toList ((loc k).off + i * t'.size + off) w c e (0, 0) hb'
    have hcm := ctx_mod (h' := (w.setCells (loc k).blk ((loc k).off + i * t'.size + off) ux.cells.toList).heap) (k := k) (j := k) (r := .arr t' (xs.set i z)) (l := loc k) hc1
      (by rw [hk]; exact hnil) (.inl rfl) (fun _ => rfl) g1 g2
      (fun _ v hv => by
        simp only [slRel, hk] at hv
        simp only [slRel, modR, if_true, modL, List.length_set]; exact hv) (fun _ o v hv => by simp [ptRel, modR])
      (fun _ i o v hv => by
        simp only [elRel, hk] at hv
        simp only [elRel, modR, if_true, modL, List.length_set]; exact hv) (fun _ v hv => by simp [mpRel, modR])
      (fun hle => by
        refine .inr ⟨hnil, _, e, g3, by simpa using h1, by rw [putL_size]; exact h2, fun i' x' hx' => ?_⟩
        by_cases hii : i' = i
        · subst hii
          have : x' = z := by simp [hi] at hx'; exact hx'.symm
          subst this
          refine ⟨_, RelD_mono hle.S _ _ _ hzr, fun j u hu => ?_⟩
          rw [putL_get _ _ _ _ hfit]
          have hj : j < (p ++ ux.cells.toList ++ r).length := (List.getElem?_eq_some_iff.1 hu).1
          simp at hj hm
          by_cases hj1 : j < off
          · rw [if_neg (by omega), ← e2 j u (by
              rw [List.append_assoc, List.getElem?_append_left (by omega)] at hu ⊢; exact hu)]
          · by_cases hj2 : j < off + ux.cells.size
            · rw [if_pos (by simp; omega)]
              rw [List.append_assoc, List.getElem?_append_right (by omega), List.getElem?_append_left (by simp; omega)] at hu
              rw [← hu]; congr 1; omega
            · rw [if_neg (by simp; omega), ← e2 j u (by
                rw [List.getElem?_append_right (by simp; omega)] at hu ⊢
                rw [← hu]; congr 1; simp; omega)]
        · have hx'' : xs[i']? = some x' := by rw [List.getElem?_set_ne (Ne.symm hii)] at hx'; exact hx'
          obtain ⟨ec, f1, f2⟩ := h3 i' x' hx''
          refine ⟨ec, RelD_mono hle.S _ _ _ f1, fun j u hu => ?_⟩
          rw [putL_get _ _ _ _ hfit]
          have hj : j < ec.length := (List.getElem?_eq_some_iff.1 hu).1
          rw [RelD_len _ _ _ f1] at hj
          simp at hm
          rw [if_neg ?_]
          · exact f2 j u hu
          · rintro ⟨k1, k2⟩
            simp at k2
            rcases Nat.lt_or_gt_of_ne hii with hlt | hgt
            · have : i' * t'.size + t'.size ≤ i * t'.size := by rw [← Nat.succ_mul]; exact Nat.mul_le_mul_right _ hlt
              omega
            · have : i * t'.size + t'.size ≤ i' * t'.size := by rw [← Nat.succ_mul]; exact Nat.mul_le_mul_right _ hgt
              omega)
    rw [modL_self, ← setR_mod] at hcm
    exact ⟨loc, S1, hcm.1, Vw.le_trans hle1 hcm.2⟩
  all_goals exact (go_fail h).elim

/-! ### reading slices -/
theorem asI_ok {V : Vw} {v : FV} {n : Int} {fr fr1 : Fr} {u : Value} (h : (asI v).go fr = some (n, fr1)) (hr : RelV V v u) : fr1 = fr ∧ ∃ k, u = .int k n := by
  unfold asI at h
  split at h
  · obtain ⟨rfl, rfl⟩ := go_ret h; cases hr; exact ⟨rfl, _, rfl⟩
  · exact (go_fail h).elim

theorem elem_info {P : Program} {E : Env} (hE : EnvOk P E) {t : TypeId} {tc : Tc} {b : Nat} (h : elemTc E t = some (tc, b)) :
    ∃ e ei, P.underlying t = some (.slice e) ∧ OkTI P e ei ∧ ei.tc = some tc ∧ ei.bytes = b ∧ ei.size = tc.size ∧ tc.top = true := by
  simp only [elemTc, Option.bind_eq_some_iff, Option.map_eq_some_iff] at h
  obtain ⟨ti, ht, e, he, ei, hei, tc', htc, hh⟩ := h
  cases hh
  obtain ⟨d, hd, _, h2, _⟩ := (hE.tts _ _ ht).und
  have := h2 e he; subst this
  have hok := hE.tts _ _ hei
  exact ⟨e, ei, hd, hok, htc, rfl, ((hok.tcs _ htc).1).symm, (hok.tcs _ htc).2.2⟩

theorem indexAddr_ok {P : Program} {E : Env} (hE : EnvOk P E) {loc S} {t : TypeId} {x i v : FV} {ux ui : Value} {fr fr1 : Fr} {w : World} (h : (indexAddrV E t x i).go fr = some (v, fr1))
    (hc : Core fr.reg loc S w.heap) (hx : RelV (view fr.reg loc S w.heap) x ux) (hi : RelV (view fr.reg loc S w.heap) i ui) :
    fr1 = fr ∧ Yields P (Instr.indexAt t ux ui) w (view fr.reg loc S w.heap) v := by
  unfold indexAddrV at h
  replace h := go_popt h; obtain ⟨p, hp, h⟩ := h
  obtain ⟨tc, bts⟩ := p
  obtain ⟨e, ei, hu, hok, htc, _, hsz, htop⟩ := elem_info hE hp
  replace h := Pr.go_bind_some h; obtain ⟨n, fr0, hn, h⟩ := h
  obtain ⟨rfl, k0, rfl⟩ := asI_ok hn hi
  have hrun : ∀ (ad : Addr) (len cap : Nat), 0 ≤ n → n < len → (Instr.indexAt t (.slice (some ad) len cap) (.int k0 n)).run P w = .ok (.pointer (some (ad.add (n.toNat * tc.size)))) w := by
    intro ad len cap h1 h2
    simp [Instr.indexAt, asIntOf, run_underlying hu, size_run hok, h1, h2, hsz]
  have hfz : ∀ (xs : List tc.den) (u : Value), RelD S w.heap (.slice tc) xs [u] → 0 ≤ n → n < xs.length →
      Yields P (Instr.indexAt t u (.int k0 n)) w (view fr0.reg loc S w.heap) (.fp tc (xs.getD n.toNat tc.dflt)) := by
    rintro xs u ⟨a, cap, e1, e2, e3⟩ h1 h2
    simp at e1; subst e1
    have hlt : n.toNat < xs.length := by omega
    have hxi : xs[n.toNat]? = some (xs.getD n.toNat tc.dflt) := by simp [List.getD, hlt]
    obtain ⟨ad, rfl, hsp, hS, ecs, g1, g2⟩ := e3 _ _ hxi
    refine ⟨_, hrun ad _ _ h1 h2, ad.add (n.toNat * tc.size), ecs, rfl, ?_, ?_, g1, fun j u hu => ?_⟩
    · unfold Addr.add; split <;> simp_all
    · unfold Addr.add; split <;> exact hS
    · have q1 : (ad.add (n.toNat * tc.size)).block = ad.block := by unfold Addr.add; split <;> rfl
      have q2 : (ad.add (n.toNat * tc.size)).off = ad.off + n.toNat * tc.size := by unfold Addr.add; split <;> simp_all
      rw [q1, q2]; exact g2 j u hu
  cases x
  case ep k i o =>
    have hmk : o = sufMark := by
      apply Decidable.byContradiction; intro hmk
      simp only [hmk, if_false] at h; exact (go_fail h).elim
    subst hmk
    simp only [if_true] at h
    cases hk : fr0.reg k
    case' arr t' xs => skip
    all_goals simp only [Pr.go, hk] at h
    all_goals first | (simp [Pr.go] at h; done) | skip
    split at h
    case isFalse => exact (go_fail h).elim
    rename_i ett; subst ett
    replace h := go_guard h; obtain ⟨hi0, h⟩ := h
    replace h := go_guard h; obtain ⟨h1, h⟩ := h
    replace h := go_guard h; obtain ⟨h2, h⟩ := h
    obtain ⟨rfl, rfl⟩ := go_ret h
    simp only [decide_eq_true_eq] at hi0 h1 h2
    have hreg := hc.reg k
    rw [hk] at hreg
    rcases hreg with ⟨_, hx0⟩ | ⟨hnil, _⟩
    · subst hx0; simp at hi0
    have hel : elRel _ loc S w.heap k i sufMark ux := hx
    simp only [elRel, hk] at hel
    have hel := hel.2 hnil
    unfold ElOK at hel
    rw [if_pos rfl] at hel
    obtain ⟨c, rfl⟩ := hel
    refine ⟨rfl, _, hrun _ _ _ h1 h2, ?_⟩
    rw [add_off]
    show elRel _ loc S w.heap k (i + n.toNat) 0 _
    simp only [elRel, hk]
    refine ⟨by decide, fun _ => (ElOK_pt (by decide)).2 ?_⟩
    rw [Nat.add_mul, Nat.add_assoc (loc k).off, Nat.add_zero]
  case slc k =>
    cases hk : fr0.reg k
    case' frz t' xs => skip
    case' arr t' xs => skip
    all_goals simp only [Pr.go, hk] at h
    all_goals first | (simp [Pr.go] at h; done) | skip
    · split at h
      · rename_i ett; subst ett
        replace h := go_guard h; obtain ⟨h1, h⟩ := h
        replace h := go_guard h; obtain ⟨h2, h⟩ := h
        obtain ⟨rfl, rfl⟩ := go_ret h
        simp at h1 h2
        have hlt : n.toNat < xs.length := by omega
        have hreg := hc.reg k
        rw [hk] at hreg
        rcases hreg with ⟨_, hx0⟩ | ⟨hnil, _⟩
        · subst hx0; simp at hlt
        have : ux = hdl (loc k) xs.length := by
          have : slRel fr0.reg loc S w.heap k ux := hx
          simpa [slRel, hk] using this
        subst this
        refine ⟨rfl, ?_⟩
        simp only [hdl, hnil, Bool.false_eq_true, if_false]
        refine ⟨_, hrun _ _ _ h1 h2, ?_⟩
        rw [add_off]
        show elRel fr0.reg loc S w.heap k n.toNat 0 _
        simp only [elRel, hk]
        exact ⟨by decide, fun _ => (ElOK_pt (by decide)).2 rfl⟩
      · exact (go_fail h).elim
    · split at h
      · rename_i ett; subst ett
        replace h := go_guard h; obtain ⟨h1, h⟩ := h
        replace h := go_guard h; obtain ⟨h2, h⟩ := h
        obtain ⟨rfl, rfl⟩ := go_ret h
        simp at h1 h2
        refine ⟨rfl, hfz xs ux ?_ h1 h2⟩
        have : slRel fr0.reg loc S w.heap k ux := hx
        simpa [slRel, hk] using this
      · exact (go_fail h).elim
  case dat t' xs =>
    cases t'
    case slice t' =>
      simp only at h
      split at h
      · rename_i ett; subst ett
        replace h := go_guard h; obtain ⟨h1, h⟩ := h
        replace h := go_guard h; obtain ⟨h2, h⟩ := h
        obtain ⟨rfl, rfl⟩ := go_ret h
        simp at h1 h2
        exact ⟨rfl, hfz xs ux hx h1 h2⟩
      · exact (go_fail h).elim
    all_goals exact (go_fail h).elim
  all_goals exact (go_fail h).elim

theorem str_get (s : Bytes) (n : Nat) (h : n < s.length) : (⟨s.toArray⟩ : ByteArray)[n]? = some (s.getD n 0) := by
  have h1 : n < (⟨s.toArray⟩ : ByteArray).size := by simp [ByteArray.size]; exact h
  rw [getElem?_pos (⟨s.toArray⟩ : ByteArray) n h1]
  simp [List.getD, h]
  rfl

theorem strT_ok {P : Program} {E : Env} (hE : EnvOk P E) {t : TypeId} (h : strT E t = true) : P.underlying t = some .string := by
  unfold strT at h
  split at h
  · rename_i ti ht
    split at h
    · rename_i htc
      obtain ⟨d, hd, _, _, _, _, hs, _⟩ := (hE.tts _ _ ht).und
      rw [hd, hs htc]
    · cases h
  · cases h

theorem index_ok {P : Program} {E : Env} (hE : EnvOk P E) {V : Vw} {t : TypeId} {x i v : FV} {ux ui : Value} {fr fr1 : Fr} {w : World} (h : (indexV E t x i).go fr = some (v, fr1))
    (hx : RelV V x ux) (hi : RelV V i ui) : fr1 = fr ∧ Yields P (Instr.index t ux ui) w V v := by
  unfold indexV at h
  replace h := go_guard h; obtain ⟨hT, h⟩ := h
  have ht := strT_ok hE hT
  replace h := Pr.go_bind_some h; obtain ⟨n, fr0, hn, h⟩ := h
  obtain ⟨rfl, k0, rfl⟩ := asI_ok hn hi
  split at h
  · rename_i s
    cases hx
    replace h := go_guard h; obtain ⟨h1, h⟩ := h
    replace h := go_guard h; obtain ⟨h2, h⟩ := h
    obtain ⟨rfl, rfl⟩ := go_ret h
    simp at h1 h2
    have hlt : n.toNat < s.length := by omega
    refine ⟨rfl, _, ?_, rfl⟩
    simp [Instr.index, asIntOf, run_underlying ht, h1, str_get s _ hlt]
  · exact (go_fail h).elim

end Go.Ev

set_option linter.unusedSimpArgs false
set_option linter.unusedVariables false
namespace Go.Ev
open Go

/-! ### slicing -/
theorem optI_ok {V : Vw} {v : Option FV} {d n : Int} {fr fr1 : Fr} (h : (optI v d).go fr = some (n, fr1)) (u : Option Value)
    (hr : (v = none ∧ u = none) ∨ ∃ x y, v = some x ∧ u = some y ∧ RelV V x y) : fr1 = fr ∧ ((u = none ∧ n = d) ∨ ∃ k, u = some (.int k n)) := by
  rcases hr with ⟨rfl, rfl⟩ | ⟨x, y, rfl, rfl, hr⟩
  · obtain ⟨rfl, rfl⟩ := go_ret h; exact ⟨rfl, .inl ⟨rfl, rfl⟩⟩
  · obtain ⟨rfl, k, rfl⟩ := asI_ok h hr
    exact ⟨rfl, .inr ⟨k, rfl⟩⟩

theorem bound_run {P : Program} {w : World} {k : IntKind} {n : Int} {y : Nat} {code : BoundsCode} (h1 : 0 ≤ n) (h2 : n ≤ y) :
    (Instr.sliceBound (.int k n) y code).run P w = .ok n.toNat w := by
  simp [Instr.sliceBound, asIntOf, h1, h2]

theorem bounds_run {P : Program} {w : World} (isS : Bool) (len cap : Nat) (hlc : len ≤ cap) (lo hi : Option Value) (l h : Int)
    (hh : (hi = none ∧ h = len) ∨ ∃ k, hi = some (.int k h)) (hl : (lo = none ∧ l = 0) ∨ ∃ k, lo = some (.int k l)) (h0 : 0 ≤ l) (h1 : l ≤ h) (h2 : h ≤ (len : Int)) :
    (Instr.sliceBounds isS len cap lo hi none).run P w = .ok (l.toNat, h.toNat, cap) w := by
  rcases hh with ⟨rfl, rfl⟩ | ⟨k, rfl⟩ <;> rcases hl with ⟨rfl, rfl⟩ | ⟨k', rfl⟩ <;>
    simp [Instr.sliceBounds, bound_run, h0, h1, h2, Int.le_trans h2 (Int.ofNat_le.2 hlc), Int.le_trans h0 h1, show (0:Int) ≤ (len:Int) by omega]
  all_goals (try rw [bound_run (by omega) (by omega)]; try simp)
  all_goals (try rw [bound_run (by omega) (by omega)]; try simp)

theorem RelD_slice_sub {S h} {t : Tc} {xs : List t.den} {a : Option Addr} {cap : Nat} (hr : RelD S h (.slice t) xs [.slice a xs.length cap]) (l hh : Nat) (h1 : l ≤ hh) (h2 : hh ≤ xs.length) :
    RelD S h (.slice t) ((xs.take hh).drop l) [.slice (if cap = l then a else a.map (·.add (l * t.size))) (hh - l) (cap - l)] := by
  obtain ⟨a', cap', e, hc, hx⟩ := hr
  simp at e
  obtain ⟨rfl, rfl⟩ := e
  have hlen : ((xs.take hh).drop l).length = hh - l := by simp; omega
  refine ⟨_, cap - l, by rw [hlen], by rw [hlen]; omega, fun i x hi => ?_⟩
  have hi' : i < hh - l := by rw [← hlen]; exact (List.getElem?_eq_some_iff.1 hi).1
  have hx' : xs[l + i]? = some x := by
    rw [List.getElem?_drop, List.getElem?_take] at hi
    rw [if_pos (by omega)] at hi; exact hi
  obtain ⟨ad, rfl, hsp, hS, ecs, g1, g2⟩ := hx _ _ hx'
  rw [if_neg (by omega)]
  have q1 : (ad.add (l * t.size)).block = ad.block := by unfold Addr.add; split <;> rfl
  have q2 : (ad.add (l * t.size)).off = ad.off + l * t.size := by unfold Addr.add; split <;> simp_all
  have q3 : (ad.add (l * t.size)).spot = none := by unfold Addr.add; split <;> simp_all
  refine ⟨_, rfl, q3, by rw [q1]; exact hS, ecs, g1, fun j u hu => ?_⟩
  rw [q1, q2, Nat.add_assoc ad.off, ← Nat.add_mul]
  exact g2 j u hu

theorem str_extract (s : Bytes) (l h : Nat) (h2 : h ≤ s.length) : (⟨s.toArray⟩ : ByteArray).extract l h = ⟨((s.take h).drop l).toArray⟩ := by
  apply ByteArray.ext
  rw [ByteArray.data_extract]
  apply Array.ext'
  simp [List.take_drop]
  by_cases hlh : l ≤ h
  · rw [show l + (h - l) = h by omega]
  · rw [List.drop_eq_nil_of_le (by simp; omega), List.drop_eq_nil_of_le (by simp; omega)]

theorem slice_ok {P : Program} {E : Env} (hE : EnvOk P E) {en : Ent} {loc S} {t : TypeId} {x v : FV} {lo hi : Option FV} {ux : Value} {ulo uhi : Option Value} {fr fr1 : Fr} {w : World}
    (h : (sliceV E t x lo hi).go fr = some (v, fr1)) (hc : Ctx en fr.reg loc S w.heap) (hx : RelV (view fr.reg loc S w.heap) x ux)
    (hlo : (lo = none ∧ ulo = none) ∨ ∃ x y, lo = some x ∧ ulo = some y ∧ RelV (view fr.reg loc S w.heap) x y)
    (hhi : (hi = none ∧ uhi = none) ∨ ∃ x y, hi = some x ∧ uhi = some y ∧ RelV (view fr.reg loc S w.heap) x y) :
    fr1.slots = fr.slots ∧ ∃ u, (Instr.sliceAt t ux ulo uhi none).run P w = .ok u w ∧ Good en fr.reg loc S w.heap fr1.reg w.heap v u := by
  have main : ∀ x, (popt (elemTc E t) fun p => (closeD (.slice p.1) x).bind fun s => (optI hi s.length).bind fun h => (optI lo 0).bind fun l => guard (decide (0 ≤ l)) (guard (decide (l ≤ h)) (guard (decide (h ≤ (s.length : Int)))
      (.ret (.dat (.slice p.1) ((s.take h.toNat).drop l.toNat)))))).go fr = some (v, fr1) → RelV (view fr.reg loc S w.heap) x ux →
      fr1.slots = fr.slots ∧ ∃ u, (Instr.sliceAt t ux ulo uhi none).run P w = .ok u w ∧ Good en fr.reg loc S w.heap fr1.reg w.heap v u := by
    intro x h hx
    replace h := go_popt h; obtain ⟨p, hp, h⟩ := h
    obtain ⟨tc, b⟩ := p
    obtain ⟨e, ei, hu, hok, htc, _, hsz, htop⟩ := elem_info hE hp
    replace h := Pr.go_bind_some h; obtain ⟨s, fr2, hs, h⟩ := h
    obtain ⟨g0, S1, g1, g2, g3⟩ := closeD_ok hs hc hx
    replace h := Pr.go_bind_some h; obtain ⟨hh, fr3, hhh, h⟩ := h
    obtain ⟨rfl, hh'⟩ := optI_ok (V := view fr.reg loc S w.heap) hhh uhi hhi
    replace h := Pr.go_bind_some h; obtain ⟨ll, fr4, hll, h⟩ := h
    obtain ⟨rfl, hl'⟩ := optI_ok (V := view fr.reg loc S w.heap) hll ulo hlo
    replace h := go_guard h; obtain ⟨h1, h⟩ := h
    replace h := go_guard h; obtain ⟨h2, h⟩ := h
    replace h := go_guard h; obtain ⟨h3, h⟩ := h
    obtain ⟨rfl, rfl⟩ := go_ret h
    simp at h1 h2 h3
    have g3' := g3
    obtain ⟨a, cap, e1, e2, e3⟩ := g3
    simp at e1; subst e1
    have hb := bounds_run (P := P) (w := w) true s.length cap e2 ulo uhi ll hh hh' hl' h1 h2 h3
    refine ⟨g0, _, ?_, loc, S1, g1, g2, RelD_slice_sub g3' ll.toNat hh.toNat (by omega) (by omega)⟩
    simp [Instr.sliceAt, run_underlying hu, Instr.slice, hb, size_run hok, hsz]
  cases x
  case dat t' s =>
    cases t'
    case str =>
      simp only [sliceV] at h
      cases hx
      replace h := go_guard h; obtain ⟨hT, h⟩ := h
      have ht := strT_ok hE hT
      replace h := Pr.go_bind_some h; obtain ⟨hh, fr3, hhh, h⟩ := h
      obtain ⟨rfl, hh'⟩ := optI_ok (V := view fr.reg loc S w.heap) hhh uhi hhi
      replace h := Pr.go_bind_some h; obtain ⟨ll, fr4, hll, h⟩ := h
      obtain ⟨rfl, hl'⟩ := optI_ok (V := view fr3.reg loc S w.heap) hll ulo hlo
      replace h := go_guard h; obtain ⟨h1, h⟩ := h
      replace h := go_guard h; obtain ⟨h2, h⟩ := h
      replace h := go_guard h; obtain ⟨h3, h⟩ := h
      obtain ⟨rfl, rfl⟩ := go_ret h
      simp at h1 h2 h3
      have hsz : (⟨List.toArray s⟩ : ByteArray).size = List.length s := by simp [ByteArray.size]
      have hb := bounds_run (P := P) (w := w) false (List.length s) (List.length s) (Nat.le_refl _) ulo uhi ll hh hh' hl' h1 h2 h3
      refine ⟨rfl, .string ⟨(((List.take hh.toNat s).drop ll.toNat)).toArray⟩, ?_, good_same hc rfl⟩
      simp [Instr.sliceAt, run_underlying ht, Instr.slice, hsz, hb]
      exact str_extract s _ _ (by omega)
    all_goals exact main _ h hx
  all_goals exact main _ h hx

theorem reslice_ok {P : Program} {E : Env} (hE : EnvOk P E) {en : Ent} {loc S} {dst : Option Tmp} {t : TypeId} {x v : FV} {lo hi : Option FV} {ux : Value} {ulo uhi : Option Value} {fr fr1 : Fr} {w : World}
    (h : (resliceV E dst t x lo hi).go fr = some (v, fr1)) (hc : Ctx en fr.reg loc S w.heap) (hx : RelV (view fr.reg loc S w.heap) x ux)
    (hlo : (lo = none ∧ ulo = none) ∨ ∃ x y, lo = some x ∧ ulo = some y ∧ RelV (view fr.reg loc S w.heap) x y)
    (hhi : (hi = none ∧ uhi = none) ∨ ∃ x y, hi = some x ∧ uhi = some y ∧ RelV (view fr.reg loc S w.heap) x y) :
    fr1.slots = fr.slots ∧ ∃ u, (Instr.sliceAt t ux ulo uhi none).run P w = .ok u w ∧ Good en fr.reg loc S w.heap fr1.reg w.heap v u := by
  cases x
  case slc k =>
    simp only [resliceV] at h
    replace h := go_popt h; obtain ⟨p, hp, h⟩ := h
    obtain ⟨tc, b⟩ := p
    obtain ⟨e, ei, hu, hok, htc, _, hsz, htop⟩ := elem_info hE hp
    cases hk : fr.reg k
    case' arr t' s => skip
    all_goals simp only [takeAt, Pr.bind, Pr.go, hk] at h
    all_goals first | (simp [Pr.go, Pr.bind] at h; done) | skip
    case frz =>
      split at h
      · simp only [Pr.bind] at h
        replace h := Pr.go_bind_some h; obtain ⟨hh, fr3, hhh, h⟩ := h
        obtain ⟨rfl, hh'⟩ := optI_ok (V := view fr.reg loc S w.heap) hhh uhi hhi
        replace h := Pr.go_bind_some h; obtain ⟨ll, fr4, hll, h⟩ := h
        obtain ⟨rfl, hl'⟩ := optI_ok (V := view fr3.reg loc S w.heap) hll ulo hlo
        replace h := go_guard h; obtain ⟨h1, h⟩ := h
        replace h := go_guard h; obtain ⟨h2, h⟩ := h
        replace h := go_guard h; obtain ⟨h3, h⟩ := h
        simp [Pr.go, hk] at h
      · simp [Pr.bind, Pr.go] at h
    case arr =>
      split at h
      · rename_i ett; subst ett
        simp only [Bool.false_eq_true, if_false, Pr.bind] at h
        replace h := Pr.go_bind_some h; obtain ⟨hh, fr3, hhh, h⟩ := h
        obtain ⟨rfl, hh'⟩ := optI_ok (V := view fr.reg loc S w.heap) hhh uhi hhi
        replace h := Pr.go_bind_some h; obtain ⟨ll, fr4, hll, h⟩ := h
        obtain ⟨rfl, hl'⟩ := optI_ok (V := view fr3.reg loc S w.heap) hll ulo hlo
        replace h := go_guard h; obtain ⟨h1, h⟩ := h
        replace h := go_guard h; obtain ⟨h2, h⟩ := h
        replace h := go_guard h; obtain ⟨h3, h⟩ := h
        simp only [Pr.go, hk, newReg] at h
        simp at h1 h2 h3
        cases hs : (fr4.setR k .dead).reg (siteOf dst)
        all_goals rw [hs] at h
        all_goals first | (simp [Pr.go] at h; done) | skip
        simp only [Pr.go, Option.some.injEq, Prod.mk.injEq] at h
        obtain ⟨rfl, rfl⟩ := h
        have hne : siteOf dst ≠ k := by
          intro e; rw [e, Fr.reg_setR] at hs; simp at hs
        have hs' : fr4.reg (siteOf dst) = .abs := by rw [Fr.reg_setR, if_neg (Ne.symm hne)] at hs; exact hs
        have hux : ux = hdl (loc k) s.length := by
          have : slRel fr4.reg loc S w.heap k ux := hx
          simpa [slRel, hk] using this
        subst hux
        have hreg := hc.core.reg k
        rw [hk] at hreg
        have hlen : ((s.take hh.toNat).drop ll.toNat).length = hh.toNat - ll.toNat := by simp; omega
        refine ⟨rfl, ?_⟩
        have hrg : ((fr4.setR k .dead).setR (siteOf dst) (.arr t' ((s.take hh.toNat).drop ll.toNat))).reg = modR fr4.reg k (siteOf dst) (.arr t' ((s.take hh.toNat).drop ll.toNat)) := by
          funext i; rw [Fr.reg_setR, Fr.reg_setR]; simp only [modR, eq_comm (a := i)]
        rcases hreg with ⟨hn, rfl⟩ | ⟨hnil, c, ce, hb, q1, q2, q3⟩
        · -- nothing in it
          have e1 : hh = 0 := by simp at h3; omega
          have e2 : ll = 0 := by omega
          subst e1; subst e2
          have hb := bounds_run (P := P) (w := w) true 0 0 (Nat.le_refl _) ulo uhi 0 0 (by simpa using hh') hl' (by omega) (by omega) (by simp)
          refine ⟨.slice (loc k).base 0 0, by simp [hdl, hn, Instr.sliceAt, run_underlying hu, Instr.slice, hb, size_run hok], ?_⟩
          obtain ⟨k1, k2⟩ := ctx_kill (k := k) hc
          have hs2 : (fun i => if i = k then Reg.dead else fr4.reg i) (siteOf dst) = .abs := by simp [hne, hs']
          obtain ⟨k3, k4⟩ := ctx_new (j := siteOf dst) (r := .arr t' []) (l := ⟨0, 0, 0, true, (loc k).base⟩) (h' := w.heap) k1 hs2 (fun ho => by simp [owns] at ho) (Nat.le_refl _) (fun _ _ => rfl) (fun _ => .inl ⟨rfl, rfl⟩)
          have e3 : modR (fun i => if i = k then Reg.dead else fr4.reg i) (siteOf dst) (siteOf dst) (.arr t' []) = modR fr4.reg k (siteOf dst) (.arr t' []) := by
            funext i; simp only [modR]; split <;> rfl
          rw [e3] at k3 k4
          simp only [Int.toNat_zero, List.take_zero, List.drop_zero] at hrg ⊢
          rw [hrg]
          refine ⟨_, S, k3, Vw.le_trans k2 k4, ?_⟩
          show slRel _ _ _ _ _ _
          simp [slRel, modR, modL, hdl]
        · have hb2 : w.heap[(loc k).blk]? = some (.cells c ce (0, 0)) := hb
          have hbr := bounds_run (P := P) (w := w) true s.length (loc k).cap q1 ulo uhi ll hh hh' hl' h1 h2 h3
          refine ⟨_, by simp [hdl, hnil, Instr.sliceAt, run_underlying hu, Instr.slice, hbr, size_run hok]; rfl, ?_⟩
          have hoff : (loc k).cap = ll.toNat ∨ (loc k).cap ≠ ll.toNat := Decidable.em _
          have hm := ctx_mod (h' := w.heap) (k := k) (j := siteOf dst) (r := .arr t' ((s.take hh.toNat).drop ll.toNat))
            (l := ⟨(loc k).blk, if (loc k).cap = ll.toNat then (loc k).off else (loc k).off + ll.toNat * t'.size, (loc k).cap - ll.toNat, false, none⟩) hc (by rw [hk]; exact hnil) (.inr hs') (fun _ => rfl) rfl (fun _ _ => rfl)
            (fun e => absurd e hne) (fun e => absurd e hne) (fun e => absurd e hne) (fun e => absurd e hne)
            (fun hle => by
              refine .inr ⟨rfl, c, ce, hb2, by simp only [hlen]; omega, ?_, fun i x hi => ?_⟩
              · simp only
                split
                · rename_i hcap; rw [hcap]; simp
                  have : (loc k).off ≤ (loc k).off + (loc k).cap * t'.size := Nat.le_add_right _ _
                  omega
                · have : ll.toNat * t'.size + ((loc k).cap - ll.toNat) * t'.size = (loc k).cap * t'.size := by
                    rw [← Nat.add_mul]; congr 1; omega
                  omega
              · have hi' : i < hh.toNat - ll.toNat := by rw [← hlen]; exact (List.getElem?_eq_some_iff.1 hi).1
                have hx' : s[ll.toNat + i]? = some x := by
                  rw [List.getElem?_drop, List.getElem?_take] at hi
                  rw [if_pos (by omega)] at hi; exact hi
                obtain ⟨ecs, g1, g2⟩ := q3 _ _ hx'
                refine ⟨ecs, RelD_mono hle.S _ _ _ g1, fun j u hu => ?_⟩
                have := g2 j u hu
                simp only
                rw [if_neg (by omega), Nat.add_assoc (loc k).off, ← Nat.add_mul]
                exact this)
          rw [hrg]
          refine ⟨_, S, hm.1, hm.2, ?_⟩
          show slRel _ _ _ _ _ _
          simp only [slRel, modR, if_true, modL, hdl, Bool.false_eq_true, if_false, hlen]
          split <;> simp [add_off, hsz]
      · simp [Pr.bind, Pr.go] at h
  all_goals exact (go_fail h).elim

/-! ### length, greatest, least -/
theorem lenS_ok {P : Program} {E : Env} (hE : EnvOk P E) {loc S} {t : TypeId} {x v : FV} {ux : Value} {fr fr1 : Fr} {w : World} {ty : TypeId} (h : (lenS E t x).go fr = some (v, fr1))
    (hc : Core fr.reg loc S w.heap) (hx : RelV (view fr.reg loc S w.heap) x ux) : fr1 = fr ∧ Yields P (Builtin.len_ #[t] ty #[ux]) w (view fr.reg loc S w.heap) v := by
  unfold lenS at h
  replace h := go_popt h; obtain ⟨p, hp, h⟩ := h
  obtain ⟨tc, b⟩ := p
  obtain ⟨e, ei, hu, _⟩ := elem_info hE hp
  have hrun : ∀ (a : Option Addr) (n cap : Nat), (Builtin.len_ #[t] ty #[.slice a n cap]).run P w = .ok (.int .i64 n) w := by
    intro a n cap; simp [Builtin.len_, run_underlying hu, goInt]
  have hfz : ∀ (t' : Tc) (xs : List t'.den), RelD S w.heap (.slice t') xs [ux] → Yields P (Builtin.len_ #[t] ty #[ux]) w (view fr.reg loc S w.heap) (dI .i64 xs.length) := by
    rintro t' xs ⟨a, cap, e1, _⟩
    simp at e1; subst e1
    exact ⟨_, hrun _ _ _, rfl⟩
  cases x
  case dat t' xs =>
    cases t'
    case slice t' =>
      obtain ⟨rfl, rfl⟩ := go_ret h
      exact ⟨rfl, hfz t' xs hx⟩
    all_goals exact (go_fail h).elim
  case ep k i o =>
    have hmk : o = sufMark := by
      apply Decidable.byContradiction; intro hmk
      simp only [hmk, if_false] at h; exact (go_fail h).elim
    subst hmk
    simp only [if_true] at h
    cases hk : fr.reg k
    case' arr t' xs => skip
    all_goals simp only [Pr.go, hk] at h
    all_goals first | (simp [Pr.go] at h; done) | skip
    replace h := go_guard h; obtain ⟨hi, h⟩ := h
    obtain ⟨rfl, rfl⟩ := go_ret h
    simp at hi
    have hreg := hc.reg k
    rw [hk] at hreg
    rcases hreg with ⟨_, hx0⟩ | ⟨hnil, _⟩
    · subst hx0; simp at hi
    have hel : elRel _ loc S w.heap k i sufMark ux := hx
    simp only [elRel, hk] at hel
    have hel := hel.2 hnil
    unfold ElOK at hel
    rw [if_pos rfl] at hel
    obtain ⟨c, rfl⟩ := hel
    exact ⟨rfl, _, hrun _ _ _, rfl⟩
  case nil0 =>
    obtain ⟨rfl, rfl⟩ := go_ret h
    obtain ⟨a0, rfl⟩ := hx
    exact ⟨rfl, _, hrun _ _ _, rfl⟩
  case slc k =>
    have hx' : slRel fr.reg loc S w.heap k ux := hx
    cases hk : fr.reg k
    case arr t' xs =>
      simp only [Pr.go, hk, Option.some.injEq, Prod.mk.injEq] at h
      obtain ⟨rfl, rfl⟩ := h
      simp only [slRel, hk] at hx'; subst hx'
      refine ⟨rfl, ?_⟩
      have hreg := hc.reg k
      rw [hk] at hreg
      rcases hreg with ⟨hn, rfl⟩ | ⟨hn, _⟩
      · simp only [hdl, hn, if_true]
        exact ⟨_, hrun _ _ _, rfl⟩
      · simp only [hdl, hn, Bool.false_eq_true, if_false]
        exact ⟨_, hrun _ _ _, rfl⟩
    case frz t' xs =>
      simp only [Pr.go, hk, Option.some.injEq, Prod.mk.injEq] at h
      obtain ⟨rfl, rfl⟩ := h
      simp only [slRel, hk] at hx'
      exact ⟨rfl, hfz _ _ hx'⟩
    all_goals simp [Pr.go, hk] at h
  all_goals exact (go_fail h).elim

theorem len_ok {P : Program} {E : Env} (hE : EnvOk P E) {loc S} {t : TypeId} {x v : FV} {ux : Value} {fr fr1 : Fr} {w : World} {ty : TypeId} (h : (lenV E t x).go fr = some (v, fr1))
    (hc : Core fr.reg loc S w.heap) (hx : RelV (view fr.reg loc S w.heap) x ux) : fr1 = fr ∧ Yields P (Builtin.len_ #[t] ty #[ux]) w (view fr.reg loc S w.heap) v := by
  unfold lenV at h
  split at h
  · rename_i s
    replace h := go_guard h; obtain ⟨hT, h⟩ := h
    have ht := strT_ok hE hT
    obtain ⟨rfl, rfl⟩ := go_ret h
    cases hx
    have hsz : (⟨List.toArray s⟩ : ByteArray).size = List.length s := by simp [ByteArray.size]
    refine ⟨rfl, _, ?_, rfl⟩
    simp [Builtin.len_, run_underlying ht, goInt, hsz]
  · exact lenS_ok hE h hc hx

theorem mx_ok {P : Program} {V : Vw} {l : List FV} {us : List Value} {v : FV} {fr fr1 : Fr} {w : World} {ts : Array TypeId} {ty : TypeId} (h : (mxV l).go fr = some (v, fr1)) (hr : RelVs V l us) :
    fr1 = fr ∧ Yields P (Builtin.max_ ts ty us.toArray) w V v := by
  unfold mxV at h
  split at h
  · split at h
    · rename_i ek; subst ek
      obtain ⟨rfl, rfl⟩ := go_ret h
      obtain ⟨u1, us1, rfl, r1, u2, us2, rfl, r2, r3⟩ := hr
      cases r1; cases r2; cases r3
      exact ⟨rfl, _, by simp [Builtin.max_, Builtin.max2], rfl⟩
    · exact (go_fail h).elim
  · exact (go_fail h).elim

theorem mn_ok {P : Program} {V : Vw} {l : List FV} {us : List Value} {v : FV} {fr fr1 : Fr} {w : World} {ts : Array TypeId} {ty : TypeId} (h : (mnV l).go fr = some (v, fr1)) (hr : RelVs V l us) :
    fr1 = fr ∧ Yields P (Builtin.min_ ts ty us.toArray) w V v := by
  unfold mnV at h
  split at h
  · split at h
    · rename_i ek; subst ek
      obtain ⟨rfl, rfl⟩ := go_ret h
      obtain ⟨u1, us1, rfl, r1, u2, us2, rfl, r2, r3⟩ := hr
      cases r1; cases r2; cases r3
      exact ⟨rfl, _, by simp [Builtin.min_, Builtin.min2], rfl⟩
    · exact (go_fail h).elim
  · exact (go_fail h).elim

theorem zeroV_ok {P : Program} {E : Env} (hE : EnvOk P E) {loc S} {t : TypeId} {x v : FV} {ux : Value} {k1 k2 : IntKind} {fr fr1 : Fr} {w : World} (h : (zeroV E t x).go fr = some (v, fr1)) (hc : Core fr.reg loc S w.heap)
    (hx : RelV (view fr.reg loc S w.heap) x ux) : fr1 = fr ∧ Yields P (Instr.sliceAt t ux none (some (.int k1 0)) (some (.int k2 0))) w (view fr.reg loc S w.heap) v := by
  unfold zeroV at h
  replace h := go_popt h; obtain ⟨p, hp, h⟩ := h
  obtain ⟨tc, b⟩ := p
  obtain ⟨e, ei, hu, hok, _⟩ := elem_info hE hp
  have hz : ∀ (a : Option Addr) (n cap : Nat), Yields P (Instr.sliceAt t (.slice a n cap) none (some (.int k1 0)) (some (.int k2 0))) w (view fr.reg loc S w.heap) .nil0 := by
    intro a n cap
    refine ⟨.slice a 0 0, ?_, a, rfl⟩
    simp [Instr.sliceAt, run_underlying hu, Instr.slice, Instr.sliceBounds, Instr.sliceBound, asIntOf, size_run hok]
  have hd : ∀ (t' : Tc) (xs : List t'.den), RelD S w.heap (.slice t') xs [ux] → Yields P (Instr.sliceAt t ux none (some (.int k1 0)) (some (.int k2 0))) w (view fr.reg loc S w.heap) .nil0 := by
    rintro t' xs ⟨a, cap, e1, e2, _⟩
    simp at e1; subst e1
    exact hz _ _ _
  cases x
  case dat t' xs =>
    cases t'
    case slice t' =>
      obtain ⟨rfl, rfl⟩ := go_ret h
      exact ⟨rfl, hd t' xs hx⟩
    all_goals exact (go_fail h).elim
  case nil0 =>
    obtain ⟨rfl, rfl⟩ := go_ret h
    obtain ⟨a0, rfl⟩ := hx
    exact ⟨rfl, hz _ _ _⟩
  case slc k =>
    have hx' : slRel fr.reg loc S w.heap k ux := hx
    cases hk : fr.reg k
    case arr t' xs =>
      simp only [Pr.go, hk, Option.some.injEq, Prod.mk.injEq] at h
      obtain ⟨rfl, rfl⟩ := h
      simp only [slRel, hk] at hx'; subst hx'
      refine ⟨rfl, ?_⟩
      unfold hdl
      split
      · exact hz _ _ _
      · exact hz _ _ _
    case frz t' xs =>
      simp only [Pr.go, hk, Option.some.injEq, Prod.mk.injEq] at h
      obtain ⟨rfl, rfl⟩ := h
      simp only [slRel, hk] at hx'
      exact ⟨rfl, hd t' xs hx'⟩
    all_goals simp [Pr.go, hk] at h
  all_goals exact (go_fail h).elim

end Go.Ev

set_option linter.unusedSimpArgs false
set_option linter.unusedVariables false
namespace Go.Ev
open Go

theorem newReg_go {dst : Option Tmp} {r : Reg} {x v : FV} {fr fr1 : Fr} (h : (newReg dst r x).go fr = some (v, fr1)) :
    fr.reg (siteOf dst) = .abs ∧ v = x ∧ fr1 = fr.setR (siteOf dst) r := by
  unfold newReg at h
  cases hs : fr.reg (siteOf dst) <;> simp only [Pr.go, hs] at h <;> first | (simp [Pr.go] at h; done) | skip
  simp only [Option.some.injEq, Prod.mk.injEq] at h
  exact ⟨rfl, h.1.symm, h.2.symm⟩

theorem push_old {h : Array Obj} {o : Obj} {b : Nat} (hb : b < h.size) : (h.push o)[b]? = h[b]? := by
  rw [Array.getElem?_push_lt hb]; simp [hb]

theorem box_new {en : Ent} {loc S} {dst : Option Tmp} {cells : List FV} {v : FV} {fr fr1 : Fr} {w : World} (h : (newReg dst (.box cells) (.ptr (siteOf dst) 0)).go fr = some (v, fr1))
    (hc : Ctx en fr.reg loc S w.heap) {c : Array Value} {e : TypeId} (hv : RelVs (view fr.reg loc S w.heap) cells c.toList) (ho : ∀ u ∈ c.toList, u.oneCell' = true) :
    fr1.slots = fr.slots ∧ Good en fr.reg loc S w.heap fr1.reg (w.heap.push (.cells c e)) v (.pointer (some ⟨w.heap.size, 0, none⟩)) := by
  obtain ⟨h1, rfl, rfl⟩ := newReg_go h
  refine ⟨rfl, ?_⟩
  have hm := ctx_new (h' := w.heap.push (.cells c e)) (j := siteOf dst) (r := .box cells) (l := ⟨w.heap.size, 0, 0, false, none⟩) hc h1 (fun _ => ⟨rfl, by simp⟩) (by simp) (fun b hb => push_old hb)
    (fun hle => ⟨c, e, by simp [view], RelVs_mono hle _ _ hv, ho⟩)
  rw [← setR_mod] at hm
  refine ⟨_, S, hm.1, hm.2, ?_⟩
  show ptRel _ _ _ _ _
  simp [ptRel, Fr.reg_setR, modL]

theorem alloc_run {P : Program} {t : TypeId} {i : TypeInfo} {z : Value} (hi : P.info? t = some i) (hz : i.zero = some z) (w : World) :
    (Instr.alloc t true (.tuple #[])).run P w = .ok (.pointer (some ⟨w.heap.size, 0, none⟩)) { w with heap := w.heap.push (.cells z.cells t) } := by
  simp [Instr.alloc, zeroValue, typeInfo, hi, hz, newVar, newRow]

theorem box_run {P : Program} {t : TypeId} {v : Value} (w : World) :
    (Instr.box t v).run P w = .ok (.pointer (some ⟨w.heap.size, 0, none⟩)) { w with heap := w.heap.push (.cells v.cells t) } := by
  simp [Instr.box, newVar, newRow]

/-! ### filling -/
/-- A row of cells that holds data. -/
def Row (S : Nat → Prop) (h : Array Obj) (t : Tc) (xs : List t.den) (c : List Value) (o : Nat) : Prop :=
  ∀ i x, xs[i]? = some x → ∃ ecs, RelD S h t x ecs ∧ ∀ j u, ecs[j]? = some u → c[o + i * t.size + j]? = some u

theorem Row_mono {S S' : Nat → Prop} {h h' : Array Obj} (hs : ∀ b, S b → S' b ∧ h'[b]? = h[b]?) {t : Tc} {xs : List t.den} {c : List Value} {o : Nat} (hr : Row S h t xs c o) : Row S' h' t xs c o := by
  intro i x hx
  obtain ⟨ecs, h1, h2⟩ := hr i x hx
  exact ⟨ecs, RelD_mono hs _ _ _ h1, h2⟩

theorem fold_set (vs : List Value) : ∀ (cs : Array Value) (off n : Nat), (vs.zipIdx n).foldl (fun cs (p : Value × Nat) => cs.setIfInBounds (off + p.2) p.1) cs = putL cs (off + n) vs := by
  induction vs with
  | nil => intro cs off n; rfl
  | cons v vs ih => intro cs off n; simp only [List.zipIdx_cons, List.foldl_cons, putL]; rw [ih]; rfl

theorem fill_cons (place : Nat → Option (Nat × Nat)) (cells : Array Value) (i : Nat) (v : Value) (rest : List (Nat × Value)) (off size : Nat) (hp : place i = some (off, size)) (hs : v.cells.size = size)
    (hf : off + size ≤ cells.size) : Instr.fill place cells ((i, v) :: rest) = Instr.fill place (putL cells off v.cells.toList) rest := by
  simp only [Instr.fill, hp]
  rw [if_neg (by simp [hs]; omega)]
  congr 1
  rw [← Array.foldl_toList, Array.toList_zipIdx]
  have := fold_set v.cells.toList cells off 0
  simpa using this

theorem Row_set {S h} {t : Tc} {xs : List t.den} {c : Array Value} {i : Nat} {y : t.den} {vs : List Value} (hr : Row S h t xs c.toList 0) (hy : RelD S h t y vs) (hi : i < xs.length) (hsz : c.size = xs.length * t.size) :
    Row S h t (xs.set i y) (putL c (i * t.size) vs).toList 0 := by
  have hl := RelD_len _ _ _ hy
  have hmul : i * t.size + t.size ≤ xs.length * t.size := by rw [← Nat.succ_mul]; exact Nat.mul_le_mul_right _ hi
  have hfit : i * t.size + vs.length ≤ c.size := by omega
  intro i' x' hx'
  by_cases hii : i' = i
  · subst hii
    have : x' = y := by simp [hi] at hx'; exact hx'.symm
    subst this
    refine ⟨vs, hy, fun j u hu => ?_⟩
    rw [Array.getElem?_toList, putL_get _ _ _ _ hfit]
    have hj : j < vs.length := (List.getElem?_eq_some_iff.1 hu).1
    rw [if_pos (by omega)]
    rw [← hu]; congr 1; omega
  · have hx'' : xs[i']? = some x' := by rw [List.getElem?_set_ne (Ne.symm hii)] at hx'; exact hx'
    obtain ⟨ec, f1, f2⟩ := hr i' x' hx''
    refine ⟨ec, f1, fun j u hu => ?_⟩
    rw [Array.getElem?_toList, putL_get _ _ _ _ hfit]
    have hj : j < ec.length := (List.getElem?_eq_some_iff.1 hu).1
    rw [RelD_len _ _ _ f1] at hj
    rw [if_neg ?_]
    · rw [← Array.getElem?_toList]; exact f2 j u hu
    · rintro ⟨k1, k2⟩
      rcases Nat.lt_or_gt_of_ne hii with hlt | hgt
      · have : i' * t.size + t.size ≤ i * t.size := by rw [← Nat.succ_mul]; exact Nat.mul_le_mul_right _ hlt
        omega
      · have : i * t.size + t.size ≤ i' * t.size := by rw [← Nat.succ_mul]; exact Nat.mul_le_mul_right _ hgt
        omega

theorem buildArr_ok {E : Env} {en : Ent} {loc} {tc : Tc} {a : Act} {h : Array Obj} : ∀ (ps : List (Nat × Operand)) (xs ys : List tc.den) (fr fr1 : Fr) (S : Nat → Prop) (c : Array Value),
    (buildArr E tc ps xs).go fr = some (ys, fr1) → Ctx en fr.reg loc S h → RelVs (view fr.reg loc S h) fr.slots a.tmps.toList → Row S h tc xs c.toList 0 → c.size = xs.length * tc.size →
    fr1.slots = fr.slots ∧ ∃ S1 c1, Ctx en fr1.reg loc S1 h ∧ (view fr.reg loc S h).le (view fr1.reg loc S1 h) ∧ ys.length = xs.length ∧ c1.size = c.size ∧ Row S1 h tc ys c1.toList 0 ∧
      Instr.fill (fun i => some (i * tc.size, tc.size)) c (ps.map fun p => (p.1, a.eval p.2)) = some c1
  | [], xs, ys, fr, fr1, S, c, hg, hc, hs, hr, hsz => by
    simp [buildArr, Pr.go] at hg
    obtain ⟨rfl, rfl⟩ := hg
    exact ⟨rfl, S, c, hc, Vw.le_refl _, rfl, rfl, hr, rfl⟩
  | (i, x) :: ps, xs, ys, fr, fr1, S, c, hg, hc, hs, hr, hsz => by
    simp only [buildArr] at hg
    split at hg
    · rename_i hi
      replace hg := Pr.go_bind_some hg; obtain ⟨v, fr2, h1, hg⟩ := hg
      obtain ⟨rfl, hv⟩ := opnd_ok h1 hs
      replace hg := Pr.go_bind_some hg; obtain ⟨y, fr3, h2, hg⟩ := hg
      obtain ⟨g0, S1, g1, g2, g3⟩ := closeD_ok h2 hc hv
      have hyc := RelVal_cells g3
      have hyl := RelD_len _ _ _ hyc
      have hmul : i * tc.size + tc.size ≤ xs.length * tc.size := by rw [← Nat.succ_mul]; exact Nat.mul_le_mul_right _ hi
      have hr1 := Row_set (Row_mono g2.S hr) hyc hi hsz
      obtain ⟨k0, S2, c2, k1, k2, k3, k4, k5, k6⟩ := buildArr_ok ps _ ys fr3 fr1 S1 (putL c (i * tc.size) (a.eval x).cells.toList) hg g1 (by rw [g0]; exact RelVs_mono g2 _ _ hs) hr1
        (by rw [putL_size, List.length_set]; exact hsz)
      refine ⟨by rw [k0, g0], S2, c2, k1, Vw.le_trans g2 k2, by rw [k3, List.length_set], by rw [k4, putL_size], k5, ?_⟩
      simp only [List.map_cons]
      rw [fill_cons _ _ _ _ _ (i * tc.size) tc.size rfl (by simp at hyl; exact hyl) (by omega)]
      exact k6
    · exact (go_fail hg).elim

/-- A new array. -/
theorem arr_new {en : Ent} {rg loc S} {j : Nat} {h : Array Obj} {t : Tc} {xs : List t.den} {c : Array Value} {e : TypeId} {cap : Nat} (hc : Ctx en rg loc S h) (hj : rg j = .abs)
    (hr : Row S h t xs c.toList 0) (h1 : xs.length ≤ cap) (h2 : cap * t.size ≤ c.size) :
    ∃ loc1, Ctx en (modR rg j j (.arr t xs)) loc1 S (h.push (.cells c e)) ∧ (view rg loc S h).le (view (modR rg j j (.arr t xs)) loc1 S (h.push (.cells c e))) ∧
      slRel (modR rg j j (.arr t xs)) loc1 S (h.push (.cells c e)) j (.slice (some ⟨h.size, 0, none⟩) xs.length cap) := by
  have hm := ctx_new (h' := h.push (.cells c e)) (j := j) (r := .arr t xs) (l := ⟨h.size, 0, cap, false, none⟩) hc hj (fun _ => ⟨rfl, by simp⟩) (by simp) (fun b hb => push_old hb)
    (fun hle => by
      refine .inr ⟨rfl, c, e, by simp [view], h1, by simpa using h2, fun i x hx => ?_⟩
      obtain ⟨ecs, g1, g2⟩ := hr i x hx
      refine ⟨ecs, RelD_mono hle.S _ _ _ g1, fun j u hu => ?_⟩
      have := g2 j u hu
      simpa using this)
  exact ⟨_, hm.1, hm.2, by simp [slRel, modR, modL, hdl]⟩

theorem zeros_row {S h} {t : Tc} (n : Nat) : Row S h t (List.replicate n t.dflt) ((Array.range (n * t.size)).map fun i => (dz t).toArray[i % (dz t).toArray.size]!).toList 0 := by
  intro i x hx
  obtain ⟨hi, rfl⟩ : i < n ∧ x = t.dflt := by
    rw [List.getElem?_replicate] at hx
    split at hx
    · exact ⟨‹_›, by simpa using hx.symm⟩
    · cases hx
  have hl := RelD_len t _ _ (dz_rel S h t)
  refine ⟨dz t, dz_rel S h t, fun j u hu => ?_⟩
  have hj : j < (dz t).length := (List.getElem?_eq_some_iff.1 hu).1
  have hmul : i * t.size + t.size ≤ n * t.size := by rw [← Nat.succ_mul]; exact Nat.mul_le_mul_right _ hi
  have hlt : 0 + i * t.size + j < n * t.size := by omega
  have hmod : (0 + i * t.size + j) % (dz t).length = j := by
    rw [hl, Nat.zero_add, Nat.add_comm, Nat.add_mul_mod_self_right, Nat.mod_eq_of_lt (by omega)]
  have hne : (dz t).length ≠ 0 := by omega
  simp only [Array.toList_map, Array.toList_range, List.getElem?_map, List.getElem?_range hlt, Option.map_some, List.size_toArray, hmod]
  rw [← hu]
  simp [hj]

/-- An empty slice of nobody's becomes one of its own. -/
theorem ctx_nil {en : Ent} {rg : Nat → Reg} {loc S} {h : Array Obj} {k : Nat} {t : Tc} (a : Option Addr) (hc : Ctx en rg loc S h) (hk : rg k = .abs) :
    ∃ loc', Ctx en (fun i => if i = k then .arr t [] else rg i) loc' S h ∧ (view rg loc S h).le (view (fun i => if i = k then .arr t [] else rg i) loc' S h) ∧ slRel (fun i => if i = k then .arr t [] else rg i) loc' S h k (.slice a 0 0) := by
  have := ctx_new (h' := h) (r := .arr t []) (l := ⟨0, 0, 0, true, a⟩) hc hk (fun ho => by simp [owns] at ho) (Nat.le_refl _) (fun _ _ => rfl) (fun _ => .inl ⟨rfl, rfl⟩)
  rw [modR_self] at this
  exact ⟨_, this.1, this.2, by simp [slRel, modL, hdl]⟩


theorem ownL_ok {en : Ent} {site : Nat} {h : Array Obj} {us : List Value} : ∀ (c : List (Nat × Tc)) (j : Nat) (l l' : List FV) (fr fr1 : Fr) (loc : Nat → Loc) (S : Nat → Prop), (ownL site j c l).go fr = some (l', fr1) → Ctx en fr.reg loc S h →
    RelVs (view fr.reg loc S h) l us → fr1.slots = fr.slots ∧ ∃ loc', Ctx en fr1.reg loc' S h ∧ (view fr.reg loc S h).le (view fr1.reg loc' S h) ∧ RelVs (view fr1.reg loc' S h) l' us
  | [], j, l, l', fr, fr1, loc, S, hg, hc, hr => by
    obtain ⟨rfl, rfl⟩ := go_ret hg
    exact ⟨rfl, loc, hc, Vw.le_refl _, hr⟩
  | (off, t) :: c, j, l, l', fr, fr1, loc, S, hg, hc, hr => by
    simp only [ownL] at hg
    split at hg
    · rename_i hl
      simp only [Pr.go] at hg
      split at hg
      · rename_i hab
        simp only [Pr.go] at hg
        obtain ⟨u, hu, a0, rfl⟩ := RelVs_get _ _ _ _ hr hl
        obtain ⟨loc1, g1, g2, g3⟩ := ctx_nil (t := t) a0 hc hab
        rw [← setR_reg] at g1 g2 g3
        have hset : us.set off (.slice a0 0 0) = us := by
          apply List.ext_getElem?
          intro i
          by_cases hi : off = i
          · subst hi
            have hlt : off < us.length := (List.getElem?_eq_some_iff.1 hu).1
            rw [List.getElem?_set_self hlt, hu]
          · rw [List.getElem?_set_ne hi]
        have h2 := RelVs_set _ _ off (.slc (site + 1 + j)) (.slice a0 0 0) (RelVs_mono g2 _ _ hr) g3
        rw [hset] at h2
        obtain ⟨e, loc2, k1, k2, k3⟩ := ownL_ok c (j + 1) _ l' _ fr1 loc1 S hg g1 h2
        exact ⟨e, loc2, k1, Vw.le_trans g2 k2, k3⟩
      · exact (go_fail hg).elim
    · exact ownL_ok c (j + 1) l l' fr fr1 loc S hg hc hr

end Go.Ev

set_option linter.unusedSimpArgs false
set_option linter.unusedVariables false
namespace Go.Ev
open Go

theorem buildSlice_ok {P : Program} {E : Env} (hE : EnvOk P E) {en : Ent} {loc S} {dst : Option Tmp} {t : TypeId} {n : Nat} {ps : Array (Nat × Operand)} {a : Act} {v : FV} {fr fr1 : Fr} {w : World} {q : Tc × Nat}
    (hq : elemTc E t = some q) (hn : n * q.1.size ≤ 16777216)
    (h : ((buildArr E q.1 ps.toList (List.replicate n q.1.dflt)).bind fun xs => newReg dst (.arr q.1 xs) (.slc (siteOf dst))).go fr = some (v, fr1))
    (hc : Ctx en fr.reg loc S w.heap) (hs : RelVs (view fr.reg loc S w.heap) fr.slots a.tmps.toList) :
    fr1.slots = fr.slots ∧ ∃ u w1, (Instr.buildSlice t n (ps.map fun (i, x) => (i, a.eval x))).run P w = .ok u w1 ∧ Sm w w1 ∧ Good en fr.reg loc S w.heap fr1.reg w1.heap v u := by
  obtain ⟨tc, b⟩ := q
  simp only at hn
  obtain ⟨e, ei, hu, hok, htc, _, hsz, htop⟩ := elem_info hE hq
  obtain ⟨i, hi, hisz, _, z, hz, _, hzsz, hdz⟩ := hok.info
  have hzd := hdz tc htc
  have hpos := hok.pos
  replace h := Pr.go_bind_some h; obtain ⟨ys, fr2, h1, h2⟩ := h
  have hc0 : ((Array.range (n * tc.size)).map fun i => (dz tc).toArray[i % (dz tc).toArray.size]!).size = (List.replicate n tc.dflt).length * tc.size := by simp
  obtain ⟨g0, S1, c1, g1, g2, g3, g4, g5, g6⟩ := buildArr_ok ps.toList _ ys fr fr2 S _ h1 hc hs (zeros_row n) hc0
  obtain ⟨k1, rfl, rfl⟩ := newReg_go h2
  simp only [List.length_replicate] at g3
  obtain ⟨loc1, m1, m2, m3⟩ := arr_new (c := c1) (e := e) (cap := n) g1 k1 g5 (by omega) (by rw [g4]; simp)
  refine ⟨g0, .slice (some ⟨w.heap.size, 0, none⟩) n n, { w with heap := w.heap.push (.cells c1 e) }, ?_, ⟨rfl, rfl⟩, ?_⟩
  · have hz2 : z.cells = (dz tc).toArray := by apply Array.ext'; rw [← hzd]
    have hle : ¬ (n * tc.size > 2 ^ 24) := by omega
    simp only [Instr.buildSlice, Sem.run_bind, run_underlying hu, Result.andThen_ok, size_run hok, hsz]
    rw [if_neg hle]
    have hfill : Instr.fill (fun i => some (i * tc.size, tc.size)) ((Array.range (n * tc.size)).map fun i => (dz tc).toArray[i % (dz tc).toArray.size]!) (ps.map fun x => (x.1, a.eval x.2)).toList = some c1 := by
      rw [Array.toList_map]; exact g6
    by_cases h0 : n * tc.size = 0
    · have hfill' : Instr.fill (fun i => some (i * tc.size, tc.size)) ((Array.range 0).map fun x => (#[] : Array Value)[x % (#[] : Array Value).size]!) (ps.map fun x => (x.1, a.eval x.2)).toList = some c1 := by
        rw [h0] at hfill
        have e0 : ∀ f g : Nat → Value, (Array.range 0).map f = (Array.range 0).map g := by intro f g; apply Array.ext'; simp
        rw [← hfill]; exact congrArg (fun z => Instr.fill _ z _) (e0 _ _)
      simp only [h0, if_true, pure_bind]
      rw [hfill']
      simp [newRow]
    · simp only [h0, if_false, zeroValue, typeInfo, Sem.run_bind, run_program, Result.andThen_ok, hi, Sem.run_pure, hz]
      rw [hz2, hfill]
      simp [newRow]
  · rw [setR_mod]
    refine ⟨loc1, S1, m1, Vw.le_trans g2 m2, ?_⟩
    show slRel _ _ _ _ _ _
    rw [g3] at m3; exact m3

theorem makeV_ok {P : Program} {E : Env} (hE : EnvOk P E) {en : Ent} {loc S} {dst : Option Tmp} {t : TypeId} {x y v : FV} {ux uy : Value} {fr fr1 : Fr} {w : World} (h : (makeV E dst t x y).go fr = some (v, fr1))
    (hc : Ctx en fr.reg loc S w.heap) (hx : RelV (view fr.reg loc S w.heap) x ux) (hy : RelV (view fr.reg loc S w.heap) y uy) :
    fr1.slots = fr.slots ∧ ∃ u w1, (Instr.makeSlice t ux uy).run P w = .ok u w1 ∧ Sm w w1 ∧ Good en fr.reg loc S w.heap fr1.reg w1.heap v u := by
  unfold makeV at h
  replace h := go_popt h; obtain ⟨p, hp, h⟩ := h
  obtain ⟨tc, b⟩ := p
  obtain ⟨e, ei, hu, hok, htc, hbb, hsz, htop⟩ := elem_info hE hp
  obtain ⟨i, hi, hisz, hib, z, hz, _, hzsz, hdz⟩ := hok.info
  have hzd := hdz tc htc
  have hpos := hok.pos
  have hbp := hok.bpos
  replace h := Pr.go_bind_some h; obtain ⟨l, f2, h1, h⟩ := h
  obtain ⟨rfl, k1, rfl⟩ := asI_ok h1 hx
  replace h := Pr.go_bind_some h; obtain ⟨m, f3, h2, h⟩ := h
  obtain ⟨rfl, k2, rfl⟩ := asI_ok h2 hy
  replace h := go_guard h; obtain ⟨q1, h⟩ := h
  replace h := go_guard h; obtain ⟨q2, h⟩ := h
  replace h := go_guard h; obtain ⟨q3, h⟩ := h
  obtain ⟨n1, rfl, rfl⟩ := newReg_go h
  simp only [decide_eq_true_eq] at q1 q2 q3
  subst hbb
  obtain ⟨ln, rfl⟩ : ∃ n : Nat, l = n := ⟨l.toNat, by omega⟩
  obtain ⟨mn, rfl⟩ : ∃ n : Nat, m = n := ⟨m.toNat, by omega⟩
  have hmn : mn * ei.bytes ≤ 140737488355328 := by
    have : ((mn * ei.bytes : Nat) : Int) ≤ 140737488355328 := by rw [Int.natCast_mul]; exact q3
    omega
  have hmb : mn ≤ mn * ei.bytes := Nat.le_mul_of_pos_right _ hbp
  have wl : IntKind.wrap .i64 (ln : Int) = ln := by rw [IntKind.wrap_i64]; omega
  have wm : IntKind.wrap .i64 (mn : Int) = mn := by rw [IntKind.wrap_i64]; omega
  have hrow : Row S w.heap tc (List.replicate ln tc.dflt) ((Array.range (mn * tc.size)).map fun i => (dz tc).toArray[i % (dz tc).toArray.size]!).toList 0 := by
    intro j x hj
    refine zeros_row (S := S) (h := w.heap) (t := tc) mn j x ?_
    rw [List.getElem?_replicate] at hj ⊢
    split at hj
    · rename_i hlt; rw [if_pos (by omega)]; exact hj
    · cases hj
  obtain ⟨loc1, m1, m2, m3⟩ := arr_new (c := (Array.range (mn * tc.size)).map fun i => (dz tc).toArray[i % (dz tc).toArray.size]!) (e := e) (cap := mn) hc n1 hrow (by simp; omega) (by simp)
  refine ⟨rfl, .slice (some ⟨w.heap.size, 0, none⟩) ln mn, { w with heap := w.heap.push (.cells ((Array.range (mn * tc.size)).map fun i => (dz tc).toArray[i % (dz tc).toArray.size]!) e) }, ?_, ⟨rfl, rfl⟩, ?_⟩
  · have hz2 : z.cells = (dz tc).toArray := by apply Array.ext'; rw [← hzd]
    have hisz' : i.size = tc.size := by omega
    have n1' : ¬ ((mn : Int) < 0) := by omega
    have n2' : ¬ ((ln : Int) < 0) := by omega
    have n3' : ¬ ((mn : Int) < (ln : Int)) := by omega
    have n4' : ¬ ((281474976710656 : Int) < (i.bytes : Int) * (mn : Int)) := by
      have : ((i.bytes : Int) * (mn : Int)) = ((mn * ei.bytes : Nat) : Int) := by rw [hib, Int.natCast_mul, Int.mul_comm]
      rw [this]; omega
    have n5' : ¬ (140737488355328 < mn * i.bytes) := by rw [hib]; omega
    by_cases h0 : mn * i.size = 0
    · have e0 : ∀ f g : Nat → Value, (Array.range 0).map f = (Array.range 0).map g := by intro f g; apply Array.ext'; simp
      have h0' : mn * tc.size = 0 := by rw [← hisz']; exact h0
      simp [Instr.makeSlice, run_underlying hu, _root_.Go.asInt, asIntOf, typeInfo, hi, sizeOf, wl, wm, n1', n2', n3', n4', n5', h0, h0', newRow, askRoom, roomBytes]
      exact congrArg (fun c => w.alloc (.cells c e)) (e0 _ _)
    · have h0' : ¬ (mn * tc.size = 0) := by rw [← hisz']; exact h0
      simp [Instr.makeSlice, run_underlying hu, _root_.Go.asInt, asIntOf, typeInfo, hi, sizeOf, zeroValue, hz, wl, wm, n1', n2', n3', n4', n5', h0, h0', newRow, askRoom, roomBytes, hisz', hz2]
  · rw [setR_mod]
    refine ⟨loc1, S, m1, m2, ?_⟩
    show slRel _ _ _ _ _ _
    simpa using m3

theorem putL_splice {V : Vw} {cs vs : List FV} {c : Array Value} {us : List Value} {o : Nat} (hc : RelVs V cs c.toList) (hv : RelVs V vs us) (h : o + us.length ≤ c.size) :
    RelVs V (splice cs vs o) (putL c o us).toList := by
  rw [putL_list c o us h]
  unfold splice
  refine RelVs_append _ _ _ _ (RelVs_append _ _ _ _ (RelVs_take _ _ _ hc) hv) ?_
  rw [RelVs_len _ _ hv]
  exact RelVs_drop _ _ _ hc

theorem splice_len (cs vs : List FV) (o : Nat) (h : o + vs.length ≤ cs.length) : (splice cs vs o).length = cs.length := by
  simp [splice]; omega

theorem buildSt_ok {P : Program} {E : Env} (hE : EnvOk P E) {V : Vw} {a : Act} {flds : List (Nat × TypeId)} {places : Array (Nat × Nat)} {rg : Nat → Reg} {loc S h} (hV : V = view rg loc S h)
    (hp : ∀ (i o ft : Nat) fi, flds[i]? = some (o, ft) → E.tt ft = some fi → places[i]? = some (o, fi.size)) : ∀ (ps : List (Nat × Operand)) (cs l : List FV) (fr fr1 : Fr) (c : Array Value), fr.reg = rg →
    (buildSt E flds ps cs).go fr = some (l, fr1) → RelVs V fr.slots a.tmps.toList → RelVs V cs c.toList → (∀ u ∈ c.toList, u.oneCell' = true) →
    fr1 = fr ∧ ∃ c1, RelVs V l c1.toList ∧ (∀ u ∈ c1.toList, u.oneCell' = true) ∧ Instr.fill (places[·]?) c (ps.map fun p => (p.1, a.eval p.2)) = some c1
  | [], cs, l, fr, fr1, c, hrg, hg, hs, hr, ho => by
    simp [buildSt, Pr.go] at hg
    obtain ⟨rfl, rfl⟩ := hg
    exact ⟨rfl, c, hr, ho, rfl⟩
  | (i, x) :: ps, cs, l, fr, fr1, c, hrg, hg, hs, hr, ho => by
    simp only [buildSt] at hg
    replace hg := go_popt hg; obtain ⟨p, hf, hg⟩ := hg
    obtain ⟨o, ft⟩ := p
    replace hg := go_popt hg; obtain ⟨fi, hfi, hg⟩ := hg
    replace hg := Pr.go_bind_some hg; obtain ⟨v, fr2, h1, hg⟩ := hg
    obtain ⟨rfl, hv⟩ := opnd_ok h1 hs
    replace hg := Pr.go_bind_some hg; obtain ⟨q, fr3, h2, hg⟩ := hg
    obtain ⟨rfl, hst⟩ := chk_go h2
    split at hg
    · rename_i hcond
      obtain ⟨hl1, hl2⟩ := hcond
      rw [hV, ← hrg] at hv
      obtain ⟨s1, s2⟩ := split_rel hv hst
      rw [hrg, ← hV] at s1
      have hlen := RelVs_len _ _ s1
      have hcl := RelVs_len _ _ hr
      simp only at hl1 hl2
      have hlen' : (a.eval x).cells.size = fi.size := by simp at hlen; omega
      have hcl' : c.size = cs.length := by simpa using hcl
      have hfit : o + (a.eval x).cells.toList.length ≤ c.size := by simp; omega
      obtain ⟨k0, c1, k1, k2, k3⟩ := buildSt_ok hE hV hp ps _ l fr3 fr1 (putL c o (a.eval x).cells.toList) hrg hg hs (putL_splice hr s1 hfit) (by
        rw [putL_list c o _ hfit]
        intro u hu
        simp only [List.mem_append] at hu
        rcases hu with (hu | hu) | hu
        · exact ho u (List.mem_of_mem_take hu)
        · exact s2 u hu
        · exact ho u (List.mem_of_mem_drop hu))
      refine ⟨k0, c1, k1, k2, ?_⟩
      simp only [List.map_cons]
      rw [fill_cons _ _ _ _ _ o fi.size (hp i o ft fi hf hfi) hlen' (by omega)]
      exact k3
    · exact (go_fail hg).elim

theorem places_run {P : Program} {fs : List Field} (hf : ∀ f ∈ fs, (P.info? f.type).isSome = true) (w : World) :
    (fs.mapM fun (f : Field) => (do pure (f.offset, ← sizeOf f.type) : Sem (Nat × Nat))).run P w = .ok (fs.map fun f => (f.offset, P.cellsOf f.type)) w := by
  induction fs with
  | nil => simp
  | cons f fs ih =>
    obtain ⟨i, hi⟩ := Option.isSome_iff_exists.1 (hf f (by simp))
    have ih' := ih fun g hg => hf g (by simp [hg])
    have hsz : (sizeOf f.type).run P w = .ok i.size w := by simp [sizeOf, typeInfo, hi]
    simp only [List.mapM_cons, Sem.run_bind, hsz, Result.andThen_ok, Sem.run_pure]
    rw [ih']
    simp [Program.cellsOf, hi]

theorem build_ok {P : Program} {E : Env} (hE : EnvOk P E) {loc S} {t : TypeId} {ti : TI} {ps : Array (Nat × Operand)} {a : Act} {l : List FV} {fr fr1 : Fr} {w : World} (ht : E.tt t = some ti) (hagg : ti.agg = true) (hne : ti.flds ≠ [])
    (h : (buildSt E ti.flds ps.toList ti.zeros).go fr = some (l, fr1)) (hs : RelVs (view fr.reg loc S w.heap) fr.slots a.tmps.toList) :
    fr1 = fr ∧ Yields P (Instr.build t (ps.map fun (i, x) => (i, a.eval x))) w (view fr.reg loc S w.heap) (.agg l) := by
  have hti := hE.tts _ _ ht
  obtain ⟨i, hi, hisz, _, z, hz, hzr, hzsz, hdz⟩ := hti.info
  obtain ⟨d, hd, _, _, hfl, _, _, hfs⟩ := hti.und
  obtain ⟨fs, rfl, hlen, hinfo⟩ := hfs hne
  have hzone : ∀ u ∈ z.cells.toList, u.oneCell' = true := by
    intro u hu
    have : ∀ (l : List FV) (us : List Value), fvzs l = some us → ∀ u ∈ us, u.oneCell' = true := by
      intro l
      induction l with
      | nil => intro us h; simp [fvzs] at h; subst h; simp
      | cons v l ih =>
        intro us h
        simp only [fvzs, Option.bind_eq_some_iff] at h
        obtain ⟨u0, h1, us', h2, h3⟩ := h
        simp at h3; subst h3
        intro u hu
        rcases List.mem_cons.1 hu with rfl | hu
        · unfold fvz at h1; split at h1 <;> simp at h1 <;> subst h1 <;> rfl
        · exact ih us' h2 u hu
    exact this _ _ hzr u hu
  obtain ⟨k0, c1, k1, k2, k3⟩ := buildSt_ok (places := (fs.toList.map fun f => (f.offset, P.cellsOf f.type)).toArray) hE rfl (fun i o ft fi hf hfi => by
    obtain ⟨fs', g, e, g1, g2, g3⟩ := hfl i o ft hf
    cases e
    obtain ⟨j, hj, hjs, _⟩ := (hE.tts _ _ hfi).info
    subst g2; subst g3
    simp [g1, Program.cellsOf, hj, hjs]) ps.toList ti.zeros l fr fr1 z.cells rfl h hs (fvzs_rel _ hzr) hzone
  refine ⟨k0, .agg c1, ?_, c1.toList, rfl, k1, k2⟩
  have hpl := places_run (P := P) hinfo w
  simp only [Instr.build, Sem.run_bind, zeroValue, typeInfo, run_program, Result.andThen_ok, hi, Sem.run_pure, hz, run_underlying hd]
  rw [Array.mapM_eq_mapM_toList, Sem.run_map, hpl]
  simp only [Result.andThen_ok]
  rw [show ((ps.map fun (i, x) => (i, a.eval x)).toList) = ps.toList.map fun p => (p.1, a.eval p.2) from by simp]
  rw [k3]
  simp

end Go.Ev
