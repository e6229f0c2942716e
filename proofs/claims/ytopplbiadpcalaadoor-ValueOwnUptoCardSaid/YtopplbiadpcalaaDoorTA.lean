/- Part 1 of 4 of a proof: lemmas; the statement is proved in the last part. -/
import Derived.Calls
import Derived.Tactics
import Derived.Below
import Derived.Laws.AppendOwn
import Derived.Laws.Rows
import Derived.Laws.NewBlocks
import Derived.RowKit
import Derived.WalkKit
import Derived.Maps.AppendAt
import Derived.Deep.MidRow
import Derived.Laws.CopyRow
import Derived.Laws.StructEq
import Derived.Laws.Cover3
import Derived.Laws.Slices
import Derived.Laws.BytesArg
import Derived.Lib.ConvBytes
import Derived.Great.BuildSlice
set_option linter.unusedVariables false
set_option linter.unusedSimpArgs false
/- A small abstract machine over the model's own code: its data, its state, its steps (definitions alone; that it tells the truth of the model's machine is shown in the files behind this one). -/
namespace Go.Proofs.YtopplbiadpcalaaDoor.U
open Go

/-- Kinds of plain data. -/
inductive Kn where
  | int (k : IntKind)
  | bool
  | str
  | ifc
  | ifi (t : Nat) (k : IntKind)
  | prod (a b : Kn)
  | sl (e : Nat) (k : Kn)
  deriving DecidableEq

@[reducible] def den : Kn → Type
  | .int _ => Int
  | .bool => Bool
  | .str => ByteArray
  | .ifc => Bool
  | .ifi _ _ => Option Int
  | .prod a b => den a × den b
  | .sl _ k => List (den k)
def Kn.sz : Kn → Nat
  | .prod a b => a.sz + b.sz
  | _ => 1
def dfl : (k : Kn) → den k
  | .int _ => (0 : Int)
  | .bool => false
  | .str => ⟨#[]⟩
  | .ifc => true
  | .ifi _ _ => none
  | .prod a b => (dfl a, dfl b)
  | .sl _ _ => []

/-- What one cell holds. 'sl': a slice of plain data that nobody writes any more; 'rs', 'rel': the slice of an own row, a place in it; 'ptr': a place in a box. -/
inductive L where
  | int (k : IntKind) (n : Int)
  | bool (b : Bool)
  | str (s : ByteArray)
  | sl (k : Kn) (e : Nat) (xs : List (den k)) (nil : Option Bool)
  | nils
  | el (k : Kn) (e : Nat) (xs : List (den k)) (i : Nat) (off : Nat)
  | ptr (b off : Nat)
  | rs (r : Nat)
  | rel (r sz i off : Nat)
  | nilp
  | ifc (nil : Bool)
  | ifi (t : Nat) (k : IntKind) (n : Option Int)
  | undef
  | un

inductive SV where
  | l (x : L)
  | agg (cs : List L)
  | tup (vs : List (L ⊕ List L))
  | fn (f : Nat) (caps : List L)

def toL : (k : Kn) → den k → List L
  | .int ik, x => [.int ik x]
  | .bool, x => [.bool x]
  | .str, x => [.str x]
  | .ifc, x => [.ifc x]
  | .ifi t k, x => [.ifi t k x]
  | .prod a b, x => toL a x.1 ++ toL b x.2
  | .sl e k, x => [.sl k e x none]
def fromL : (k : Kn) → List L → Option (den k × List L)
  | .int ik, .int ik' n :: r => if ik = ik' then some (n, r) else none
  | .bool, .bool b :: r => some (b, r)
  | .str, .str s :: r => some (s, r)
  | .ifc, .ifc b :: r => some (b, r)
  | .ifc, .ifi _ _ o :: r => some (o.isNone, r)
  | .ifi t k, .ifi t' k' o :: r => if t = t' then if k = k' then some (o, r) else none else none
  | .ifi _ _, .ifc true :: r => some (none, r)
  | .prod a b, cs => match fromL a cs with
    | some (x, r) => match fromL b r with
      | some (y, r') => some ((x, y), r')
      | none => none
    | none => none
  | .sl e k, .sl k' e' xs _ :: r => if h : k' = k then (if e' = e then some (h ▸ xs, r) else none) else none
  | .sl _ _, .nils :: r => some ([], r)
  | _, _ => none
/-- All of the cells as one datum. -/
def fromLs (k : Kn) (cs : List L) : Option (den k) := match fromL k cs with
  | some (x, []) => some x
  | _ => none

/-- Types, as far as the machine asks. -/
inductive TD where
  | int (k : IntKind)
  | bool
  | str
  | struct (fs : List (Nat × Nat))
  | slice (e : Nat)
  | arr (n e : Nat)
  | ptr
  | iface
  | other
structure TI where
  d : TD
  sz : Nat
  by_ : Nat
  zero : List L
  kn : Option Kn
  eqt : Option (List Nat)
def TI.agg (i : TI) : Bool := match i.d with | .struct _ => true | .arr _ _ => true | _ => false
abbrev Tab := Nat → Option TI

/-- What a call owns: boxes (of a type, their cells), rows (of a kind and type; 'fz': nobody writes it any more). -/
inductive Ob where
  | box (t : Nat) (cs : List L)
  | row (k : Kn) (e : Nat) (xs : List (den k)) (nil : Option Bool) (fz : Bool)
def Ob.live : Ob → Bool
  | .box _ _ => true
  | .row _ _ _ _ fz => !fz
def Ob.leaves : Ob → List L
  | .box _ cs => cs
  | .row _ _ _ _ _ => []
abbrev Heap := List (Nat × Ob)

/-- 'pin': the keys of what was handed over: none is made anew. -/
structure St where
  nt : Nat
  env : List (Nat × SV)
  hp : Heap
  pin : List Nat

def getE : List (Nat × SV) → Nat → SV
  | [], _ => .l .un
  | (i, v) :: r, j => match Nat.beq i j with
    | true => v
    | false => getE r j
def delE : List (Nat × SV) → Nat → List (Nat × SV)
  | [], _ => []
  | (i, v) :: r, j => match Nat.beq i j with
    | true => delE r j
    | false => (i, v) :: delE r j
def getH : Heap → Nat → Option Ob
  | [], _ => none
  | (i, v) :: r, j => match Nat.beq i j with
    | true => some v
    | false => getH r j
/-- The object of a key is another one now (at the end, where there was none). -/
def setH : Heap → Nat → Ob → Heap
  | [], j, x => [(j, x)]
  | (i, v) :: r, j, x => match Nat.beq i j with
    | true => (i, x) :: r
    | false => (i, v) :: setH r j x
def delH : Heap → Nat → Heap
  | [], _ => []
  | (i, v) :: r, j => match Nat.beq i j with
    | true => delH r j
    | false => (i, v) :: delH r j
def Ob.frz : Ob → Ob
  | .row k e xs nil _ => .row k e xs nil true
  | o => o

def L.ref : L → Option Nat
  | .ptr b _ => some b
  | .rs r => some r
  | .rel r _ _ _ => some r
  | _ => none
/-- The cells of a value, one by one. -/
def SV.leaves : SV → List L
  | .l x => [x]
  | .agg cs => cs
  | .tup es => es.flatMap fun | .inl x => [x] | .inr cs => cs
  | .fn _ caps => caps
def L.refs (b : Nat) (x : L) : Bool := match x.ref with
  | some b' => Nat.beq b' b
  | none => false
/-- Key b is not about. -/
def St.free (st : St) (b : Nat) : Bool := st.env.all (fun p => p.2.leaves.all fun x => !x.refs b) && st.hp.all (fun p => !Nat.beq p.1 b && p.2.leaves.all fun x => !x.refs b)

inductive Up where
  | put (b : Nat) (o : Ob)
  | new (b : Nat) (o : Ob)
  | del (b : Nat)
  | frz (b : Nat)
def Up.key : Up → Nat
  | .put b _ => b
  | .new b _ => b
  | .del b => b
  | .frz b => b
def Up.app (hp : Heap) : Up → Heap
  | .put b o => setH hp b o
  | .new b o => setH hp b o
  | .del b => delH hp b
  | .frz b => match getH hp b with
    | some o => setH hp b o.frz
    | none => hp
def upsH : Heap → List Up → Heap
  | hp, [] => hp
  | hp, u :: us => upsH (u.app hp) us
/-- What an operation does: what must hold, what it gives, what it turns. -/
structure Ef where
  ok : Bool
  v : SV
  ups : List Up

def St.put (st : St) (dst : Option Nat) (v : SV) : St :=
  match dst with
  | some d => { st with env := (d, v) :: delE st.env d }
  | none => st
def St.fit (st : St) (dst : Option Nat) : Bool := match dst with | some d => Nat.blt d st.nt | none => true
def Up.fresh (st : St) : Up → Bool
  | .new b _ => st.free b && !st.pin.any (Nat.beq b)
  | _ => true

def constSV : Value → SV
  | .int k n => .l (.int k n)
  | .bool b => .l (.bool b)
  | .string s => .l (.str s)
  | .slice none 0 0 => .l .nils
  | .pointer none => .l .nilp
  | .nilIface => .l (.ifc true)
  | .func (.func f) xs ys => match xs.toList, ys.toList with
    | [], [] => .fn f []
    | _, _ => .l .un
  | _ => .l .un
def opd (st : St) : Operand → SV
  | .tmp t => getE st.env t
  | .const v => constSV v
  | .global _ => .l .un
  | .func f => .fn f []

/-- The cells of what is stored or boxed, of a type. -/
def L.known : L → Bool
  | .un => false
  | .undef => false
  | _ => true
def cellsOf (i : TI) : SV → Option (List L)
  | .l x => if i.agg then none else if x.known && Nat.beq i.sz 1 then some [x] else none
  | .agg cs => if i.agg && Nat.beq cs.length i.sz && cs.all L.known then some cs else none
  | _ => none
/-- What n cells from a place on are as a value of a type. -/
def valOf (i : TI) (cs : List L) (off : Nat) : Option SV :=
  if Nat.ble (off + i.sz) cs.length then
    if i.agg then some (.agg ((cs.drop off).take i.sz)) else (cs[off]?).map SV.l
  else none
def setAt : List L → Nat → List L → Option (List L)
  | cs, 0, [] => some cs
  | cs, 0, y :: ys => match cs with
    | [] => none
    | _ :: r => (setAt r 0 ys).map (y :: ·)
  | [], _ + 1, _ => none
  | c :: r, n + 1, ys => (setAt r n ys).map (c :: ·)
def bitsV (op : BinOp) (k : IntKind) (x y : Int) : Int :=
  match op with
  | .and => k.wrap ((BitVec.ofInt k.bits x &&& BitVec.ofInt k.bits y).toNat : Int)
  | .or => k.wrap ((BitVec.ofInt k.bits x ||| BitVec.ofInt k.bits y).toNat : Int)
  | .xor => k.wrap ((BitVec.ofInt k.bits x ^^^ BitVec.ofInt k.bits y).toNat : Int)
  | _ => 0
/-- An operation on two cells: what must hold, what comes out. -/
def binL (op : BinOp) (x y : L) : Option (Bool × L) :=
  match x, y with
  | .int k a, .int k' b => match op with
    | .shl => some (decide (0 ≤ b), .int k (k.wrap (a * 2 ^ min b.toNat k.bits)))
    | .shr => some (decide (0 ≤ b), .int k (a.fdiv (2 ^ min b.toNat k.bits)))
    | op => if k = k' then
      match op with
      | .add => some (true, .int k (k.wrap (a + b)))
      | .sub => some (true, .int k (k.wrap (a - b)))
      | .mul => some (true, .int k (k.wrap (a * b)))
      | .quo => some (b != 0, .int k (k.wrap (a.tdiv b)))
      | .rem => some (b != 0, .int k (a.tmod b))
      | .and => some (true, .int k (bitsV .and k a b))
      | .or => some (true, .int k (bitsV .or k a b))
      | .xor => some (true, .int k (bitsV .xor k a b))
      | .eql => some (true, .bool (a == b))
      | .neq => some (true, .bool (a != b))
      | .lss => some (true, .bool (decide (a < b)))
      | .leq => some (true, .bool (decide (a ≤ b)))
      | .gtr => some (true, .bool (decide (a > b)))
      | .geq => some (true, .bool (decide (a ≥ b)))
      | _ => none
    else none
  | .str a, .str b => match op with
      | .eql => some (true, .bool (a.toList == b.toList))
      | .neq => some (true, .bool (!(a.toList == b.toList)))
      | .lss => some (true, .bool (Op.bytesLess a.toList b.toList))
      | .leq => some (true, .bool (Op.bytesLess a.toList b.toList || a.toList == b.toList))
      | .gtr => some (true, .bool (!(Op.bytesLess a.toList b.toList || a.toList == b.toList)))
      | .geq => some (true, .bool (!(Op.bytesLess a.toList b.toList)))
      | .add => some (decide (((a.size + b.size : Nat) : Int) ≤ 9223372036854775807), .str (a ++ b))
      | _ => none
  | _, _ => none
/-- '==' beside numbers and texts. -/
def rowNil (hp : Heap) (r : Nat) : Option Bool := match getH hp r with
  | some (.row _ _ _ nil _) => nil
  | _ => none
def eqV (T : Tab) (hp : Heap) (t : Nat) (x y : SV) : Option Bool :=
  match T t with
  | some i => match i.d, x, y with
    | .bool, .l (.bool a), .l (.bool b) => some (a == b)
    | .ptr, .l .nilp, .l .nilp => some true
    | .ptr, .l (.ptr _ _), .l .nilp => some false
    | .slice _, .l (.sl _ _ _ (some b)), .l .nils => some b
    | .slice _, .l (.rs r), .l .nils => rowNil hp r
    | .slice _, .l .nils, .l .nils => some true
    | _, _, _ => none
  | none => none
def unL (op : UnOp) (x : L) : Option L :=
  match op, x with
  | .not, .bool b => some (.bool !b)
  | .neg, .int k n => some (.int k (k.wrap (0 - n)))
  | _, _ => none

/-- A slice's data. -/
structure Sli where
  k : Kn
  e : Nat
  xs : List (den k)
def sliOf (hp : Heap) : L → Option Sli
  | .sl k e xs _ => some ⟨k, e, xs⟩
  | .rs r => match getH hp r with
    | some (.row k e xs _ _) => some ⟨k, e, xs⟩
    | _ => none
  | _ => none
/-- A cell whose own row is read alone from now on. -/
def frzL (hp : Heap) : L → L
  | .rs r => match getH hp r with
    | some (.row k e xs nil _) => .sl k e xs nil
    | _ => .un
  | x => x
/-- The own rows that cells name. -/
def rowsIn (hp : Heap) : List L → List Nat
  | [] => []
  | .rs r :: cs => match getH hp r with
    | some (.row _ _ _ _ false) => r :: rowsIn hp cs
    | _ => rowsIn hp cs
  | _ :: cs => rowsIn hp cs
def frzUps (hp : Heap) (cs : List L) : List Up := (rowsIn hp cs).map Up.frz
def L.flat : L → Bool
  | .int _ _ => true
  | .bool _ => true
  | .str _ => true
  | .nils => true
  | .nilp => true
  | .ifc _ => true
  | .ifi _ _ _ => true
  | .undef => true
  | .un => true
  | _ => false
def Kn.flat : Kn → Bool
  | .prod a b => a.flat && b.flat
  | .sl _ _ => false
  | _ => true

/-- What is known of a function: which arguments it takes over (else rows are handed to be read), what it answers: (the key for what is new) (arguments) (the objects that they lead to): what must hold, the answer, those objects afterwards and what is new. -/
structure Sp where
  own : List Bool
  run : Nat → List SV → Heap → Option (Bool × SV × Heap)

def lenL (hp : Heap) : TD → L → Option Int
  | .str, .str s => some s.size
  | .slice _, .nils => some 0
  | .slice _, x => match sliOf hp x with
    | some s => some s.xs.length
    | none => none
  | _, _ => none

/-- The object keys that cells lead to, in the order in which they are met. -/
def reach (hp : Heap) : Nat → List L → List Nat → List Nat
  | 0, _, acc => acc
  | _ + 1, [], acc => acc
  | n + 1, x :: cs, acc => match x.ref with
    | none => reach hp n cs acc
    | some b => match acc.any (Nat.beq b) with
      | true => reach hp n cs acc
      | false => match getH hp b with
        | some o => reach hp n (o.leaves ++ cs) (acc ++ [b])
        | none => reach hp n cs (acc ++ [b])
def pickH (hp : Heap) : List Nat → Heap
  | [] => []
  | b :: bs => match getH hp b with
    | some o => (b, o) :: pickH hp bs
    | none => pickH hp bs

def distinct : List Nat → Bool
  | [] => true
  | b :: bs => !bs.any (Nat.beq b) && distinct bs
/-- An argument as it is handed over. -/
def normSV (T : Tab) (hp : Heap) (own : Bool) (t : Nat) (v : SV) : SV := match own with
  | true => v
  | false => match v with
    | .l x => match frzL hp x with
      | .nils => match T t with
        | some i => match i.kn with
          | some (.sl e k) => .l (.sl k e [] (some true))
          | _ => .l .nils
        | none => .l .nils
      | y => .l y
    | .agg cs => match T t with
      | some i => match i.kn with
        | some k => match fromLs k (cs.map (frzL hp)) with
          | some x => .agg (toL k x)
          | none => .agg (cs.map (frzL hp))
        | none => .agg (cs.map (frzL hp))
      | none => .agg (cs.map (frzL hp))
    | v => v
def normAs (T : Tab) (hp : Heap) : List Bool → List Nat → List SV → List SV
  | o :: os, t :: ts, v :: vs => normSV T hp o t v :: normAs T hp os ts vs
  | [], t :: ts, v :: vs => normSV T hp false t v :: normAs T hp [] ts vs
  | _, [], vs => vs
  | _, _, [] => []
/-- The own rows that are handed over to be read. -/
def lent (hp : Heap) : List Bool → List SV → List Nat
  | true :: os, _ :: vs => lent hp os vs
  | false :: os, v :: vs => rowsIn hp v.leaves ++ lent hp os vs
  | [], v :: vs => rowsIn hp v.leaves ++ lent hp [] vs
  | _, [] => []
def outUp (fp : List Nat) (b : Nat) (o : Ob) : Up := match fp.any (Nat.beq b) with
  | true => .put b o
  | false => .new b o
def outUps (fp : List Nat) : Heap → List Up
  | [] => []
  | (b, o) :: r => outUp fp b o :: outUps fp r
def goneUps (out : Heap) : List Nat → List Up
  | [] => []
  | b :: fp => match getH out b with
    | some _ => goneUps out fp
    | none => .del b :: goneUps out fp
def L.rd : L → Bool
  | .sl _ _ _ _ => false
  | .el _ _ _ _ _ => false
  | _ => true
def Ob.flat : Ob → Bool
  | .box _ cs => cs.all L.rd
  | .row k _ _ _ fz => !fz && k.flat
def SV.flat (v : SV) : Bool := v.leaves.all L.rd

def capsOf (st : St) : List Operand → Option (List L)
  | [] => some []
  | x :: r => match opd st x, capsOf st r with
    | .l y, some ys => some (y :: ys)
    | _, _ => none
def roomOk (T : Tab) (e n : Nat) : Option Bool := match T e with
  | some i => match Nat.beq i.by_ 0 with
    | true => none
    | false => some (decide (n * i.by_ ≤ 140737488355328))
  | none => none
/-- A slice type's element: its type and kind. -/
def elOf (T : Tab) (t : Nat) : Option (Nat × Kn) := match T t with
  | some i => match i.d with
    | .slice e => match T e with
      | some ie => match ie.kn with
        | some k => match Nat.beq ie.sz k.sz with
          | true => some (e, k)
          | false => none
        | none => none
      | none => none
    | _ => none
  | none => none
def partsAt (T : Tab) (st : St) (fs : List (Nat × Nat)) : List (Nat × Operand) → List L → Option (List L)
  | [], cs => some cs
  | (j, x) :: r, cs => match fs[j]? with
    | some (ft, off) => match T ft with
      | some i => match cellsOf i (opd st x) with
        | some ys => match setAt cs off ys with
          | some cs' => partsAt T st fs r cs'
          | none => none
        | none => none
      | none => none
    | none => none
/-- The parts of a slice that is written out: element after element. -/
def elemsOf (T : Tab) (st : St) (i : TI) (k : Kn) : Nat → List (Nat × Operand) → Option (List (den k) × List L)
  | _, [] => some ([], [])
  | n, (j, x) :: r => match Nat.beq j n with
    | false => none
    | true => match cellsOf i (opd st x) with
      | some ys => match fromLs k (ys.map (frzL st.hp)) with
        | some y => match elemsOf T st i k (n + 1) r with
          | some (zs, cs) => some (y :: zs, ys ++ cs)
          | none => none
        | none => none
      | none => none

def intOf (st : St) (x : Operand) : Option Int := match opd st x with
  | .l (.int _ n) => some n
  | _ => none
def bndV (st : St) (dflt : Int) : Option Operand → Option Int
  | none => some dflt
  | some x => intOf st x
section
variable (T : Tab) (C : Nat → Option Sp)
/-- What an operation does: those that look at objects. -/
def eff0 (o : Oper) (st : St) : Option Ef :=
  match o.op with
  | .move x | .assign x => some ⟨true, opd st x, []⟩
  | .pick c a b => match opd st c with
    | .l (.bool t) => match opd st a, opd st b with
      | .l (.bool x), .l (.bool y) => some ⟨true, .l (.bool (cond t x y)), []⟩
      | va, vb => some ⟨true, cond t va vb, []⟩
    | _ => none
  | .binOp op t x y _ => match opd st x, opd st y with
    | .l a, .l b => match binL op a b with
      | some (c, r) => some ⟨c, .l r, []⟩
      | none => match op, eqV T st.hp t (.l a) (.l b) with
        | .eql, some b => some ⟨true, .l (.bool b), []⟩
        | .neq, some b => some ⟨true, .l (.bool (!b)), []⟩
        | _, _ => none
    | _, _ => none
  | .unOp op _ x => match opd st x with
    | .l a => match unL op a with
      | some r => some ⟨true, .l r, []⟩
      | none => none
    | _ => none
  | .extract x i => match opd st x with
    | .tup vs => match vs[i]? with
      | some (.inl v) => some ⟨true, .l v, []⟩
      | some (.inr cs) => some ⟨true, .agg cs, []⟩
      | none => none
    | _ => none
  | .build t ps => match T t with
    | some i => match i.d with
      | .struct fs => match partsAt T st fs ps.toList i.zero with
        | some cs => match Nat.beq cs.length i.sz with
          | true => some ⟨true, .agg cs, []⟩
          | false => none
        | none => none
      | _ => none
    | none => none
  | .field t x j => match T t, opd st x with
    | some i, .agg cs => match i.d with
      | .struct fs => match fs[j]? with
        | some (ft, off) => match T ft with
          | some fi => match valOf fi cs off with
            | some v => some ⟨true, v, []⟩
            | none => none
          | none => none
        | none => none
      | _ => none
    | _, _ => none
  | .box t x => match o.dst, T t with
    | some d, some i => match cellsOf i (opd st x) with
      | some cs => some ⟨true, .l (.ptr d 0), [.new d (.box t cs)]⟩
      | none => none
    | _, _ => none
  | .alloc t => match o.dst, T t with
    | some d, some i => some ⟨true, .l (.ptr d 0), [.new d (.box t i.zero)]⟩
    | _, _ => none
  | .load t x => match T t, opd st x with
    | some i, .l (.ptr b off) => match getH st.hp b with
      | some (.box _ cs) => match valOf i cs off with
        | some v => some ⟨true, v, []⟩
        | none => none
      | _ => none
    | some i, .l (.el k e xs j off) => match valOf i (toL k (xs.getD j (dfl k))) off with
      | some v => some ⟨true, v, []⟩
      | none => none
    | some i, .l (.rel r sz j off) => match getH st.hp r with
      | some (.row k _ xs _ _) => match Nat.beq sz k.sz with
        | true => match valOf i (toL k (xs.getD j (dfl k))) off with
          | some v => some ⟨true, v, []⟩
          | none => none
        | false => none
      | _ => none
    | _, _ => none
  | .store t x y => match T t, opd st x with
    | some i, .l (.ptr b off) => match getH st.hp b, cellsOf i (opd st y) with
      | some (.box t' cs), some ys => match setAt cs off ys with
        | some cs' => some ⟨true, .l .undef, [.put b (.box t' cs')]⟩
        | none => none
      | _, _ => none
    | some i, .l (.rel r sz j off) => match cellsOf i (opd st y) with
      | some ys => match getH (upsH st.hp (frzUps st.hp ys)) r with
        | some (.row k e xs nil false) => match Nat.beq sz k.sz with
          | true => match setAt (toL k (xs.getD j (dfl k))) off (ys.map (frzL st.hp)) with
            | some cs' => match fromLs k cs' with
              | some z => some ⟨true, .l .undef, frzUps st.hp ys ++ [.put r (.row k e (xs.set j z) nil false)]⟩
              | none => none
            | none => none
          | false => none
        | _ => none
      | none => none
    | _, _ => none
  | .fieldAddr t x j => match T t, opd st x with
    | some i, .l (.ptr b off) => match i.d with
      | .struct fs => match fs[j]? with
        | some (_, f) => some ⟨true, .l (.ptr b (off + f)), []⟩
        | none => none
      | _ => none
    | some i, .l (.el k e xs n off) => match i.d with
      | .struct fs => match fs[j]? with
        | some (_, f) => some ⟨true, .l (.el k e xs n (off + f)), []⟩
        | none => none
      | _ => none
    | some i, .l (.rel r sz n off) => match i.d with
      | .struct fs => match fs[j]? with
        | some (_, f) => some ⟨true, .l (.rel r sz n (off + f)), []⟩
        | none => none
      | _ => none
    | _, _ => none
  | .indexAddr t x y => match elOf T t, intOf st y with
    | some (e', k'), some i => match opd st x with
      | .l (.sl k e xs _) => match Nat.beq e' e && Nat.beq k'.sz k.sz with
        | false => none
        | true => some ⟨decide (0 ≤ i) && decide (i < (xs.length : Int)), .l (.el k e xs i.toNat 0), []⟩
      | .l (.rs r) => match getH st.hp r with
        | some (.row k e xs _ false) => match Nat.beq e' e && Nat.beq k'.sz k.sz with
          | false => none
          | true => some ⟨decide (0 ≤ i) && decide (i < (xs.length : Int)), .l (.rel r k.sz i.toNat 0), []⟩
        | _ => none
      | _ => none
    | _, _ => none
  | .index t x y => match opd st x, intOf st y with
    | .l (.str s), some i => match (match T t with | some it => (match it.d with | .str => true | _ => false) | none => false) with
      | false => none
      | true => some ⟨decide (0 ≤ i) && decide (i < (s.size : Int)), .l (.int .u8 ((s.data.toList.getD i.toNat 0).toNat : Int)), []⟩
    | _, _ => none
  | .nilCheck x => match opd st x with
    | .l (.ptr b off) => some ⟨true, .l (.ptr b off), []⟩
    | .l (.el k e xs i off) => some ⟨true, .l (.el k e xs i off), []⟩
    | .l (.rel r sz i off) => some ⟨true, .l (.rel r sz i off), []⟩
    | .fn f caps => some ⟨true, .fn f caps, []⟩
    | _ => none
  | .convert a b x => match T a, T b with
    | some i, some j => match i.d, j.d, opd st x with
      | _, .int k', .l (.int _ n) => some ⟨true, .l (.int k' (k'.wrap n)), []⟩
      | _, .str, .l (.str s) => some ⟨true, .l (.str s), []⟩
      | .str, .slice e, .l (.str s) => match (match T e with | some ie => (match ie.d with | .int .u8 => true | _ => false) | none => false) with
        | true => some ⟨true, .l (.sl (.int .u8) e (s.data.toList.map fun c => (c.toNat : Int)) (some false)), []⟩
        | false => none
      | .slice e, .str, .l x => match (match T e with | some ie => (match ie.d with | .int .u8 => true | _ => false) | none => false) with
        | true => match x with
          | .nils => some ⟨true, .l (.str ⟨#[]⟩), []⟩
          | x => match sliOf st.hp x with
            | some ⟨.int .u8, _, xs⟩ => some ⟨true, .l (.str ⟨(xs.map fun n : Int => UInt8.ofNat n.toNat).toArray⟩), []⟩
            | _ => none
        | false => none
      | _, _, _ => none
    | _, _ => none
  | .slice t x lo hi mx => match mx with
    | some _ => none
    | none => match opd st x with
      | .l (.str s) => match (match T t with | some it => (match it.d with | .str => true | _ => false) | none => false) with
        | true => match bndV st 0 lo, bndV st (s.size : Int) hi with
          | some l, some h => some ⟨decide (0 ≤ l) && decide (l ≤ h) && decide (h ≤ (s.size : Int)), .l (.str (s.extract l.toNat h.toNat)), []⟩
          | _, _ => none
        | false => none
      | .l x => match sliOf st.hp x with
        | some ⟨k, e, xs⟩ => match elOf T t with
          | some (e', k') => match Nat.beq e' e && Nat.beq k'.sz k.sz with
            | true => match bndV st 0 lo, bndV st (xs.length : Int) hi with
              | some l, some h => some ⟨decide (0 ≤ l) && decide (l ≤ h) && decide (h ≤ (xs.length : Int)), .l (.sl k e ((xs.take h.toNat).drop l.toNat) none), frzUps st.hp [x]⟩
              | _, _ => none
            | false => none
          | none => none
        | none => none
      | _ => none
  | .buildSlice t len ps => match o.dst, elOf T t with
    | some d, some (e, k) => match T e with
      | some i => match elemsOf T st i k 0 ps.toList, Nat.beq len ps.toList.length && Nat.ble (len * i.sz) 16777216 with
        | some (xs, cs), true => some ⟨true, .l (.rs d), frzUps st.hp cs ++ [.new d (.row k e xs (some false) false)]⟩
        | _, _ => none
      | none => none
    | _, _ => none
  | .makeFunc (.func f) first caps => match first.toList with
    | [] => match capsOf st caps.toList with
      | some cs => some ⟨true, .fn f cs, []⟩
      | none => none
    | _ => none
  | .call c => match c.callee with
    | .builtin .len => match c.args.toList, c.argTypes.toList with
      | [x], [t] => match T t, opd st x with
        | some i, .l v => match lenL st.hp i.d v with
          | some n => some ⟨true, .l (.int .i64 n), []⟩
          | none => none
        | _, _ => none
      | _, _ => none
    | .builtin .min => match c.args.toList.map (opd st) with
      | [.l (.int k a), .l (.int k' b)] => match decide (k = k') with
        | true => some ⟨true, .l (.int k (cond (decide (b < a)) b a)), []⟩
        | false => none
      | _ => none
    | .builtin .max => match c.args.toList.map (opd st) with
      | [.l (.int k a), .l (.int k' b)] => match decide (k = k') with
        | true => some ⟨true, .l (.int k (cond (decide (b > a)) b a)), []⟩
        | false => none
      | _ => none
    | .builtin .append => match o.dst, c.args.toList, c.argTypes.toList with
      | some d, [x, y], t :: t' :: [] => match Nat.beq t t', elOf T t, opd st x, opd st y with
        | true, some (e, k), .l .nils, .l y => match sliOf st.hp y with
          | some ⟨k', e', ys⟩ => if h : k' = k then match roomOk T e ys.length with
              | some ok => match Nat.beq e e' with
                | true => some ⟨ok, .l (.rs d), [.new d (.row k e (h ▸ ys) none false)]⟩
                | false => none
              | none => none
            else none
          | none => none
        | true, some (e, k), .l (.rs r), .l .nils => match getH st.hp r with
          | some (.row k1 e1 xs nil false) => some ⟨true, .l (.rs d), [.del r, .new d (.row k1 e1 xs nil false)]⟩
          | _ => none
        | true, some (e, k), .l (.rs r), .l y => match getH st.hp r with
          | some (.row k1 e1 xs _ false) => match sliOf st.hp y with
            | some ⟨k', e', ys⟩ => if h : k' = k1 then match roomOk T e (xs.length + ys.length) with
                | some ok => match Nat.beq e e' && Nat.beq e e1 && Nat.beq k.sz k1.sz with
                  | true => some ⟨ok, .l (.rs d), [.del r, .new d (.row k1 e (xs ++ (h ▸ ys)) none false)]⟩
                  | false => none
                | none => none
              else none
            | none => none
          | _ => none
        | _, _, _, _ => none
      | _, _, _ => none
    | .value f => match opd st f with
      | .fn g caps => match C g with
        | some sp =>
          let as0 := c.args.toList.map (opd st)
          let ln := lent st.hp sp.own as0
          let as1 := normAs T st.hp sp.own c.argTypes.toList as0 ++ caps.map SV.l
          let hpF := upsH st.hp (ln.map Up.frz)
          let fp := reach hpF 64 (as1.flatMap SV.leaves) []
          match sp.run (o.dst.getD 0) as1 (pickH hpF fp) with
          | some (ok, v, out) => match distinct (out.map Prod.fst) && fp.all (fun b => (getH hpF b).isSome) with
            | false => none
            | true => some ⟨ok, v, (cond (v.flat && out.all fun p => p.2.flat) [] (ln.map Up.frz)) ++ goneUps out fp ++ outUps fp out⟩
          | none => none
        | none => none
      | _ => none
    | _ => none
  | _ => none
end
/-- Are the cells the same? -/
def eqL : Nat → L → L → Option Bool
  | 0, .int k a, .int k' b => if k = k' then some (a == b) else none
  | 1, .bool a, .bool b => some (a == b)
  | 2, .str a, .str b => some (a.toList == b.toList)
  | _, _, _ => none
def eqLs : List Nat → List L → List L → Option Bool
  | [], [], [] => some true
  | n :: q, x :: r, y :: r' => match eqL n x y, eqLs q r r' with
    | some a, some b => match q with
      | [] => some a
      | _ :: _ => some (a && b)
    | _, _ => none
  | _, _, _ => none
def cmpP (T : Tab) (t : Nat) (y : Operand) (u v : SV) : Option Bool := match T t with
  | some i => match i.d, u, v with
    | .struct _, .agg xs, .agg ys => match i.eqt with
      | some q => eqLs q xs ys
      | none => none
    | .iface, .l (.ifc a), .l (.ifc true) => match y with
      | .const _ => some a
      | _ => none
    | .iface, .l (.ifi _ _ o), .l (.ifc true) => match y with
      | .const _ => some o.isNone
      | _ => none
    | _, _, _ => none
  | none => none
/-- What an operation does that looks at values alone. -/
def effP (T : Tab) (e : Operand → SV) (op : Go.Op) : Option (Bool × SV) := match op with
  | .binOp .eql t x y _ => match cmpP T t y (e x) (e y) with
    | some b => some (true, .l (.bool b))
    | none => none
  | .binOp .neq t x y _ => match cmpP T t y (e x) (e y) with
    | some b => some (true, .l (.bool (!b)))
    | none => none
  | .makeInterface t x => match T t with
    | some i => match i.d, e x with
      | .iface, _ => none
      | _, .l (.int k n) => some (true, .l (.ifi t k (some n)))
      | _, _ => some (true, .l (.ifc false))
    | none => none
  | .convert a b x => match T a, T b, e x with
    | some i, some j, .l (.int _ n) => match i.d, j.d with
      | .int _, .str => some (true, .l (.str (Utf8.encode n)))
      | _, _ => none
    | _, _, _ => none
  | _ => none
def eff (T : Tab) (C : Nat → Option Sp) (o : Oper) (st : St) : Option Ef := match effP T (opd st) o.op with
  | some (c, v) => some ⟨c, v, []⟩
  | none => eff0 T C o st

end Go.Proofs.YtopplbiadpcalaaDoor.U

/- The small abstract machine: how its state lies in the model's memory, and what keeps it so. -/
namespace Go.Proofs.YtopplbiadpcalaaDoor.U
open Go Go.RowKit

/-! ### Plain data in memory: 'cl a u': the cell at a is seen to hold u -/
def RRow {α : Type} (cl : Addr → Value → Prop) (sz : Nat) (R : α → List Value → Prop) (A : Option Addr) (xs : List α) : Prop :=
  0 < xs.length → ∃ b o, A = some ⟨b, o, none⟩ ∧ ∀ i x, xs[i]? = some x → ∃ cs, R x cs ∧ ∀ j u, cs[j]? = some u → cl ⟨b, o + (i * sz + j), none⟩ u
def IfiV (t : Nat) (k : IntKind) : Option Int → Value
  | none => .nilIface
  | some n => .iface t (.int k n)
def IfcV : Bool → Value → Prop
  | true, v => v = .nilIface
  | false, v => ∃ t p, v = .iface t p
def RK (cl : Addr → Value → Prop) : (k : Kn) → den k → List Value → Prop
  | .int ik, x, cs => cs = [.int ik x]
  | .bool, x, cs => cs = [.bool x]
  | .str, x, cs => cs = [.string x]
  | .ifc, x, cs => ∃ v, cs = [v] ∧ IfcV x v
  | .ifi t k, x, cs => cs = [IfiV t k x]
  | .prod a b, x, cs => ∃ c1 c2, cs = c1 ++ c2 ∧ RK cl a x.1 c1 ∧ RK cl b x.2 c2
  | .sl _ k, x, cs => ∃ A n c, cs = [.slice A n c] ∧ n = x.length ∧ n ≤ c ∧ RRow cl k.sz (RK cl k) A x
theorem RK_len {cl : Addr → Value → Prop} : ∀ {k : Kn} {x : den k} {cs : List Value}, RK cl k x cs → cs.length = k.sz
  | .int _, _, _, h => by rw [show _ = _ from h]; rfl
  | .bool, _, _, h => by rw [show _ = _ from h]; rfl
  | .str, _, _, h => by rw [show _ = _ from h]; rfl
  | .ifc, _, _, ⟨_, h, _⟩ => by rw [h]; rfl
  | .ifi _ _, _, _, h => by rw [show _ = _ from h]; rfl
  | .prod a b, _, _, h => by
    obtain ⟨c1, c2, rfl, h1, h2⟩ := h
    rw [List.length_append, RK_len h1, RK_len h2]; rfl
  | .sl _ _, _, _, h => by
    obtain ⟨_, _, _, rfl, _⟩ := h
    rfl
theorem RK_one {cl : Addr → Value → Prop} : ∀ {k : Kn} {x : den k} {cs : List Value}, RK cl k x cs → ∀ u ∈ cs, u.oneCell' = true
  | .int _, _, _, h, u, hu => by rw [show _ = _ from h] at hu; simp at hu; subst hu; rfl
  | .bool, _, _, h, u, hu => by rw [show _ = _ from h] at hu; simp at hu; subst hu; rfl
  | .str, _, _, h, u, hu => by rw [show _ = _ from h] at hu; simp at hu; subst hu; rfl
  | .ifc, x, _, ⟨_, h, h'⟩, u, hu => by
    rw [h] at hu; simp at hu; subst hu
    cases x with
    | true => rw [show _ = _ from h']; rfl
    | false => obtain ⟨t, p, rfl⟩ := h'; rfl
  | .ifi _ _, x, _, h, u, hu => by rw [show _ = _ from h] at hu; simp at hu; subst hu; cases x <;> rfl
  | .prod a b, _, _, h, u, hu => by
    obtain ⟨c1, c2, rfl, h1, h2⟩ := h
    rcases List.mem_append.1 hu with hu | hu
    · exact RK_one h1 u hu
    · exact RK_one h2 u hu
  | .sl _ _, _, _, h, u, hu => by
    obtain ⟨_, _, _, rfl, _⟩ := h
    simp at hu; subst hu; rfl

theorem RRow.mono {α : Type} {cl cl' : Addr → Value → Prop} {sz : Nat} {R R' : α → List Value → Prop} {A : Option Addr} {xs : List α} (h : RRow cl sz R A xs) (hc : ∀ a u, cl a u → cl' a u) (hR : ∀ x cs, R x cs → R' x cs) : RRow cl' sz R' A xs := fun h0 => by
  obtain ⟨b, o, hA, hi⟩ := h h0
  refine ⟨b, o, hA, fun i x hx => ?_⟩
  obtain ⟨cs, h1, h2⟩ := hi i x hx
  exact ⟨cs, hR _ _ h1, fun j u hj => hc _ _ (h2 j u hj)⟩
theorem RK.mono {cl cl' : Addr → Value → Prop} (hc : ∀ a u, cl a u → cl' a u) : ∀ {k : Kn} {x : den k} {cs : List Value}, RK cl k x cs → RK cl' k x cs
  | .int _, _, _, h => h
  | .bool, _, _, h => h
  | .str, _, _, h => h
  | .ifc, _, _, h => h
  | .ifi _ _, _, _, h => h
  | .prod a b, _, _, ⟨c1, c2, he, h1, h2⟩ => ⟨c1, c2, he, RK.mono hc h1, RK.mono hc h2⟩
  | .sl _ _, _, _, ⟨A, n, c, he, hn, hl, hr⟩ => ⟨A, n, c, he, hn, hl, hr.mono hc (fun _ _ h => RK.mono hc h)⟩
/-- What is seen of w through the cells of ro. -/
def Vis (ro : Addr → Prop) (w : World) (a : Addr) (u : Value) : Prop := ro a ∧ w.cell? a = some u

/-! ### Cells, values -/
def RL (ψ : Nat → Value) (ro : Addr → Prop) (w : World) : L → Value → Prop
  | .int k n, v => v = .int k n
  | .bool b, v => v = .bool b
  | .str s, v => v = .string s
  | .sl k _ xs nil, v => ∃ A c, v = .slice A xs.length c ∧ xs.length ≤ c ∧ (∀ b, nil = some b → A.isNone = b) ∧ RRow (Vis ro w) k.sz (RK (Vis ro w) k) A xs
  | .nils, v => v = .slice none 0 0
  | .el k _ xs i off, v => ∃ b o, v = .pointer (some ⟨b, o + (i * k.sz + off), none⟩) ∧ i < xs.length ∧ RRow (Vis ro w) k.sz (RK (Vis ro w) k) (some ⟨b, o, none⟩) xs
  | .ptr b off, v => ∃ g, ψ b = .pointer (some ⟨g, 0, none⟩) ∧ v = .pointer (some ⟨g, off, none⟩)
  | .rs r, v => v = ψ r ∧ ∃ A n c, v = .slice A n c
  | .rel r sz i off, v => ∃ g n c, ψ r = .slice (some ⟨g, 0, none⟩) n c ∧ i < n ∧ v = .pointer (some ⟨g, i * sz + off, none⟩)
  | .nilp, v => v = .pointer none
  | .ifc b, v => IfcV b v
  | .ifi t k n, v => v = IfiV t k n
  | .undef, v => v = undef
  | .un, _ => True
def RLs (ψ : Nat → Value) (ro : Addr → Prop) (w : World) : List L → List Value → Prop
  | [], [] => True
  | x :: xs, v :: vs => RL ψ ro w x v ∧ RLs ψ ro w xs vs
  | _, _ => False
def RE (ψ : Nat → Value) (ro : Addr → Prop) (w : World) : L ⊕ List L → Value → Prop
  | .inl x, v => RL ψ ro w x v
  | .inr cs, v => ∃ vs : List Value, v = .agg vs.toArray ∧ RLs ψ ro w cs vs
def REs (ψ : Nat → Value) (ro : Addr → Prop) (w : World) : List (L ⊕ List L) → List Value → Prop
  | [], [] => True
  | x :: xs, v :: vs => RE ψ ro w x v ∧ REs ψ ro w xs vs
  | _, _ => False
def RV (ψ : Nat → Value) (ro : Addr → Prop) (w : World) : SV → Value → Prop
  | .l x, v => RL ψ ro w x v
  | .agg cs, v => ∃ vs : List Value, v = .agg vs.toArray ∧ RLs ψ ro w cs vs
  | .tup es, v => ∃ vs : List Value, v = .tuple vs.toArray ∧ REs ψ ro w es vs
  | .fn f caps, v => ∃ vs : List Value, v = .func (.func f) #[] vs.toArray ∧ RLs ψ ro w caps vs
def RVs (ψ : Nat → Value) (ro : Addr → Prop) (w : World) : List SV → List Value → Prop
  | [], [] => True
  | x :: xs, v :: vs => RV ψ ro w x v ∧ RVs ψ ro w xs vs
  | _, _ => False

section
variable {ψ ψ' : Nat → Value} {ro ro' : Addr → Prop} {w w' : World}

theorem RLs_len : ∀ {cs : List L} {vs : List Value}, RLs ψ ro w cs vs → cs.length = vs.length
  | [], [], _ => rfl
  | _ :: _, _ :: _, h => by simp [RLs_len h.2]
  | [], _ :: _, h => h.elim
  | _ :: _, [], h => h.elim
theorem RVs_len : ∀ {xs : List SV} {vs : List Value}, RVs ψ ro w xs vs → xs.length = vs.length
  | [], [], _ => rfl
  | _ :: _, _ :: _, h => by simp [RVs_len h.2]
  | [], _ :: _, h => h.elim
  | _ :: _, [], h => h.elim
theorem RLs_get : ∀ {cs : List L} {vs : List Value}, RLs ψ ro w cs vs → ∀ {i : Nat} {x : L}, cs[i]? = some x → ∃ v, vs[i]? = some v ∧ RL ψ ro w x v
  | [], [], _, i, x, h => by simp at h
  | _ :: _, v :: _, h, 0, x, hx => by simp at hx; subst hx; exact ⟨v, rfl, h.1⟩
  | _ :: _, _ :: _, h, i + 1, x, hx => by
    obtain ⟨v, hv, hr⟩ := RLs_get h.2 (i := i) (x := x) (by simpa using hx)
    exact ⟨v, by simpa using hv, hr⟩
  | [], _ :: _, h, _, _, _ => h.elim
  | _ :: _, [], h, _, _, _ => h.elim
theorem RLs_append : ∀ {cs ds : List L} {vs us : List Value}, RLs ψ ro w cs vs → RLs ψ ro w ds us → RLs ψ ro w (cs ++ ds) (vs ++ us)
  | [], _, [], _, _, h => h
  | _ :: _, _, _ :: _, _, h, k => ⟨h.1, RLs_append h.2 k⟩
  | [], _, _ :: _, _, h, _ => h.elim
  | _ :: _, _, [], _, h, _ => h.elim
theorem RLs_split : ∀ {cs ds : List L} {vs : List Value}, RLs ψ ro w (cs ++ ds) vs → ∃ v1 v2, vs = v1 ++ v2 ∧ RLs ψ ro w cs v1 ∧ RLs ψ ro w ds v2
  | [], _, vs, h => ⟨[], vs, rfl, trivial, h⟩
  | _ :: _, _, [], h => h.elim
  | _ :: _, _, v :: _, h => by
    obtain ⟨v1, v2, rfl, h1, h2⟩ := RLs_split h.2
    exact ⟨v :: v1, v2, rfl, ⟨h.1, h1⟩, h2⟩
theorem RLs_drop : ∀ {cs : List L} {vs : List Value} (n : Nat), RLs ψ ro w cs vs → RLs ψ ro w (cs.drop n) (vs.drop n)
  | cs, vs, 0, h => h
  | [], [], _ + 1, _ => trivial
  | _ :: _, _ :: _, n + 1, h => RLs_drop n h.2
  | [], _ :: _, _ + 1, h => h.elim
  | _ :: _, [], _ + 1, h => h.elim
theorem RLs_take : ∀ {cs : List L} {vs : List Value} (n : Nat), RLs ψ ro w cs vs → RLs ψ ro w (cs.take n) (vs.take n)
  | _, _, 0, _ => by simp [RLs]
  | [], [], _ + 1, _ => trivial
  | _ :: _, _ :: _, n + 1, h => ⟨h.1, RLs_take n h.2⟩
  | [], _ :: _, _ + 1, h => h.elim
  | _ :: _, [], _ + 1, h => h.elim
theorem RVs_append : ∀ {xs ys : List SV} {vs us : List Value}, RVs ψ ro w xs vs → RVs ψ ro w ys us → RVs ψ ro w (xs ++ ys) (vs ++ us)
  | [], _, [], _, _, h => h
  | _ :: _, _, _ :: _, _, h, k => ⟨h.1, RVs_append h.2 k⟩
  | [], _, _ :: _, _, h, _ => h.elim
  | _ :: _, _, [], _, h, _ => h.elim
theorem RVs_l : ∀ {xs : List L} {vs : List Value}, RLs ψ ro w xs vs → RVs ψ ro w (xs.map SV.l) vs
  | [], [], _ => trivial
  | _ :: _, _ :: _, h => ⟨h.1, RVs_l h.2⟩
  | [], _ :: _, h => h.elim
  | _ :: _, [], h => h.elim

/-- Cells alone are read otherwise. -/
theorem RLs.map {f : L → L} (hf : ∀ x v, RL ψ ro w x v → RL ψ' ro' w' (f x) v) : ∀ {cs : List L} {vs : List Value}, RLs ψ ro w cs vs → RLs ψ' ro' w' (cs.map f) vs
  | [], [], _ => trivial
  | _ :: _, _ :: _, h => ⟨hf _ _ h.1, RLs.map hf h.2⟩
  | [], _ :: _, h => h.elim
  | _ :: _, [], h => h.elim
def SV.map (f : L → L) : SV → SV
  | .l x => .l (f x)
  | .agg cs => .agg (cs.map f)
  | .tup es => .tup (es.map fun | .inl x => .inl (f x) | .inr cs => .inr (cs.map f))
  | .fn g caps => .fn g (caps.map f)
theorem REs.map {f : L → L} (hf : ∀ x v, RL ψ ro w x v → RL ψ' ro' w' (f x) v) : ∀ {es : List (L ⊕ List L)} {vs : List Value}, REs ψ ro w es vs → REs ψ' ro' w' (es.map fun | .inl x => .inl (f x) | .inr cs => .inr (cs.map f)) vs
  | [], [], _ => trivial
  | .inl x :: _, _ :: _, h => ⟨hf _ _ h.1, REs.map hf h.2⟩
  | .inr cs :: _, _ :: _, h => by
    obtain ⟨⟨us, rfl, h1⟩, h2⟩ := h
    exact ⟨⟨us, rfl, h1.map hf⟩, REs.map hf h2⟩
  | [], _ :: _, h => h.elim
  | _ :: _, [], h => h.elim
theorem RV.map {f : L → L} (hf : ∀ x v, RL ψ ro w x v → RL ψ' ro' w' (f x) v) {x : SV} {v : Value} (h : RV ψ ro w x v) : RV ψ' ro' w' (x.map f) v := by
  cases x with
  | l x => exact hf _ _ h
  | agg cs => obtain ⟨vs, rfl, h⟩ := h; exact ⟨vs, rfl, h.map hf⟩
  | tup es => obtain ⟨vs, rfl, h⟩ := h; exact ⟨vs, rfl, h.map hf⟩
  | fn g caps => obtain ⟨vs, rfl, h⟩ := h; exact ⟨vs, rfl, h.map hf⟩

/-- What moves a cell's reading from one state to another. -/
theorem RL.move {x : L} {v : Value} (h : RL ψ ro w x v) (hp : ∀ b, x.ref = some b → ψ' b = ψ b)
    (hm : ∀ a u, ro a → w.cell? a = some u → ro' a ∧ w'.cell? a = some u) : RL ψ' ro' w' x v := by
  cases x with
  | sl k e xs nil =>
    obtain ⟨A, c, hv, hc, hn, hs⟩ := h
    exact ⟨A, c, hv, hc, hn, hs.mono (fun a u h => hm a u h.1 h.2) (fun _ _ h => RK.mono (fun a u h => hm a u h.1 h.2) h)⟩
  | el k e xs i off =>
    obtain ⟨b, o, hv, hi, hs⟩ := h
    exact ⟨b, o, hv, hi, hs.mono (fun a u h => hm a u h.1 h.2) (fun _ _ h => RK.mono (fun a u h => hm a u h.1 h.2) h)⟩
  | ptr b off =>
    obtain ⟨g, h1, h2⟩ := h
    exact ⟨g, by rw [hp b rfl]; exact h1, h2⟩
  | rs r => exact ⟨h.1.trans (hp r rfl).symm, h.2⟩
  | rel r sz i off =>
    obtain ⟨g, n, c, h1, h2⟩ := h
    exact ⟨g, n, c, by rw [hp r rfl]; exact h1, h2⟩
  | _ => exact h
theorem RLs.move : ∀ {cs : List L} {vs : List Value}, RLs ψ ro w cs vs → (∀ x ∈ cs, ∀ b, x.ref = some b → ψ' b = ψ b) →
    (∀ a u, ro a → w.cell? a = some u → ro' a ∧ w'.cell? a = some u) → RLs ψ' ro' w' cs vs
  | [], [], _, _, _ => trivial
  | x :: _, _ :: _, h, hp, hm => ⟨RL.move h.1 (hp x (by simp)) hm, RLs.move h.2 (fun y hy => hp y (by simp [hy])) hm⟩
  | [], _ :: _, h, _, _ => h.elim
  | _ :: _, [], h, _, _ => h.elim
theorem REs.move : ∀ {es : List (L ⊕ List L)} {vs : List Value}, REs ψ ro w es vs → (∀ x ∈ (SV.tup es).leaves, ∀ b, x.ref = some b → ψ' b = ψ b) →
    (∀ a u, ro a → w.cell? a = some u → ro' a ∧ w'.cell? a = some u) → REs ψ' ro' w' es vs
  | [], [], _, _, _ => trivial
  | .inl x :: es, _ :: _, h, hp, hm =>
    ⟨RL.move h.1 (hp x (by simp [SV.leaves])) hm, REs.move h.2 (fun y hy => hp y (by simp only [SV.leaves, List.flatMap_cons, List.mem_append] at hy ⊢; exact .inr hy)) hm⟩
  | .inr cs :: es, _ :: _, h, hp, hm => by
    obtain ⟨⟨vs, rfl, h1⟩, h2⟩ := h
    exact ⟨⟨vs, rfl, h1.move (fun y hy => hp y (by simp only [SV.leaves, List.flatMap_cons, List.mem_append]; exact .inl hy)) hm⟩,
      REs.move h2 (fun y hy => hp y (by simp only [SV.leaves, List.flatMap_cons, List.mem_append] at hy ⊢; exact .inr hy)) hm⟩
  | [], _ :: _, h, _, _ => h.elim
  | _ :: _, [], h, _, _ => h.elim
theorem RV.move {x : SV} {v : Value} (h : RV ψ ro w x v) (hp : ∀ y ∈ x.leaves, ∀ b, y.ref = some b → ψ' b = ψ b)
    (hm : ∀ a u, ro a → w.cell? a = some u → ro' a ∧ w'.cell? a = some u) : RV ψ' ro' w' x v := by
  cases x with
  | l x => exact RL.move h (hp x (by simp [SV.leaves])) hm
  | agg cs =>
    obtain ⟨vs, rfl, h⟩ := h
    exact ⟨vs, rfl, h.move hp hm⟩
  | tup es =>
    obtain ⟨vs, rfl, h⟩ := h
    exact ⟨vs, rfl, h.move hp hm⟩
  | fn f caps =>
    obtain ⟨vs, rfl, h⟩ := h
    exact ⟨vs, rfl, h.move hp hm⟩
theorem RVs.move : ∀ {xs : List SV} {vs : List Value}, RVs ψ ro w xs vs → (∀ x ∈ xs, ∀ y ∈ x.leaves, ∀ b, y.ref = some b → ψ' b = ψ b) →
    (∀ a u, ro a → w.cell? a = some u → ro' a ∧ w'.cell? a = some u) → RVs ψ' ro' w' xs vs
  | [], [], _, _, _ => trivial
  | x :: _, _ :: _, h, hp, hm => ⟨RV.move h.1 (hp x (by simp)) hm, RVs.move h.2 (fun y hy => hp y (by simp [hy])) hm⟩
  | [], _ :: _, h, _, _ => h.elim
  | _ :: _, [], h, _, _ => h.elim
end

/-! ### Objects -/
/-- A row's elements, one behind the other. -/
def RKs (cl : Addr → Value → Prop) (k : Kn) : List (den k) → List Value → Prop
  | [], us => us = []
  | x :: xs, us => ∃ c r, us = c ++ r ∧ RK cl k x c ∧ RKs cl k xs r
theorem Kn.pos : ∀ k : Kn, 0 < k.sz
  | .int _ => Nat.one_pos
  | .bool => Nat.one_pos
  | .str => Nat.one_pos
  | .ifc => Nat.one_pos
  | .ifi _ _ => Nat.one_pos
  | .prod a b => by have := Kn.pos a; simp only [Kn.sz]; omega
  | .sl _ _ => Nat.one_pos
section
variable {cl cl' : Addr → Value → Prop} {k : Kn}
theorem RKs.mono (hc : ∀ a u, cl a u → cl' a u) : ∀ {xs : List (den k)} {us : List Value}, RKs cl k xs us → RKs cl' k xs us
  | [], _, h => h
  | _ :: _, _, ⟨c, r, he, h1, h2⟩ => ⟨c, r, he, RK.mono hc h1, RKs.mono hc h2⟩
theorem RKs_len : ∀ {xs : List (den k)} {us : List Value}, RKs cl k xs us → us.length = xs.length * k.sz
  | [], us, h => by rw [show us = [] from h]; simp
  | x :: xs, us, ⟨c, r, he, h1, h2⟩ => by rw [he, List.length_append, RK_len h1, RKs_len h2, List.length_cons, Nat.add_mul, Nat.one_mul, Nat.add_comm]
theorem RKs_append : ∀ {xs ys : List (den k)} {us vs : List Value}, RKs cl k xs us → RKs cl k ys vs → RKs cl k (xs ++ ys) (us ++ vs)
  | [], _, us, vs, h, h' => by rw [show us = [] from h]; exact h'
  | x :: xs, _, us, vs, ⟨c, r, he, h1, h2⟩, h' => ⟨c, r ++ vs, by rw [he, List.append_assoc], h1, RKs_append h2 h'⟩
theorem RKs_one : ∀ {xs : List (den k)} {us : List Value}, RKs cl k xs us → ∀ u ∈ us, u.oneCell' = true
  | [], us, h, u, hu => by rw [show us = [] from h] at hu; cases hu
  | x :: xs, us, ⟨c, r, he, h1, h2⟩, u, hu => by
    rw [he] at hu
    rcases List.mem_append.1 hu with hu | hu
    · exact RK_one h1 u hu
    · exact RKs_one h2 u hu
/-- One element's cells. -/
theorem RKs_get : ∀ {xs : List (den k)} {us : List Value}, RKs cl k xs us → ∀ {i : Nat} {x : den k}, xs[i]? = some x → ∃ c, RK cl k x c ∧ ∀ j u, c[j]? = some u → us[i * k.sz + j]? = some u
  | [], us, h, i, x, hx => by simp at hx
  | y :: xs, us, ⟨c, r, he, h1, h2⟩, 0, x, hx => by
    simp at hx
    subst hx
    refine ⟨c, h1, fun j u hj => ?_⟩
    rw [he, Nat.zero_mul, Nat.zero_add, List.getElem?_append_left (List.getElem?_eq_some_iff.1 hj).1]
    exact hj
  | y :: xs, us, ⟨c, r, he, h1, h2⟩, i + 1, x, hx => by
    obtain ⟨c', h3, h4⟩ := RKs_get h2 (i := i) (x := x) (by simpa using hx)
    refine ⟨c', h3, fun j u hj => ?_⟩
    rw [he, List.getElem?_append_right (by rw [RK_len h1, Nat.add_mul]; omega), RK_len h1]
    rw [show (i + 1) * k.sz + j - k.sz = i * k.sz + j by rw [Nat.add_mul]; omega]
    exact h4 j u hj
/-- One element is another one. -/
theorem RKs_set : ∀ {xs : List (den k)} {us : List Value}, RKs cl k xs us → ∀ {i : Nat} {z : den k} {c : List Value}, i < xs.length → RK cl k z c → RKs cl k (xs.set i z) (us.take (i * k.sz) ++ c ++ us.drop (i * k.sz + k.sz))
  | [], us, h, i, z, c, hi, hz => by simp at hi
  | y :: xs, us, ⟨d, r, he, h1, h2⟩, 0, z, c, hi, hz => by
    refine ⟨c, r, ?_, hz, h2⟩
    rw [he, Nat.zero_mul, Nat.zero_add, ← RK_len h1]
    simp
  | y :: xs, us, ⟨d, r, he, h1, h2⟩, i + 1, z, c, hi, hz => by
    refine ⟨d, r.take (i * k.sz) ++ c ++ r.drop (i * k.sz + k.sz), ?_, h1, RKs_set h2 (by simpa using hi) hz⟩
    rw [he]
    have hl := RK_len h1
    rw [show (i + 1) * k.sz = d.length + i * k.sz by rw [hl, Nat.add_mul]; omega]
    rw [List.take_append, List.drop_append]
    rw [List.take_of_length_le (by omega), List.drop_eq_nil_of_le (by omega)]
    rw [show d.length + i * k.sz - d.length = i * k.sz by omega, show d.length + i * k.sz + k.sz - d.length = i * k.sz + k.sz by omega]
    simp [List.append_assoc]
end

/-- The block that a reference leads to. -/
def blk : Value → Option Nat
  | .pointer (some a) => some a.block
  | .slice (some a) _ _ => some a.block
  | _ => none
def nilS : Value → Bool
  | .slice none _ _ => true
  | _ => false
def OOk (ψ : Nat → Value) (ro : Addr → Prop) (w : World) : Ob → Value → Prop
  | .box t cs, v => ∃ g, ∃ vs : List Value, v = .pointer (some ⟨g, 0, none⟩) ∧ w.heap[g]? = some (.cells vs.toArray t (0, 0)) ∧ RLs ψ ro w cs vs
  | .row k e xs nil false, v => ∃ us, w.ownsRow 0 e k.sz v xs.length us ∧ RKs (Vis ro w) k xs us ∧ ∀ b, nil = some b → nilS v = b
  | .row k _ xs nil true, v => ∃ A c, v = .slice A xs.length c ∧ xs.length ≤ c ∧ (∀ b, nil = some b → nilS v = b) ∧ RRow (Vis ro w) k.sz (RK (Vis ro w) k) A xs
theorem ownBlock_blk {v : Value} {w : World} {b e sz n : Nat} {us : List Value} (h : w.ownsRow b e sz v n us) : v.ownBlock = blk v := by
  rcases h.2 with ⟨rfl, _⟩ | ⟨g, cap, cur, rfl, _⟩ <;> rfl
theorem OOk.move {ψ ψ' : Nat → Value} {ro ro' : Addr → Prop} {w w' : World} {o : Ob} {v : Value} (h : OOk ψ ro w o v) (hp : ∀ x ∈ o.leaves, ∀ b, x.ref = some b → ψ' b = ψ b)
    (hm : ∀ a u, ro a → w.cell? a = some u → ro' a ∧ w'.cell? a = some u) (hb : ∀ g, o.live = true → blk v = some g → w'.heap[g]? = w.heap[g]?) : OOk ψ' ro' w' o v := by
  cases o with
  | box t cs =>
    obtain ⟨g, vs, rfl, hh, hl⟩ := h
    exact ⟨g, vs, rfl, (hb g rfl rfl).trans hh, hl.move hp hm⟩
  | row k e xs nil fz =>
    cases fz with
    | false =>
      obtain ⟨us, h1, h2, h3⟩ := h
      refine ⟨us, ⟨h1.1, ?_⟩, h2.mono (fun a u h => hm a u h.1 h.2), h3⟩
      rcases h1.2 with hn | ⟨g, cap, cur, rfl, hbg, hg, rest⟩
      · exact .inl hn
      · exact .inr ⟨g, cap, cur, rfl, hbg, (hb g rfl rfl).trans hg, rest⟩
    | true =>
      obtain ⟨A, c, hv, hc, hn, hs⟩ := h
      exact ⟨A, c, hv, hc, hn, hs.mono (fun a u h => hm a u h.1 h.2) (fun _ _ h => RK.mono (fun a u h => hm a u h.1 h.2) h)⟩
theorem OOk.lt {ψ : Nat → Value} {ro : Addr → Prop} {w : World} {o : Ob} {v : Value} (h : OOk ψ ro w o v) (hl : o.live = true) {g : Nat} (hg : blk v = some g) : g < w.heap.size := by
  cases o with
  | box t cs =>
    obtain ⟨g', vs, rfl, hh, _⟩ := h
    obtain rfl : g' = g := by simpa [blk] using hg
    exact (Array.getElem?_eq_some_iff.1 hh).1
  | row k e xs nil fz =>
    cases fz with
    | true => cases hl
    | false =>
      obtain ⟨us, h1, _⟩ := h
      exact (h1.lt g (by rw [ownBlock_blk h1]; exact hg)).2
end Go.Proofs.YtopplbiadpcalaaDoor.U

/- The small abstract machine: its state and the model's, side by side; what any step keeps. -/
namespace Go.Proofs.YtopplbiadpcalaaDoor.U
open Go Go.RowKit

/-- What a call began with: its world, what it may see there, the blocks that it was handed to write. -/
structure Cx where
  w0 : World
  ro0 : Addr → Prop
  X : Nat → Prop
  ψ0 : Nat → Value
  pins : List Nat
structure Fr (w0 : World) (X : Nat → Prop) (w : World) : Prop where
  os : w.os = w0.os
  tape : w.tape = w0.tape
  output : w.output = w0.output
  size : w0.heap.size ≤ w.heap.size
  block : ∀ i, i < w0.heap.size → ¬ X i → w.heap[i]? = w0.heap[i]?
theorem Fr.refl (w : World) (X : Nat → Prop) : Fr w X w := ⟨rfl, rfl, rfl, Nat.le_refl _, fun _ _ _ => rfl⟩
theorem Fr.below {w0 w : World} (h : Fr w0 (fun _ => False) w) : Below w0.heap.size w0 w := ⟨h.os, h.tape, h.output, h.size, fun i hi => h.block i hi (fun h => h)⟩
theorem Fr.of_below {w w' : World} (h : Below w.heap.size w w') (X : Nat → Prop) : Fr w X w' := ⟨h.os, h.tape, h.output, h.size, fun i hi _ => h.block i hi⟩
/-- A block that a live object lies in. -/
def LB (ψ : Nat → Value) (hp : Heap) (g : Nat) : Prop := ∃ b o, getH hp b = some o ∧ o.live = true ∧ blk (ψ b) = some g
def RO (cx : Cx) (ψ : Nat → Value) (hp : Heap) (a : Addr) : Prop :=
  (a.block < cx.w0.heap.size → cx.ro0 a ∨ cx.X a.block) ∧ ¬ LB ψ hp a.block
structure Rel (cx : Cx) (ψ : Nat → Value) (st : St) (a : Act) (w : World) : Prop where
  nt : a.tmps.size = st.nt
  df : a.defers = []
  env : ∀ d, RV ψ (RO cx ψ st.hp) w (getE st.env d) (a.tmps.getD d undef)
  obj : ∀ b o, getH st.hp b = some o → OOk ψ (RO cx ψ st.hp) w o (ψ b)
  onew : ∀ g, LB ψ st.hp g → cx.w0.heap.size ≤ g ∨ cx.X g
  oinj : ∀ b b' o o' g, getH st.hp b = some o → getH st.hp b' = some o' → o.live = true → o'.live = true → blk (ψ b) = some g → blk (ψ b') = some g → b = b'
  fr : Fr cx.w0 cx.X w
  pin : st.pin = cx.pins ∧ ∀ b ∈ st.pin, ψ b = cx.ψ0 b

theorem getE_del (env : List (Nat × SV)) (d : Nat) : ∀ j, getE (delE env d) j = if j = d then .l .un else getE env j := by
  induction env with
  | nil => intro j; simp [delE, getE]
  | cons p r ih =>
    intro j
    obtain ⟨i, v⟩ := p
    simp only [delE]
    cases hid : Nat.beq i d
    · simp only [getE]
      cases hij : Nat.beq i j
      · exact ih j
      · have h1 : i = j := Nat.eq_of_beq_eq_true hij
        have h2 : i ≠ d := Nat.ne_of_beq_eq_false hid
        rw [if_neg (by omega)]
    · have h1 : i = d := Nat.eq_of_beq_eq_true hid
      rw [ih j]
      by_cases hj : j = d
      · rw [if_pos hj, if_pos hj]
      · rw [if_neg hj, if_neg hj]
        have : Nat.beq i j = false := by rw [Bool.eq_false_iff]; intro h; exact hj (by rw [← Nat.eq_of_beq_eq_true h, h1])
        simp [getE, this]
theorem getE_put (st : St) (d : Nat) (v : SV) (j : Nat) : getE (st.put (some d) v).env j = if j = d then v else getE st.env j := by
  simp only [St.put, getE]
  cases h : Nat.beq d j
  · have : d ≠ j := Nat.ne_of_beq_eq_false h
    rw [getE_del, if_neg (by omega), if_neg (by omega)]
  · rw [if_pos (Nat.eq_of_beq_eq_true h).symm]
theorem act_put (a : Act) (d : Nat) (v : Value) (h : d < a.tmps.size) (j : Nat) : (a.put (some d) v).tmps.getD j undef = if j = d then v else a.tmps.getD j undef := by
  simp only [Act.put, Array.getD_eq_getD_getElem?, Array.getElem?_setIfInBounds]
  by_cases hj : d = j
  · subst hj; simp [h]
  · rw [if_neg hj, if_neg (Ne.symm hj)]
theorem getH_set (hp : Heap) (b : Nat) (o : Ob) (c : Nat) : getH (setH hp b o) c = if c = b then some o else getH hp c := by
  induction hp with
  | nil =>
    simp only [setH, getH]
    cases h : Nat.beq b c
    · rw [if_neg (Ne.symm (Nat.ne_of_beq_eq_false h))]
    · rw [if_pos (Nat.eq_of_beq_eq_true h).symm]
  | cons p r ih =>
    obtain ⟨i, v⟩ := p
    simp only [setH]
    cases hi : Nat.beq i b
    · simp only [getH]
      cases hj : Nat.beq i c
      · exact ih
      · have h1 := Nat.eq_of_beq_eq_true hj
        have h2 := Nat.ne_of_beq_eq_false hi
        rw [if_neg (by omega)]
    · have h1 := Nat.eq_of_beq_eq_true hi
      subst h1
      simp only [getH]
      cases hj : Nat.beq i c
      · rw [if_neg (Ne.symm (Nat.ne_of_beq_eq_false hj))]
      · rw [if_pos (Nat.eq_of_beq_eq_true hj).symm]
theorem getH_del (hp : Heap) (b c : Nat) : getH (delH hp b) c = if c = b then none else getH hp c := by
  induction hp with
  | nil => simp [delH, getH]
  | cons p r ih =>
    obtain ⟨i, v⟩ := p
    simp only [delH]
    cases hi : Nat.beq i b
    · simp only [getH]
      cases hj : Nat.beq i c
      · exact ih
      · have h1 := Nat.eq_of_beq_eq_true hj
        have h2 := Nat.ne_of_beq_eq_false hi
        rw [if_neg (by omega)]
    · have h1 := Nat.eq_of_beq_eq_true hi
      rw [ih]
      by_cases hc : c = b
      · rw [if_pos hc, if_pos hc]
      · rw [if_neg hc, if_neg hc]
        have : Nat.beq i c = false := by rw [Bool.eq_false_iff]; intro h; exact hc (by rw [← Nat.eq_of_beq_eq_true h, h1])
        simp [getH, this]
theorem getH_mem {hp : Heap} {b : Nat} {v : Ob} (h : getH hp b = some v) : (b, v) ∈ hp := by
  induction hp with
  | nil => simp [getH] at h
  | cons p r ih =>
    obtain ⟨i, u⟩ := p
    simp only [getH] at h
    cases hi : Nat.beq i b
    · rw [hi] at h; exact List.mem_cons_of_mem _ (ih h)
    · rw [hi] at h; simp at h; subst h; rw [Nat.eq_of_beq_eq_true hi]; exact List.mem_cons_self
theorem getE_mem {env : List (Nat × SV)} {d : Nat} : getE env d = .l .un ∨ (d, getE env d) ∈ env := by
  induction env with
  | nil => exact .inl rfl
  | cons p r ih =>
    obtain ⟨i, v⟩ := p
    simp only [getE]
    cases hi : Nat.beq i d
    · rcases ih with ih | ih
      · exact .inl ih
      · exact .inr (List.mem_cons_of_mem _ ih)
    · exact .inr (by rw [Nat.eq_of_beq_eq_true hi]; exact List.mem_cons_self)
theorem refs_ne {x : L} {d : Nat} (h : x.refs d = false) : ∀ b, x.ref = some b → b ≠ d := by
  intro b hb
  simp only [L.refs, hb] at h
  exact Nat.ne_of_beq_eq_false h
/-- Nothing is about key d. -/
def Free (st : St) (d : Nat) : Prop := (∀ j, ∀ y ∈ (getE st.env j).leaves, ∀ b, y.ref = some b → b ≠ d) ∧ ∀ b o, getH st.hp b = some o → b ≠ d ∧ ∀ y ∈ o.leaves, ∀ c, y.ref = some c → c ≠ d
theorem free_sem {st : St} {d : Nat} (h : st.free d = true) : Free st d := by
  simp only [St.free, Bool.and_eq_true, List.all_eq_true, Bool.not_eq_true'] at h
  constructor
  · intro j
    rcases getE_mem (env := st.env) (d := j) with he | he
    · rw [he]; intro y hy b hb; simp [SV.leaves] at hy; subst hy; cases hb
    · intro y hy; exact refs_ne (h.1 _ he y hy)
  · intro b o hb
    have h1 := h.2 _ (getH_mem hb)
    exact ⟨Nat.ne_of_beq_eq_false h1.1, fun y hy => refs_ne (h1.2 y hy)⟩
theorem free_env {st : St} {d : Nat} (h : Free st d) (j : Nat) : ∀ y ∈ (getE st.env j).leaves, ∀ b, y.ref = some b → b ≠ d := h.1 j
theorem free_hp {st : St} {d : Nat} (h : Free st d) {b : Nat} {o : Ob} (hb : getH st.hp b = some o) : b ≠ d ∧ ∀ y ∈ o.leaves, ∀ c, y.ref = some c → c ≠ d := h.2 b o hb
theorem cell_lt {w : World} {a : Addr} {u : Value} (h : w.cell? a = some u) : a.block < w.heap.size := World.block_lt_of_cell? w a h
section
variable {cx : Cx} {ψ ψ' : Nat → Value} {st : St} {a : Act} {w w' : World} {hp' : Heap}
theorem Rel.put (h : Rel cx ψ st a w) {d : Nat} (hd : d < st.nt) {v : SV} {x : Value} (hv : RV ψ (RO cx ψ st.hp) w v x) : Rel cx ψ (st.put (some d) v) (a.put (some d) x) w where
  nt := by simp [Act.put, St.put, h.nt]
  df := h.df
  env j := by
    rw [getE_put, act_put _ _ _ (by rw [h.nt]; exact hd)]
    split
    · exact hv
    · exact h.env j
  obj := h.obj
  onew := h.onew
  oinj := h.oinj
  fr := h.fr
  pin := h.pin
theorem Rel.put' (h : Rel cx ψ st a w) {dst : Option Nat} (hd : st.fit dst = true) {v : SV} {x : Value} (hv : RV ψ (RO cx ψ st.hp) w v x) : Rel cx ψ (st.put dst v) (a.put dst x) w := by
  cases dst with
  | none => exact h
  | some d => exact h.put (Nat.blt_eq.mp hd) hv
theorem Rel.lt (h : Rel cx ψ st a w) {g : Nat} (hg : LB ψ st.hp g) : g < w.heap.size := by
  obtain ⟨b, o, hb, hl, hk⟩ := hg
  exact (h.obj b o hb).lt hl hk

/-- A step: from the heap of a state to hp', from w to w'; 'D': the keys whose objects are touched, 'N': those among them that are new. -/
structure Stp (ψ : Nat → Value) (st : St) (w : World) (ψ' : Nat → Value) (hp' : Heap) (w' : World) (D N : Nat → Prop) : Prop where
  same : ∀ b, ¬ D b → getH hp' b = getH st.hp b
  ref : ∀ b, ¬ N b → ψ' b = ψ b
  sub : ∀ b, N b → D b
  fresh : ∀ d, N d → (∀ j, ∀ y ∈ (getE st.env j).leaves, ∀ b, y.ref = some b → b ≠ d) ∧ (∀ b o, ¬ D b → getH st.hp b = some o → ∀ y ∈ o.leaves, ∀ c, y.ref = some c → c ≠ d) ∧ d ∉ st.pin
  os : w'.os = w.os
  tape : w'.tape = w.tape
  output : w'.output = w.output
  size : w.heap.size ≤ w'.heap.size
  block : ∀ i, i < w.heap.size → (∀ b o, D b → getH st.hp b = some o → o.live = true → blk (ψ b) ≠ some i) → w'.heap[i]? = w.heap[i]?
  blks : ∀ b o g, D b → getH hp' b = some o → o.live = true → blk (ψ' b) = some g → w.heap.size ≤ g ∨ ∃ c oc, D c ∧ getH st.hp c = some oc ∧ oc.live = true ∧ blk (ψ c) = some g
  inj : ∀ b b' o o' g, D b → D b' → getH hp' b = some o → getH hp' b' = some o' → o.live = true → o'.live = true → blk (ψ' b) = some g → blk (ψ' b') = some g → b = b'
variable {D N : Nat → Prop}
theorem Stp.lb (s : Stp ψ st w ψ' hp' w' D N) {g : Nat} (hg : LB ψ' hp' g) : w.heap.size ≤ g ∨ LB ψ st.hp g := by
  obtain ⟨b, o, hb, hl, hk⟩ := hg
  by_cases hD : D b
  · rcases s.blks b o g hD hb hl hk with h | ⟨c, oc, _, h1, h2, h3⟩
    · exact .inl h
    · exact .inr ⟨c, oc, h1, h2, h3⟩
  · rw [s.same b hD] at hb
    rw [s.ref b (fun hn => hD (s.sub b hn))] at hk
    exact .inr ⟨b, o, hb, hl, hk⟩
/-- What is read stays. -/
theorem Stp.move (s : Stp ψ st w ψ' hp' w' D N) : ∀ p u, RO cx ψ st.hp p → w.cell? p = some u → RO cx ψ' hp' p ∧ w'.cell? p = some u := by
  intro p u hr hc
  have hlt := cell_lt hc
  refine ⟨⟨hr.1, fun hb => ?_⟩, (World.cell?_of_block (s.block _ hlt fun b o _ h1 h2 h3 => hr.2 ⟨b, o, h1, h2, h3⟩)).trans hc⟩
  rcases s.lb hb with h | h
  · omega
  · exact hr.2 h
theorem Rel.step (h : Rel cx ψ st a w) (s : Stp ψ st w ψ' hp' w' D N) (hobj : ∀ b o, D b → getH hp' b = some o → OOk ψ' (RO cx ψ' hp') w' o (ψ' b)) : Rel cx ψ' { st with hp := hp' } a w' where
  nt := h.nt
  df := h.df
  env d := (h.env d).move (fun y hy b hb => s.ref b fun hn => (s.fresh b hn).1 d y hy b hb rfl) s.move
  obj b o hb := by
    by_cases hD : D b
    · exact hobj b o hD hb
    · have hb' : getH hp' b = some o := hb
      rw [s.same b hD] at hb'
      rw [s.ref b (fun hn => hD (s.sub b hn))]
      refine (h.obj b o hb').move (fun y hy c hc => s.ref c fun hn => (s.fresh c hn).2.1 b o hD hb' y hy c hc rfl) s.move fun g hl hg => ?_
      refine s.block g ((h.obj b o hb').lt hl hg) fun c oc hDc h1 h2 h3 => hD ?_
      rw [h.oinj b c o oc g hb' h1 hl h2 hg h3]
      exact hDc
  onew g hg := by
    rcases s.lb hg with h1 | h1
    · exact .inl (Nat.le_trans h.fr.size h1)
    · exact h.onew g h1
  oinj b b' o o' g h1 h2 l1 l2 k1 k2 := by
    have h1 : getH hp' b = some o := h1
    have h2 : getH hp' b' = some o' := h2
    have key : ∀ c d oc od, D c → ¬ D d → getH hp' c = some oc → getH hp' d = some od → oc.live = true → od.live = true → blk (ψ' c) = some g → blk (ψ' d) = some g → False := by
      intro c d oc od hc hd hoc hod lc ld kc kd
      rw [s.same d hd] at hod
      rw [s.ref d (fun hn => hd (s.sub d hn))] at kd
      rcases s.blks c oc g hc hoc lc kc with hg | ⟨e, oe, hDe, he, le, ke⟩
      · have := (h.obj d od hod).lt ld kd; omega
      · exact hd (by rw [h.oinj d e od oe g hod he ld le kd ke]; exact hDe)
    by_cases hb : D b <;> by_cases hb' : D b'
    · exact s.inj b b' o o' g hb hb' h1 h2 l1 l2 k1 k2
    · exact (key b b' o o' hb hb' h1 h2 l1 l2 k1 k2).elim
    · exact (key b' b o' o hb' hb h2 h1 l2 l1 k2 k1).elim
    · rw [s.same b hb] at h1
      rw [s.same b' hb'] at h2
      rw [s.ref b (fun hn => hb (s.sub b hn))] at k1
      rw [s.ref b' (fun hn => hb' (s.sub b' hn))] at k2
      exact h.oinj b b' o o' g h1 h2 l1 l2 k1 k2
  fr := ⟨s.os.trans h.fr.os, s.tape.trans h.fr.tape, s.output.trans h.fr.output, Nat.le_trans h.fr.size s.size, fun i hi hx => by
    refine (s.block i (Nat.lt_of_lt_of_le hi h.fr.size) fun b o _ h1 h2 h3 => ?_).trans (h.fr.block i hi hx)
    rcases h.onew i ⟨b, o, h1, h2, h3⟩ with h4 | h4
    · omega
    · exact hx h4⟩
  pin := ⟨h.pin.1, fun b hb => (s.ref b fun hn => (s.fresh b hn).2.2 hb).trans (h.pin.2 b hb)⟩
/-- Nothing that lay there has been turned. -/
theorem Rel.below (h : Rel cx ψ st a w) (hb : Below w.heap.size w w') : Rel cx ψ st a w' :=
  h.step (ψ' := ψ) (hp' := st.hp) (D := fun _ => False) (N := fun _ => False)
    ⟨fun _ _ => rfl, fun _ _ => rfl, fun _ h => h, fun _ h => h.elim, hb.os, hb.tape, hb.output, hb.size, fun i hi _ => hb.block i hi, fun _ _ _ h => h.elim, fun _ _ _ _ _ h => h.elim⟩ (fun _ _ h => h.elim)
/-- States that answer alike. -/
theorem Rel.ext (h : Rel cx ψ st a w) {st' : St} (hn : st'.nt = st.nt) (hpn : st'.pin = st.pin) (he : ∀ d, getE st'.env d = getE st.env d) (hh : ∀ b, getH st'.hp b = getH st.hp b) : Rel cx ψ st' a w := by
  have hlb : ∀ g, LB ψ st'.hp g ↔ LB ψ st.hp g := fun g => by simp only [LB, hh]
  have hro : RO cx ψ st'.hp = RO cx ψ st.hp := by funext p; simp only [RO, hlb]
  exact {
    nt := h.nt.trans hn.symm
    df := h.df
    env := fun d => by rw [he, hro]; exact h.env d
    obj := fun b o hb => by rw [hh] at hb; rw [hro]; exact h.obj b o hb
    onew := fun g hg => h.onew g ((hlb g).1 hg)
    oinj := fun b b' o o' g h1 h2 => by rw [hh] at h1 h2; exact h.oinj b b' o o' g h1 h2
    fr := h.fr
    pin := ⟨hpn.trans h.pin.1, fun b hb => h.pin.2 b (by rw [← hpn]; exact hb)⟩ }
end

/-! ### Rows that nobody writes any more -/
theorem row_cells {w : World} {b e sz n : Nat} {v : Value} {us : List Value} (h : w.ownsRow b e sz v n us) : ∃ A c, v = .slice A n c ∧ n ≤ c ∧ (A = none → n = 0) ∧ ∀ ad, A = some ad → ad = ⟨ad.block, 0, none⟩ ∧ ∀ j u, us[j]? = some u → w.cell? ⟨ad.block, j, none⟩ = some u := by
  rcases h.2 with ⟨rfl, h0⟩ | ⟨g, cap, cur, rfl, _, hg, hn, _, hs, ht⟩
  · exact ⟨none, 0, (by rw [h0]), (by omega), (fun _ => h0), (fun ad h => by cases h)⟩
  · refine ⟨some ⟨g, 0, none⟩, cap, rfl, hn, (fun h => by cases h), fun ad had => ?_⟩
    obtain rfl := Option.some.inj had
    refine ⟨rfl, fun j u hj => ?_⟩
    simp only [World.cell?, hg]
    rw [← ht] at hj
    have hlt : j < n * sz := by
      have := (List.getElem?_eq_some_iff.1 hj).1
      rw [List.length_take] at this
      omega
    rw [List.getElem?_take_of_lt hlt] at hj
    simpa using hj
theorem nilS_isNone (A : Option Addr) (n c : Nat) : nilS (.slice A n c) = A.isNone := by cases A <;> rfl
theorem OOk.frz {ψ ψ' : Nat → Value} {ro ro' : Addr → Prop} {w : World} {o : Ob} {v : Value} (h : OOk ψ ro w o v) (hp : ∀ x ∈ o.leaves, ∀ b, x.ref = some b → ψ' b = ψ b) (hm : ∀ a u, ro a → w.cell? a = some u → ro' a) (hb : o.frz.live = false → o.live = true → ∀ a, blk v = some a.block → ro' a) : OOk ψ' ro' w o.frz v := by
  cases o with
  | box t cs => exact OOk.move (o := .box t cs) h hp (fun a u h1 h2 => ⟨hm a u h1 h2, h2⟩) (fun _ _ _ => rfl)
  | row k e xs nil fz =>
    cases fz with
    | true => exact OOk.move (o := .row k e xs nil true) h hp (fun a u h1 h2 => ⟨hm a u h1 h2, h2⟩) (fun _ _ _ => rfl)
    | false =>
      obtain ⟨us, h1, h2, h3⟩ := h
      obtain ⟨A, c, rfl, hc, hz, hcell⟩ := row_cells h1
      refine ⟨A, c, rfl, hc, h3, fun h0 => ?_⟩
      cases A with
      | none => have := hz rfl; omega
      | some ad =>
        obtain ⟨had, hcl⟩ := hcell ad rfl
        refine ⟨ad.block, 0, by rw [← had], fun i x hx => ?_⟩
        obtain ⟨cc, h4, h5⟩ := RKs_get h2 hx
        refine ⟨cc, RK.mono (fun a u h => ⟨hm a u h.1 h.2, h.2⟩) h4, fun j u hj => ⟨hb rfl rfl _ ?_, ?_⟩⟩
        · rfl
        · rw [Nat.zero_add]; exact hcl _ _ (h5 j u hj)
theorem frz_live (o : Ob) : o.frz.live = true → o.frz = o := by cases o <;> simp [Ob.frz, Ob.live]
theorem live_frz (o : Ob) : o.frz.live = true → o.live = true := by cases o <;> simp [Ob.frz, Ob.live]
theorem frz_leaves (o : Ob) : o.frz.leaves = o.leaves := by cases o <;> rfl
section
variable {cx : Cx} {ψ : Nat → Value} {st : St} {a : Act} {w : World}
theorem Rel.frz1 (h : Rel cx ψ st a w) (r : Nat) : Rel cx ψ { st with hp := (Up.frz r).app st.hp } a w := by
  simp only [Up.app]
  cases hr : getH st.hp r with
  | none => exact h
  | some o =>
    have hlb : ∀ g, LB ψ (setH st.hp r o.frz) g → LB ψ st.hp g := by
      rintro g ⟨b, o', hb, hl, hk⟩
      rw [getH_set] at hb
      split at hb
      · rename_i he; subst he; obtain rfl := Option.some.inj hb; exact ⟨b, o, hr, live_frz o hl, hk⟩
      · exact ⟨b, o', hb, hl, hk⟩
    have s : Stp ψ st w ψ (setH st.hp r o.frz) w (fun b => b = r) (fun _ => False) := {
      same := fun b hb => by rw [getH_set, if_neg hb]
      ref := fun _ _ => rfl
      sub := fun _ h => h.elim
      fresh := fun _ h => h.elim
      os := rfl
      tape := rfl
      output := rfl
      size := Nat.le_refl _
      block := fun _ _ _ => rfl
      blks := fun b o' g hb h1 h2 h3 => by
        subst hb
        rw [getH_set, if_pos rfl] at h1
        obtain rfl := Option.some.inj h1
        exact .inr ⟨b, o, rfl, hr, live_frz o h2, h3⟩
      inj := fun b b' _ _ _ hb hb' _ _ _ _ _ _ => by rw [hb, hb'] }
    refine h.step s ?_
    rintro b o' rfl hb
    rw [getH_set, if_pos rfl] at hb
    obtain rfl := Option.some.inj hb
    refine (h.obj b o hr).frz (fun _ _ _ _ => rfl) (fun p u h1 h2 => (s.move p u h1 h2).1) fun hf hl p hp => ?_
    refine ⟨fun hlt => ?_, ?_⟩
    · rcases h.onew p.block ⟨b, o, hr, hl, hp⟩ with h1 | h1
      · omega
      · exact .inr h1
    · rintro ⟨b', o', hb', hl', hk'⟩
      rw [getH_set] at hb'
      split at hb'
      · obtain rfl := Option.some.inj hb'
        rw [hf] at hl'; cases hl'
      · rename_i hne
        exact hne (h.oinj b' b o' o p.block hb' hr hl' hl hk' hp)
theorem Rel.frzs (h : Rel cx ψ st a w) : ∀ (rs : List Nat), Rel cx ψ { st with hp := upsH st.hp (rs.map Up.frz) } a w := by
  intro rs
  induction rs generalizing st with
  | nil => exact h
  | cons r rs ih => exact ih (h.frz1 r)
end
end Go.Proofs.YtopplbiadpcalaaDoor.U

/- The small abstract machine: its operations on slots, boxes and data that is read tell the truth. -/
namespace Go.Proofs.YtopplbiadpcalaaDoor.U
open Go Go.RowKit

/-! ### Types -/
def zchk : List L → List Value → Bool
  | [], [] => true
  | .int k n :: r, .int k' n' :: r' => decide (k = k') && decide (n = n') && zchk r r'
  | .bool b :: r, .bool b' :: r' => decide (b = b') && zchk r r'
  | .str s :: r, .string s' :: r' => s.data.toList.isEmpty && s'.data.toList.isEmpty && zchk r r'
  | .nils :: r, .slice none 0 0 :: r' => zchk r r'
  | .nilp :: r, .pointer none :: r' => zchk r r'
  | .ifc true :: r, .nilIface :: r' => zchk r r'
  | .un :: r, _ :: r' => zchk r r'
  | _, _ => false
def fchk (P : Program) : List (Nat × Nat) → List Field → Bool
  | [], [] => true
  | (t, o) :: r, f :: r' => Nat.beq f.type t && Nat.beq f.offset o && (match P.info? t with | some i => !Nat.beq i.size 0 | none => false) && fchk P r r'
  | _, _ => false
/-- The cells (0: a number, 1: a bool, 2: a text) of a type whose values are compared cell by cell. -/
def plainFs (P : Program) (g : Nat → Option (List Nat)) (off : Nat) : List Field → Option (List Nat)
  | [] => some []
  | f :: r => match decide (f.name ≠ "_") && Nat.beq f.offset off with
    | true => match g f.type, P.info? f.type with
      | some k, some i => match Nat.beq i.size k.length, plainFs P g (off + k.length) r with
        | true, some l => some (k ++ l)
        | _, _ => none
      | _, _ => none
    | false => none
def plainT (P : Program) : Nat → Nat → Option (List Nat)
  | 0, _ => none
  | n + 1, t => match P.underlying t with
    | some (.int _) => some [0]
    | some .bool => some [1]
    | some .string => some [2]
    | some (.struct fs) => match P.stoodInHeld t with
      | true => none
      | false => plainFs P (plainT P n) 0 fs.toList
    | _ => none
def tchk0 (P : Program) (t : Nat) (i : TI) : Bool :=
  match P.info? t, P.underlying t with
  | some ti, some d => Nat.beq ti.size i.sz && Nat.beq ti.bytes i.by_ && (match ti.zero with | some z => zchk i.zero z.cells.toList | none => false) &&
    (match i.d, d with
      | .int k, .int k' => decide (k = k')
      | .bool, .bool => true
      | .str, .string => true
      | .struct fs, .struct fa => fchk P fs fa.toList
      | .slice e, .slice e' => Nat.beq e e'
      | .arr n e, .array n' e' => Nat.beq n n' && Nat.beq e e'
      | .ptr, .pointer _ => true
      | .other, .struct _ => false
      | .other, .array _ _ => false
      | .iface, .interface _ => true
      | .other, .interface _ => false
      | .other, _ => true
      | _, _ => false)
  | _, _ => false
def tchk (P : Program) (t : Nat) (i : TI) : Bool := tchk0 P t i && Nat.beq i.zero.length i.sz && (match i.eqt with | none => true | some l => decide (plainT P 8 t = some l) && !P.eqGuardType P.depth t)
def TOk (P : Program) (T : Tab) : Prop := ∀ t i, T t = some i → tchk P t i = true
section
variable {P : Program} {t : Nat} {i : TI} {ψ : Nat → Value} {ro : Addr → Prop} {w : World}
theorem zchk_ok : ∀ {l : List L} {vs : List Value}, zchk l vs = true → RLs ψ ro w l vs
  | [], [], _ => trivial
  | .int k n :: r, .int k' n' :: r', h => by
    simp only [zchk, Bool.and_eq_true, decide_eq_true_eq] at h
    obtain ⟨⟨rfl, rfl⟩, h⟩ := h
    exact ⟨rfl, zchk_ok h⟩
  | .bool b :: r, .bool b' :: r', h => by
    simp only [zchk, Bool.and_eq_true, decide_eq_true_eq] at h
    obtain ⟨rfl, h⟩ := h
    exact ⟨rfl, zchk_ok h⟩
  | .str s :: r, .string s' :: r', h => by
    simp only [zchk, Bool.and_eq_true, List.isEmpty_iff] at h
    obtain ⟨⟨h1, h2⟩, h⟩ := h
    refine ⟨?_, zchk_ok h⟩
    obtain ⟨⟨d⟩⟩ := s
    obtain ⟨⟨d'⟩⟩ := s'
    simp at h1 h2
    subst h1; subst h2
    rfl
  | .nils :: r, .slice none 0 0 :: r', h => ⟨rfl, zchk_ok (by simpa [zchk] using h)⟩
  | .nilp :: r, .pointer none :: r', h => ⟨rfl, zchk_ok (by simpa [zchk] using h)⟩
  | .ifc true :: r, .nilIface :: r', h => ⟨rfl, zchk_ok (by simpa [zchk] using h)⟩
  | .un :: r, _ :: r', h => ⟨trivial, zchk_ok (by simpa [zchk] using h)⟩
theorem tchk_info (h : tchk P t i = true) : ∃ ti, P.info? t = some ti ∧ ti.size = i.sz ∧ ti.bytes = i.by_ ∧ ∃ z, ti.zero = some z ∧ zchk i.zero z.cells.toList = true := by
  have h := (Bool.and_eq_true_iff.1 (Bool.and_eq_true_iff.1 h).1).1
  unfold tchk0 at h
  split at h
  · rename_i ti d h1 h2
    simp only [Bool.and_eq_true] at h
    refine ⟨ti, h1, Nat.eq_of_beq_eq_true h.1.1.1, Nat.eq_of_beq_eq_true h.1.1.2, ?_⟩
    cases hz : ti.zero with
    | none => simp [hz] at h
    | some z => exact ⟨z, rfl, by simpa [hz] using h.1.2⟩
  · cases h
theorem tchk_und (h : tchk P t i = true) : ∃ d, P.underlying t = some d ∧ d.isRow = i.agg ∧ (∀ k, i.d = .int k → d = .int k) ∧ (i.d = .bool → d = .bool) ∧ (i.d = .str → d = .string) ∧ (∀ e, i.d = .slice e → d = .slice e) ∧
    (∀ n e, i.d = .arr n e → d = .array n e) ∧ (∀ fs, i.d = .struct fs → ∃ fa, d = .struct fa ∧ fchk P fs fa.toList = true) ∧ (i.d = .ptr → ∃ e, d = .pointer e) ∧ (i.d = .iface → ∃ e, d = .interface e) ∧ (i.d ≠ .iface → ∀ e, d ≠ .interface e) := by
  have h := (Bool.and_eq_true_iff.1 (Bool.and_eq_true_iff.1 h).1).1
  unfold tchk0 at h
  split at h
  · rename_i ti d h1 h2
    simp only [Bool.and_eq_true] at h
    refine ⟨d, h2, ?_⟩
    have h3 := h.2
    obtain ⟨id, sz, by_, zero, kn⟩ := i
    cases id <;> cases d <;> simp_all [TI.agg]
  · cases h
end
theorem fchk_get {P : Program} : ∀ {fs : List (Nat × Nat)} {fa : List Field}, fchk P fs fa = true → ∀ {j t o : Nat}, fs[j]? = some (t, o) → ∃ f i, fa[j]? = some f ∧ f.offset = o ∧ P.info? f.type = some i ∧ i.size ≠ 0
  | [], [], _, j, t, o, h => by simp at h
  | (t', o') :: r, f :: r', h, 0, t, o, hj => by
    simp at hj
    obtain ⟨rfl, rfl⟩ := hj
    simp only [fchk, Bool.and_eq_true] at h
    obtain ⟨⟨⟨h1, h2⟩, h3⟩, _⟩ := h
    have h1 := Nat.eq_of_beq_eq_true h1
    cases hi : P.info? t' with
    | none => simp [hi] at h3
    | some i =>
      refine ⟨f, i, rfl, Nat.eq_of_beq_eq_true h2, by rw [h1]; exact hi, ?_⟩
      simp only [hi, Bool.not_eq_true'] at h3
      exact Nat.ne_of_beq_eq_false h3
  | (t', o') :: r, f :: r', h, j + 1, t, o, hj => by
    simp only [fchk, Bool.and_eq_true] at h
    obtain ⟨f', i, h1, h2⟩ := fchk_get h.2 (j := j) (t := t) (o := o) (by simpa using hj)
    exact ⟨f', i, by simpa using h1, h2⟩
  | [], _ :: _, h, _, _, _, _ => by simp [fchk] at h
  | _ :: _, [], h, _, _, _, _ => by simp [fchk] at h

/-! ### Operands -/
section
variable {P : Program} {T : Tab} {cx : Cx} {ψ : Nat → Value} {ro : Addr → Prop} {st : St} {a : Act} {w : World} {o : Oper} {N : Act → World → Prop} {Q : Exit → Act → World → Prop}
theorem constSV_ok (v : Value) : RV ψ ro w (constSV v) v := by
  unfold constSV
  split
  · rfl
  · rfl
  · rfl
  · rfl
  · rfl
  · rfl
  · rename_i f xs ys
    split
    · rename_i h1 h2
      obtain rfl : xs = #[] := by simpa using congrArg List.toArray h1
      obtain rfl : ys = #[] := by simpa using congrArg List.toArray h2
      exact ⟨[], rfl, trivial⟩
    · trivial
  · trivial
theorem opd_ok (h : Rel cx ψ st a w) (x : Operand) : RV ψ (RO cx ψ st.hp) w (opd st x) (a.eval x) := by
  cases x with
  | tmp t => exact h.env t
  | const v => exact constSV_ok v
  | global g => exact trivial
  | func f => exact ⟨[], rfl, trivial⟩
theorem opd_l (h : Rel cx ψ st a w) {x : Operand} {y : L} (hx : opd st x = .l y) : RL ψ (RO cx ψ st.hp) w y (a.eval x) := by
  have := opd_ok h x
  rw [hx] at this
  exact this
/-- What is to be shown of what comes behind an operation. -/
def Nx (cx : Cx) (st : St) (a : Act) (dst : Option Tmp) (hp' : Heap) (v : SV) (N : Act → World → Prop) : Prop := ∀ ψ' w' x, Rel cx ψ' { st with hp := hp' } a w' → RV ψ' (RO cx ψ' hp') w' v x → N (a.put dst x) w'
theorem upon_ok {v : Value} {w' : World} (hrun : (execOp a.eval o).run P w = .ok (.value v) w') (h : N (a.put o.dst v) w') : o.wp P a w N Q := by
  unfold Oper.wp
  rw [hrun]
  exact h
theorem upon_skip {w' : World} (hrun : (execOp a.eval o).run P w = .ok .skip w') (h : N (a.put o.dst undef) w') : o.wp P a w N Q := by
  unfold Oper.wp
  rw [hrun]
  exact h
/-- A value without a change in memory. -/
theorem snd_val (h : Rel cx ψ st a w) {v : SV} {x : Value} (hv : RV ψ (RO cx ψ st.hp) w v x) (hrun : (execOp a.eval o).run P w = .ok (.value x) w) (hN : Nx cx st a o.dst st.hp v N) : o.wp P a w N Q :=
  upon_ok hrun (hN ψ w x h hv)
theorem sized {t : Nat} {i : TI} (hc : tchk P t i = true) (w : World) : (sizeOf t).run P w = .ok i.sz w := by
  obtain ⟨ti, h1, h2, _⟩ := tchk_info hc
  simp [sizeOf, typeInfo, h1, h2]

theorem snd_move (h : Rel cx ψ st a w) (x : Operand) (ho : o.op = .move x ∨ o.op = .assign x) (hN : Nx cx st a o.dst st.hp (opd st x) N) : o.wp P a w N Q := by
  refine snd_val h (opd_ok h x) ?_ hN
  rcases ho with ho | ho <;> simp [execOp, ho]
theorem snd_pick (h : Rel cx ψ st a w) (c x y : Operand) (ho : o.op = .pick c x y) (t : Bool) (hc : opd st c = .l (.bool t)) {v : SV} (hv : RV ψ (RO cx ψ st.hp) w v (if t then a.eval x else a.eval y)) (hN : Nx cx st a o.dst st.hp v N) : o.wp P a w N Q := by
  refine snd_val h hv ?_ hN
  have h1 : a.eval c = .bool t := opd_l h hc
  simp [execOp, ho, h1, asBool]
theorem REs_get : ∀ {es : List (L ⊕ List L)} {vs : List Value} {i : Nat} {e : L ⊕ List L}, REs ψ ro w es vs → es[i]? = some e → ∃ v, vs[i]? = some v ∧ RE ψ ro w e v := by
  intro es
  induction es with
  | nil => intro vs i e _ h; simp at h
  | cons y ys ih =>
    intro vs i e hr hi
    cases vs with
    | nil => exact hr.elim
    | cons u us =>
      cases i with
      | zero => simp at hi; subst hi; exact ⟨u, rfl, hr.1⟩
      | succ i => obtain ⟨v, h3, h4⟩ := ih hr.2 (by simpa using hi); exact ⟨v, by simpa using h3, h4⟩
theorem snd_extract (h : Rel cx ψ st a w) (x : Operand) (i : Nat) (ho : o.op = .extract x i) {es : List (L ⊕ List L)} (hx : opd st x = .tup es) {e : L ⊕ List L} (he : es[i]? = some e)
    (hN : Nx cx st a o.dst st.hp (match e with | .inl v => .l v | .inr cs => .agg cs) N) : o.wp P a w N Q := by
  have h1 := opd_ok h x
  rw [hx] at h1
  obtain ⟨vs, hv, hvs⟩ := h1
  obtain ⟨v, h3, h4⟩ := REs_get hvs he
  refine snd_val h (x := v) ?_ ?_ hN
  · cases e with
    | inl y => exact h4
    | inr cs => exact h4
  · simp [execOp, ho, hv, Instr.extract, h3]
theorem snd_nil (h : Rel cx ψ st a w) (x : Operand) (ho : o.op = .nilCheck x) (y : L) (hx : opd st x = .l y) (hy : ∀ v, RL ψ (RO cx ψ st.hp) w y v → ∃ p, v = .pointer (some p)) (hN : Nx cx st a o.dst st.hp (.l y) N) : o.wp P a w N Q := by
  have h1 := opd_l h hx
  obtain ⟨p, hp⟩ := hy _ h1
  refine snd_val h (v := .l y) h1 ?_ hN
  simp [execOp, ho, hp]
theorem snd_nilFn (h : Rel cx ψ st a w) (x : Operand) (ho : o.op = .nilCheck x) {f : Nat} {caps : List L} (hx : opd st x = .fn f caps) (hN : Nx cx st a o.dst st.hp (.fn f caps) N) : o.wp P a w N Q := by
  have h1 := opd_ok h x
  rw [hx] at h1
  refine snd_val h (v := .fn f caps) h1 ?_ hN
  obtain ⟨vs, hv, _⟩ := h1
  simp [execOp, ho, hv]
theorem bin_run {op : BinOp} {x y : L} {c : Bool} {r : L} (hb : binL op x y = some (c, r)) (hc : c = true) {u v : Value} (hu : RL ψ ro w x u) (hv : RL ψ ro w y v) (t : Nat) (X Y : Operand) :
    ∃ z, RL ψ ro w r z ∧ (do eqGuard op t X Y u v; binOp op t u v : Sem Value).run P w = .ok z w := by
  subst hc
  cases x <;> cases y <;> simp only [binL] at hb <;> try (cases hb; done)
  · rename_i k a k' b
    obtain rfl : u = .int k a := hu
    obtain rfl : v = .int k' b := hv
    cases op <;> simp only at hb <;> (try split at hb) <;> (try (cases hb; done)) <;> (simp only [Option.some.injEq, Prod.mk.injEq] at hb; obtain ⟨h1, rfl⟩ := hb; refine ⟨_, rfl, ?_⟩) <;>
      simp_all [eqGuard, binOp, Op.intArith, Op.intDiv, Op.intBits, Op.intCmp, Op.shift, bitsV]
    all_goals (intro hlt; omega)
  · rename_i a b
    obtain rfl : u = .string a := hu
    obtain rfl : v = .string b := hv
    cases op <;> simp only at hb <;> (try (cases hb; done)) <;> (simp only [Option.some.injEq, Prod.mk.injEq] at hb; obtain ⟨h1, rfl⟩ := hb; refine ⟨_, rfl, ?_⟩) <;>
      simp_all [eqGuard, binOp, Op.stringOp]
theorem snd_bin (h : Rel cx ψ st a w) (op : BinOp) (t t' : Nat) (x y : Operand) (ho : o.op = .binOp op t x y t') (X Y : L) (hx : opd st x = .l X) (hy : opd st y = .l Y) (r : L) (hb : binL op X Y = some (true, r)) (hN : Nx cx st a o.dst st.hp (.l r) N) : o.wp P a w N Q := by
  obtain ⟨z, hz, hrun⟩ := bin_run (P := P) hb rfl (opd_l h hx) (opd_l h hy) t x y
  refine snd_val h (v := .l r) hz ?_ hN
  simp only [execOp, ho]
  simp only [Sem.run_bind] at hrun ⊢
  rw [hrun]
  rfl
theorem eq_run {T : Tab} (hT : TOk P T) (h : Rel cx ψ st a w) {t : Nat} {x y : SV} {b : Bool} (hb : eqV T st.hp t x y = some b) {u v : Value} (hu : RV ψ ro w x u) (hv : RV ψ ro w y v) (X Y : Operand) :
    (do eqGuard .eql t X Y u v; binOp .eql t u v : Sem Value).run P w = .ok (.bool b) w ∧ (do eqGuard .neq t X Y u v; binOp .neq t u v : Sem Value).run P w = .ok (.bool (!b)) w := by
  unfold eqV at hb
  split at hb
  · rename_i i hi
    obtain ⟨d, hd, _, _, hbool, _, hsl, _, _, hptr, _⟩ := tchk_und (hT t i hi)
    split at hb <;> (try (cases hb; done))
    · rename_i a c h1
      obtain rfl := hbool h1
      obtain rfl : u = .bool a := hu
      obtain rfl : v = .bool c := hv
      simp only [Option.some.injEq] at hb
      subst hb
      have he : ∀ a b, (Op.equal t (.bool a) (.bool b)).run P w = .ok (a == b) w := fun a b => run_equalIn_bool' (P := P) w 9999 t a b hd
      constructor <;> simp [eqGuard, binOp, he]
    · rename_i h1
      obtain ⟨e, rfl⟩ := hptr h1
      obtain rfl : u = .pointer none := hu
      obtain rfl : v = .pointer none := hv
      simp only [Option.some.injEq] at hb
      subst hb
      have he : (Op.equal t (.pointer none) (.pointer none)).run P w = .ok true w := run_equalIn_pointer_nil (P := P) w 9999 t none (by simp [Program.pointee, hd])
      constructor <;> simp [eqGuard, binOp, he]
    · rename_i n off h1
      obtain ⟨e, rfl⟩ := hptr h1
      obtain ⟨g, _, rfl⟩ := hu
      obtain rfl : v = .pointer none := hv
      simp only [Option.some.injEq] at hb
      subst hb
      have he : (Op.equal t (.pointer (some ⟨g, off, none⟩)) (.pointer none)).run P w = .ok false w := run_equalIn_pointer_nil (P := P) w 9999 t _ (by simp [Program.pointee, hd])
      constructor <;> simp [eqGuard, binOp, he]
    · rename_i e0 k e xs b0 h1
      obtain rfl := hsl _ h1
      obtain ⟨A, c, rfl, _, hn, _⟩ := hu
      obtain rfl : v = .slice none 0 0 := hv
      simp only [Option.some.injEq] at hb
      subst hb
      have hn := hn _ rfl
      have he : (Op.equal t (.slice A xs.length c) (.slice none 0 0)).run P w = .ok A.isNone w := run_equal_slice_nil w t _ _ _ _ hd
      constructor <;> simp [eqGuard, binOp, he, hn]
    · rename_i e0 r h1
      obtain rfl := hsl _ h1
      obtain rfl : u = ψ r := hu.1
      obtain rfl : v = .slice none 0 0 := hv
      unfold rowNil at hb
      split at hb
      · rename_i k e xs nil fz hr
        have ho := h.obj r _ hr
        have : ∃ A n c, ψ r = .slice A n c ∧ A.isNone = b := by
          cases fz with
          | false =>
            obtain ⟨us, h2, _, h4⟩ := ho
            obtain ⟨A, c, hv, _⟩ := row_cells h2
            refine ⟨A, _, c, hv, ?_⟩
            have := h4 b hb
            rw [hv, nilS_isNone] at this
            exact this
          | true =>
            obtain ⟨A, c, hv, _, h4, _⟩ := ho
            refine ⟨A, _, c, hv, ?_⟩
            have := h4 b hb
            rw [hv, nilS_isNone] at this
            exact this
        obtain ⟨A, n, c, hv, hn⟩ := this
        have he : (Op.equal t (ψ r) (.slice none 0 0)).run P w = .ok A.isNone w := by rw [hv]; exact run_equal_slice_nil w t _ _ _ _ hd
        rw [hv] at he ⊢
        constructor <;> simp [eqGuard, binOp, he, hn]
      · cases hb
    · rename_i e0 h1
      obtain rfl := hsl _ h1
      obtain rfl : u = .slice none 0 0 := hu
      obtain rfl : v = .slice none 0 0 := hv
      simp only [Option.some.injEq] at hb
      subst hb
      have he : (Op.equal t (.slice none 0 0) (.slice none 0 0)).run P w = .ok true w := run_equal_slice_nil w t _ _ _ _ hd
      constructor <;> simp [eqGuard, binOp, he]
  · cases hb
theorem snd_eq {T : Tab} (hT : TOk P T) (h : Rel cx ψ st a w) (op : BinOp) (t t' : Nat) (x y : Operand) (ho : o.op = .binOp op t x y t') {b : Bool} (hb : eqV T st.hp t (opd st x) (opd st y) = some b) {c : Bool} (hop : op = .eql ∧ c = b ∨ op = .neq ∧ c = !b) (hN : Nx cx st a o.dst st.hp (.l (.bool c)) N) : o.wp P a w N Q := by
  obtain ⟨h1, h2⟩ := eq_run (P := P) hT h hb (opd_ok h x) (opd_ok h y) x y
  refine snd_val h (v := .l (.bool c)) (x := .bool c) rfl ?_ hN
  rcases hop with ⟨rfl, rfl⟩ | ⟨rfl, rfl⟩
  · simp only [execOp, ho]
    simp only [Sem.run_bind] at h1 ⊢
    rw [h1]
    rfl
  · simp only [execOp, ho]
    simp only [Sem.run_bind] at h2 ⊢
    rw [h2]
    rfl
theorem snd_un (h : Rel cx ψ st a w) (op : UnOp) (t : Nat) (x : Operand) (ho : o.op = .unOp op t x) {p r : L} (hx : opd st x = .l p) (hu : unL op p = some r) (hN : Nx cx st a o.dst st.hp (.l r) N) : o.wp P a w N Q := by
  have h2 := opd_l h hx
  cases op <;> cases p <;> simp only [unL] at hu <;> (try (cases hu; done)) <;> obtain rfl := Option.some.inj hu
  · rename_i k n
    have h2 : a.eval x = .int k n := h2
    refine snd_val h (v := .l (.int k (k.wrap (0 - n)))) rfl ?_ hN
    simp [execOp, ho, h2, Op.unary, Op.intArith]
  · rename_i b
    have h2 : a.eval x = .bool b := h2
    refine snd_val h (v := .l (.bool (!b))) rfl ?_ hN
    simp [execOp, ho, h2, Op.unary]

/-! ### Values cell by cell; interfaces -/
def Eq1 : Nat → Value → Value → Bool → Prop
  | 0, v, u, b => ∃ k x y, v = .int k x ∧ u = .int k y ∧ b = (x == y)
  | 1, v, u, b => ∃ x y, v = .bool x ∧ u = .bool y ∧ b = (x == y)
  | 2, v, u, b => ∃ x y, v = .string x ∧ u = .string y ∧ b = (x.toList == y.toList)
  | _, _, _, _ => False
def EqVs : List Nat → List Value → List Value → Bool → Prop
  | [], [], [], b => b = true
  | n :: q, v :: vs, u :: us, b => ∃ b1 b2, Eq1 n v u b1 ∧ EqVs q vs us b2 ∧ b = (b1 && b2)
  | _, _, _, _ => False
theorem eqL_ok {n : Nat} {x y : L} {b : Bool} {v u : Value} (h : eqL n x y = some b) (hv : RL ψ ro w x v) (hu : RL ψ ro w y u) : Eq1 n v u b := by
  unfold eqL at h
  split at h
  · rename_i k p k' q
    split at h
    · rename_i hk; subst hk; obtain rfl := Option.some.inj h; exact ⟨k, p, q, hv, hu, rfl⟩
    · cases h
  · obtain rfl := Option.some.inj h; exact ⟨_, _, hv, hu, rfl⟩
  · obtain rfl := Option.some.inj h; exact ⟨_, _, hv, hu, rfl⟩
  · cases h
theorem eqLs_ok : ∀ {q : List Nat} {cs ds : List L} {vs us : List Value} {b : Bool}, eqLs q cs ds = some b → RLs ψ ro w cs vs → RLs ψ ro w ds us → EqVs q vs us b
  | [], [], [], [], [], b, h, _, _ => (Option.some.inj h).symm
  | n :: q, x :: r, y :: r', v :: vs, u :: us, b, h, hv, hu => by
    simp only [eqLs] at h
    split at h
    · rename_i a c h1 h2
      have h3 := eqL_ok h1 hv.1 hu.1
      have h4 := eqLs_ok h2 hv.2 hu.2
      refine ⟨a, c, h3, h4, ?_⟩
      cases q with
      | nil =>
        simp only [Option.some.injEq] at h
        subst h
        have : c = true := by
          match vs, us, h4 with
          | [], [], h4 => exact h4
        rw [this, Bool.and_true]
      | cons _ _ => exact (Option.some.inj h).symm
    · cases h
  | [], [], [], _ :: _, _, _, _, hv, _ => hv.elim
  | [], [], [], [], _ :: _, _, _, _, hu => hu.elim
  | _ :: _, _ :: _, _ :: _, [], _, _, _, hv, _ => hv.elim
  | _ :: _, _ :: _, _ :: _, _ :: _, [], _, _, _, hu => hu.elim
  | [], _ :: _, _, _, _, _, h, _, _ => by simp [eqLs] at h
  | [], [], _ :: _, _, _, _, h, _, _ => by simp [eqLs] at h
  | _ :: _, [], _, _, _, _, h, _, _ => by simp [eqLs] at h
  | _ :: _, _ :: _, [], _, _, _, h, _, _ => by simp [eqLs] at h
theorem EqVs_app : ∀ {q1 q2 : List Nat} {vs us : List Value} {b : Bool}, EqVs (q1 ++ q2) vs us b → ∃ b1 b2, EqVs q1 (vs.take q1.length) (us.take q1.length) b1 ∧ EqVs q2 (vs.drop q1.length) (us.drop q1.length) b2 ∧ b = (b1 && b2)
  | [], q2, vs, us, b, h => ⟨true, b, rfl, h, by simp⟩
  | n :: q1, q2, v :: vs, u :: us, b, ⟨b1, b2, h1, h2, h3⟩ => by
    obtain ⟨c1, c2, h4, h5, h6⟩ := EqVs_app h2
    exact ⟨b1 && c1, c2, ⟨b1, c1, h1, h4, rfl⟩, h5, by rw [h3, h6, Bool.and_assoc]⟩
  | _ :: _, _, [], _, _, h => h.elim
  | _ :: _, _, _ :: _, [], _, h => h.elim
theorem size_run {P : Program} {t : Nat} {k : Nat} (h : (P.info? t).map (·.size) = some k) (w : World) : (sizeOf t).run P w = .ok k w := by
  cases hi : P.info? t with
  | none => rw [hi] at h; cases h
  | some i => rw [hi] at h; obtain rfl := Option.some.inj h; simp [sizeOf, typeInfo, hi]
theorem take1 {α : Type} {X : Array α} {off : Nat} {v : α} {r : List α} (h : (X.toList.drop off).take 1 = v :: r) : X[off]? = some v := by
  have h2 : ((X.toList.drop off).take 1)[0]? = some v := by rw [h]; rfl
  rw [List.getElem?_take_of_lt (by decide), List.getElem?_drop] at h2
  simpa using h2
theorem plainFs_ok {P : Program} {w : World} {g : Nat → Option (List Nat)} {n : Nat} {X Y : Array Value} (hg : ∀ t k, g t = some k → ∀ off b, (P.info? t).map (·.size) = some k.length → EqVs k ((X.toList.drop off).take k.length) ((Y.toList.drop off).take k.length) b → ∃ a c, (part t X off).run P w = .ok a w ∧ (part t Y off).run P w = .ok c w ∧ (Op.equalIn n t a c).run P w = .ok b w) :
    ∀ (fs : List Field) (off : Nat) (l : List Nat) (b : Bool), plainFs P g off fs = some l → EqVs l ((X.toList.drop off).take l.length) ((Y.toList.drop off).take l.length) b → (Op.eqFields n X Y fs).run P w = .ok b w
  | [], off, l, b, h, he => by
    obtain rfl := Option.some.inj h
    have : b = true := by simpa [EqVs] using he
    subst this
    simp [Op.eqFields]
  | f :: r, off, l, b, h, he => by
    simp only [plainFs] at h
    split at h
    · rename_i hc
      simp only [Bool.and_eq_true, decide_eq_true_eq] at hc
      have hoff := Nat.eq_of_beq_eq_true hc.2
      split at h
      · rename_i k i hk hi
        split at h
        · rename_i l' hsz hl
          obtain rfl := Option.some.inj h
          obtain ⟨b1, b2, h1, h2, h3⟩ := EqVs_app he
          rw [List.take_take, List.take_take, Nat.min_eq_left (by simp)] at h1
          rw [List.drop_take, List.drop_take, List.drop_drop, List.drop_drop, List.length_append, Nat.add_sub_cancel_left] at h2
          obtain ⟨a, c, h4, h5, h6⟩ := hg _ _ hk off b1 (by rw [hi]; simp [Nat.eq_of_beq_eq_true hsz]) h1
          have h7 := plainFs_ok hg r _ l' b2 hl h2
          simp only [Op.eqFields, if_pos hc.1, hoff, Sem.run_bind, h4, h5, h6, Result.andThen_ok]
          rw [h3]
          cases b1 with
          | true => simpa using h7
          | false => simp
        · cases h
      · cases h
    · cases h
theorem plainT_ok {P : Program} {w : World} : ∀ (n t : Nat) (k : List Nat), plainT P n t = some k → ∀ (d : Nat) (X Y : Array Value) (off : Nat) (b : Bool), (P.info? t).map (·.size) = some k.length → EqVs k ((X.toList.drop off).take k.length) ((Y.toList.drop off).take k.length) b →
    ∃ a c, (part t X off).run P w = .ok a w ∧ (part t Y off).run P w = .ok c w ∧ (Op.equalIn (n + d) t a c).run P w = .ok b w
  | 0, _, _, h, _, _, _, _, _, _, _ => by cases h
  | n + 1, t, k, h, d, X, Y, off, b, hsz, he => by
    have one : ∀ {q : Nat}, k = [q] → ∃ v u, X[off]? = some v ∧ Y[off]? = some u ∧ Eq1 q v u b := by
      intro q hq
      subst hq
      cases hx : (X.toList.drop off).take 1 with
      | nil => rw [show [q].length = 1 from rfl, hx] at he; exact he.elim
      | cons v vs =>
        cases hy : (Y.toList.drop off).take 1 with
        | nil => rw [show [q].length = 1 from rfl, hx, hy] at he; exact he.elim
        | cons u us =>
          rw [show [q].length = 1 from rfl, hx, hy] at he
          obtain ⟨b1, b2, h1, h2, h3⟩ := he
          have : b2 = true := by
            match vs, us, h2 with
            | [], [], h2 => exact h2
          rw [h3, this, Bool.and_true]
          exact ⟨v, u, take1 hx, take1 hy, h1⟩
    have pt : ∀ {Z : Array Value} {v : Value} {dd : TypeDesc}, P.underlying t = some dd → dd.isRow = false → Z[off]? = some v → (part t Z off).run P w = .ok v w := by
      intro Z v dd hd hr hz
      unfold part isAgg
      simp only [Sem.run_bind, run_underlying hd, Result.andThen_ok]
      cases dd <;> simp_all [TypeDesc.isRow]
    simp only [plainT] at h
    rw [show n + 1 + d = (n + d) + 1 by omega]
    split at h
    · rename_i ik hu
      obtain ⟨v, u, h1, h2, k', x, y, rfl, rfl, rfl⟩ := one (Option.some.inj h).symm
      exact ⟨_, _, pt hu rfl h1, pt hu rfl h2, run_equalIn_int w _ t _ _ _ _ hu⟩
    · rename_i hu
      obtain ⟨v, u, h1, h2, x, y, rfl, rfl, rfl⟩ := one (Option.some.inj h).symm
      exact ⟨_, _, pt hu rfl h1, pt hu rfl h2, run_equalIn_bool' w _ t _ _ hu⟩
    · rename_i hu
      obtain ⟨v, u, h1, h2, x, y, rfl, rfl, rfl⟩ := one (Option.some.inj h).symm
      exact ⟨_, _, pt hu rfl h1, pt hu rfl h2, run_equalIn_string w _ t _ _ hu⟩
    · rename_i fs hu
      split at h
      · cases h
      · rename_i hst
        have hag : ∀ (Z : Array Value), (part t Z off).run P w = .ok (.agg (Z.extract off (off + k.length))) w := by
          intro Z
          unfold part isAgg
          simp [Sem.run_bind, run_underlying hu, size_run hsz]
        refine ⟨_, _, hag X, hag Y, ?_⟩
        rw [run_equalIn_agg w (n + d) t _ _ (by simp [Program.fieldsOf, hu]) hst]
        have hf : P.fieldsOf t = fs := by simp [Program.fieldsOf, hu]
        rw [hf]
        refine plainFs_ok (fun t' k' hk' off' b' => plainT_ok n t' k' hk' d _ _ off' b') fs.toList 0 k b h ?_
        have e : ∀ Z : Array Value, (((Z.extract off (off + k.length)).toList.drop 0).take k.length) = (Z.toList.drop off).take k.length := by
          intro Z
          simp [List.take_drop, List.take_take]
        rw [e, e]
        exact he
    · cases h
theorem cmp_run {T : Tab} (hT : TOk P T) {t : Nat} {X Y : Operand} {x y : SV} {b : Bool} (hb : cmpP T t Y x y = some b) {u v : Value} (hu : RV ψ ro w x u) (hv : RV ψ ro w y v) :
    (do eqGuard .eql t X Y u v; binOp .eql t u v : Sem Value).run P w = .ok (.bool b) w ∧ (do eqGuard .neq t X Y u v; binOp .neq t u v : Sem Value).run P w = .ok (.bool (!b)) w := by
  unfold cmpP at hb
  split at hb
  · rename_i i hi
    have hc := hT t i hi
    obtain ⟨d, hd, _, _, _, _, _, _, hst, _, hif, _⟩ := tchk_und hc
    split at hb
    · rename_i fs xs ys h1
      split at hb
      · rename_i q hq
        obtain ⟨fa, rfl, _⟩ := hst _ h1
        obtain ⟨us, rfl, hus⟩ := hu
        obtain ⟨vs, rfl, hvs⟩ := hv
        have he := eqLs_ok hb hus hvs
        have h2 := (Bool.and_eq_true_iff.1 hc).2
        rw [hq] at h2
        simp only [Bool.and_eq_true, decide_eq_true_eq, Bool.not_eq_true'] at h2
        have h3 := h2.1
        simp only [plainT, hd] at h3
        split at h3
        · cases h3
        · rename_i hsh
          have hlen : ∀ {q : List Nat} {vs us : List Value} {b : Bool}, EqVs q vs us b → vs.length = q.length ∧ us.length = q.length := by
            intro q
            induction q with
            | nil => intro vs us b h; cases vs <;> cases us <;> first | exact ⟨rfl, rfl⟩ | exact h.elim
            | cons n q ih =>
              intro vs us b h
              cases vs with
              | nil => exact h.elim
              | cons v vs =>
                cases us with
                | nil => exact h.elim
                | cons u us => obtain ⟨_, _, _, h, _⟩ := h; have := ih h; simp [this.1, this.2]
          obtain ⟨l1, l2⟩ := hlen he
          have hrun : (Op.equalIn 10000 t (.agg us.toArray) (.agg vs.toArray)).run P w = .ok b w := by
            rw [show (10000 : Nat) = (7 + 9992) + 1 from rfl]
            rw [run_equalIn_agg w (7 + 9992) t _ _ (by simp [Program.fieldsOf, hd]) hsh]
            have hf : P.fieldsOf t = fa := by simp [Program.fieldsOf, hd]
            rw [hf]
            refine plainFs_ok (fun t' k' hk' off' b' => plainT_ok 7 t' k' hk' 9992 _ _ off' b') fa.toList 0 q b h3 ?_
            simp only [List.drop_zero]
            rw [List.take_of_length_le (by simp [l1]), List.take_of_length_le (by simp [l2])]
            exact he
          constructor
          · rw [Sem.run_bind, run_eqGuard_agg w .eql t X Y _ _ h2.2]
            simp only [Result.andThen_ok]
            rw [run_eql_struct, hrun]
            rfl
          · rw [Sem.run_bind, run_eqGuard_agg w .neq t X Y _ _ h2.2]
            simp only [Result.andThen_ok]
            rw [run_neq_struct, hrun]
            rfl
      · cases hb
    · rename_i a0 h1
      obtain ⟨ms, rfl⟩ := hif h1
      split at hb
      · rename_i c
        obtain rfl := Option.some.inj hb
        obtain rfl : v = .nilIface := hv
        cases a0 with
        | true =>
          obtain rfl : u = .nilIface := hu
          have he : (Op.equal t .nilIface .nilIface).run P w = .ok true w := by
            have key : ∀ n, (Op.equalIn (n + 1) t .nilIface .nilIface).run P w = .ok true w := fun n => by simp only [Op.equalIn, Sem.run_bind, run_underlying hd, Result.andThen_ok, Sem.run_pure]
            exact key 9999
          constructor <;> simp [eqGuard, binOp, he]
        | false =>
          obtain ⟨t', p, rfl⟩ := hu
          have he : (Op.equal t (.iface t' p) .nilIface).run P w = .ok false w := by
            have key : ∀ n, (Op.equalIn (n + 1) t (.iface t' p) .nilIface).run P w = .ok false w := fun n => by simp only [Op.equalIn, Sem.run_bind, run_underlying hd, Result.andThen_ok, Sem.run_pure]
            exact key 9999
          constructor <;> simp [eqGuard, binOp, he]
      · cases hb
    · rename_i t0 k0 o h1
      obtain ⟨ms, rfl⟩ := hif h1
      split at hb
      · rename_i c
        obtain rfl := Option.some.inj hb
        obtain rfl : v = .nilIface := hv
        obtain rfl : u = IfiV t0 k0 o := hu
        cases o with
        | none =>
          have he : (Op.equal t .nilIface .nilIface).run P w = .ok true w := by
            have key : ∀ n, (Op.equalIn (n + 1) t .nilIface .nilIface).run P w = .ok true w := fun n => by simp only [Op.equalIn, Sem.run_bind, run_underlying hd, Result.andThen_ok, Sem.run_pure]
            exact key 9999
          constructor <;> simp [IfiV, eqGuard, binOp, he]
        | some n =>
          have he : (Op.equal t (.iface t0 (.int k0 n)) .nilIface).run P w = .ok false w := by
            have key : ∀ m, (Op.equalIn (m + 1) t (.iface t0 (.int k0 n)) .nilIface).run P w = .ok false w := fun m => by simp only [Op.equalIn, Sem.run_bind, run_underlying hd, Result.andThen_ok, Sem.run_pure]
            exact key 9999
          constructor <;> simp [IfiV, eqGuard, binOp, he]
      · cases hb
    · cases hb
  · cases hb

/-! ### Slices -/
theorem intOf_ok (h : Rel cx ψ st a w) {x : Operand} {n : Int} (hx : intOf st x = some n) : ∃ k, a.eval x = .int k n := by
  unfold intOf at hx
  split at hx
  · rename_i k m hm
    obtain rfl := Option.some.inj hx
    exact ⟨k, opd_l h hm⟩
  · cases hx
theorem sli_nilp {hp : Heap} {x : L} {s : Sli} (h : sliOf hp x = some s) : (∃ nil, x = .sl s.k s.e s.xs nil) ∨ ∃ r nil fz, x = .rs r ∧ getH hp r = some (.row s.k s.e s.xs nil fz) := by
  unfold sliOf at h
  split at h
  · obtain rfl := Option.some.inj h; exact .inl ⟨_, rfl⟩
  · rename_i r
    split at h
    · rename_i k e xs nil fz hr
      obtain rfl := Option.some.inj h
      exact .inr ⟨r, nil, fz, rfl, hr⟩
    · cases h
  · cases h
/-- A slice's value, its length; its cells as they lie. -/
theorem sli_ok (h : Rel cx ψ st a w) {x : L} {s : Sli} (hs : sliOf st.hp x = some s) {v : Value} (hv : RL ψ (RO cx ψ st.hp) w x v) : ∃ A c us, v = .slice A s.xs.length c ∧ s.xs.length ≤ c ∧ RKs (Vis (RO cx ψ st.hp) w) s.k s.xs us ∧ (A = none → s.xs.length = 0) ∧ ∀ ad, A = some ad → ∀ j u, us[j]? = some u → w.cell? (ad.add j) = some u := by
  have rows : ∀ (k : Kn) (xs : List (den k)) (A : Option Addr), RRow (Vis (RO cx ψ st.hp) w) k.sz (RK (Vis (RO cx ψ st.hp) w) k) A xs → ∃ us, RKs (Vis (RO cx ψ st.hp) w) k xs us ∧ (A = none → xs.length = 0) ∧ ∀ ad, A = some ad → ∀ j u, us[j]? = some u → w.cell? (ad.add j) = some u := by
    intro k xs A hr
    cases xs with
    | nil => exact ⟨[], rfl, fun _ => rfl, fun ad _ j u hj => by simp at hj⟩
    | cons x xs =>
      obtain ⟨b, o, rfl, hi⟩ := hr (by simp)
      have : ∀ (ys : List (den k)) (n : Nat), (∀ i y, ys[i]? = some y → ∃ cs, RK (Vis (RO cx ψ st.hp) w) k y cs ∧ ∀ j u, cs[j]? = some u → Vis (RO cx ψ st.hp) w ⟨b, o + ((n + i) * k.sz + j), none⟩ u) → ∃ us, RKs (Vis (RO cx ψ st.hp) w) k ys us ∧ ∀ j u, us[j]? = some u → w.cell? ⟨b, o + (n * k.sz + j), none⟩ = some u := by
        intro ys
        induction ys with
        | nil => intro n _; exact ⟨[], rfl, fun j u hj => by simp at hj⟩
        | cons y ys ih =>
          intro n hy
          obtain ⟨cs, h1, h2⟩ := hy 0 y rfl
          obtain ⟨us, h3, h4⟩ := ih (n + 1) (fun i z hz => by
            have := hy (i + 1) z (by simpa using hz)
            rwa [show n + (i + 1) = n + 1 + i by omega] at this)
          refine ⟨cs ++ us, ⟨cs, us, rfl, h1, h3⟩, fun j u hj => ?_⟩
          have hl := RK_len h1
          rcases Nat.lt_or_ge j cs.length with hlt | hge
          · rw [List.getElem?_append_left hlt] at hj
            have := (h2 j u hj).2
            simpa using this
          · rw [List.getElem?_append_right hge] at hj
            have := h4 _ u hj
            rw [show (n + 1) * k.sz + (j - cs.length) = n * k.sz + j by rw [Nat.add_mul]; omega] at this
            exact this
      obtain ⟨us, h1, h2⟩ := this (x :: xs) 0 (fun i y hy => by simpa using hi i y hy)
      refine ⟨us, h1, (fun h => by cases h), fun ad had j u hj => ?_⟩
      obtain rfl := Option.some.inj had
      have := h2 j u hj
      rw [Addr.add_mid]
      simpa using this
  rcases sli_nilp hs with ⟨nil, rfl⟩ | ⟨r, nil, fz, rfl, hr⟩
  · obtain ⟨A, c, rfl, hc, _, hr⟩ := hv
    obtain ⟨us, h1, h2, h3⟩ := rows _ _ A hr
    exact ⟨A, c, us, rfl, hc, h1, h2, h3⟩
  · obtain rfl : v = ψ r := hv.1
    have ho := h.obj r _ hr
    cases fz with
    | false =>
      obtain ⟨us, h1, h2, _⟩ := ho
      obtain ⟨A, c, hv, hc, h3, h4⟩ := row_cells h1
      refine ⟨A, c, us, hv, hc, h2, h3, fun ad had j u hj => ?_⟩
      obtain ⟨h5, h6⟩ := h4 ad had
      rw [h5, Addr.add_mid]
      simpa using h6 j u hj
    | true =>
      obtain ⟨A, c, hv, hc, _, hr'⟩ := ho
      obtain ⟨us, h1, h2, h3⟩ := rows _ _ A hr'
      exact ⟨A, c, us, hv, hc, h1, h2, h3⟩
/-- A frozen row, or one that was never own: the slice's reading as plain data. -/
theorem frzL_ok (h : Rel cx ψ st a w) {x : L} {v : Value} (hf : rowsIn st.hp [x] = []) (hv : RL ψ (RO cx ψ st.hp) w x v) : RL ψ (RO cx ψ st.hp) w (frzL st.hp x) v := by
  unfold frzL
  split
  · rename_i r
    split
    · rename_i k e xs nil fz hr
      cases fz with
      | false => simp [rowsIn, hr] at hf
      | true =>
        obtain ⟨A, c, h1, h2, h3, h4⟩ := h.obj r _ hr
        obtain rfl : v = ψ r := hv.1
        exact ⟨A, c, h1, h2, fun b hb => by have := h3 b hb; rw [h1, nilS_isNone] at this; exact this, h4⟩
    · trivial
  · exact hv
theorem rowsIn_app (hp : Heap) (xs ys : List L) : rowsIn hp (xs ++ ys) = rowsIn hp xs ++ rowsIn hp ys := by
  induction xs with
  | nil => rfl
  | cons x xs ih =>
    cases x <;> simp only [List.cons_append, rowsIn, ih]
    split
    · simp
    · rfl
theorem rowsIn_one {hp : Heap} {cs : List L} {x : L} (hx : x ∈ cs) {r : Nat} (hr : r ∈ rowsIn hp [x]) : r ∈ rowsIn hp cs := by
  obtain ⟨a, b, rfl⟩ := List.append_of_mem hx
  rw [rowsIn_app, show x :: b = [x] ++ b from rfl, rowsIn_app]
  simp [hr]
/-- After rows are frozen. -/
theorem getH_frzs (hp : Heap) (rs : List Nat) (b : Nat) : getH (upsH hp (rs.map Up.frz)) b = if b ∈ rs then (getH hp b).map Ob.frz else getH hp b := by
  induction rs generalizing hp with
  | nil => simp [upsH]
  | cons r rs ih =>
    simp only [List.map_cons, upsH]
    rw [ih]
    have h1 : getH ((Up.frz r).app hp) b = if b = r then (getH hp b).map Ob.frz else getH hp b := by
      simp only [Up.app]
      cases hr : getH hp r with
      | none =>
        simp only
        split
        · rename_i he; subst he; rw [hr]; rfl
        · rfl
      | some o =>
        simp only
        rw [getH_set]
        split
        · rename_i he; subst he; rw [hr]; rfl
        · rfl
    rw [h1]
    have hff : ∀ o : Ob, o.frz.frz = o.frz := by intro o; cases o <;> rfl
    by_cases h2 : b = r
    · subst h2
      simp only [if_pos, List.mem_cons, true_or]
      split
      · cases getH hp b <;> simp [hff]
      · rfl
    · simp [h2]
theorem frzL_frzs (hp : Heap) (rs : List Nat) (x : L) : frzL (upsH hp (rs.map Up.frz)) x = frzL hp x := by
  cases x <;> simp only [frzL]
  rename_i r
  rw [getH_frzs]
  by_cases hm : r ∈ rs
  · rw [if_pos hm]
    cases hr : getH hp r with
    | none => rfl
    | some o => cases o <;> rfl
  · rw [if_neg hm]
theorem rowsIn_frzs {hp : Heap} {rs : List Nat} {x : L} (h : ∀ r ∈ rowsIn hp [x], r ∈ rs) : rowsIn (upsH hp (rs.map Up.frz)) [x] = [] := by
  cases x <;> simp only [rowsIn]
  rename_i r
  rw [getH_frzs]
  cases hr : getH hp r with
  | none => simp
  | some o =>
    cases o with
    | box t cs => simp [Ob.frz]
    | row k e xs nil fz =>
      cases fz with
      | true => simp [Ob.frz]
      | false =>
        have := h r (by simp [rowsIn, hr])
        simp [this, Ob.frz]
/-- Cells, their own rows frozen, are plain data. -/
theorem frzs_ok (h : Rel cx ψ st a w) {cs : List L} {vs : List Value} (hv : RLs ψ (RO cx ψ st.hp) w cs vs) (rs : List Nat) (hrs : ∀ r ∈ rowsIn st.hp cs, r ∈ rs) : RLs ψ (RO cx ψ (upsH st.hp (rs.map Up.frz))) w (cs.map (frzL st.hp)) vs := by
  have h' := h.frzs rs
  have hro : ∀ p, RO cx ψ st.hp p → RO cx ψ (upsH st.hp (rs.map Up.frz)) p := by
    intro p hp
    refine ⟨hp.1, fun hb => hp.2 ?_⟩
    obtain ⟨b, o, h1, h2, h3⟩ := hb
    rw [getH_frzs] at h1
    split at h1
    · cases hg : getH st.hp b with
      | none => rw [hg] at h1; cases h1
      | some o' => rw [hg] at h1; obtain rfl := Option.some.inj h1; exact ⟨b, o', hg, live_frz o' h2, h3⟩
    · exact ⟨b, o, h1, h2, h3⟩
  induction cs generalizing vs with
  | nil => cases vs with | nil => trivial | cons _ _ => exact hv.elim
  | cons x xs ih =>
    cases vs with
    | nil => exact hv.elim
    | cons v vs =>
      refine ⟨?_, ih hv.2 fun r hr => hrs r (by rw [show x :: xs = [x] ++ xs from rfl, rowsIn_app]; simp [hr])⟩
      rw [← frzL_frzs st.hp rs x]
      exact frzL_ok h' (rowsIn_frzs fun r hr => hrs r (rowsIn_one (List.mem_cons_self) hr)) (hv.1.move (fun _ _ => rfl) fun p u h1 h2 => ⟨hro p h1, h2⟩)
end
end Go.Proofs.YtopplbiadpcalaaDoor.U

/- The small abstract machine: boxes, rows: made, read, written. -/
namespace Go.Proofs.YtopplbiadpcalaaDoor.U
open Go Go.RowKit

def upd {α : Type} (f : Nat → α) (d : Nat) (v : α) : Nat → α := fun b => if b = d then v else f b
section
variable {P : Program} {T : Tab} {cx : Cx} {ψ : Nat → Value} {ro : Addr → Prop} {st : St} {a : Act} {w w' : World} {o : Oper} {N : Act → World → Prop} {Q : Exit → Act → World → Prop}
theorem stp_new {d : Nat} (hfree : Free st d) (hpin : d ∉ st.pin) {ob : Ob} {v : Value} (hb : Below w.heap.size w w') (hblk : ∀ g, ob.live = true → blk v = some g → w.heap.size ≤ g) : Stp ψ st w (upd ψ d v) (setH st.hp d ob) w' (fun b => b = d) (fun b => b = d) where
  same b hbd := by rw [getH_set, if_neg hbd]
  ref b hbd := by simp [upd, hbd]
  sub _ h := h
  fresh b hbd := by
    subst hbd
    exact ⟨free_env hfree, fun c oc _ hc => (free_hp hfree hc).2, hpin⟩
  os := hb.os
  tape := hb.tape
  output := hb.output
  size := hb.size
  block i hi _ := hb.block i hi
  blks b oc g hbd hc hl hk := by
    subst hbd
    rw [getH_set, if_pos rfl] at hc
    obtain rfl := Option.some.inj hc
    exact .inl (hblk g hl (by simpa [upd] using hk))
  inj b b' _ _ _ h1 h2 _ _ _ _ _ _ := by rw [h1, h2]
theorem stp_put {b : Nat} {o0 ob : Ob} (hb : getH st.hp b = some o0) (hl0 : o0.live = true) (hos : w'.os = w.os) (htape : w'.tape = w.tape) (hout : w'.output = w.output) (hsz : w.heap.size ≤ w'.heap.size)
    (hblk : ∀ i, i < w.heap.size → blk (ψ b) ≠ some i → w'.heap[i]? = w.heap[i]?) : Stp ψ st w ψ (setH st.hp b ob) w' (fun c => c = b) (fun _ => False) where
  same c hc := by rw [getH_set, if_neg hc]
  ref _ _ := rfl
  sub _ h := h.elim
  fresh _ h := h.elim
  os := hos
  tape := htape
  output := hout
  size := hsz
  block i hi h := hblk i hi (h b o0 rfl hb hl0)
  blks c oc g hcb hc hl hk := by
    subst hcb
    exact .inr ⟨c, o0, rfl, hb, hl0, hk⟩
  inj c c' _ _ _ h1 h2 _ _ _ _ _ _ := by rw [h1, h2]
theorem upsH_app (hp : Heap) (us vs : List Up) : upsH hp (us ++ vs) = upsH (upsH hp us) vs := by
  induction us generalizing hp with
  | nil => rfl
  | cons u us ih => exact ih _
theorem free_frzs {d : Nat} (hfree : Free st d) (rs : List Nat) : Free { st with hp := upsH st.hp (rs.map Up.frz) } d := by
  refine ⟨hfree.1, fun b o hb => ?_⟩
  have hb : getH (upsH st.hp (rs.map Up.frz)) b = some o := hb
  rw [getH_frzs] at hb
  split at hb
  · cases h1 : getH st.hp b with
    | none => rw [h1] at hb; cases hb
    | some o' =>
      rw [h1] at hb
      obtain rfl := Option.some.inj hb
      rw [frz_leaves]
      exact hfree.2 b o' h1
  · exact hfree.2 b o hb

/-! ### Boxes -/
/-- What is boxed or stored, as cells. -/
theorem cells_ok {i : TI} {x : SV} {cs : List L} {v : Value} (hc : cellsOf i x = some cs) (hv : RV ψ ro w x v) : RLs ψ ro w cs v.cells.toList ∧ (∀ u ∈ v.cells.toList, u.oneCell' = true) ∧ cs.length = i.sz ∧ x.leaves = cs := by
  have one : ∀ {x : L} {v : Value}, x.known = true → RL ψ ro w x v → v.oneCell' = true ∧ v.cells = #[v] := by
    intro x v hk h
    cases x with
    | sl k e xs nil => obtain ⟨A, c, rfl, _⟩ := h; exact ⟨rfl, rfl⟩
    | el k e xs i off => obtain ⟨b, o, rfl, _⟩ := h; exact ⟨rfl, rfl⟩
    | ptr b off => obtain ⟨g, _, rfl⟩ := h; exact ⟨rfl, rfl⟩
    | rs r => obtain ⟨_, A, n, c, rfl⟩ := h; exact ⟨rfl, rfl⟩
    | rel r sz i off => obtain ⟨g, n, c, _, _, rfl⟩ := h; exact ⟨rfl, rfl⟩
    | ifc b =>
      cases b with
      | true => obtain rfl : v = _ := h; exact ⟨rfl, rfl⟩
      | false => obtain ⟨t, p, rfl⟩ := h; exact ⟨rfl, rfl⟩
    | ifi t k n => obtain rfl : v = _ := h; cases n <;> exact ⟨rfl, rfl⟩
    | undef => cases hk
    | un => cases hk
    | _ => obtain rfl : v = _ := h; exact ⟨rfl, rfl⟩
  have ones : ∀ {cs : List L} {vs : List Value}, RLs ψ ro w cs vs → cs.all L.known = true → ∀ u ∈ vs, u.oneCell' = true := by
    intro cs
    induction cs with
    | nil => intro vs h _ u hu; cases vs with | nil => cases hu | cons _ _ => exact h.elim
    | cons x xs ih =>
      intro vs h hk u hu
      cases vs with
      | nil => exact h.elim
      | cons v vs =>
        simp only [List.all_cons, Bool.and_eq_true] at hk
        rcases List.mem_cons.1 hu with rfl | hu
        · exact (one hk.1 h.1).1
        · exact ih h.2 hk.2 u hu
  cases x with
  | l x =>
    simp only [cellsOf] at hc
    split at hc
    · cases hc
    · rename_i hag
      split at hc
      · rename_i hk
        obtain rfl := Option.some.inj hc
        simp only [Bool.and_eq_true] at hk
        obtain ⟨h1, h2⟩ := one hk.1 hv
        rw [h2]
        exact ⟨⟨hv, trivial⟩, fun u hu => by simp at hu; subst hu; exact h1, (Nat.eq_of_beq_eq_true hk.2).symm, rfl⟩
      · cases hc
  | agg cs' =>
    obtain ⟨vs, rfl, hvs⟩ := hv
    simp only [cellsOf] at hc
    split at hc
    · rename_i hag
      obtain rfl := Option.some.inj hc
      simp only [Bool.and_eq_true] at hag
      refine ⟨by simpa [Value.cells] using hvs, ?_, Nat.eq_of_beq_eq_true hag.1.2, rfl⟩
      simpa [Value.cells] using ones hvs hag.2
    · cases hc
  | tup es => cases hc
  | fn f caps => cases hc
/-- The leaves of an operand are not about a free key. -/
theorem free_opd {d : Nat} (hfree : Free st d) (x : Operand) : ∀ y ∈ (opd st x).leaves, ∀ b, y.ref = some b → b ≠ d := by
  cases x with
  | tmp t => exact free_env hfree t
  | const v =>
    intro y hy b hb
    simp only [opd] at hy
    unfold constSV at hy
    split at hy <;> (try split at hy) <;> (simp [SV.leaves] at hy; try (subst hy; cases hb))
  | global g => intro y hy b hb; simp [opd, SV.leaves] at hy; subst hy; cases hb
  | func f => intro y hy; simp [opd, SV.leaves] at hy
theorem upd_self {α : Type} (f : Nat → α) (d : Nat) (v : α) : upd f d v d = v := by simp [upd]
theorem upd_ne {α : Type} (f : Nat → α) {d b : Nat} (v : α) (h : b ≠ d) : upd f d v b = f b := by simp [upd, h]
theorem snd_newbox (h : Rel cx ψ st a w) {d : Nat} (hfree : Free st d) (hpin : d ∉ st.pin) {t : Nat} {cs : List L} {vs : List Value} (hvs : RLs ψ (RO cx ψ st.hp) w cs vs) (hcs : ∀ y ∈ cs, ∀ b, y.ref = some b → b ≠ d)
    (hrun : (execOp a.eval o).run P w = .ok (.value (.pointer (some ⟨w.heap.size, 0, none⟩))) (w.alloc (.cells vs.toArray t))) (hN : Nx cx st a o.dst (setH st.hp d (.box t cs)) (.l (.ptr d 0)) N) : o.wp P a w N Q := by
  have hb := (Below.refl w.heap.size w).alloc (Nat.le_refl _) (.cells vs.toArray t)
  have s := stp_new (ψ := ψ) hfree hpin (ob := .box t cs) (v := .pointer (some ⟨w.heap.size, 0, none⟩)) hb (fun g _ hg => by simp [blk] at hg; omega)
  refine upon_ok hrun (hN _ _ _ (h.step s ?_) ⟨w.heap.size, upd_self _ _ _, rfl⟩)
  rintro b ob rfl hb'
  rw [getH_set, if_pos rfl] at hb'
  obtain rfl := Option.some.inj hb'
  rw [upd_self]
  exact ⟨w.heap.size, vs, rfl, heap_alloc_new w _, hvs.move (fun y hy b hy' => upd_ne _ _ (hcs y hy b hy')) s.move⟩
theorem snd_box (h : Rel cx ψ st a w) {d : Nat} (hfree : Free st d) (hpin : d ∉ st.pin) {t : Nat} {i : TI} (x : Operand) (ho : o.op = .box t x) {cs : List L} (hc : cellsOf i (opd st x) = some cs)
    (hN : Nx cx st a o.dst (setH st.hp d (.box t cs)) (.l (.ptr d 0)) N) : o.wp P a w N Q := by
  obtain ⟨h1, _, _, h2⟩ := cells_ok hc (opd_ok h x)
  refine snd_newbox h hfree hpin h1 (by rw [← h2]; exact free_opd hfree x) ?_ hN
  simp [execOp, ho, Instr.box, newVar, newRow, newObj]; rfl
theorem zchk_noref : ∀ {l : List L} {vs : List Value}, zchk l vs = true → ∀ y ∈ l, y.ref = none
  | [], _, _, y, hy => by cases hy
  | .int _ _ :: r, .int _ _ :: r', h, y, hy => by
    simp only [zchk, Bool.and_eq_true] at h
    rcases List.mem_cons.1 hy with rfl | hy
    · rfl
    · exact zchk_noref h.2 y hy
  | .bool _ :: r, .bool _ :: r', h, y, hy => by
    simp only [zchk, Bool.and_eq_true] at h
    rcases List.mem_cons.1 hy with rfl | hy
    · rfl
    · exact zchk_noref h.2 y hy
  | .str _ :: r, .string _ :: r', h, y, hy => by
    simp only [zchk, Bool.and_eq_true] at h
    rcases List.mem_cons.1 hy with rfl | hy
    · rfl
    · exact zchk_noref h.2 y hy
  | .nils :: r, .slice none 0 0 :: r', h, y, hy => by
    rcases List.mem_cons.1 hy with rfl | hy
    · rfl
    · exact zchk_noref (by simpa [zchk] using h) y hy
  | .nilp :: r, .pointer none :: r', h, y, hy => by
    rcases List.mem_cons.1 hy with rfl | hy
    · rfl
    · exact zchk_noref (by simpa [zchk] using h) y hy
  | .ifc true :: r, .nilIface :: r', h, y, hy => by
    rcases List.mem_cons.1 hy with rfl | hy
    · rfl
    · exact zchk_noref (by simpa [zchk] using h) y hy
  | .un :: r, _ :: r', h, y, hy => by
    rcases List.mem_cons.1 hy with rfl | hy
    · rfl
    · exact zchk_noref (by simpa [zchk] using h) y hy
theorem snd_alloc (hT : TOk P T) (h : Rel cx ψ st a w) {d : Nat} (hfree : Free st d) (hpin : d ∉ st.pin) {t : Nat} {i : TI} (hi : T t = some i) (ho : o.op = .alloc t)
    (hN : Nx cx st a o.dst (setH st.hp d (.box t i.zero)) (.l (.ptr d 0)) N) : o.wp P a w N Q := by
  obtain ⟨ti, h1, _, _, z, hz, hzc⟩ := tchk_info (hT t i hi)
  refine snd_newbox h hfree hpin (zchk_ok hzc) (fun y hy b hb => by rw [zchk_noref hzc y hy] at hb; cases hb) ?_ hN
  simp [execOp, ho, Instr.alloc, zeroValue, typeInfo, h1, hz, newVar, newRow, newObj]; rfl

/-! ### Loads, stores -/
theorem agg_run {t : Nat} {i : TI} (hc : tchk P t i = true) (w : World) : (isAgg t).run P w = .ok i.agg w := by
  obtain ⟨d, hd, hr, _⟩ := tchk_und hc
  unfold isAgg
  rw [Sem.run_bind, run_underlying hd w]
  cases d <;> simp_all
theorem cells_at {w : World} {g t : Nat} {vs : List Value} (h : w.heap[g]? = some (.cells vs.toArray t (0, 0))) (j : Nat) : w.cell? ⟨g, j, none⟩ = vs[j]? := by
  simp [World.cell?, h]
/-- A part of known cells is loaded. -/
theorem load_run {t : Nat} {i : TI} (hc : tchk P t i = true) {cs : List L} {vs : List Value} (hl : RLs ψ ro w cs vs) {off b base : Nat} (hcell : ∀ j u, vs[j]? = some u → w.cell? ⟨b, base + j, none⟩ = some u) {v : SV} (hv : valOf i cs off = some v) :
    ∃ z, RV ψ ro w v z ∧ (Instr.loadAt t (.pointer (some ⟨b, base + off, none⟩))).run P w = .ok z w := by
  obtain ⟨d, hd, hr, _⟩ := tchk_und hc
  obtain ⟨ti, h1, h2, _⟩ := tchk_info hc
  unfold valOf at hv
  split at hv
  · rename_i hle
    have hle := Nat.le_of_ble_eq_true hle
    have hlen := RLs_len hl
    split at hv
    · rename_i hag
      obtain rfl := Option.some.inj hv
      have hl' := RLs_take i.sz (RLs_drop off hl)
      have hlen' : ((vs.drop off).take i.sz).length = i.sz := by rw [List.length_take, List.length_drop]; omega
      refine ⟨.agg ((vs.drop off).take i.sz).toArray, ⟨_, rfl, hl'⟩, ?_⟩
      refine run_loadAt_mid w b (base + off) t _ d (fun j u hj => ?_) hd (by rw [hr]; exact hag) (by rw [h1, hlen']; simp [h2])
      have hj' : j < i.sz := by
        rcases Nat.lt_or_ge j i.sz with h | h
        · exact h
        · rw [List.getElem?_take_eq_none h] at hj; cases hj
      rw [List.getElem?_take_of_lt hj', List.getElem?_drop] at hj
      rw [Nat.add_assoc]
      exact hcell _ u hj
    · rename_i hag
      cases hx : cs[off]? with
      | none => rw [hx] at hv; cases hv
      | some x =>
        rw [hx] at hv
        obtain rfl := Option.some.inj hv
        obtain ⟨z, hz, hrz⟩ := RLs_get hl hx
        refine ⟨z, hrz, ?_⟩
        have hag' : i.agg = false := by simpa using hag
        have := agg_run hc w
        rw [hag'] at this
        simp [Instr.loadAt, Instr.sureAddr, loadVar, this, hcell off z hz]
  · cases hv
theorem box_at (h : Rel cx ψ st a w) {b t : Nat} {cs : List L} (hb : getH st.hp b = some (.box t cs)) {g : Nat} (hg : ψ b = .pointer (some ⟨g, 0, none⟩)) : ∃ vs : List Value, w.heap[g]? = some (.cells vs.toArray t (0, 0)) ∧ RLs ψ (RO cx ψ st.hp) w cs vs := by
  obtain ⟨g', vs, h1, h2, h3⟩ := h.obj b _ hb
  rw [hg] at h1
  obtain rfl : g = g' := by simpa using h1
  exact ⟨vs, h2, h3⟩
theorem snd_load_ptr (hT : TOk P T) (h : Rel cx ψ st a w) {t : Nat} {i : TI} (hi : T t = some i) (x : Operand) (ho : o.op = .load t x) {b off t' : Nat} (hx : opd st x = .l (.ptr b off)) {cs : List L} (hb : getH st.hp b = some (.box t' cs)) {v : SV} (hv : valOf i cs off = some v)
    (hN : Nx cx st a o.dst st.hp v N) : o.wp P a w N Q := by
  obtain ⟨g, hg, hxv⟩ := opd_l h hx
  obtain ⟨vs, hh, hl⟩ := box_at h hb hg
  obtain ⟨z, hz, hrun⟩ := load_run (P := P) (hT t i hi) hl (b := g) (base := 0) (off := off) (fun j u hj => by rw [Nat.zero_add, cells_at hh]; exact hj) hv
  refine snd_val h hz ?_ hN
  rw [Nat.zero_add] at hrun
  simp only [execOp, ho, hxv, Sem.run_bind, hrun]
  rfl
/-- An element's cells, as they are told and as they lie. -/
theorem toL_ok {ψ : Nat → Value} {ro : Addr → Prop} {w : World} : ∀ (k : Kn) (x : den k) (cs : List Value), RK (Vis ro w) k x cs → RLs ψ ro w (toL k x) cs
  | .int _, x, cs, h => by obtain rfl : cs = _ := h; exact ⟨rfl, trivial⟩
  | .bool, x, cs, h => by obtain rfl : cs = _ := h; exact ⟨rfl, trivial⟩
  | .str, x, cs, h => by obtain rfl : cs = _ := h; exact ⟨rfl, trivial⟩
  | .ifc, x, cs, ⟨v, h, h'⟩ => by obtain rfl : cs = _ := h; exact ⟨h', trivial⟩
  | .ifi _ _, x, cs, h => by obtain rfl : cs = _ := h; exact ⟨rfl, trivial⟩
  | .prod p q, x, cs, h => by
    obtain ⟨c1, c2, rfl, h1, h2⟩ := h
    exact RLs_append (toL_ok p x.1 c1 h1) (toL_ok q x.2 c2 h2)
  | .sl e k, x, cs, h => by
    obtain ⟨A, n, c, rfl, rfl, hc, hr⟩ := h
    exact ⟨⟨A, c, rfl, hc, fun b hb => (nomatch hb), hr⟩, trivial⟩
/-- The same, back. -/
theorem fromL_ok {ψ : Nat → Value} {ro : Addr → Prop} {w : World} : ∀ (k : Kn) (cs : List L) (vs : List Value) (x : den k) (r : List L), fromL k cs = some (x, r) → RLs ψ ro w cs vs → ∃ v1 v2, vs = v1 ++ v2 ∧ RK (Vis ro w) k x v1 ∧ RLs ψ ro w r v2
  | .int _, .int ik' n :: r, vs, x, r', h, hv => by
    simp only [fromL] at h
    split at h
    · rename_i hk
      subst hk
      simp only [Option.some.injEq, Prod.mk.injEq] at h
      obtain ⟨rfl, rfl⟩ := h
      match vs, hv with
      | v :: vs, hv => exact ⟨[v], vs, rfl, by rw [show v = _ from hv.1]; rfl, hv.2⟩
    · cases h
  | .bool, .bool b :: r, vs, x, r', h, hv => by
    simp only [fromL, Option.some.injEq, Prod.mk.injEq] at h
    obtain ⟨rfl, rfl⟩ := h
    match vs, hv with
    | v :: vs, hv => exact ⟨[v], vs, rfl, by rw [show v = _ from hv.1]; rfl, hv.2⟩
  | .str, .str s :: r, vs, x, r', h, hv => by
    simp only [fromL, Option.some.injEq, Prod.mk.injEq] at h
    obtain ⟨rfl, rfl⟩ := h
    match vs, hv with
    | v :: vs, hv => exact ⟨[v], vs, rfl, by rw [show v = _ from hv.1]; rfl, hv.2⟩
  | .ifc, .ifc b :: r, vs, x, r', h, hv => by
    simp only [fromL, Option.some.injEq, Prod.mk.injEq] at h
    obtain ⟨rfl, rfl⟩ := h
    match vs, hv with
    | v :: vs, hv => exact ⟨[v], vs, rfl, ⟨v, rfl, hv.1⟩, hv.2⟩
  | .ifc, .ifi t k o :: r, vs, x, r', h, hv => by
    simp only [fromL, Option.some.injEq, Prod.mk.injEq] at h
    obtain ⟨rfl, rfl⟩ := h
    match vs, hv with
    | v :: vs, hv =>
      refine ⟨[v], vs, rfl, ⟨v, rfl, ?_⟩, hv.2⟩
      have h1 : v = IfiV t k o := hv.1
      cases o with
      | none => exact h1
      | some n => exact ⟨_, _, h1⟩
  | .ifi t k, .ifi t' k' o :: r, vs, x, r', h, hv => by
    simp only [fromL] at h
    split at h
    · rename_i ht
      split at h
      · rename_i hk
        subst ht; subst hk
        simp only [Option.some.injEq, Prod.mk.injEq] at h
        obtain ⟨rfl, rfl⟩ := h
        match vs, hv with
        | v :: vs, hv => exact ⟨[v], vs, rfl, by rw [show v = _ from hv.1]; rfl, hv.2⟩
      · cases h
    · cases h
  | .ifi t k, .ifc true :: r, vs, x, r', h, hv => by
    simp only [fromL, Option.some.injEq, Prod.mk.injEq] at h
    obtain ⟨rfl, rfl⟩ := h
    match vs, hv with
    | v :: vs, hv => exact ⟨[v], vs, rfl, by rw [show v = _ from hv.1]; rfl, hv.2⟩
  | .prod p q, cs, vs, x, r, h, hv => by
    simp only [fromL] at h
    split at h
    · rename_i y r1 h1
      split at h
      · rename_i z r2 h2
        simp only [Option.some.injEq, Prod.mk.injEq] at h
        obtain ⟨rfl, rfl⟩ := h
        obtain ⟨v1, v2, rfl, h3, h4⟩ := fromL_ok p cs vs y r1 h1 hv
        obtain ⟨v3, v4, rfl, h5, h6⟩ := fromL_ok q r1 v2 z r2 h2 h4
        exact ⟨v1 ++ v3, v4, by rw [List.append_assoc], ⟨v1, v3, rfl, h3, h5⟩, h6⟩
      · cases h
    · cases h
  | .sl e k, .sl k' e' xs nil :: r, vs, x, r', h, hv => by
    simp only [fromL] at h
    split at h
    · rename_i hk
      subst hk
      split at h
      · simp only [Option.some.injEq, Prod.mk.injEq] at h
        obtain ⟨rfl, rfl⟩ := h
        match vs, hv with
        | v :: vs, hv =>
          obtain ⟨A, c, h1, h2, h3, h4⟩ := hv.1
          exact ⟨[v], vs, rfl, ⟨A, _, c, by rw [h1], rfl, h2, h4⟩, hv.2⟩
      · cases h
    · cases h
  | .sl e k, .nils :: r, vs, x, r', h, hv => by
    simp only [fromL, Option.some.injEq, Prod.mk.injEq] at h
    obtain ⟨rfl, rfl⟩ := h
    match vs, hv with
    | v :: vs, hv =>
      refine ⟨[v], vs, rfl, ⟨none, 0, 0, by rw [show v = _ from hv.1], rfl, Nat.le_refl _, fun h0 => ?_⟩, hv.2⟩
      simp at h0
theorem fromLs_ok {ψ : Nat → Value} {ro : Addr → Prop} {w : World} {k : Kn} {cs : List L} {vs : List Value} {x : den k} (h : fromLs k cs = some x) (hv : RLs ψ ro w cs vs) : RK (Vis ro w) k x vs := by
  unfold fromLs at h
  split at h
  · rename_i y hy
    obtain rfl := Option.some.inj h
    obtain ⟨v1, v2, rfl, h1, h2⟩ := fromL_ok k cs vs y [] hy hv
    cases v2 with
    | nil => rw [List.append_nil]; exact h1
    | cons _ _ => exact h2.elim
  · cases h
/-- An element of a row that is read: its cells. -/
theorem row_at {ro : Addr → Prop} {w : World} {k : Kn} {xs : List (den k)} {b o : Nat} (hs : RRow (Vis ro w) k.sz (RK (Vis ro w) k) (some ⟨b, o, none⟩) xs) {i : Nat} (hi : i < xs.length) :
    ∃ cs, RK (Vis ro w) k (xs.getD i (dfl k)) cs ∧ ∀ j u, cs[j]? = some u → w.cell? ⟨b, o + (i * k.sz) + j, none⟩ = some u := by
  have hx : xs[i]? = some (xs.getD i (dfl k)) := by rw [List.getD_eq_getElem?_getD, List.getElem?_eq_getElem hi]; rfl
  obtain ⟨b', o', he, hc⟩ := hs (by omega)
  simp only [Option.some.injEq, Addr.mk.injEq, and_true] at he
  obtain ⟨rfl, rfl⟩ := he
  obtain ⟨cs, h1, h2⟩ := hc i _ hx
  exact ⟨cs, h1, fun j u hj => by rw [Nat.add_assoc]; exact (h2 j u hj).2⟩
theorem snd_load_el (hT : TOk P T) (h : Rel cx ψ st a w) {t : Nat} {i : TI} (hi : T t = some i) (x : Operand) (ho : o.op = .load t x) {k : Kn} {e : Nat} {xs : List (den k)} {j off : Nat} (hx : opd st x = .l (.el k e xs j off)) {v : SV} (hv : valOf i (toL k (xs.getD j (dfl k))) off = some v)
    (hN : Nx cx st a o.dst st.hp v N) : o.wp P a w N Q := by
  obtain ⟨b, o', he, hj, hr⟩ := opd_l h hx
  obtain ⟨cs, h2, h3⟩ := row_at hr hj
  obtain ⟨z, hz, hrun⟩ := load_run (P := P) (hT t i hi) (toL_ok (ψ := ψ) k _ cs h2) (b := b) (base := o' + j * k.sz) (off := off) h3 hv
  refine snd_val h hz ?_ hN
  rw [Nat.add_assoc] at hrun
  simp only [execOp, ho, he, Sem.run_bind, hrun]
  rfl
/-- A place in an own row. -/
theorem rel_at (h : Rel cx ψ st a w) {r : Nat} {k : Kn} {e : Nat} {xs : List (den k)} {nil : Option Bool} {fz : Bool} (hr : getH st.hp r = some (.row k e xs nil fz)) {g n c j : Nat} (hg : ψ r = .slice (some ⟨g, 0, none⟩) n c) (hj : j < n) :
    n = xs.length ∧ ∃ cs, RK (Vis (RO cx ψ st.hp) w) k (xs.getD j (dfl k)) cs ∧ ∀ m u, cs[m]? = some u → w.cell? ⟨g, j * k.sz + m, none⟩ = some u := by
  have ho := h.obj r _ hr
  cases fz with
  | false =>
    obtain ⟨us, h1, h2, _⟩ := ho
    obtain ⟨A, c', hv, _, _, hcell⟩ := row_cells h1
    rw [hg] at hv
    simp only [Value.slice.injEq] at hv
    obtain ⟨rfl, rfl, rfl⟩ := hv
    obtain ⟨_, hcl⟩ := hcell _ rfl
    have hx : xs[j]? = some (xs.getD j (dfl k)) := by rw [List.getD_eq_getElem?_getD, List.getElem?_eq_getElem hj]; rfl
    obtain ⟨cc, h3, h4⟩ := RKs_get h2 hx
    exact ⟨rfl, cc, h3, fun m u hm => hcl _ _ (h4 m u hm)⟩
  | true =>
    obtain ⟨A, c', hv, _, _, hs⟩ := ho
    rw [hg] at hv
    simp only [Value.slice.injEq] at hv
    obtain ⟨rfl, rfl, rfl⟩ := hv
    obtain ⟨cs, h3, h4⟩ := row_at hs hj
    exact ⟨rfl, cs, h3, fun m u hm => by simpa using h4 m u hm⟩
theorem snd_load_rel (hT : TOk P T) (h : Rel cx ψ st a w) {t : Nat} {i : TI} (hi : T t = some i) (x : Operand) (ho : o.op = .load t x) {r j off : Nat} {k : Kn} (hx : opd st x = .l (.rel r k.sz j off)) {e : Nat} {xs : List (den k)} {nil : Option Bool} {fz : Bool} (hr : getH st.hp r = some (.row k e xs nil fz)) {v : SV} (hv : valOf i (toL k (xs.getD j (dfl k))) off = some v)
    (hN : Nx cx st a o.dst st.hp v N) : o.wp P a w N Q := by
  obtain ⟨g, n, c, hg, hj, he⟩ := opd_l h hx
  obtain ⟨_, cs, h2, h3⟩ := rel_at h hr hg hj
  obtain ⟨z, hz, hrun⟩ := load_run (P := P) (hT t i hi) (toL_ok (ψ := ψ) k _ cs h2) (b := g) (base := j * k.sz) (off := off) h3 hv
  refine snd_val h hz ?_ hN
  simp only [execOp, ho, he, Sem.run_bind, hrun]
  rfl
theorem setAt_eq : ∀ {cs : List L} {off : Nat} {ys cs' : List L}, setAt cs off ys = some cs' → cs' = cs.take off ++ ys ++ cs.drop (off + ys.length) ∧ off + ys.length ≤ cs.length
  | cs, 0, [], cs', h => by simp [setAt] at h; subst h; simp
  | [], 0, y :: ys, cs', h => by simp [setAt] at h
  | c :: r, 0, y :: ys, cs', h => by
    simp only [setAt, Option.map_eq_some_iff] at h
    obtain ⟨r', h1, rfl⟩ := h
    obtain ⟨h2, h3⟩ := setAt_eq h1
    simp only [Nat.zero_add] at h2 h3
    refine ⟨?_, by simp only [List.length_cons]; omega⟩
    simp [h2]
  | [], n + 1, ys, cs', h => by simp [setAt] at h
  | c :: r, n + 1, ys, cs', h => by
    simp only [setAt, Option.map_eq_some_iff] at h
    obtain ⟨r', h1, rfl⟩ := h
    obtain ⟨h2, h3⟩ := setAt_eq h1
    refine ⟨?_, by simp only [List.length_cons]; omega⟩
    rw [h2, show n + 1 + ys.length = (n + ys.length) + 1 by omega]
    simp
theorem setAt_rl {cs ys cs' : List L} {off : Nat} (hs : setAt cs off ys = some cs') {us vs : List Value} (hu : RLs ψ ro w cs us) (hv : RLs ψ ro w ys vs) : RLs ψ ro w cs' (us.take off ++ vs ++ us.drop (off + vs.length)) := by
  obtain ⟨h1, h2⟩ := setAt_eq hs
  rw [h1, ← RLs_len hv]
  exact RLs_append (RLs_append (RLs_take _ hu) hv) (RLs_drop _ hu)
theorem snd_store_ptr (hT : TOk P T) (h : Rel cx ψ st a w) {t : Nat} {i : TI} (hi : T t = some i) (x y : Operand) (ho : o.op = .store t x y) {b off t' : Nat} (hx : opd st x = .l (.ptr b off)) {cs ys cs' : List L} (hb : getH st.hp b = some (.box t' cs)) (hc : cellsOf i (opd st y) = some ys) (hs : setAt cs off ys = some cs')
    (hN : Nx cx st a o.dst (setH st.hp b (.box t' cs')) (.l .undef) N) : o.wp P a w N Q := by
  obtain ⟨g, hg, h1⟩ := opd_l h hx
  obtain ⟨h2, h3, h4, _⟩ := cells_ok hc (opd_ok h y)
  obtain ⟨us, hh, hl⟩ := box_at h hb hg
  obtain ⟨_, hle⟩ := setAt_eq hs
  obtain ⟨ti, hi1, hi2, _⟩ := tchk_info (hT t i hi)
  have hlen := RLs_len hl
  have hlen2 := RLs_len h2
  have hvs := setAt_rl hs hl h2
  have hsz : (a.eval y).cells.size = i.sz := by
    rw [← Array.length_toList, ← hlen2]
    exact h4
  have hrun : (Instr.storeAt t (a.eval x) (a.eval y)).run P w = .ok () (w.setRow g (us.take off ++ (a.eval y).cells.toList ++ us.drop (off + (a.eval y).cells.toList.length)).toArray) := by
    have hst := run_storeCells_at (P := P) g off t' (a.eval y).cells.toList 0 us.toArray w hh (by simp only [Nat.add_zero, List.size_toArray]; omega) h3
    simp only [Nat.add_zero] at hst
    simp only [Instr.storeAt, h1, Instr.sureAddr, Sem.run_bind, Sem.run_pure, Result.andThen_ok, storeVar, sizeOf, typeInfo, hi1]
    simp only [Array.length_toList] at hst ⊢
    simp [hi1, hi2, hsz] at hst ⊢
    simp [hst]
  have hoth : ∀ k, k ≠ g → (w.setRow g (us.take off ++ (a.eval y).cells.toList ++ us.drop (off + (a.eval y).cells.toList.length)).toArray).heap[k]? = w.heap[k]? := fun k hk => setRow_other w g k _ hk
  have s := stp_put (ψ := ψ) (st := st) (w := w) (w' := w.setRow g (us.take off ++ (a.eval y).cells.toList ++ us.drop (off + (a.eval y).cells.toList.length)).toArray) (ob := .box t' cs') hb rfl rfl rfl rfl (by rw [size_setRow]; exact Nat.le_refl _) (fun k _ hk => hoth k (fun e => hk (by rw [hg, e]; rfl)))
  refine upon_skip (w' := w.setRow g (us.take off ++ (a.eval y).cells.toList ++ us.drop (off + (a.eval y).cells.toList.length)).toArray) ?_ (hN _ _ _ (h.step s ?_) rfl)
  · simp only [execOp, ho, Sem.run_bind, hrun]
    rfl
  · rintro c oc rfl hc'
    rw [getH_set, if_pos rfl] at hc'
    obtain rfl := Option.some.inj hc'
    exact ⟨g, _, hg, setRow_heap w g us.toArray _ t' (0, 0) hh, hvs.move (fun _ _ _ _ => rfl) s.move⟩
theorem snd_store_rel (hT : TOk P T) (h : Rel cx ψ st a w) {t : Nat} {i : TI} (hi : T t = some i) (x y : Operand) (ho : o.op = .store t x y) {r j off : Nat} {k : Kn} (hx : opd st x = .l (.rel r k.sz j off)) {ys cs' : List L} (hc : cellsOf i (opd st y) = some ys) {e : Nat} {xs : List (den k)} {nil : Option Bool}
    (hr : getH (upsH st.hp (frzUps st.hp ys)) r = some (.row k e xs nil false)) (hs : setAt (toL k (xs.getD j (dfl k))) off (ys.map (frzL st.hp)) = some cs') {z : den k} (hz : fromLs k cs' = some z)
    (hN : Nx cx st a o.dst (upsH st.hp (frzUps st.hp ys ++ [.put r (.row k e (xs.set j z) nil false)])) (.l .undef) N) : o.wp P a w N Q := by
  obtain ⟨g, n, c, hg, hj, h1⟩ := opd_l h hx
  obtain ⟨h2, h3, h4, _⟩ := cells_ok hc (opd_ok h y)
  have h2' := frzs_ok h h2 (rowsIn st.hp ys) (fun _ h => h)
  have hF := h.frzs (rowsIn st.hp ys)
  have h5 : (upsH st.hp ((rowsIn st.hp ys).map Up.frz)) = upsH st.hp (frzUps st.hp ys) := rfl
  rw [h5] at h2' hF
  obtain ⟨hn, ec, hek, hecl⟩ := rel_at hF hr hg hj
  obtain ⟨ti, hi1, hi2, _⟩ := tchk_info (hT t i hi)
  have hel := toL_ok (ψ := ψ) k _ ec hek
  have hnew := setAt_rl hs hel h2'
  obtain ⟨_, hle⟩ := setAt_eq hs
  have hzk := fromLs_ok hz hnew
  have hlen2 := RLs_len h2'
  have hlen3 := RLs_len hel
  have hkl := RK_len hek
  obtain ⟨us, ho1, ho2, ho3⟩ := hF.obj r _ hr
  have hul := RKs_len ho2
  rcases ho1.2 with ⟨hv, _⟩ | ⟨g', cap, cur, hv, _, hgg, hnc, hcm, hcs, htake⟩
  · rw [hg] at hv; cases hv
  have hgv := hg.symm.trans hv
  simp only [Value.slice.injEq, Option.some.injEq, Addr.mk.injEq, and_true] at hgv
  obtain ⟨rfl, _, rfl⟩ := hgv
  subst hn
  have hszy : (a.eval y).cells.toList.length = i.sz := by rw [← h4, ← RLs_len h2]
  have hmul : (j + 1) * k.sz ≤ xs.length * k.sz := Nat.mul_le_mul_right _ hj
  have hmul2 : xs.length * k.sz ≤ c * k.sz := Nat.mul_le_mul_right _ hnc
  rw [Nat.add_mul, Nat.one_mul] at hmul
  have hlm : (ys.map (frzL st.hp)).length = (a.eval y).cells.toList.length := hlen2
  have hrun : (Instr.storeAt t (a.eval x) (a.eval y)).run P w = .ok () (w.setRow g (cur.toList.take (j * k.sz + off) ++ (a.eval y).cells.toList ++ cur.toList.drop (j * k.sz + off + (a.eval y).cells.toList.length)).toArray) := by
    have hst := run_storeCells_at (P := P) g (j * k.sz + off) e (a.eval y).cells.toList 0 cur w hgg (by rw [hcs]; omega) h3
    simp only [Nat.add_zero] at hst
    simp only [Instr.storeAt, h1, Instr.sureAddr, Sem.run_bind, Sem.run_pure, Result.andThen_ok, storeVar, sizeOf, typeInfo, hi1]
    simp only [Array.length_toList] at hst hszy ⊢
    simp [hi1, hi2, hszy] at hst ⊢
    simp [hst]
  have s := stp_put (ψ := ψ) (st := { st with hp := upsH st.hp (frzUps st.hp ys) }) (w := w) (w' := w.setRow g (cur.toList.take (j * k.sz + off) ++ (a.eval y).cells.toList ++ cur.toList.drop (j * k.sz + off + (a.eval y).cells.toList.length)).toArray) (ob := .row k e (xs.set j z) nil false) hr rfl rfl rfl rfl (by rw [size_setRow]; exact Nat.le_refl _) (fun k _ hk => setRow_other w g k _ (fun e => hk (by rw [hg, e]; rfl)))
  refine upon_skip (w' := w.setRow g (cur.toList.take (j * k.sz + off) ++ (a.eval y).cells.toList ++ cur.toList.drop (j * k.sz + off + (a.eval y).cells.toList.length)).toArray) ?_ ?_
  · simp only [execOp, ho, Sem.run_bind, hrun]
    rfl
  · rw [upsH_app] at hN
    refine hN _ _ _ (hF.step s ?_) rfl
    rintro c' oc rfl hc'
    have hc' : getH (setH (upsH st.hp (frzUps st.hp ys)) c' (.row k e (xs.set j z) nil false)) c' = some oc := hc'
    rw [getH_set, if_pos rfl] at hc'
    obtain rfl := Option.some.inj hc'
    have hz' : RK (Vis (RO cx ψ (setH (upsH st.hp (frzUps st.hp ys)) c' (.row k e (xs.set j z) nil false))) _) k z _ := RK.mono (fun p u hp => s.move p u hp.1 hp.2) hzk
    have hset := RKs_set (RKs.mono (fun p u hp => s.move p u hp.1 hp.2) ho2) hj hz'
    refine ⟨_, ⟨?_, .inr ⟨g, c, _, hg.trans (by simp), Nat.zero_le _, setRow_heap w g cur _ e (0, 0) hgg, ?_, hcm, ?_, ?_⟩⟩, hset, ho3⟩
    · rw [RKs_len hset]
    · simpa using hnc
    · simp only [List.size_toArray, List.length_append, List.length_take, List.length_drop, Array.length_toList]
      rw [Nat.min_eq_left (by rw [hcs]; omega), hcs]
      simp only [Array.length_toList] at hlm hlen2 hle hlen3
      omega
    · -- what lies there now
      have hec : ec = (us.drop (j * k.sz)).take k.sz := by
        apply List.ext_getElem?
        intro m
        rcases Nat.lt_or_ge m k.sz with hm | hm
        · rw [List.getElem?_take_of_lt hm, List.getElem?_drop]
          have hm' : m < ec.length := by rw [hkl]; exact hm
          have h6 := hecl m ec[m] (List.getElem?_eq_getElem hm')
          rw [List.getElem?_eq_getElem hm']
          simp only [World.cell?, hgg] at h6
          rw [← htake, List.getElem?_take_of_lt (by omega)]
          simpa using h6.symm
        · rw [List.getElem?_eq_none (by omega), List.getElem?_take_eq_none hm]
      have hlu : us.length = xs.length * k.sz := hul
      simp only [List.length_set]
      generalize hY : (a.eval y).cells.toList = Y at *
      rw [hec]
      rw [hlm] at hle
      have hel2 : (toL k (xs.getD j (dfl k))).length = k.sz := by rw [hlen3, hkl]
      rw [hel2] at hle
      apply List.ext_getElem?
      intro m
      rw [← htake]
      have hcl : cur.toList.length = c * k.sz := by rw [Array.length_toList]; exact hcs
      rcases Nat.lt_or_ge m (xs.length * k.sz) with hm | hm
      · rw [List.getElem?_take_of_lt hm]
        by_cases h7 : m < j * k.sz + off
        · rw [List.append_assoc, List.getElem?_append_left (by rw [List.length_take]; omega), List.getElem?_take_of_lt h7]
          by_cases h8 : m < j * k.sz
          · rw [List.append_assoc, List.getElem?_append_left (by simp only [List.length_take]; omega), List.getElem?_take_of_lt h8, List.getElem?_take_of_lt hm]
          · rw [List.append_assoc, List.getElem?_append_right (by simp only [List.length_take]; omega)]
            rw [show (List.take (j * k.sz) (List.take (xs.length * k.sz) cur.toList)).length = j * k.sz by simp only [List.length_take]; omega]
            rw [List.append_assoc, List.append_assoc, List.getElem?_append_left (by simp only [List.length_take, List.length_drop]; omega)]
            rw [List.getElem?_take_of_lt (by omega), List.getElem?_take_of_lt (by omega), List.getElem?_drop, List.getElem?_take_of_lt (by omega)]
            congr 1; omega
        · by_cases h8 : m < j * k.sz + off + Y.length
          · rw [List.getElem?_append_left (by simp only [List.length_append, List.length_take]; omega), List.getElem?_append_right (by simp only [List.length_take]; omega)]
            rw [show (List.take (j * k.sz + off) cur.toList).length = j * k.sz + off by rw [List.length_take]; omega]
            rw [List.append_assoc, List.getElem?_append_right (by simp only [List.length_take]; omega)]
            rw [show (List.take (j * k.sz) (List.take (xs.length * k.sz) cur.toList)).length = j * k.sz by simp only [List.length_take]; omega]
            rw [List.append_assoc, List.append_assoc, List.getElem?_append_right (by simp only [List.length_take, List.length_drop]; omega)]
            rw [show (List.take off (List.take k.sz (List.drop (j * k.sz) (List.take (xs.length * k.sz) cur.toList)))).length = off by simp only [List.length_take, List.length_drop]; omega]
            rw [List.getElem?_append_left (by omega)]
            congr 1; omega
          · rw [List.getElem?_append_right (by simp only [List.length_append, List.length_take]; omega)]
            rw [show (List.take (j * k.sz + off) cur.toList ++ Y).length = j * k.sz + off + Y.length by rw [List.length_append, List.length_take]; omega]
            rw [List.getElem?_drop]
            by_cases h9 : m < j * k.sz + k.sz
            · rw [List.append_assoc, List.getElem?_append_right (by simp only [List.length_take]; omega)]
              rw [show (List.take (j * k.sz) (List.take (xs.length * k.sz) cur.toList)).length = j * k.sz by simp only [List.length_take]; omega]
              rw [List.append_assoc, List.append_assoc, List.getElem?_append_right (by simp only [List.length_take, List.length_drop]; omega)]
              rw [show (List.take off (List.take k.sz (List.drop (j * k.sz) (List.take (xs.length * k.sz) cur.toList)))).length = off by simp only [List.length_take, List.length_drop]; omega]
              rw [List.getElem?_append_right (by omega), List.getElem?_append_left (by simp only [List.length_drop, List.length_take]; omega)]
              rw [List.getElem?_drop, List.getElem?_take_of_lt (by omega), List.getElem?_drop, List.getElem?_take_of_lt (by omega)]
              congr 1; omega
            · rw [List.getElem?_append_right (by simp only [List.length_append, List.length_take, List.length_drop]; omega), List.getElem?_drop]
              rw [show (List.take (j * k.sz) (List.take (xs.length * k.sz) cur.toList) ++ (List.take off (List.take k.sz (List.drop (j * k.sz) (List.take (xs.length * k.sz) cur.toList))) ++ Y ++ List.drop (off + Y.length) (List.take k.sz (List.drop (j * k.sz) (List.take (xs.length * k.sz) cur.toList))))).length = j * k.sz + k.sz by simp only [List.length_append, List.length_take, List.length_drop]; omega]
              rw [List.getElem?_take_of_lt (by omega)]
              congr 1; omega
      · rw [List.getElem?_take_eq_none hm, List.getElem?_eq_none]
        simp only [List.length_append, List.length_take, List.length_drop]; omega
end
end Go.Proofs.YtopplbiadpcalaaDoor.U

/- The small abstract machine: places by an index; conversions; slices; literals; append. -/
namespace Go.Proofs.YtopplbiadpcalaaDoor.U
open Go Go.RowKit

section
variable {P : Program} {T : Tab} {cx : Cx} {ψ : Nat → Value} {ro : Addr → Prop} {st : St} {a : Act} {w w' : World} {o : Oper} {N : Act → World → Prop} {Q : Exit → Act → World → Prop}
theorem elOf_ok (hT : TOk P T) {t e : Nat} {k : Kn} (h : elOf T t = some (e, k)) : P.underlying t = some (.slice e) ∧ ∃ ie, T e = some ie ∧ ie.sz = k.sz ∧ ie.kn = some k := by
  unfold elOf at h
  split at h
  · rename_i i hi
    split at h
    · rename_i e' hd
      split at h
      · rename_i ie hie
        split at h
        · rename_i k' hk
          split at h
          · rename_i hb
            simp only [Option.some.injEq, Prod.mk.injEq] at h
            obtain ⟨rfl, rfl⟩ := h
            obtain ⟨d, hu, _, _, _, _, hsl, _⟩ := tchk_und (hT t i hi)
            obtain rfl := hsl _ hd
            exact ⟨hu, ie, hie, Nat.eq_of_beq_eq_true hb, hk⟩
          · cases h
        · cases h
      · cases h
    · cases h
  · cases h
theorem snd_field (hT : TOk P T) (h : Rel cx ψ st a w) {t : Nat} {i : TI} (hi : T t = some i) (x : Operand) (j : Nat) (ho : o.op = .fieldAddr t x j) {fs : List (Nat × Nat)} (hd : i.d = .struct fs) {ft fo : Nat} (hj : fs[j]? = some (ft, fo)) {b off : Nat} (hx : a.eval x = .pointer (some ⟨b, off, none⟩)) {v : SV}
    (hv : RV ψ (RO cx ψ st.hp) w v (.pointer (some ⟨b, off + fo, none⟩))) (hN : Nx cx st a o.dst st.hp v N) : o.wp P a w N Q := by
  obtain ⟨d, hu, _, _, _, _, _, _, hst, _⟩ := tchk_und (hT t i hi)
  obtain ⟨fa, rfl, hfc⟩ := hst fs hd
  obtain ⟨f, fi, h1, h2, h3, h4⟩ := fchk_get hfc hj
  refine snd_val h hv ?_ hN
  have h1' : fa[j]? = some f := by simpa using h1
  simp [execOp, ho, hx, Instr.fieldAt, run_underlying hu, h1', Instr.sureAddr, fieldPlace, sizeOf, typeInfo, h3, h4, h2, Addr.add_mid]
theorem snd_indexAddr_sl (hT : TOk P T) (h : Rel cx ψ st a w) {t e : Nat} {k' : Kn} (he : elOf T t = some (e, k')) (x y : Operand) (ho : o.op = .indexAddr t x y) {k : Kn} {xs : List (den k)} {nil : Option Bool} (hx : opd st x = .l (.sl k e xs nil)) {n : Int} (hy : intOf st y = some n)
    (hsz : k'.sz = k.sz) (h0 : 0 ≤ n) (hn : n < (xs.length : Int)) (hN : Nx cx st a o.dst st.hp (.l (.el k e xs n.toNat 0)) N) : o.wp P a w N Q := by
  obtain ⟨A, c, hv, hc, _, hr⟩ := opd_l h hx
  obtain ⟨ik, h2⟩ := intOf_ok h hy
  obtain ⟨hu, ie, hie, hies, _⟩ := elOf_ok hT he
  have hlt : n.toNat < xs.length := by omega
  obtain ⟨b, o', rfl, hr'⟩ := hr (by omega)
  refine snd_val h (v := .l (.el k e xs n.toNat 0)) (x := .pointer (some ⟨b, o' + (n.toNat * k.sz + 0), none⟩)) ⟨b, o', rfl, hlt, fun _ => ⟨b, o', rfl, hr'⟩⟩ ?_ hN
  have hs := sized (P := P) (hT e ie hie) w
  rw [hies, hsz] at hs
  simp [execOp, ho, Instr.indexAt, h2, hv, asIntOf, run_underlying hu, h0, hn, hs, Addr.add_mid]
theorem snd_indexAddr_rs (hT : TOk P T) (h : Rel cx ψ st a w) {t e : Nat} {k' : Kn} (he : elOf T t = some (e, k')) (x y : Operand) (ho : o.op = .indexAddr t x y) {r : Nat} (hx : opd st x = .l (.rs r)) {k : Kn} {xs : List (den k)} {nil : Option Bool} (hr : getH st.hp r = some (.row k e xs nil false)) {n : Int} (hy : intOf st y = some n)
    (hsz : k'.sz = k.sz) (h0 : 0 ≤ n) (hn : n < (xs.length : Int)) (hN : Nx cx st a o.dst st.hp (.l (.rel r k.sz n.toNat 0)) N) : o.wp P a w N Q := by
  obtain ⟨hv, _⟩ := opd_l h hx
  obtain ⟨us, h1, _, _⟩ := h.obj r _ hr
  obtain ⟨ik, h2⟩ := intOf_ok h hy
  obtain ⟨hu, ie, hie, hies, _⟩ := elOf_ok hT he
  have hlt : n.toNat < xs.length := by omega
  rcases h1.2 with ⟨_, h0'⟩ | ⟨g, cap, cur, hg, _⟩
  · omega
  · refine snd_val h (v := .l (.rel r k.sz n.toNat 0)) (x := .pointer (some ⟨g, n.toNat * k.sz + 0, none⟩)) ⟨g, _, cap, hg, hlt, rfl⟩ ?_ hN
    have hs := sized (P := P) (hT e ie hie) w
    rw [hies, hsz] at hs
    simp [execOp, ho, Instr.indexAt, h2, hv, hg, asIntOf, run_underlying hu, h0, hn, hs, Addr.add_mid]
theorem snd_index (hT : TOk P T) (h : Rel cx ψ st a w) {t : Nat} {i : TI} (hi : T t = some i) (x y : Operand) (ho : o.op = .index t x y) {s : ByteArray} (hx : opd st x = .l (.str s)) {n : Int} (hy : intOf st y = some n)
    (hd : i.d = .str) (h0 : 0 ≤ n) (hn : n < (s.size : Int)) (hN : Nx cx st a o.dst st.hp (.l (.int .u8 ((s.data.toList.getD n.toNat 0).toNat : Int))) N) : o.wp P a w N Q := by
  have h1 : a.eval x = .string s := opd_l h hx
  obtain ⟨ik, h2⟩ := intOf_ok h hy
  obtain ⟨d, hu, _, _, _, hst, _⟩ := tchk_und (hT t i hi)
  obtain rfl := hst hd
  have hlt : n.toNat < s.size := by omega
  have hg : s[n.toNat]? = some (s.data.toList.getD n.toNat 0) := by
    have h3 : n.toNat < s.data.toList.length := by simpa using hlt
    rw [List.getD_eq_getElem?_getD, List.getElem?_eq_getElem h3]
    simp [getElem?_pos, hlt]
    rfl
  refine snd_val h (v := .l (.int .u8 _)) (x := .int .u8 ((s.data.toList.getD n.toNat 0).toNat : Int)) rfl ?_ hN
  simp [execOp, ho, Instr.index, h1, h2, asIntOf, run_underlying hu, h0, hg]

/-! ### Conversions -/
theorem snd_convInt (hT : TOk P T) (h : Rel cx ψ st a w) {t t' : Nat} {i i' : TI} (hi : T t = some i) (hi' : T t' = some i') (x : Operand) (ho : o.op = .convert t t' x) {ik k' : IntKind} {n : Int} (hx : opd st x = .l (.int ik n))
    (hd' : i'.d = .int k') (hN : Nx cx st a o.dst st.hp (.l (.int k' (k'.wrap n))) N) : o.wp P a w N Q := by
  have h1 : a.eval x = .int ik n := opd_l h hx
  obtain ⟨d, hu, _⟩ := tchk_und (hT t i hi)
  obtain ⟨d', hu', _, hint', _⟩ := tchk_und (hT t' i' hi')
  obtain rfl := hint' k' hd'
  refine snd_val h (v := .l (.int k' (k'.wrap n))) rfl ?_ hN
  cases d <;> simp [execOp, ho, h1, convert, run_underlying hu, run_underlying hu', Conv.intToInt]
theorem snd_convStr (hT : TOk P T) (h : Rel cx ψ st a w) {t t' : Nat} {i i' : TI} (hi : T t = some i) (hi' : T t' = some i') (x : Operand) (ho : o.op = .convert t t' x) {s : ByteArray} (hx : opd st x = .l (.str s))
    (hd' : i'.d = .str) (hN : Nx cx st a o.dst st.hp (.l (.str s)) N) : o.wp P a w N Q := by
  have h1 : a.eval x = .string s := opd_l h hx
  obtain ⟨d, hu, _⟩ := tchk_und (hT t i hi)
  obtain ⟨d', hu', _, _, _, hst', _⟩ := tchk_und (hT t' i' hi')
  obtain rfl := hst' hd'
  refine snd_val h (v := .l (.str s)) rfl ?_ hN
  cases d <;> simp [execOp, ho, h1, convert, run_underlying hu, run_underlying hu']
theorem bytesW (w : World) (e : TypeId) (s : ByteArray) : Below w.heap.size w (Lib.bytesWorld w e s) :=
  ⟨rfl, rfl, rfl, by rw [Lib.bytesWorld_size]; omega, fun i hi => Lib.bytesWorld_at_old w e s i hi⟩
theorem snd_convBytes (hT : TOk P T) (h : Rel cx ψ st a w) {t t' : Nat} {i i' : TI} (hi : T t = some i) (hi' : T t' = some i') (x : Operand) (ho : o.op = .convert t t' x) {s : ByteArray} (hx : opd st x = .l (.str s))
    (hd : i.d = .str) {e : Nat} (hd' : i'.d = .slice e) {ie : TI} (hie : T e = some ie) (hde : ie.d = .int .u8) (hN : Nx cx st a o.dst st.hp (.l (.sl (.int .u8) e (s.data.toList.map fun c => (c.toNat : Int)) (some false))) N) : o.wp P a w N Q := by
  have h1 : a.eval x = .string s := opd_l h hx
  obtain ⟨d, hu, _, _, _, hst, _⟩ := tchk_und (hT t i hi)
  obtain rfl := hst hd
  obtain ⟨d', hu', _, _, _, _, hsl, _⟩ := tchk_und (hT t' i' hi')
  obtain rfl := hsl e hd'
  obtain ⟨de, hue, _, hint, _⟩ := tchk_und (hT e ie hie)
  obtain rfl := hint _ hde
  have hrun := Lib.run_convert_string_bytes (P := P) w t t' e s hu hu' hue
  have hrel := h.below (bytesW w e s)
  refine upon_ok (v := .slice (some ⟨w.heap.size, 0, none⟩) s.size (grownCap w s.size 0 e)) (w' := Lib.bytesWorld w e s) ?_ (hN _ _ _ hrel ?_)
  · simp [execOp, ho, h1, hrun]
  · refine ⟨some ⟨w.heap.size, 0, none⟩, grownCap w s.size 0 e, by simp, ?_, fun b hb => ?_, fun _ => ⟨w.heap.size, 0, rfl, fun j c hj => ⟨[.int .u8 c], rfl, fun j' u hj' => ?_⟩⟩⟩
    · have := grownCap_ge w s.size 0 e
      simpa using this
    · simp at hb; subst hb; rfl
    · have hj0 : j' = 0 := by
        rcases j' with _ | j'
        · rfl
        · simp at hj'
      subst hj0
      simp at hj'
      subst hj'
      rw [List.getElem?_map, Option.map_eq_some_iff] at hj
      obtain ⟨c', hc', rfl⟩ := hj
      have hlt : j < s.size := by have := (List.getElem?_eq_some_iff.1 hc').1; simpa using this
      refine ⟨⟨fun hlt' => ?_, fun hb => ?_⟩, ?_⟩
      · have := h.fr.size; simp only at hlt'; omega
      · have := h.lt hb; simp only at this; omega
      · have := Lib.bytesWorld_cell w e s j hlt
        simp only [Kn.sz, Nat.mul_one, Nat.add_zero, Nat.zero_add]
        rw [this, List.getD_eq_getElem?_getD, hc']
        rfl
theorem RKs_int {cl : Addr → Value → Prop} {ik : IntKind} : ∀ {xs : List (den (.int ik))} {us : List Value}, RKs cl (.int ik) xs us → us = xs.map (Value.int ik)
  | [], us, h => h
  | x :: xs, us, ⟨c, r, he, h1, h2⟩ => by rw [he, show c = _ from h1, RKs_int h2]; rfl
theorem bytes_toL (xs : List Int) : (⟨(xs.map fun n : Int => UInt8.ofNat n.toNat).toArray⟩ : ByteArray) = strOfNums xs := by
  simp [strOfNums]
theorem snd_convText (hT : TOk P T) (h : Rel cx ψ st a w) {t t' : Nat} {i i' : TI} (hi : T t = some i) (hi' : T t' = some i') (x : Operand) (ho : o.op = .convert t t' x) {y : L} {e' : Nat} {xs : List Int} (hx : opd st x = .l y) (hs : sliOf st.hp y = some ⟨.int .u8, e', xs⟩)
    {e : Nat} (hd : i.d = .slice e) (hd' : i'.d = .str) {ie : TI} (hie : T e = some ie) (hde : ie.d = .int .u8) (hN : Nx cx st a o.dst st.hp (.l (.str ⟨(xs.map fun n : Int => UInt8.ofNat n.toNat).toArray⟩)) N) : o.wp P a w N Q := by
  obtain ⟨A, c, us, hv, hc, hk, hz, hcell⟩ := sli_ok h hs (opd_l h hx)
  obtain ⟨d, hu, _, _, _, _, hsl, _⟩ := tchk_und (hT t i hi)
  obtain rfl := hsl e hd
  obtain ⟨d', hu', _, _, _, hst, _⟩ := tchk_und (hT t' i' hi')
  obtain rfl := hst hd'
  obtain ⟨de, hue, _, hint, _⟩ := tchk_und (hT e ie hie)
  obtain rfl := hint _ hde
  have hus := RKs_int hk
  refine snd_val h (v := .l (.str ⟨(xs.map fun n : Int => UInt8.ofNat n.toNat).toArray⟩)) rfl ?_ hN
  rw [bytes_toL]
  cases A with
  | none =>
    have h0 : xs = [] := List.eq_nil_of_length_eq_zero (hz rfl)
    subst h0
    have := run_convert_bytes_nil (P := P) (w := w) t e hu hue 0 c t' hu'
    simp only [execOp, ho, hv, Sem.run_bind]
    rw [show ([] : List Int).length = 0 from rfl, this]
    rfl
  | some ad =>
    obtain ⟨b, off, m⟩ := ad
    have hcl := hcell _ rfl
    have hm : m = none ∨ xs = [] := by
      rcases xs with _ | ⟨x0, xs'⟩
      · exact .inr rfl
      · left
        rcases sli_nilp hs with ⟨nil, rfl⟩ | ⟨r, nil, fz, rfl, hr⟩
        · obtain ⟨A', c', hv', _, _, hr'⟩ := opd_l h hx
          rw [hv] at hv'
          simp only [Value.slice.injEq] at hv'
          obtain ⟨b', o', hA, _⟩ := hr' (by simp)
          rw [← hv'.1] at hA
          simp only [Option.some.injEq, Addr.mk.injEq] at hA
          exact hA.2.2
        · have h1 := (opd_l h hx).1
          have ho' := h.obj r _ hr
          cases fz with
          | false =>
            obtain ⟨us', h2, _⟩ := ho'
            obtain ⟨A', c', hv', _, _, h4⟩ := row_cells h2
            rw [← h1, hv] at hv'
            simp only [Value.slice.injEq] at hv'
            obtain ⟨h5, _⟩ := h4 _ hv'.1.symm
            rw [Addr.mk.injEq] at h5
            exact h5.2.2
          | true =>
            obtain ⟨A', c', hv', _, _, hr'⟩ := ho'
            rw [← h1, hv] at hv'
            simp only [Value.slice.injEq] at hv'
            obtain ⟨b', o', hA, _⟩ := hr' (by simp)
            rw [← hv'.1] at hA
            simp only [Option.some.injEq, Addr.mk.injEq] at hA
            exact hA.2.2
    rcases hm with rfl | rfl
    · have := run_convert_bytes_arg (P := P) w t e hu hue b off xs.length c xs rfl (fun j hj => by
        have := hcl j (.int .u8 (xs.getD j 0)) (by rw [hus, List.getElem?_map, List.getD_eq_getElem?_getD, List.getElem?_eq_getElem hj]; rfl)
        rwa [Addr.add_mid] at this) t' hu'
      simp only [execOp, ho, hv, Sem.run_bind]
      rw [this]
      rfl
    · simp only [execOp, ho, hv, Sem.run_bind]
      rw [run_convert_bytes_string w t t' e _ _ c hu hue hu']
      have : (Conv.bytesToString (.slice (some ⟨b, off, m⟩) ([] : List Int).length c)).run P w = .ok (.string ByteArray.empty) w := by
        rw [show (([] : List Int).length) = 0 from rfl]
        rw [run_bytesToString w _ 0 c [] (by simp [loadCells, loadCellsFrom])]
        rfl
      rw [this]
      rfl
theorem snd_convNil (hT : TOk P T) (h : Rel cx ψ st a w) {t t' : Nat} {i i' : TI} (hi : T t = some i) (hi' : T t' = some i') (x : Operand) (ho : o.op = .convert t t' x) (hx : opd st x = .l .nils)
    {e : Nat} (hd : i.d = .slice e) (hd' : i'.d = .str) {ie : TI} (hie : T e = some ie) (hde : ie.d = .int .u8) (hN : Nx cx st a o.dst st.hp (.l (.str ⟨#[]⟩)) N) : o.wp P a w N Q := by
  have hv : a.eval x = .slice none 0 0 := opd_l h hx
  obtain ⟨d, hu, _, _, _, _, hsl, _⟩ := tchk_und (hT t i hi)
  obtain rfl := hsl e hd
  obtain ⟨d', hu', _, _, _, hst, _⟩ := tchk_und (hT t' i' hi')
  obtain rfl := hst hd'
  obtain ⟨de, hue, _, hint, _⟩ := tchk_und (hT e ie hie)
  obtain rfl := hint _ hde
  refine snd_val h (v := .l (.str ⟨#[]⟩)) rfl ?_ hN
  have := run_convert_bytes_nil (P := P) (w := w) t e hu hue 0 0 t' hu'
  simp only [execOp, ho, hv, Sem.run_bind]
  rw [this]
  rfl

/-! ### Parts of texts and slices -/
theorem bounds_run (isS : Bool) (len cap : Nat) (lo hi : Option Value) (l h : Int) (hlo : lo = none ∧ l = 0 ∨ ∃ k, lo = some (.int k l)) (hhi : hi = none ∧ h = len ∨ ∃ k, hi = some (.int k h)) (h0 : 0 ≤ l) (h1 : l ≤ h) (h2 : h ≤ (len : Int)) (hc : len ≤ cap) :
    (Instr.sliceBounds isS len cap lo hi none).run P w = .ok (l.toNat, h.toNat, cap) w := by
  have eh : (h.toNat : Int) = h := Int.toNat_of_nonneg (by omega)
  rcases hlo with ⟨rfl, rfl⟩ | ⟨kl, rfl⟩ <;> rcases hhi with ⟨rfl, rfl⟩ | ⟨kh, rfl⟩
  · simp [Instr.sliceBounds]
  · simp [Instr.sliceBounds, run_sliceBound, (by omega : 0 ≤ h), (by omega : h ≤ (cap : Int))]
  · simp [Instr.sliceBounds, run_sliceBound, h0, h1]
  · simp [Instr.sliceBounds, run_sliceBound, (by omega : 0 ≤ h), (by omega : h ≤ (cap : Int)), h0, h1, eh]
theorem bnd_ok (h : Rel cx ψ st a w) {x : Option Operand} {d n : Int} (hx : bndV st d x = some n) : x.map a.eval = none ∧ n = d ∨ ∃ k, x.map a.eval = some (.int k n) := by
  cases x with
  | none => exact .inl ⟨rfl, (Option.some.inj hx).symm⟩
  | some y =>
    obtain ⟨k, hk⟩ := intOf_ok h hx
    exact .inr ⟨k, by simp [hk]⟩
theorem snd_sliceStr (hT : TOk P T) (h : Rel cx ψ st a w) {t : Nat} {i : TI} (hi : T t = some i) (x : Operand) (lo hh : Option Operand) (ho : o.op = .slice t x lo hh none) {s : ByteArray} (hx : opd st x = .l (.str s)) (hd : i.d = .str) {l n : Int}
    (hl : bndV st 0 lo = some l) (hn : bndV st (s.size : Int) hh = some n) (h0 : 0 ≤ l) (h1 : l ≤ n) (h2 : n ≤ (s.size : Int)) (hN : Nx cx st a o.dst st.hp (.l (.str (s.extract l.toNat n.toNat))) N) : o.wp P a w N Q := by
  have hv : a.eval x = .string s := opd_l h hx
  obtain ⟨d, hu, _, _, _, hst, _⟩ := tchk_und (hT t i hi)
  obtain rfl := hst hd
  refine snd_val h (v := .l (.str (s.extract l.toNat n.toNat))) rfl ?_ hN
  have hb := bounds_run (P := P) (w := w) false s.size s.size _ _ l n (bnd_ok h hl) (bnd_ok h hn) h0 h1 h2 (Nat.le_refl _)
  simp [execOp, ho, Instr.sliceAt, run_underlying hu, hv, Instr.slice, hb]
theorem snd_sliceSl (hT : TOk P T) (h : Rel cx ψ st a w) {t : Nat} {e : Nat} {k' : Kn} (he : elOf T t = some (e, k')) (x : Operand) (lo hh : Option Operand) (ho : o.op = .slice t x lo hh none) {y : L} (hx : opd st x = .l y) {k : Kn} {xs : List (den k)} (hs : sliOf st.hp y = some ⟨k, e, xs⟩) (hsz : k'.sz = k.sz) {l n : Int}
    (hl : bndV st 0 lo = some l) (hn : bndV st (xs.length : Int) hh = some n) (h0 : 0 ≤ l) (h1 : l ≤ n) (h2 : n ≤ (xs.length : Int)) (hN : Nx cx st a o.dst (upsH st.hp (frzUps st.hp [y])) (.l (.sl k e ((xs.take n.toNat).drop l.toNat) none)) N) : o.wp P a w N Q := by
  obtain ⟨hu, ie, hie, hies, _⟩ := elOf_ok hT he
  have hrl := opd_l h hx
  have hF := h.frzs (rowsIn st.hp [y])
  have hfz := frzs_ok h (cs := [y]) (vs := [a.eval x]) ⟨hrl, trivial⟩ (rowsIn st.hp [y]) (fun _ h => h)
  have hy : ∃ nil, frzL st.hp y = .sl k e xs nil := by
    rcases sli_nilp hs with ⟨nil, rfl⟩ | ⟨r, nil, fz, rfl, hr⟩
    · exact ⟨nil, rfl⟩
    · exact ⟨nil, by simp only [frzL]; rw [hr]⟩
  obtain ⟨nil, hy⟩ := hy
  have hfz1 := hfz.1
  rw [hy] at hfz1
  obtain ⟨A, c, hv, hc, _, hr⟩ := hfz1
  have hb := bounds_run (P := P) (w := w) true xs.length c _ _ l n (bnd_ok h hl) (bnd_ok h hn) h0 h1 h2 hc
  have hsz' := sized (P := P) (hT e ie hie) w
  have hrun : (execOp a.eval o).run P w = .ok (.value (.slice (if c = l.toNat then A else A.map (·.add (l.toNat * k.sz))) (n.toNat - l.toNat) (c - l.toNat))) w := by
    rw [hies, hsz] at hsz'
    simp [execOp, ho, Instr.sliceAt, run_underlying hu, hv, Instr.slice, hb, hsz']
  have hlen : ((xs.take n.toNat).drop l.toNat).length = n.toNat - l.toNat := by rw [List.length_drop, List.length_take]; omega
  refine upon_ok hrun (hN _ _ _ hF ⟨_, c - l.toNat, by rw [hlen], by rw [hlen]; omega, fun b hb => (nomatch hb), fun hpos => ?_⟩)
  rw [hlen] at hpos
  obtain ⟨b, o', rfl, hi'⟩ := hr (by omega)
  rw [if_neg (by omega)]
  refine ⟨b, o' + l.toNat * k.sz, by simp [Addr.add_mid], fun j z hj => ?_⟩
  rw [List.getElem?_drop] at hj
  have hlt : l.toNat + j < n.toNat := by
    rcases Nat.lt_or_ge (l.toNat + j) n.toNat with h | h
    · exact h
    · rw [List.getElem?_take_eq_none h] at hj; cases hj
  rw [List.getElem?_take_of_lt hlt] at hj
  obtain ⟨cs, h3, h4⟩ := hi' _ z hj
  refine ⟨cs, h3, fun m u hm => ?_⟩
  have := h4 m u hm
  rwa [show o' + ((l.toNat + j) * k.sz + m) = o' + l.toNat * k.sz + (j * k.sz + m) by rw [Nat.add_mul]; omega] at this
end
end Go.Proofs.YtopplbiadpcalaaDoor.U

/- The small abstract machine: literals; append; lengths. -/
namespace Go.Proofs.YtopplbiadpcalaaDoor.U
open Go Go.RowKit

theorem set_list (off : Nat) (l : List Value) (cs : Array Value) (h : off + l.length ≤ cs.size) : (((l.zipIdx 0).foldl (fun cs (x : Value × Nat) => cs.setIfInBounds (off + x.2) x.1) cs)).toList = cs.toList.take off ++ l ++ cs.toList.drop (off + l.length) := by
  obtain ⟨h1, h2⟩ := Great.foldl_set off l 0 cs
  generalize (l.zipIdx 0).foldl (fun cs (x : Value × Nat) => cs.setIfInBounds (off + x.2) x.1) cs = r at h1 h2
  apply List.ext_getElem?
  intro k
  have h3 := h2 k
  rw [Array.getElem?_toList, h3]
  have hl : cs.toList.length = cs.size := Array.length_toList
  rcases Nat.lt_or_ge k off with h4 | h4
  · rw [if_neg (by omega), List.append_assoc, List.getElem?_append_left (by rw [List.length_take]; omega), List.getElem?_take_of_lt h4]
    simp
  · rcases Nat.lt_or_ge k (off + l.length) with h5 | h5
    · rw [if_pos (by omega), List.append_assoc, List.getElem?_append_right (by rw [List.length_take]; omega), List.getElem?_append_left (by rw [List.length_take]; omega)]
      congr 1
      rw [List.length_take]; omega
    · rw [if_neg (by omega), List.getElem?_append_right (by rw [List.length_append, List.length_take]; omega), List.getElem?_drop]
      rw [show off + l.length + (k - (List.take off cs.toList ++ l).length) = k by rw [List.length_append, List.length_take]; omega]
      simp
theorem fold_cells (v : Value) (off : Nat) (cs : Array Value) : v.cells.zipIdx.foldl (fun cs (x : Value × Nat) => cs.setIfInBounds (off + x.2) x.1) cs = ((v.cells.toList.zipIdx 0).foldl (fun cs (x : Value × Nat) => cs.setIfInBounds (off + x.2) x.1) cs) := by
  rw [← Array.foldl_toList]
  congr 1
  simp
section
variable {P : Program} {T : Tab} {cx : Cx} {ψ : Nat → Value} {ro : Addr → Prop} {st : St} {a : Act} {w w' : World} {o : Oper} {N : Act → World → Prop} {Q : Exit → Act → World → Prop}
theorem fchk_places : ∀ {fs : List (Nat × Nat)} {fa : List Field}, fchk P fs fa = true → ∃ pl : List (Nat × Nat), fa.mapM (fun f => (P.info? f.type).map fun i => (f.offset, i.size)) = some pl ∧ ∀ (j t o : Nat), fs[j]? = some (t, o) → ∃ i, P.info? t = some i ∧ pl[j]? = some (o, i.size)
  | [], [], _ => ⟨[], rfl, fun j t o h => by simp at h⟩
  | (t', o') :: r, f :: r', h => by
    simp only [fchk, Bool.and_eq_true] at h
    obtain ⟨⟨⟨h1, h2⟩, h3⟩, h4⟩ := h
    have h1 := Nat.eq_of_beq_eq_true h1
    have h2 := Nat.eq_of_beq_eq_true h2
    obtain ⟨pl, h5, h6⟩ := fchk_places h4
    cases hi : P.info? t' with
    | none => simp [hi] at h3
    | some i =>
      refine ⟨(o', i.size) :: pl, ?_, fun j t o hj => ?_⟩
      · simp [List.mapM_cons, h5, h1, hi, h2]
      · cases j with
        | zero =>
          simp at hj
          obtain ⟨rfl, rfl⟩ := hj
          exact ⟨i, hi, rfl⟩
        | succ j => exact h6 j t o (by simpa using hj)
  | [], _ :: _, h => by simp [fchk] at h
  | _ :: _, [], h => by simp [fchk] at h
theorem partsAt_ok (hT : TOk P T) (h : Rel cx ψ st a w) {fs pl : List (Nat × Nat)} (hpl : ∀ (j t o : Nat), fs[j]? = some (t, o) → ∃ i, P.info? t = some i ∧ pl[j]? = some (o, i.size)) : ∀ (ps : List (Nat × Operand)) {cs cs' : List L} {us : List Value}, partsAt T st fs ps cs = some cs' → RLs ψ (RO cx ψ st.hp) w cs us →
    ∃ cells : List Value, Instr.fill (pl.toArray[·]?) us.toArray (ps.map fun x => (x.1, a.eval x.2)) = some cells.toArray ∧ RLs ψ (RO cx ψ st.hp) w cs' cells
  | [], cs, cs', us, hp, hu => by
    simp only [partsAt, Option.some.injEq] at hp
    subst hp
    exact ⟨us, rfl, hu⟩
  | (j, x) :: r, cs, cs', us, hp, hu => by
    simp only [partsAt] at hp
    split at hp
    · rename_i ft off hj
      split at hp
      · rename_i i hi
        split at hp
        · rename_i ys hy
          split at hp
          · rename_i cs1 hs
            obtain ⟨h1, _, h3, _⟩ := cells_ok hy (opd_ok h x)
            obtain ⟨ti, h4, h5⟩ := hpl j ft off hj
            obtain ⟨ti', h6, h7, _⟩ := tchk_info (hT ft i hi)
            rw [h4] at h6
            obtain rfl := Option.some.inj h6
            have hnew := setAt_rl hs hu h1
            obtain ⟨_, hle⟩ := setAt_eq hs
            have hlen := RLs_len h1
            have hlen2 := RLs_len hu
            obtain ⟨cells, h8, h9⟩ := partsAt_ok hT h hpl r hp hnew
            refine ⟨cells, ?_, h9⟩
            have hsz : (a.eval x).cells.size = i.sz := by rw [← Array.length_toList, ← hlen]; exact h3
            have h5' : pl.toArray[j]? = some (off, ti.size) := by simpa using h5
            simp only [List.map_cons, Instr.fill, h5', h7]
            rw [if_neg (by
              simp only [Bool.or_eq_true, decide_eq_true_eq, hsz, List.size_toArray]
              omega)]
            rw [fold_cells, ← h8]
            congr 1
            apply Array.toList_inj.1
            rw [set_list off _ _ (by simp only [List.size_toArray]; omega)]
          · cases hp
        · cases hp
      · cases hp
    · cases hp
theorem snd_build (hT : TOk P T) (h : Rel cx ψ st a w) {t : Nat} {i : TI} (hi : T t = some i) (ps : Array (Nat × Operand)) (ho : o.op = .build t ps) {fs : List (Nat × Nat)} (hd : i.d = .struct fs) {cs : List L} (hp : partsAt T st fs ps.toList i.zero = some cs) (hN : Nx cx st a o.dst st.hp (.agg cs) N) : o.wp P a w N Q := by
  obtain ⟨d, hu, _, _, _, _, _, _, hst, _⟩ := tchk_und (hT t i hi)
  obtain ⟨fa, rfl, hfc⟩ := hst fs hd
  obtain ⟨ti, h1, _, _, z, hz, hzc⟩ := tchk_info (hT t i hi)
  obtain ⟨pl, h2, h3⟩ := fchk_places hfc
  obtain ⟨cells, h4, h5⟩ := partsAt_ok hT h h3 ps.toList hp (zchk_ok hzc)
  refine snd_val h (v := .agg cs) ⟨cells, rfl, h5⟩ ?_ hN
  have hb : P.built t (ps.map fun (i, x) => (i, a.eval x)).toList = some cells.toArray := by
    unfold Program.built
    simp only [h1, hu, hz, h2]
    rw [← h4]
    simp
  have := run_build (P := P) w t _ _ hb
  simp only [execOp, ho, Sem.run_bind, this]
  rfl
theorem fchk_type {P : Program} : ∀ {fs : List (Nat × Nat)} {fa : List Field}, fchk P fs fa = true → ∀ {j t o : Nat}, fs[j]? = some (t, o) → ∃ f, fa[j]? = some f ∧ f.offset = o ∧ f.type = t
  | [], [], _, j, t, o, h => by simp at h
  | (t', o') :: r, f :: r', h, 0, t, o, hj => by
    simp at hj
    obtain ⟨rfl, rfl⟩ := hj
    simp only [fchk, Bool.and_eq_true] at h
    obtain ⟨⟨⟨h1, h2⟩, h3⟩, _⟩ := h
    exact ⟨f, rfl, Nat.eq_of_beq_eq_true h2, Nat.eq_of_beq_eq_true h1⟩
  | (t', o') :: r, f :: r', h, j + 1, t, o, hj => by
    simp only [fchk, Bool.and_eq_true] at h
    obtain ⟨f', h1, h2⟩ := fchk_type h.2 (j := j) (t := t) (o := o) (by simpa using hj)
    exact ⟨f', by simpa using h1, h2⟩
  | [], _ :: _, h, _, _, _, _ => by simp [fchk] at h
  | _ :: _, [], h, _, _, _, _ => by simp [fchk] at h
theorem snd_fieldV (hT : TOk P T) (h : Rel cx ψ st a w) {t : Nat} {i : TI} (hi : T t = some i) (x : Operand) (j : Nat) (ho : o.op = .field t x j) {cs : List L} (hx : opd st x = .agg cs) {fs : List (Nat × Nat)} (hd : i.d = .struct fs) {ft off : Nat} (hj : fs[j]? = some (ft, off)) {fi : TI} (hfi : T ft = some fi) {v : SV} (hv : valOf fi cs off = some v)
    (hN : Nx cx st a o.dst st.hp v N) : o.wp P a w N Q := by
  have h1 := opd_ok h x
  rw [hx] at h1
  obtain ⟨vs, hxv, hvs⟩ := h1
  obtain ⟨d, hu, _, _, _, _, _, _, hst, _⟩ := tchk_und (hT t i hi)
  obtain ⟨fa, rfl, hfc⟩ := hst fs hd
  obtain ⟨f, h2, h3, h4⟩ := fchk_type hfc hj
  have h2' : fa[j]? = some f := by simpa using h2
  have hag := agg_run (hT ft fi hfi) w
  have hsz := sized (hT ft fi hfi) w
  have hrun : ∀ z, (part ft vs.toArray off).run P w = .ok z w → (execOp a.eval o).run P w = .ok (.value z) w := by
    intro z hz
    simp [execOp, ho, Instr.field, run_underlying hu, h2', hxv, asAgg, h3, h4, hz]
  unfold valOf at hv
  split at hv
  · rename_i hle
    have hle := Nat.le_of_ble_eq_true hle
    have hlen := RLs_len hvs
    split at hv
    · rename_i hagg
      obtain rfl := Option.some.inj hv
      rw [hagg] at hag
      refine snd_val h (v := .agg ((cs.drop off).take fi.sz)) ⟨_, rfl, RLs_take fi.sz (RLs_drop off hvs)⟩ (hrun _ ?_) hN
      unfold part
      simp only [Sem.run_bind, hag, Result.andThen_ok, if_true, hsz, Sem.run_pure]
      congr 2
      apply Array.toList_inj.1
      simp [List.take_drop]
    · rename_i hagg
      have hagg : fi.agg = false := by simpa using hagg
      rw [hagg] at hag
      cases hx' : cs[off]? with
      | none => rw [hx'] at hv; cases hv
      | some y =>
        rw [hx'] at hv
        obtain rfl := Option.some.inj hv
        obtain ⟨z, hz, hrz⟩ := RLs_get hvs hx'
        refine snd_val h (v := .l y) hrz (hrun _ ?_) hN
        unfold part
        simp [Sem.run_bind, hag, hz]
  · cases hv

/-! ### Slice literals -/
theorem elemsOf_ok (hT : TOk P T) (h : Rel cx ψ st a w) {e : Nat} {i : TI} (hi : T e = some i) {k : Kn} (hsz : i.sz = k.sz) : ∀ (ps : List (Nat × Operand)) (n : Nat) {xs : List (den k)} {cs : List L}, elemsOf T st i k n ps = some (xs, cs) → ∀ (hp : Heap), (∀ r ∈ rowsIn st.hp cs, r ∈ rowsIn st.hp cs) → ∀ (rs : List Nat), (∀ r ∈ rowsIn st.hp cs, r ∈ rs) →
    xs.length = ps.length ∧ (∀ j x, ps[j]? = some x → x.1 = n + j) ∧ (∀ x ∈ ps, (a.eval x.2).cells.size = k.sz) ∧ RKs (Vis (RO cx ψ (upsH st.hp (rs.map Up.frz))) w) k xs (ps.flatMap fun x => (a.eval x.2).cells.toList)
  | [], n, xs, cs, hp, _, _, rs, _ => by
    simp only [elemsOf, Option.some.injEq, Prod.mk.injEq] at hp
    obtain ⟨rfl, rfl⟩ := hp
    exact ⟨rfl, (fun j x hj => by simp at hj), (fun x hx => by cases hx), rfl⟩
  | (j, x) :: r, n, xs, cs, hp, _, _, rs, hrs => by
    simp only [elemsOf] at hp
    split at hp
    · cases hp
    · rename_i hj
      split at hp
      · rename_i ys hy
        split at hp
        · rename_i y hfy
          split at hp
          · rename_i zs cs' hr
            simp only [Option.some.injEq, Prod.mk.injEq] at hp
            obtain ⟨rfl, rfl⟩ := hp
            obtain ⟨h1, _, h3, _⟩ := cells_ok hy (opd_ok h x)
            have h1' := frzs_ok h h1 rs fun r hr => hrs r (by rw [rowsIn_app]; exact List.mem_append_left _ hr)
            have hk := fromLs_ok hfy h1'
            obtain ⟨h4, h5, h6, h7⟩ := elemsOf_ok hT h hi hsz r (n + 1) hr [] (fun _ h => h) rs fun r hr => hrs r (by rw [rowsIn_app]; exact List.mem_append_right _ hr)
            have hc : (a.eval x).cells.size = k.sz := by rw [← Array.length_toList, ← RLs_len h1, h3, hsz]
            refine ⟨by simp [h4], fun m z hm => ?_, fun z hz => ?_, ⟨_, _, rfl, hk, h7⟩⟩
            · cases m with
              | zero => simp at hm; subst hm; exact Nat.eq_of_beq_eq_true hj
              | succ m => have := h5 m z (by simpa using hm); omega
            · rcases List.mem_cons.1 hz with rfl | hz
              · exact hc
              · exact h6 z hz
          · cases hp
        · cases hp
      · cases hp
theorem snd_newrow (h : Rel cx ψ st a w) {d : Nat} (hfree : Free st d) (hpin : d ∉ st.pin) {k : Kn} {e : Nat} {xs : List (den k)} {nil : Option Bool} {v : Value} {us : List Value} (hb : Below w.heap.size w w') (hown : w'.ownsRow 0 e k.sz v xs.length us) (hk : RKs (Vis (RO cx ψ st.hp) w) k xs us) (hnil : ∀ b, nil = some b → nilS v = b) (hv : ∀ g, blk v = some g → w.heap.size ≤ g)
    (hrun : (execOp a.eval o).run P w = .ok (.value v) w') (hN : Nx cx st a o.dst (setH st.hp d (.row k e xs nil false)) (.l (.rs d)) N) : o.wp P a w N Q := by
  have s := stp_new (ψ := ψ) hfree hpin (ob := .row k e xs nil false) (v := v) hb (fun g _ hg => hv g hg)
  obtain ⟨A, c, hvs, _⟩ := row_cells hown
  refine upon_ok hrun (hN _ _ _ (h.step s ?_) ⟨(upd_self _ _ _).symm, A, _, c, hvs⟩)
  rintro b ob rfl hb'
  rw [getH_set, if_pos rfl] at hb'
  obtain rfl := Option.some.inj hb'
  rw [upd_self]
  exact ⟨us, hown, hk.mono (fun p u hp => s.move p u hp.1 hp.2), hnil⟩
theorem zipIdx_parts (ps : List (Nat × Operand)) (n : Nat) (h : ∀ j x, ps[j]? = some x → x.1 = n + j) (f : Operand → Value) : ps.map (fun x => (x.1, f x.2)) = ((ps.map fun x => f x.2).zipIdx n).map fun x => (x.2, x.1) := by
  induction ps generalizing n with
  | nil => rfl
  | cons p r ih =>
    have h0 := h 0 p rfl
    simp only [List.map_cons, List.zipIdx_cons, List.cons.injEq]
    refine ⟨by rw [h0]; rfl, ih (n + 1) fun j x hj => ?_⟩
    have := h (j + 1) x (by simpa using hj)
    omega
theorem snd_buildSlice (hT : TOk P T) (h : Rel cx ψ st a w) {d : Nat} (hfree : Free st d) (hpin : d ∉ st.pin) {t len : Nat} {e : Nat} {k : Kn} (he : elOf T t = some (e, k)) {i : TI} (hi : T e = some i) (ps : Array (Nat × Operand)) (ho : o.op = .buildSlice t len ps) {xs : List (den k)} {cs : List L} (hp : elemsOf T st i k 0 ps.toList = some (xs, cs)) (hlen : len = ps.toList.length) (hsm : len * i.sz ≤ 16777216)
    (hN : Nx cx st a o.dst (upsH st.hp (frzUps st.hp cs ++ [.new d (.row k e xs (some false) false)])) (.l (.rs d)) N) : o.wp P a w N Q := by
  obtain ⟨hu, ie, hie, hies, _⟩ := elOf_ok hT he
  rw [hi] at hie
  obtain rfl := Option.some.inj hie
  obtain ⟨h1, h2, h3, h4⟩ := elemsOf_ok hT h hi hies ps.toList 0 hp [] (fun _ h => h) (rowsIn st.hp cs) (fun _ h => h)
  have hF := h.frzs (rowsIn st.hp cs)
  have hfree' := free_frzs hfree (rowsIn st.hp cs)
  obtain ⟨ti, h5, h6, _, z, hz, hzc⟩ := tchk_info (hT e i hi)
  have hzl : z.cells.size = k.sz := by
    have h7 := Nat.eq_of_beq_eq_true (Bool.and_eq_true_iff.1 (Bool.and_eq_true_iff.1 (hT e i hi)).1).2
    have h8 : i.zero.length = z.cells.toList.length := by
      have := zchk_ok (ψ := fun _ => undef) (ro := fun _ => True) (w := w) hzc
      exact RLs_len this
    rw [← Array.length_toList, ← h8, h7, hies]
  have hpos := Kn.pos k
  rw [upsH_app] at hN
  generalize hus : (ps.toList.flatMap fun x => (a.eval x.2).cells.toList) = us at h4
  have hul := RKs_len h4
  have hmap : (ps.map fun (i, x) => (i, a.eval x)).toList = ((ps.toList.map fun x => a.eval x.2).zipIdx 0).map fun x => (x.2, x.1) := by
    rw [Array.toList_map]
    exact zipIdx_parts ps.toList 0 h2 a.eval
  have hbel := (Below.refl w.heap.size w).alloc (Nat.le_refl _) (.cells us.toArray e)
  have hrun : (Instr.buildSlice t len (ps.map fun (i, x) => (i, a.eval x))).run P w = .ok (.slice (some ⟨w.heap.size, 0, none⟩) len len) (w.alloc (.cells us.toArray e)) := by
    by_cases h0 : len = 0
    · have hpe : ps.toList = [] := List.eq_nil_of_length_eq_zero (by omega)
      have hpe' : ps = #[] := by simpa using congrArg List.toArray hpe
      subst h0
      subst hpe'
      simp at hus
      subst hus
      have hr0 : (Array.range 0).map (fun x => (default : Value)) = #[] := by simp [Array.range]
      simp [Instr.buildSlice, run_underlying hu, sizeOf, typeInfo, h5, Instr.fill, newRow, hr0]
    · have hne : ¬ len * ti.size = 0 := by
        rw [h6, hies]
        exact Nat.mul_ne_zero h0 (by omega)
      refine run_buildSlice w t e len _ us.toArray ti z hu h5 hz (by rw [h6]; omega) hne ?_
      rw [hmap, h6, hies, ← hus]
      have hfw := Great.fill_whole hpos (ps.toList.map fun x => a.eval x.2) ((Array.range (len * k.sz)).map (z.cells[· % z.cells.size]!)) (fun v hv => by
        obtain ⟨x, hx, rfl⟩ := List.mem_map.1 hv
        exact h3 x hx) (by simp [hlen])
      rw [hfw]
      rw [List.flatMap_map]
  refine snd_newrow hF hfree' hpin (us := us) (v := .slice (some ⟨w.heap.size, 0, none⟩) len len) hbel ?_ h4 (fun b hb => by simp at hb; subst hb; rfl) (fun g hg => by simp [blk] at hg; omega) ?_ hN
  · rw [h1, ← hlen]
    have := World.ownsRow_lit (w := w) (base := 0) (e := e) (size := k.sz) us.toArray len (Nat.zero_le _) (by
      have : len ≤ len * i.sz := Nat.le_mul_of_pos_right _ (by rw [hies]; exact hpos)
      simp only [maxLen]; omega) (by rw [List.size_toArray, hul, h1, ← hlen])
    simpa using this
  · simp only [execOp, ho, Sem.run_bind, hrun]
    rfl
end
end Go.Proofs.YtopplbiadpcalaaDoor.U

/- The small abstract machine: append; lengths; closures. -/
namespace Go.Proofs.YtopplbiadpcalaaDoor.U
open Go Go.RowKit

section
variable {P : Program} {T : Tab} {cx : Cx} {ψ : Nat → Value} {ro : Addr → Prop} {st : St} {a : Act} {w w' : World} {o : Oper} {N : Act → World → Prop} {Q : Exit → Act → World → Prop}
theorem grown_below {w w1 : World} (h : w.grownBy w1 none) : Below w.heap.size w w1 := ⟨h.os, h.tape, h.output, h.size, fun i hi => h.block i hi (fun e => by cases e)⟩
theorem below_grown {w w1 : World} (h : Below w.heap.size w w1) (row : Option Nat) : w.grownBy w1 row := ⟨h.os, h.tape, h.output, h.size, fun i hi _ => h.block i hi⟩
theorem snd_approw (h : Rel cx ψ st a w) {d : Nat} (hfree : Free st d) (hpin : d ∉ st.pin) {r : Nat} {k : Kn} {e : Nat} {xs xs' : List (den k)} {nil nil0 : Option Bool} (hr : getH st.hp r = some (.row k e xs nil0 false)) {v : Value} {us : List Value} (hg : w.grownBy w' (blk (ψ r))) (hown : w'.ownsRow 0 e k.sz v xs'.length us) (hk : RKs (Vis (RO cx ψ st.hp) w) k xs' us) (hnil : ∀ b, nil = some b → nilS v = b) (hv : blk v = blk (ψ r) ∨ blk v = some w.heap.size)
    (hrun : (execOp a.eval o).run P w = .ok (.value v) w') (hN : Nx cx st a o.dst (setH (delH st.hp r) d (.row k e xs' nil false)) (.l (.rs d)) N) : o.wp P a w N Q := by
  have hrd : r ≠ d := (free_hp hfree hr).1
  have hget : ∀ b, getH (setH (delH st.hp r) d (.row k e xs' nil false)) b = if b = d then some (.row k e xs' nil false) else if b = r then none else getH st.hp b := by
    intro b
    rw [getH_set]
    split
    · rfl
    · rw [getH_del]
  have s : Stp ψ st w (upd ψ d v) (setH (delH st.hp r) d (.row k e xs' nil false)) w' (fun b => b = d ∨ b = r) (fun b => b = d) := {
    same := fun b hb => by rw [hget, if_neg (fun e => hb (.inl e)), if_neg (fun e => hb (.inr e))]
    ref := fun b hb => by simp [upd, hb]
    sub := fun _ h => .inl h
    fresh := fun b hb => by
      subst hb
      exact ⟨free_env hfree, fun c oc _ hc => (free_hp hfree hc).2, hpin⟩
    os := hg.os
    tape := hg.tape
    output := hg.output
    size := hg.size
    block := fun i hi hb => hg.block i hi (fun e => hb r _ (.inr rfl) hr rfl e.symm)
    blks := fun b ob g hb hob hl hbk => by
      rcases hb with rfl | rfl
      · rw [upd_self] at hbk
        rcases hv with hv | hv
        · exact .inr ⟨r, _, .inr rfl, hr, rfl, by rw [← hv]; exact hbk⟩
        · rw [hv] at hbk; exact .inl (by simp at hbk; omega)
      · rw [hget, if_neg hrd, if_pos rfl] at hob; cases hob
    inj := fun b b' ob ob' g hb hb' hob hob' _ _ _ _ => by
      rcases hb with rfl | rfl
      · rcases hb' with rfl | rfl
        · rfl
        · rw [hget, if_neg hrd, if_pos rfl] at hob'; cases hob'
      · rw [hget, if_neg hrd, if_pos rfl] at hob; cases hob }
  obtain ⟨A, c, hvs, _⟩ := row_cells hown
  refine upon_ok hrun (hN _ _ _ (h.step s ?_) ⟨(upd_self _ _ _).symm, A, _, c, hvs⟩)
  rintro b ob hb hob
  rcases hb with rfl | rfl
  · rw [hget, if_pos rfl] at hob
    obtain rfl := Option.some.inj hob
    rw [upd_self]
    exact ⟨us, hown, hk.mono (fun p u hp => s.move p u hp.1 hp.2), hnil⟩
  · rw [hget, if_neg hrd, if_pos rfl] at hob; cases hob
/-- append(s, y...) where s is an own row and y any slice. -/
theorem append_run (hT : TOk P T) {t e : Nat} {k' : Kn} (he : elOf T t = some (e, k')) {k : Kn} (hkk : k'.sz = k.sz) {i : TI} (hi : T e = some i) (hby : i.by_ ≠ 0) (ty : TypeId) {v : Value} {n : Nat} {us : List Value} (hown : w.ownsRow 0 e k.sz v n us) {A : Option Addr} {m c : Nat} {news : List Value} (hl : news.length = m * k.sz) (hz : A = none → m = 0) (hcell : ∀ ad, A = some ad → ∀ j u, news[j]? = some u → w.cell? (ad.add j) = some u) (h1 : ∀ u ∈ news, u.oneCell' = true) (hroom : (n + m) * i.by_ ≤ 140737488355328) :
    ∃ v' w', (Builtin.append_ #[t, t] ty #[v, .slice A m c]).run P w = .ok v' w' ∧ w'.ownsRow 0 e k.sz v' (n + m) (us ++ news) ∧ w.grownBy w' (blk v) ∧ (blk v' = blk v ∨ blk v' = some w.heap.size) := by
  obtain ⟨hu, ie, hie, hies, _⟩ := elOf_ok hT he
  rw [hi] at hie
  obtain rfl := Option.some.inj hie
  obtain ⟨ti, h5, h6, h7, z, hzz, hzc⟩ := tchk_info (hT e i hi)
  have hzl : z.cells.size = k.sz := by
    have h8 := Nat.eq_of_beq_eq_true (Bool.and_eq_true_iff.1 (Bool.and_eq_true_iff.1 (hT e i hi)).1).2
    have h9 : i.zero.length = z.cells.toList.length := by
      have := zchk_ok (ψ := fun _ => undef) (ro := fun _ => True) (w := w) hzc
      exact RLs_len this
    rw [← Array.length_toList, ← h9, h8, hies, hkk]
  cases A with
  | none =>
    have hm := hz rfl
    subst hm
    have hne : news = [] := List.eq_nil_of_length_eq_zero (by simpa using hl)
    subst hne
    refine ⟨v, w, ?_, by simpa using hown, ⟨rfl, rfl, rfl, Nat.le_refl _, fun _ _ _ => rfl⟩, .inl rfl⟩
    rcases hown.2 with ⟨rfl, rfl⟩ | ⟨g, cap, cur, rfl, _, _, hnc, _⟩
    · simp [Builtin.append_, run_underlying hu, sizeOf, typeInfo, h5, Builtin.lenOf, Builtin.firstCells]
    · simp [Builtin.append_, run_underlying hu, sizeOf, typeInfo, h5, Builtin.lenOf, Builtin.firstCells, hnc, storeCells]
  | some ad =>
    have hb1 : n + m ≤ (n + m) * i.by_ := Nat.le_mul_of_pos_right _ (by omega)
    obtain ⟨v', w', h10, h11, h12, _, h13⟩ := run_append_own_at (P := P) w 0 t ty e ti z k.sz i.by_ hu h5 hzz (by rw [h6, hies, hkk]) h7 hzl (Kn.pos k) v n us hown ad m c news hl (hcell ad rfl) h1 (by simp only [maxLen]; omega) hroom (Nat.zero_le _)
    rw [ownBlock_blk hown] at h12 h13
    rw [ownBlock_blk h11] at h13
    exact ⟨v', w', h10, h11, h12, h13⟩
theorem roomOk_ok {e n : Nat} {ok : Bool} (h : roomOk T e n = some ok) : ∃ i, T e = some i ∧ i.by_ ≠ 0 ∧ ok = decide (n * i.by_ ≤ 140737488355328) := by
  unfold roomOk at h
  split at h
  · rename_i i hi
    split at h
    · cases h
    · rename_i hb
      exact ⟨i, hi, Nat.ne_of_beq_eq_false hb, (Option.some.inj h).symm⟩
  · cases h
theorem append_op {t : TypeId} {x y : Operand} (ho : o.op = .call ⟨.builtin .append, #[x, y], #[t, t]⟩) {v : Value} {w' : World} (h : (Builtin.append_ #[t, t] o.type #[a.eval x, a.eval y]).run P w = .ok v w') : (execOp a.eval o).run P w = .ok (.value v) w' := by
  unfold execOp
  simp only [ho, resolve, invoke, builtin, Sem.run_bind, Sem.run_pure, Result.andThen_ok, List.map_toArray, List.map_cons, List.map_nil, h]
theorem snd_append_nil (hT : TOk P T) (h : Rel cx ψ st a w) {d : Nat} (hfree : Free st d) (hpin : d ∉ st.pin) {t : TypeId} {x y : Operand} (ho : o.op = .call ⟨.builtin .append, #[x, y], #[t, t]⟩) {e : Nat} {k : Kn} (he : elOf T t = some (e, k)) (hx : opd st x = .l .nils) {Y : L} (hy : opd st y = .l Y) {e' : Nat} {ys : List (den k)} (hs : sliOf st.hp Y = some ⟨k, e', ys⟩) (hroom : roomOk T e ys.length = some true)
    (hN : Nx cx st a o.dst (setH st.hp d (.row k e ys none false)) (.l (.rs d)) N) : o.wp P a w N Q := by
  obtain ⟨i, hi, hby, hr⟩ := roomOk_ok hroom
  obtain ⟨A, c, us, hv, _, hk, hz, hcell⟩ := sli_ok h hs (opd_l h hy)
  have hx' : a.eval x = .slice none 0 0 := opd_l h hx
  obtain ⟨v', w', h1, h2, h3, h4⟩ := append_run (P := P) hT he rfl hi hby o.type (World.ownsRow_nil w 0 e k.sz) (RKs_len hk) hz hcell (RKs_one hk) (by simpa using (of_decide_eq_true hr.symm)) (c := c)
  rw [Nat.zero_add, List.nil_append] at h2
  refine snd_newrow h hfree hpin (grown_below h3) h2 hk (fun b hb => by cases hb) (fun g hg => ?_) (append_op ho (by rw [hx', hv]; exact h1)) hN
  rcases h4 with h4 | h4
  · rw [h4] at hg; cases hg
  · rw [h4] at hg; simp at hg; omega
theorem snd_append_none (hT : TOk P T) (h : Rel cx ψ st a w) {d : Nat} (hfree : Free st d) (hpin : d ∉ st.pin) {t : TypeId} {x y : Operand} (ho : o.op = .call ⟨.builtin .append, #[x, y], #[t, t]⟩) {e : Nat} {k' : Kn} (he : elOf T t = some (e, k')) {r : Nat} (hx : opd st x = .l (.rs r)) (hy : opd st y = .l .nils) {k : Kn} {e1 : Nat} {xs : List (den k)} {nil : Option Bool} (hr : getH st.hp r = some (.row k e1 xs nil false))
    (hN : Nx cx st a o.dst (setH (delH st.hp r) d (.row k e1 xs nil false)) (.l (.rs d)) N) : o.wp P a w N Q := by
  obtain ⟨hu, ie, hie, hies, _⟩ := elOf_ok hT he
  obtain ⟨ti, h5, _⟩ := tchk_info (hT e ie hie)
  obtain ⟨us, h1, h2, h3⟩ := h.obj r _ hr
  obtain ⟨hx', _⟩ := opd_l h hx
  have hy' : a.eval y = .slice none 0 0 := opd_l h hy
  refine snd_approw h hfree hpin hr (w' := w) ⟨rfl, rfl, rfl, Nat.le_refl _, fun _ _ _ => rfl⟩ h1 h2 h3 (.inl rfl) (append_op ho ?_) hN
  rw [hx', hy']
  rcases h1.2 with ⟨hv, _⟩ | ⟨g, cap, cur, hv, _, _, hnc, _⟩
  · rw [hv]; simp [Builtin.append_, run_underlying hu, sizeOf, typeInfo, h5, Builtin.lenOf, Builtin.firstCells]
  · rw [hv]; simp [Builtin.append_, run_underlying hu, sizeOf, typeInfo, h5, Builtin.lenOf, Builtin.firstCells, hnc, storeCells]
theorem snd_append (hT : TOk P T) (h : Rel cx ψ st a w) {d : Nat} (hfree : Free st d) (hpin : d ∉ st.pin) {t : TypeId} {x y : Operand} (ho : o.op = .call ⟨.builtin .append, #[x, y], #[t, t]⟩) {e : Nat} {k' : Kn} (he : elOf T t = some (e, k')) {r : Nat} (hx : opd st x = .l (.rs r)) {k : Kn} (hkk : k'.sz = k.sz) {xs : List (den k)} {nil : Option Bool} (hr : getH st.hp r = some (.row k e xs nil false)) {Y : L} (hy : opd st y = .l Y) {e' : Nat} {ys : List (den k)} (hs : sliOf st.hp Y = some ⟨k, e', ys⟩) (hroom : roomOk T e (xs.length + ys.length) = some true)
    (hN : Nx cx st a o.dst (setH (delH st.hp r) d (.row k e (xs ++ ys) none false)) (.l (.rs d)) N) : o.wp P a w N Q := by
  obtain ⟨i, hi, hby, hrm⟩ := roomOk_ok hroom
  obtain ⟨A, c, us, hv, _, hk, hz, hcell⟩ := sli_ok h hs (opd_l h hy)
  obtain ⟨us0, ho1, ho2, _⟩ := h.obj r _ hr
  obtain ⟨hx', _⟩ := opd_l h hx
  obtain ⟨v', w', h1, h2, h3, h4⟩ := append_run (P := P) hT he hkk hi hby o.type ho1 (RKs_len hk) hz hcell (RKs_one hk) (by simpa using (of_decide_eq_true hrm.symm)) (c := c)
  refine snd_approw h hfree hpin hr h3 (us := us0 ++ us) (by rw [List.length_append]; exact h2) (RKs_append ho2 hk) (fun b hb => by cases hb) h4 (append_op ho (by rw [hx', hv]; exact h1)) hN

/-! ### Lengths, least and greatest, closures -/
theorem lenL_ok (hT : TOk P T) (h : Rel cx ψ st a w) {t : Nat} {i : TI} (hi : T t = some i) {X : L} {v : Value} (hv : RL ψ (RO cx ψ st.hp) w X v) {n : Int} (hn : lenL st.hp i.d X = some n) (ty : TypeId) : (Builtin.len_ #[t] ty #[v]).run P w = .ok (.int .i64 n) w := by
  obtain ⟨d, hu, _, _, _, hst, hsl, _⟩ := tchk_und (hT t i hi)
  unfold lenL at hn
  split at hn
  · rename_i s hd
    obtain rfl := hst hd
    obtain rfl := Option.some.inj hn
    obtain rfl : v = .string s := hv
    simp [Builtin.len_, run_underlying hu, goInt]
  · rename_i e hd
    obtain rfl := hsl _ hd
    obtain rfl := Option.some.inj hn
    obtain rfl : v = .slice none 0 0 := hv
    simp [Builtin.len_, run_underlying hu, goInt]
  · rename_i e hd _
    obtain rfl := hsl _ hd
    split at hn
    · rename_i s hs
      obtain rfl := Option.some.inj hn
      obtain ⟨A, c, _, rfl, _⟩ := sli_ok h hs hv
      simp [Builtin.len_, run_underlying hu, goInt]
    · cases hn
  · cases hn
theorem snd_len (hT : TOk P T) (h : Rel cx ψ st a w) {t : Nat} {i : TI} (hi : T t = some i) (x : Operand) (ho : o.op = .call ⟨.builtin .len, #[x], #[t]⟩) {X : L} (hx : opd st x = .l X) {n : Int} (hn : lenL st.hp i.d X = some n) (hN : Nx cx st a o.dst st.hp (.l (.int .i64 n)) N) : o.wp P a w N Q := by
  refine snd_val h (v := .l (.int .i64 n)) (x := .int .i64 n) rfl ?_ hN
  have := lenL_ok hT h hi (opd_l h hx) hn o.type
  unfold execOp
  simp only [ho, resolve, invoke, builtin, Sem.run_bind, Sem.run_pure, Result.andThen_ok, List.map_toArray, List.map_cons, List.map_nil, this]
theorem snd_min (h : Rel cx ψ st a w) (x y : Operand) (ts : Array TypeId) (ho : o.op = .call ⟨.builtin .min, #[x, y], ts⟩) {k : IntKind} {m n : Int} (hx : opd st x = .l (.int k m)) (hy : opd st y = .l (.int k n)) (hN : Nx cx st a o.dst st.hp (.l (.int k (cond (decide (n < m)) n m))) N) : o.wp P a w N Q := by
  have h1 : a.eval x = .int k m := opd_l h hx
  have h2 : a.eval y = .int k n := opd_l h hy
  refine snd_val h (v := .l (.int k (cond (decide (n < m)) n m))) rfl ?_ hN
  unfold execOp
  simp only [ho, resolve, invoke, builtin, Sem.run_bind, Sem.run_pure, Result.andThen_ok, List.map_toArray, List.map_cons, List.map_nil, h1, h2]
  by_cases hlt : n < m <;> simp [Builtin.min_, Builtin.min2, hlt]
theorem snd_max (h : Rel cx ψ st a w) (x y : Operand) (ts : Array TypeId) (ho : o.op = .call ⟨.builtin .max, #[x, y], ts⟩) {k : IntKind} {m n : Int} (hx : opd st x = .l (.int k m)) (hy : opd st y = .l (.int k n)) (hN : Nx cx st a o.dst st.hp (.l (.int k (cond (decide (n > m)) n m))) N) : o.wp P a w N Q := by
  have h1 : a.eval x = .int k m := opd_l h hx
  have h2 : a.eval y = .int k n := opd_l h hy
  refine snd_val h (v := .l (.int k (cond (decide (n > m)) n m))) rfl ?_ hN
  unfold execOp
  simp only [ho, resolve, invoke, builtin, Sem.run_bind, Sem.run_pure, Result.andThen_ok, List.map_toArray, List.map_cons, List.map_nil, h1, h2]
  by_cases hlt : n > m <;> simp [Builtin.max_, Builtin.max2, hlt]
theorem caps_ok (h : Rel cx ψ st a w) : ∀ (xs : List Operand) {cs : List L}, capsOf st xs = some cs → RLs ψ (RO cx ψ st.hp) w cs (xs.map a.eval)
  | [], cs, hc => by
    obtain rfl := Option.some.inj hc
    trivial
  | x :: r, cs, hc => by
    simp only [capsOf] at hc
    split at hc
    · rename_i y ys h1 h2
      obtain rfl := Option.some.inj hc
      exact ⟨opd_l h h1, caps_ok h r h2⟩
    · cases hc
theorem snd_fn (h : Rel cx ψ st a w) {f : Nat} {first caps : Array Operand} (ho : o.op = .makeFunc (.func f) first caps) (hf : first.toList = []) {cs : List L} (hc : capsOf st caps.toList = some cs) (hN : Nx cx st a o.dst st.hp (.fn f cs) N) : o.wp P a w N Q := by
  obtain rfl : first = #[] := by simpa using congrArg List.toArray hf
  refine snd_val h (v := .fn f cs) (x := .func (.func f) #[] (caps.map a.eval)) ⟨caps.toList.map a.eval, (by congr 1; apply Array.toList_inj.1; simp), caps_ok h _ hc⟩ ?_ hN
  simp [execOp, ho, Instr.makeFunc]
end
end Go.Proofs.YtopplbiadpcalaaDoor.U

/- The small abstract machine: calls; whatever an operation does. -/
namespace Go.Proofs.YtopplbiadpcalaaDoor.U
open Go Go.RowKit

/-- What lay there when all began (package-level variables among it): so many blocks, and as they were. -/
structure GB where
  W : World
  B : Nat
def GB.at (G : GB) (w : World) (X : Nat → Prop) : Prop := G.B ≤ w.heap.size ∧ (∀ i, i < G.B → w.heap[i]? = G.W.heap[i]?) ∧ ∀ g, X g → G.B ≤ g
/-- A call of function f with such arguments, which lead to such objects, comes to such an answer and leaves such objects. -/
def FnOk (P : Program) (G : GB) (f : Nat) (args : List SV) (hin : Heap) (v : SV) (hout : Heap) : Prop :=
  ∀ (ψ : Nat → Value) (ro : Addr → Prop) (w : World) (vals : List Value), RVs ψ ro w args vals →
    (∀ b o, getH hin b = some o → OOk ψ ro w o (ψ b)) →
    (∀ b b' o o' g, getH hin b = some o → getH hin b' = some o' → o.live = true → o'.live = true → blk (ψ b) = some g → blk (ψ b') = some g → b = b') →
    (∀ a, ro a → ¬ LB ψ hin a.block) → G.at w (LB ψ hin) →
    Calls P f vals.toArray w fun e w' => ∃ v' ψ', e = .returned v' ∧ (∀ b, getH hin b ≠ none ∨ getH hout b = none → ψ' b = ψ b) ∧ Fr w (LB ψ hin) w' ∧
      RV ψ' (RO ⟨w, ro, LB ψ hin, ψ, hin.map Prod.fst⟩ ψ' hout) w' v v' ∧
      (∀ b o, getH hout b = some o → OOk ψ' (RO ⟨w, ro, LB ψ hin, ψ, hin.map Prod.fst⟩ ψ' hout) w' o (ψ' b)) ∧
      (∀ g, LB ψ' hout g → w.heap.size ≤ g ∨ LB ψ hin g) ∧
      (∀ b b' o o' g, getH hout b = some o → getH hout b' = some o' → o.live = true → o'.live = true → blk (ψ' b) = some g → blk (ψ' b') = some g → b = b')
/-- A function with a body. -/
def Ent (P : Program) (f : Nat) : Prop := ∃ fn, P.funcs[f]? = some fn ∧ (fn.name == "runtime.NumGoroutine") = false ∧ fn.body.isNone = false
def COk (P : Program) (G : GB) (C : Nat → Option Sp) : Prop := ∀ f sp, C f = some sp → ∀ d args hin v hout, sp.run d args hin = some (true, v, hout) → Ent P f ∧ FnOk P G f args hin v hout
def COkx (P : Program) (G : GB) (C : Nat → Option Sp) (cx : Cx) : Prop := COk P G C ∧ G.at cx.w0 cx.X
section
variable {P : Program} {G : GB} {T : Tab} {C : Nat → Option Sp} {cx : Cx} {ψ : Nat → Value} {ro : Addr → Prop} {st : St} {a : Act} {w w' : World} {o : Oper} {N : Act → World → Prop} {Q : Exit → Act → World → Prop}
theorem RVs_map (h : Rel cx ψ st a w) : ∀ (xs : List Operand), RVs ψ (RO cx ψ st.hp) w (xs.map (opd st)) (xs.map a.eval)
  | [] => trivial
  | x :: xs => ⟨opd_ok h x, RVs_map h xs⟩
theorem getH_pick (hp : Heap) : ∀ (fp : List Nat) (b : Nat), getH (pickH hp fp) b = if b ∈ fp then getH hp b else none
  | [], b => by simp [pickH, getH]
  | c :: fp, b => by
    simp only [pickH]
    cases hc : getH hp c with
    | none =>
      simp only
      rw [getH_pick hp fp b]
      by_cases hbc : b = c
      · subst hbc; simp [hc]
      · simp [hbc]
    | some o =>
      simp only [getH]
      cases hb : Nat.beq c b with
      | true =>
        have := Nat.eq_of_beq_eq_true hb
        subst this
        simp [hc]
      | false =>
        simp only
        rw [getH_pick hp fp b]
        have := Nat.ne_of_beq_eq_false hb
        have hne : ¬ b = c := fun e => this e.symm
        simp [hne]
theorem any_mem {fp : List Nat} {b : Nat} : fp.any (Nat.beq b) = true ↔ b ∈ fp := by
  rw [List.any_eq_true]
  constructor
  · rintro ⟨x, hx, hb⟩
    rw [Nat.eq_of_beq_eq_true hb]; exact hx
  · intro hb
    exact ⟨b, hb, Nat.beq_refl b⟩
/-- What the objects are after the gone are struck and the others put. -/
theorem getH_gone (out : Heap) : ∀ (fp : List Nat) (hp : Heap) (b : Nat), getH (upsH hp (goneUps out fp)) b = if b ∈ fp ∧ getH out b = none then none else getH hp b
  | [], hp, b => by simp [goneUps, upsH]
  | c :: fp, hp, b => by
    simp only [goneUps]
    cases hc : getH out c with
    | some o =>
      simp only
      rw [getH_gone out fp hp b]
      by_cases hbc : b = c
      · subst hbc; simp [hc]
      · simp [hbc]
    | none =>
      simp only [upsH, Up.app]
      rw [getH_gone out fp _ b, getH_del]
      by_cases hbc : b = c
      · subst hbc; simp [hc]
      · simp [hbc]
theorem getH_outs (fp : List Nat) : ∀ (out : Heap) (hp : Heap) (b : Nat), distinct (out.map Prod.fst) = true → getH (upsH hp (outUps fp out)) b = (getH out b).or (getH hp b)
  | [], hp, b, _ => by simp [outUps, upsH, getH]
  | (c, o) :: r, hp, b, hd => by
    simp only [List.map_cons, distinct, Bool.and_eq_true, Bool.not_eq_true'] at hd
    simp only [outUps, upsH]
    have happ : Up.app hp (outUp fp c o) = setH hp c o := by
      unfold outUp
      cases fp.any (Nat.beq c) <;> rfl
    rw [happ, getH_outs fp r _ b hd.2, getH_set]
    simp only [getH]
    cases hb : Nat.beq c b with
    | true =>
      have := Nat.eq_of_beq_eq_true hb
      subst this
      have hn : getH r c = none := by
        cases hg : getH r c with
        | none => rfl
        | some o' =>
          have := getH_mem hg
          have h2 : (r.map Prod.fst).any (Nat.beq c) = true := any_mem.2 (List.mem_map_of_mem this)
          rw [h2] at hd; exact absurd hd.1 (by decide)
      simp [hn]
    | false =>
      have := Nat.ne_of_beq_eq_false hb
      have hne : ¬ b = c := fun e => this e.symm
      simp [hne]
theorem flat_rv {ψ' : Nat → Value} {ro' : Addr → Prop} {w' : World} {v : SV} {x : Value} (hv : v.flat = true) (h : RV ψ ro w v x) (hp : ∀ y ∈ v.leaves, ∀ b, y.ref = some b → ψ' b = ψ b) : RV ψ' ro' w' v x := by
  have one : ∀ {y : L} {u : Value}, RL ψ ro w y u → y.rd = true → (∀ b, y.ref = some b → ψ' b = ψ b) → RL ψ' ro' w' y u := by
    intro y u hy hf hb
    cases y with
    | sl k e xs nil => cases hf
    | el k e xs i off => cases hf
    | ptr b off => obtain ⟨g, h1, h2⟩ := hy; exact ⟨g, by rw [hb b rfl]; exact h1, h2⟩
    | rs r => exact ⟨hy.1.trans (hb r rfl).symm, hy.2⟩
    | rel r sz i off => obtain ⟨g, n, c, h1, h2⟩ := hy; exact ⟨g, n, c, by rw [hb r rfl]; exact h1, h2⟩
    | _ => exact hy
  have all : ∀ {cs : List L} {vs : List Value}, RLs ψ ro w cs vs → cs.all L.rd = true → (∀ y ∈ cs, ∀ b, y.ref = some b → ψ' b = ψ b) → RLs ψ' ro' w' cs vs := by
    intro cs
    induction cs with
    | nil => intro vs h _ _; cases vs with | nil => trivial | cons _ _ => exact h.elim
    | cons y ys ih =>
      intro vs h hf hb
      cases vs with
      | nil => exact h.elim
      | cons u us =>
        simp only [List.all_cons, Bool.and_eq_true] at hf
        exact ⟨one h.1 hf.1 (hb y List.mem_cons_self), ih h.2 hf.2 (fun z hz => hb z (List.mem_cons_of_mem _ hz))⟩
  cases v with
  | l y => exact one h (by simpa [SV.flat, SV.leaves] using hv) (hp y (by simp [SV.leaves]))
  | agg cs => obtain ⟨vs, rfl, h⟩ := h; exact ⟨vs, rfl, all h hv hp⟩
  | fn f cs => obtain ⟨vs, rfl, h⟩ := h; exact ⟨vs, rfl, all h hv hp⟩
  | tup es =>
    obtain ⟨vs, rfl, h⟩ := h
    refine ⟨vs, rfl, ?_⟩
    simp only [SV.flat] at hv
    induction es generalizing vs with
    | nil => cases vs with | nil => trivial | cons _ _ => exact h.elim
    | cons e es ih =>
      cases vs with
      | nil => exact (by cases e <;> exact h.elim)
      | cons u us =>
        simp only [SV.leaves, List.flatMap_cons, List.all_append, Bool.and_eq_true] at hv
        have hp2 : ∀ y ∈ (SV.tup es).leaves, ∀ b, y.ref = some b → ψ' b = ψ b := fun y hy => hp y (by simp only [SV.leaves, List.flatMap_cons, List.mem_append] at hy ⊢; exact .inr hy)
        refine ⟨?_, ih hv.2 hp2 us h.2⟩
        cases e with
        | inl y => exact one h.1 (by simpa using hv.1) (hp y (by simp [SV.leaves]))
        | inr cs =>
          obtain ⟨us', rfl, h1⟩ := h.1
          exact ⟨us', rfl, all h1 (by simpa using hv.1) (fun y hy => hp y (by simp only [SV.leaves, List.flatMap_cons, List.mem_append]; exact .inl hy))⟩
theorem RK_flat {cl cl' : Addr → Value → Prop} : ∀ {k : Kn} {x : den k} {cs : List Value}, k.flat = true → RK cl k x cs → RK cl' k x cs
  | .int _, _, _, _, h => h
  | .bool, _, _, _, h => h
  | .str, _, _, _, h => h
  | .ifc, _, _, _, h => h
  | .ifi _ _, _, _, _, h => h
  | .prod a b, _, _, hf, ⟨c1, c2, he, h1, h2⟩ => by
    simp only [Kn.flat, Bool.and_eq_true] at hf
    exact ⟨c1, c2, he, RK_flat hf.1 h1, RK_flat hf.2 h2⟩
  | .sl _ _, _, _, hf, _ => by cases hf
theorem RKs_flat {cl cl' : Addr → Value → Prop} {k : Kn} (hf : k.flat = true) : ∀ {xs : List (den k)} {us : List Value}, RKs cl k xs us → RKs cl' k xs us
  | [], _, h => h
  | _ :: _, _, ⟨c, r, he, h1, h2⟩ => ⟨c, r, he, RK_flat hf h1, RKs_flat hf h2⟩
theorem flat_ob {ψ' : Nat → Value} {ro' : Addr → Prop} {o : Ob} {v : Value} (hf : o.flat = true) (h : OOk ψ ro w o v) (hp : ∀ y ∈ o.leaves, ∀ b, y.ref = some b → ψ' b = ψ b) : OOk ψ' ro' w o v := by
  cases o with
  | box t cs =>
    obtain ⟨g, vs, h1, h2, h3⟩ := h
    have := flat_rv (ψ' := ψ') (ro' := ro') (w' := w) (v := .agg cs) (x := .agg vs.toArray) hf ⟨vs, rfl, h3⟩ hp
    obtain ⟨vs', h4, h5⟩ := this
    have : vs = vs' := by simpa using h4
    subst this
    exact ⟨g, vs, h1, h2, h5⟩
  | row k e xs nil fz =>
    simp only [Ob.flat, Bool.and_eq_true, Bool.not_eq_true'] at hf
    obtain ⟨rfl, hk⟩ := hf
    obtain ⟨us, h1, h2, h3⟩ := h
    exact ⟨us, h1, RKs_flat hk h2, h3⟩
theorem ro_frzs (st : St) (rs : List Nat) : ∀ p, RO cx ψ st.hp p → RO cx ψ (upsH st.hp (rs.map Up.frz)) p := by
  intro p hp
  refine ⟨hp.1, fun hb => hp.2 ?_⟩
  obtain ⟨b, o, h1, h2, h3⟩ := hb
  rw [getH_frzs] at h1
  split at h1
  · cases hg : getH st.hp b with
    | none => rw [hg] at h1; cases h1
    | some o' => rw [hg] at h1; obtain rfl := Option.some.inj h1; exact ⟨b, o', hg, live_frz o' h2, h3⟩
  · exact ⟨b, o, h1, h2, h3⟩
/-- Arguments as they are handed over. -/
theorem norm_ok (h : Rel cx ψ st a w) (own : Bool) (t : Nat) {v : SV} {x : Value} (hv : RV ψ (RO cx ψ st.hp) w v x) (rs : List Nat) (hrs : own = false → ∀ r ∈ rowsIn st.hp v.leaves, r ∈ rs) : RV ψ (RO cx ψ (upsH st.hp (rs.map Up.frz))) w (normSV T st.hp own t v) x := by
  have hmono : ∀ p u, RO cx ψ st.hp p → w.cell? p = some u → RO cx ψ (upsH st.hp (rs.map Up.frz)) p ∧ w.cell? p = some u := fun p u h1 h2 => ⟨ro_frzs st rs p h1, h2⟩
  cases own with
  | true => exact hv.move (fun _ _ _ _ => rfl) hmono
  | false =>
    have hrs := hrs rfl
    cases v with
    | l y =>
      have h1 := (frzs_ok h (cs := [y]) (vs := [x]) ⟨hv, trivial⟩ rs hrs).1
      have h1 : RL ψ (RO cx ψ (upsH st.hp (rs.map Up.frz))) w (frzL st.hp y) x := h1
      simp only [normSV]
      split
      · rename_i hn
        rw [hn] at h1
        have h1 : x = .slice none 0 0 := h1
        split
        · split
          · exact ⟨none, 0, h1, Nat.le_refl _, fun b hb => by simpa using hb, fun h0 => by simp at h0⟩
          · exact h1
        · exact h1
      · exact h1
    | agg cs =>
      obtain ⟨vs, rfl, hvs⟩ := hv
      have h1 := frzs_ok h hvs rs hrs
      simp only [normSV]
      split
      · split
        · rename_i k _
          split
          · rename_i y hy
            exact ⟨vs, rfl, toL_ok k y vs (fromLs_ok hy h1)⟩
          · exact ⟨vs, rfl, h1⟩
        · exact ⟨vs, rfl, h1⟩
      · exact ⟨vs, rfl, h1⟩
    | tup es => exact hv.move (fun _ _ _ _ => rfl) hmono
    | fn f cs => exact hv.move (fun _ _ _ _ => rfl) hmono
theorem norms_ok (h : Rel cx ψ st a w) (rs : List Nat) : ∀ (own : List Bool) (ts : List Nat) {vs : List SV} {xs : List Value}, RVs ψ (RO cx ψ st.hp) w vs xs → (∀ r ∈ lent st.hp own vs, r ∈ rs) → RVs ψ (RO cx ψ (upsH st.hp (rs.map Up.frz))) w (normAs T st.hp own ts vs) xs := by
  have hmv : ∀ {vs : List SV} {xs : List Value}, RVs ψ (RO cx ψ st.hp) w vs xs → RVs ψ (RO cx ψ (upsH st.hp (rs.map Up.frz))) w vs xs := fun hv => hv.move (fun _ _ _ _ _ _ => rfl) fun p u h1 h2 => ⟨ro_frzs st rs p h1, h2⟩
  intro own ts vs
  induction vs generalizing own ts with
  | nil =>
    intro xs hv _
    cases own <;> cases ts <;> exact hmv hv
  | cons v vs ih =>
    intro xs hv hl
    cases xs with
    | nil => exact hv.elim
    | cons x xs =>
      cases ts with
      | nil => cases own <;> exact hmv hv
      | cons t ts =>
        cases own with
        | nil =>
          simp only [lent, List.mem_append] at hl
          exact ⟨norm_ok h false t hv.1 rs (fun _ r hr => hl r (.inl hr)), ih [] ts hv.2 fun r hr => hl r (.inr hr)⟩
        | cons b bs =>
          cases b with
          | true => exact ⟨norm_ok h true t hv.1 rs (fun e => by cases e), ih bs ts hv.2 fun r hr => hl r (by simpa only [lent] using hr)⟩
          | false =>
            simp only [lent, List.mem_append] at hl
            exact ⟨norm_ok h false t hv.1 rs (fun _ r hr => hl r (.inl hr)), ih bs ts hv.2 fun r hr => hl r (.inr hr)⟩
theorem snd_call (hC : COkx P G C cx) (h : Rel cx ψ st a w) (f : Operand) (xs : Array Operand) (ts : Array TypeId) (ho : o.op = .call ⟨.value f, xs, ts⟩) {g : Nat} {caps : List L} (hg : opd st f = .fn g caps) {sp : Sp} (hsp : C g = some sp) {ln fp : List Nat} {as1 : List SV} (hln : ln = lent st.hp sp.own (xs.toList.map (opd st))) (has : as1 = normAs T st.hp sp.own ts.toList (xs.toList.map (opd st)) ++ caps.map SV.l)
    {d : Nat} {v : SV} {out : Heap} (hc : sp.run d as1 (pickH (upsH st.hp (ln.map Up.frz)) fp) = some (true, v, out)) (hdist : distinct (out.map Prod.fst) = true) (hex : fp.all (fun b => (getH (upsH st.hp (ln.map Up.frz)) b).isSome) = true) (hfresh : ∀ b o, Up.new b o ∈ outUps fp out → Free st b ∧ b ∉ st.pin)
    (hN : Nx cx st a o.dst (upsH st.hp ((cond (v.flat && out.all fun p => p.2.flat) [] (ln.map Up.frz)) ++ goneUps out fp ++ outUps fp out)) v N) : o.wp P a w N Q := by
  have h1 := opd_ok h f
  rw [hg] at h1
  obtain ⟨vs, hv, hvs⟩ := h1
  obtain ⟨⟨fn, hfn, hname, hbody⟩, hok⟩ := hC.1 g sp hsp d _ _ v out hc
  have hrun : (execOp a.eval o).run P w = .ok (.enter g ((xs.toList.map a.eval) ++ vs).toArray) w := by
    unfold execOp
    have hcf : ∀ args, (callFunc g args).run P w = .ok (.enter g args) w := by
      intro args
      simp only [callFunc, Sem.run_bind]
      show (Sem.run P _ w) = _
      rw [hfn]
      simp only
      rw [if_neg (by rw [hname]; decide), if_neg (by rw [hbody]; decide)]
      rfl
    simp only [ho, resolve, hv, Deferred.ofValue, invoke, Sem.run_bind, Sem.run_pure, Result.andThen_ok, Array.empty_append, hcf]
    simp
  unfold Oper.wp
  rw [hrun]
  show Calls P g _ w _
  have hF := h.frzs ln
  have hmv : ∀ p u, RO cx ψ st.hp p → w.cell? p = some u → RO cx ψ (upsH st.hp (ln.map Up.frz)) p ∧ w.cell? p = some u := fun p u h1 h2 => ⟨ro_frzs st ln p h1, h2⟩
  have hargs : RVs ψ (RO cx ψ (upsH st.hp (ln.map Up.frz))) w as1 ((xs.toList.map a.eval) ++ vs) := by
    rw [has]
    exact RVs_append (norms_ok h ln _ _ (RVs_map h _) (fun r hr => by rw [hln]; exact hr)) (RVs_l (hvs.move (fun _ _ _ _ => rfl) hmv))
  have hpick : ∀ b ob, getH (pickH (upsH st.hp (ln.map Up.frz)) fp) b = some ob → b ∈ fp ∧ getH (upsH st.hp (ln.map Up.frz)) b = some ob := by
    intro b ob hb
    rw [getH_pick] at hb
    split at hb
    · exact ⟨by assumption, hb⟩
    · cases hb
  have hfpx : ∀ b, b ∈ fp → getH (upsH st.hp (ln.map Up.frz)) b ≠ none := by
    intro b hb e
    have := List.all_eq_true.1 hex b hb
    rw [e] at this; cases this
  have hpickn : ∀ b, getH (pickH (upsH st.hp (ln.map Up.frz)) fp) b = none ↔ b ∉ fp := by
    intro b
    rw [getH_pick]
    split
    · rename_i hb; exact ⟨fun e => absurd e (hfpx b hb), fun e => absurd hb e⟩
    · rename_i hb; simp [hb]
  have hLB : ∀ i, LB ψ (pickH (upsH st.hp (ln.map Up.frz)) fp) i → LB ψ (upsH st.hp (ln.map Up.frz)) i := by
    rintro i ⟨b, ob, hb, hl, hk⟩
    exact ⟨b, ob, (hpick b ob hb).2, hl, hk⟩
  refine (hok ψ (RO cx ψ (upsH st.hp (ln.map Up.frz))) w _ hargs (fun b ob hb => hF.obj b ob (hpick b ob hb).2) (fun b b' ob ob' i hb hb' hl hl' hk hk' => hF.oinj b b' ob ob' i (hpick b ob hb).2 (hpick b' ob' hb').2 hl hl' hk hk') (fun p hp hb => hp.2 (hLB _ hb)) ⟨Nat.le_trans hC.2.1 h.fr.size, fun i hi => (h.fr.block i (Nat.lt_of_lt_of_le hi hC.2.1) (fun hx => Nat.lt_irrefl _ (Nat.lt_of_lt_of_le hi (hC.2.2.2 i hx)))).trans (hC.2.2.1 i hi), fun g hg => (hF.onew g (hLB g hg)).elim (Nat.le_trans hC.2.1) (hC.2.2.2 g)⟩).mono ?_
  rintro e w' ⟨v', ψ', rfl, hψ, hfr, hrv, hob, hlb, hinj⟩
  -- the heap behind
  have base : ∀ (hp0 : Heap) (b : Nat), getH (upsH (upsH hp0 (goneUps out fp)) (outUps fp out)) b = (match getH out b with | some ob => some ob | none => if b ∈ fp then none else getH hp0 b) := by
    intro hp0 b
    rw [getH_outs fp out _ b hdist, getH_gone]
    cases hb : getH out b with
    | some ob => rfl
    | none => simp
  have hrefN : ∀ b, ¬ (getH out b ≠ none ∧ b ∉ fp) → ψ' b = ψ b := by
    intro b hb
    refine hψ b ?_
    by_cases h2 : getH out b = none
    · exact .inr h2
    · left
      intro h3
      exact hb ⟨h2, (hpickn b).1 h3⟩
  have hfreeN : ∀ b, getH out b ≠ none ∧ b ∉ fp → Free st b ∧ b ∉ st.pin := by
    rintro b ⟨h2, h3⟩
    cases h4 : getH out b with
    | none => exact absurd h4 h2
    | some ob =>
      refine hfresh b ob ?_
      have hm := getH_mem h4
      clear h4 h2 hob hlb hinj hψ hrv hN hc hrefN base hfresh hdist hok
      induction out with
      | nil => cases hm
      | cons p r ih =>
        simp only [outUps]
        rcases List.mem_cons.1 hm with rfl | hm
        · have : fp.any (Nat.beq b) = false := by
            rw [Bool.eq_false_iff]; intro e; exact h3 (any_mem.1 e)
          simp only [outUp]
          rw [this]
          exact List.mem_cons_self
        · exact List.mem_cons_of_mem _ (ih hm)
  have mk : ∀ (hp0 : Heap), (∀ b, getH hp0 b = getH st.hp b ∨ getH hp0 b = (getH st.hp b).map Ob.frz) → (∀ b ob, getH (upsH st.hp (ln.map Up.frz)) b = some ob → ob.live = true → ∃ ob', getH hp0 b = some ob' ∧ ob'.live = true) →
      Stp ψ { st with hp := hp0 } w ψ' (upsH (upsH hp0 (goneUps out fp)) (outUps fp out)) w' (fun b => b ∈ fp ∨ getH out b ≠ none) (fun b => getH out b ≠ none ∧ b ∉ fp) := by
    intro hp0 hsh hlv
    have hlb0 : ∀ i, LB ψ (pickH (upsH st.hp (ln.map Up.frz)) fp) i → ∃ c oc, c ∈ fp ∧ getH hp0 c = some oc ∧ oc.live = true ∧ blk (ψ c) = some i := by
      rintro i ⟨b, ob, hb, hl, hk⟩
      obtain ⟨hm, hg'⟩ := hpick b ob hb
      obtain ⟨ob', h5, h6⟩ := hlv b ob hg' hl
      exact ⟨b, ob', hm, h5, h6, hk⟩
    exact {
      same := fun b hb => by
        rw [base]
        have h2 : getH out b = none := by
          cases h3 : getH out b with
          | none => rfl
          | some _ => exact absurd (.inr (by simp [h3])) hb
        rw [h2]
        simp only
        rw [if_neg (fun e => hb (.inl e))]
      ref := hrefN
      sub := fun b hb => .inr hb.1
      fresh := fun b hb => by
        obtain ⟨hfree, hpn⟩ := hfreeN b hb
        refine ⟨free_env (st := st) hfree, fun c oc _ hc' => ?_, hpn⟩
        have hc' : getH hp0 c = some oc := hc'
        rcases hsh c with h5 | h5
        · rw [h5] at hc'; exact (free_hp hfree hc').2
        · rw [h5] at hc'
          cases h6 : getH st.hp c with
          | none => rw [h6] at hc'; cases hc'
          | some oc' =>
            rw [h6] at hc'
            obtain rfl := Option.some.inj hc'
            rw [frz_leaves]
            exact (free_hp hfree h6).2
      os := hfr.os
      tape := hfr.tape
      output := hfr.output
      size := hfr.size
      block := fun i hi hb => hfr.block i hi fun hl => by
        obtain ⟨c, oc, h5, h6, h7, h8⟩ := hlb0 i hl
        exact hb c oc (.inl h5) h6 h7 h8
      blks := fun b ob i _ hb hl hk => by
        rw [base] at hb
        cases h5 : getH out b with
        | none =>
          rw [h5] at hb
          simp only at hb
          split at hb
          · cases hb
          · rename_i hD hm
            rcases hD with hD | hD
            · exact absurd hD hm
            · exact absurd h5 hD
        | some ob' =>
          rw [h5] at hb
          obtain rfl := Option.some.inj hb
          rcases hlb i ⟨b, ob', h5, hl, hk⟩ with h6 | h6
          · exact .inl h6
          · obtain ⟨c, oc, h7, h8, h9, h10⟩ := hlb0 i h6
            exact .inr ⟨c, oc, .inl h7, h8, h9, h10⟩
      inj := fun b b' ob ob' i hD hD' hb hb' hl hl' hk hk' => by
        have key : ∀ c oc, (c ∈ fp ∨ getH out c ≠ none) → getH (upsH (upsH hp0 (goneUps out fp)) (outUps fp out)) c = some oc → getH out c = some oc := by
          intro c oc hD hc
          rw [base] at hc
          cases h5 : getH out c with
          | none =>
            rw [h5] at hc
            simp only at hc
            split at hc
            · cases hc
            · rename_i hm
              rcases hD with hD | hD
              · exact absurd hD hm
              · exact absurd h5 hD
          | some oc' => rw [h5] at hc; exact hc
        exact hinj b b' ob ob' i (key b ob hD hb) (key b' ob' hD' hb') hl hl' hk hk' }
  have fromD : ∀ (hp0 : Heap) b ob, (b ∈ fp ∨ getH out b ≠ none) → getH (upsH (upsH hp0 (goneUps out fp)) (outUps fp out)) b = some ob → getH out b = some ob := by
    intro hp0 c oc hD hc
    rw [base] at hc
    cases h5 : getH out c with
    | none =>
      rw [h5] at hc
      simp only at hc
      split at hc
      · cases hc
      · rename_i hm
        rcases hD with hD | hD
        · exact absurd hD hm
        · exact absurd h5 hD
    | some oc' => rw [h5] at hc; exact hc
  cases hfl : (v.flat && out.all fun p => p.2.flat) with
  | true =>
    rw [hfl] at hN
    simp only [cond_true, List.nil_append] at hN
    rw [upsH_app] at hN
    simp only [Bool.and_eq_true] at hfl
    have s := mk st.hp (fun _ => .inl rfl) (fun b ob hb hl => by
      rw [getH_frzs] at hb
      split at hb
      · cases h5 : getH st.hp b with
        | none => rw [h5] at hb; cases hb
        | some ob' => rw [h5] at hb; obtain rfl := Option.some.inj hb; exact ⟨ob', rfl, live_frz ob' hl⟩
      · exact ⟨ob, hb, hl⟩)
    refine hN ψ' w' v' (h.step s fun b ob hD hb => ?_) (flat_rv hfl.1 hrv fun _ _ _ _ => rfl)
    have hb' := fromD _ b ob hD hb
    exact flat_ob (List.all_eq_true.1 hfl.2 _ (getH_mem hb')) (hob b ob hb') fun _ _ _ _ => rfl
  | false =>
    rw [hfl] at hN
    simp only [cond_false] at hN
    rw [upsH_app, upsH_app] at hN
    have s := mk (upsH st.hp (ln.map Up.frz)) (fun b => by
      rw [getH_frzs]
      split
      · exact .inr rfl
      · exact .inl rfl) (fun b ob hb hl => ⟨ob, hb, hl⟩)
    have hro : ∀ p, RO ⟨w, RO cx ψ (upsH st.hp (ln.map Up.frz)), LB ψ (pickH (upsH st.hp (ln.map Up.frz)) fp), ψ, (pickH (upsH st.hp (ln.map Up.frz)) fp).map Prod.fst⟩ ψ' out p → RO cx ψ' (upsH (upsH (upsH st.hp (ln.map Up.frz)) (goneUps out fp)) (outUps fp out)) p := by
      intro p hp
      refine ⟨fun hlt => ?_, ?_⟩
      · rcases hp.1 (Nat.lt_of_lt_of_le hlt h.fr.size) with h5 | h5
        · exact h5.1 hlt
        · rcases hF.onew _ (hLB _ h5) with h6 | h6
          · omega
          · exact .inr h6
      · rintro ⟨b, ob, hb, hl, hk⟩
        rw [base] at hb
        cases h5 : getH out b with
        | some ob' =>
          rw [h5] at hb
          obtain rfl := Option.some.inj hb
          exact hp.2 ⟨b, ob', h5, hl, hk⟩
        | none =>
          rw [h5] at hb
          simp only at hb
          split at hb
          · cases hb
          · rename_i hm
            rw [hrefN b (fun e => e.1 h5)] at hk
            have hlt := hF.lt ⟨b, ob, hb, hl, hk⟩
            rcases hp.1 hlt with h6 | h6
            · exact h6.2 ⟨b, ob, hb, hl, hk⟩
            · obtain ⟨c, oc, h7, h8, h9⟩ := h6
              obtain ⟨h10, h11⟩ := hpick c oc h7
              exact hm (by rw [hF.oinj b c ob oc _ hb h11 hl h8 hk h9]; exact h10)
    refine hN ψ' w' v' (hF.step s fun b ob hD hb => ?_) (hrv.move (fun _ _ _ _ => rfl) fun p u h5 h6 => ⟨hro p h5, h6⟩)
    exact (hob b ob (fromD _ b ob hD hb)).move (fun _ _ _ _ => rfl) (fun p u h5 h6 => ⟨hro p h5, h6⟩) (fun _ _ _ => rfl)
end
end Go.Proofs.YtopplbiadpcalaaDoor.U

/- The small abstract machine: one operation, whatever it is. -/
namespace Go.Proofs.YtopplbiadpcalaaDoor.U
open Go Go.RowKit

section
variable {P : Program} {G : GB} {T : Tab} {C : Nat → Option Sp} {cx : Cx} {ψ : Nat → Value} {st : St} {a : Act} {w : World} {o : Oper} {N : Act → World → Prop} {Q : Exit → Act → World → Prop}
theorem u8_of {T : Tab} {e : Nat} (h : (match T e with | some ie => (match ie.d with | .int .u8 => true | _ => false) | none => false) = true) : ∃ ie, T e = some ie ∧ ie.d = .int .u8 := by
  split at h
  · rename_i ie hie
    split at h
    · rename_i hd; exact ⟨ie, hie, hd⟩
    · cases h
  · cases h
theorem str_of {T : Tab} {t : Nat} (h : (match T t with | some ie => (match ie.d with | .str => true | _ => false) | none => false) = true) : ∃ ie, T t = some ie ∧ ie.d = .str := by
  split at h
  · rename_i ie hie
    split at h
    · rename_i hd; exact ⟨ie, hie, hd⟩
    · cases h
  · cases h
theorem two_args {args : Array Operand} {u v : SV} (h : args.toList.map (opd st) = [u, v]) : ∃ x y, args = #[x, y] ∧ opd st x = u ∧ opd st y = v := by
  obtain ⟨al⟩ := args
  rcases al with _ | ⟨x, _ | ⟨y, _ | ⟨z, r⟩⟩⟩
  · simp at h
  · simp at h
  · simp only [List.map_cons, List.map_nil, List.cons.injEq, and_true] at h
    exact ⟨x, y, rfl, h.1, h.2⟩
  · simp at h
theorem eff0_sound (hT : TOk P T) (hC : COkx P G C cx) (h : Rel cx ψ st a w) {ef : Ef} (he : eff0 T C o st = some ef) (hok : ef.ok = true) (hfr : ∀ b ob, Up.new b ob ∈ ef.ups → Free st b ∧ b ∉ st.pin) (hN : Nx cx st a o.dst (upsH st.hp ef.ups) ef.v N) : o.wp P a w N Q := by
  obtain ⟨dst, op, ty, pos, after, guard⟩ := o
  cases op with
  | move x =>
    simp only [eff0, Option.some.injEq] at he
    subst he
    exact snd_move h x (.inl rfl) hN
  | assign x =>
    simp only [eff0, Option.some.injEq] at he
    subst he
    exact snd_move h x (.inr rfl) hN
  | pick c x y =>
    simp only [eff0] at he
    split at he
    · rename_i t hc
      have hpick : ∀ {va vb : SV}, opd st x = va → opd st y = vb → RV ψ (RO cx ψ st.hp) w (cond t va vb) (if t then a.eval x else a.eval y) := by
        intro va vb h1 h2
        cases t
        · rw [← h2]; exact opd_ok h y
        · rw [← h1]; exact opd_ok h x
      split at he
      · rename_i p q h1 h2
        simp only [Option.some.injEq] at he
        subst he
        refine snd_pick h c x y rfl t hc (v := .l (.bool (cond t p q))) ?_ hN
        have := hpick h1 h2
        cases t <;> exact this
      · simp only [Option.some.injEq] at he
        subst he
        exact snd_pick h c x y rfl t hc (hpick rfl rfl) hN
    · cases he
  | binOp bop t x y t' =>
    simp only [eff0] at he
    split at he
    · rename_i p q h1 h2
      split at he
      · rename_i c r hb
        simp only [Option.some.injEq] at he
        subst he
        have hok : c = true := hok
        subst hok
        exact snd_bin h bop t t' x y rfl p q h1 h2 r hb hN
      · split at he
        · rename_i hb
          simp only [Option.some.injEq] at he
          subst he
          exact snd_eq hT h _ t t' x y rfl (by rw [h1, h2]; assumption) (.inl ⟨rfl, rfl⟩) hN
        · rename_i hb
          simp only [Option.some.injEq] at he
          subst he
          exact snd_eq hT h _ t t' x y rfl (by rw [h1, h2]; assumption) (.inr ⟨rfl, rfl⟩) hN
        · cases he
    · cases he
  | unOp uop t x =>
    simp only [eff0] at he
    split at he
    · rename_i p h1
      split at he
      · rename_i r hu
        simp only [Option.some.injEq] at he
        subst he
        exact snd_un h uop t x rfl h1 hu hN
      · cases he
    · cases he
  | extract x i =>
    simp only [eff0] at he
    split at he
    · rename_i es h1
      split at he
      · rename_i v h2; simp only [Option.some.injEq] at he; subst he; exact snd_extract h x i rfl h1 h2 hN
      · rename_i cs h2; simp only [Option.some.injEq] at he; subst he; exact snd_extract h x i rfl h1 h2 hN
      · cases he
    · cases he
  | build t ps =>
    simp only [eff0] at he
    split at he
    · rename_i i hi
      split at he
      · rename_i fs hd
        split at he
        · rename_i cs hp
          split at he
          · simp only [Option.some.injEq] at he; subst he; exact snd_build hT h hi ps rfl hd hp hN
          · cases he
        · cases he
      · cases he
    · cases he
  | field t x j =>
    simp only [eff0] at he
    split at he
    · rename_i i cs hi hx
      split at he
      · rename_i fs hd
        split at he
        · rename_i ft off hj
          split at he
          · rename_i fi hfi
            split at he
            · rename_i v hv; simp only [Option.some.injEq] at he; subst he; exact snd_fieldV hT h hi x j rfl hx hd hj hfi hv hN
            · cases he
          · cases he
        · cases he
      · cases he
    · cases he
  | box t x =>
    simp only [eff0] at he
    split at he
    · rename_i d i hi
      split at he
      · rename_i cs hc
        simp only [Option.some.injEq] at he
        subst he
        exact snd_box h (hfr d _ List.mem_cons_self).1 (hfr d _ List.mem_cons_self).2 x rfl hc hN
      · cases he
    · cases he
  | alloc t =>
    simp only [eff0] at he
    split at he
    · rename_i d i hi
      simp only [Option.some.injEq] at he
      subst he
      exact snd_alloc hT h (hfr d _ List.mem_cons_self).1 (hfr d _ List.mem_cons_self).2 hi rfl hN
    · cases he
  | load t x =>
    simp only [eff0] at he
    split at he
    · rename_i i b off hi h1
      split at he
      · rename_i t' cs hb
        split at he
        · rename_i v hv; simp only [Option.some.injEq] at he; subst he; exact snd_load_ptr hT h hi x rfl h1 hb hv hN
        · cases he
      · cases he
    · rename_i i k e xs j off hi h1
      split at he
      · rename_i v hv; simp only [Option.some.injEq] at he; subst he; exact snd_load_el hT h hi x rfl h1 hv hN
      · cases he
    · rename_i i r sz j off hi h1
      split at he
      · rename_i k e xs nil fz hr
        split at he
        · rename_i hsz
          obtain rfl := Nat.eq_of_beq_eq_true hsz
          split at he
          · rename_i v hv; simp only [Option.some.injEq] at he; subst he; exact snd_load_rel hT h hi x rfl h1 hr hv hN
          · cases he
        · cases he
      · cases he
    · cases he
  | store t x y =>
    simp only [eff0] at he
    split at he
    · rename_i i b off hi h1
      split at he
      · rename_i t' cs ys hb hc
        split at he
        · rename_i cs' hs; simp only [Option.some.injEq] at he; subst he; exact snd_store_ptr hT h hi x y rfl h1 hb hc hs hN
        · cases he
      · cases he
    · rename_i i r sz j off hi h1
      split at he
      · rename_i ys hc
        split at he
        · rename_i k e xs nil hr
          split at he
          · rename_i hsz
            obtain rfl := Nat.eq_of_beq_eq_true hsz
            split at he
            · rename_i cs' hs
              split at he
              · rename_i z hz; simp only [Option.some.injEq] at he; subst he; exact snd_store_rel hT h hi x y rfl h1 hc hr hs hz hN
              · cases he
            · cases he
          · cases he
        · cases he
      · cases he
    · cases he
  | fieldAddr t x j =>
    simp only [eff0] at he
    split at he
    · rename_i i b off hi h1
      split at he
      · rename_i fs hdd
        split at he
        · rename_i ft fo hj
          simp only [Option.some.injEq] at he
          subst he
          obtain ⟨g, hg, hx⟩ := opd_l h h1
          exact snd_field hT h hi x j rfl hdd hj hx (v := .l (.ptr b (off + fo))) ⟨g, hg, rfl⟩ hN
        · cases he
      · cases he
    · rename_i i k e xs n off hi h1
      split at he
      · rename_i fs hdd
        split at he
        · rename_i ft fo hj
          simp only [Option.some.injEq] at he
          subst he
          obtain ⟨b, o', hv, hn, hr⟩ := opd_l h h1
          exact snd_field hT h hi x j rfl hdd hj hv (v := .l (.el k e xs n (off + fo))) ⟨b, o', by simp [Nat.add_assoc], hn, hr⟩ hN
        · cases he
      · cases he
    · rename_i i r sz n off hi h1
      split at he
      · rename_i fs hdd
        split at he
        · rename_i ft fo hj
          simp only [Option.some.injEq] at he
          subst he
          obtain ⟨g, m, c, hg, hn, hx⟩ := opd_l h h1
          exact snd_field hT h hi x j rfl hdd hj hx (v := .l (.rel r sz n (off + fo))) ⟨g, m, c, hg, hn, by simp [Nat.add_assoc]⟩ hN
        · cases he
      · cases he
    · cases he
  | indexAddr t x y =>
    simp only [eff0] at he
    split at he
    · rename_i e' k' n hel hy
      split at he
      · rename_i k e xs nil h1
        split at he
        · cases he
        · rename_i hchk
          simp only [Bool.and_eq_true] at hchk
          obtain rfl := Nat.eq_of_beq_eq_true hchk.1
          simp only [Option.some.injEq] at he
          subst he
          simp only [Bool.and_eq_true, decide_eq_true_eq] at hok
          exact snd_indexAddr_sl hT h hel x y rfl h1 hy (Nat.eq_of_beq_eq_true hchk.2) hok.1 hok.2 hN
      · rename_i r h1
        split at he
        · rename_i k e xs nil hr
          split at he
          · cases he
          · rename_i hchk
            simp only [Bool.and_eq_true] at hchk
            obtain rfl := Nat.eq_of_beq_eq_true hchk.1
            simp only [Option.some.injEq] at he
            subst he
            simp only [Bool.and_eq_true, decide_eq_true_eq] at hok
            exact snd_indexAddr_rs hT h hel x y rfl h1 hr hy (Nat.eq_of_beq_eq_true hchk.2) hok.1 hok.2 hN
        · cases he
      · cases he
    · cases he
  | index t x y =>
    simp only [eff0] at he
    split at he
    · rename_i s n h1 h2
      split at he
      · cases he
      · rename_i hchk
        obtain ⟨it, hi, hd⟩ := str_of hchk
        simp only [Option.some.injEq] at he
        subst he
        simp only [Bool.and_eq_true, decide_eq_true_eq] at hok
        exact snd_index hT h hi x y rfl h1 h2 hd hok.1 hok.2 hN
    · cases he
  | nilCheck x =>
    simp only [eff0] at he
    split at he
    · rename_i b off h1; simp only [Option.some.injEq] at he; subst he; exact snd_nil h x rfl _ h1 (fun v hv => by obtain ⟨g, _, hv⟩ := hv; exact ⟨_, hv⟩) hN
    · rename_i k e xs i off h1; simp only [Option.some.injEq] at he; subst he; exact snd_nil h x rfl _ h1 (fun v hv => by obtain ⟨b, o', hv, _⟩ := hv; exact ⟨_, hv⟩) hN
    · rename_i r sz i off h1; simp only [Option.some.injEq] at he; subst he; exact snd_nil h x rfl _ h1 (fun v hv => by obtain ⟨g, n, c, _, _, hv⟩ := hv; exact ⟨_, hv⟩) hN
    · rename_i f caps h1; simp only [Option.some.injEq] at he; subst he; exact snd_nilFn h x rfl h1 hN
    · cases he
  | convert t t' x =>
    simp only [eff0] at he
    split at he
    · rename_i i j hi hj
      split at he
      · rename_i k' ik n hd' h1
        simp only [Option.some.injEq] at he
        subst he
        exact snd_convInt hT h hi hj x rfl h1 hd' hN
      · rename_i s hd' h1
        simp only [Option.some.injEq] at he
        subst he
        exact snd_convStr hT h hi hj x rfl h1 hd' hN
      · rename_i e s hd hd' h1
        split at he
        · rename_i hchk
          obtain ⟨ie, hie, hde⟩ := u8_of hchk
          simp only [Option.some.injEq] at he
          subst he
          exact snd_convBytes hT h hi hj x rfl h1 hd hd' hie hde hN
        · cases he
      · rename_i e y hd hd' h1
        split at he
        · rename_i hchk
          obtain ⟨ie, hie, hde⟩ := u8_of hchk
          split at he
          · simp only [Option.some.injEq] at he
            subst he
            exact snd_convNil hT h hi hj x rfl h1 hd hd' hie hde hN
          · split at he
            · rename_i hs
              simp only [Option.some.injEq] at he
              subst he
              exact snd_convText hT h hi hj x rfl h1 hs hd hd' hie hde hN
            · cases he
        · cases he
      · cases he
    · cases he
  | slice t x lo hi mx =>
    simp only [eff0] at he
    split at he
    · cases he
    · split at he
      · rename_i s h1
        split at he
        · rename_i hchk
          obtain ⟨it, hit, hd⟩ := str_of hchk
          split at he
          · rename_i l n hl hn
            simp only [Option.some.injEq] at he
            subst he
            simp only [Bool.and_eq_true, decide_eq_true_eq] at hok
            exact snd_sliceStr hT h hit x lo hi rfl h1 hd hl hn hok.1.1 hok.1.2 hok.2 hN
          · cases he
        · cases he
      · rename_i y _ h1
        split at he
        · rename_i k e xs hs
          split at he
          · rename_i e' k' hel
            split at he
            · rename_i hchk
              simp only [Bool.and_eq_true] at hchk
              obtain rfl := Nat.eq_of_beq_eq_true hchk.1
              split at he
              · rename_i l n hl hn
                simp only [Option.some.injEq] at he
                subst he
                simp only [Bool.and_eq_true, decide_eq_true_eq] at hok
                exact snd_sliceSl hT h hel x lo hi rfl h1 hs (Nat.eq_of_beq_eq_true hchk.2) hl hn hok.1.1 hok.1.2 hok.2 hN
              · cases he
            · cases he
          · cases he
        · cases he
      · cases he
  | buildSlice t len ps =>
    simp only [eff0] at he
    split at he
    · rename_i d e k hel
      split at he
      · rename_i i hi
        split at he
        · rename_i xs cs hp hchk
          simp only [Option.some.injEq] at he
          subst he
          simp only [Bool.and_eq_true] at hchk
          exact snd_buildSlice hT h (hfr d _ (List.mem_append_right _ List.mem_cons_self)).1 (hfr d _ (List.mem_append_right _ List.mem_cons_self)).2 hel hi ps rfl hp (Nat.eq_of_beq_eq_true hchk.1) (Nat.le_of_ble_eq_true hchk.2) hN
        · cases he
      · cases he
    · cases he
  | makeFunc fn first caps =>
    cases fn with
    | func f =>
      simp only [eff0] at he
      split at he
      · rename_i hf
        split at he
        · rename_i cs hc
          simp only [Option.some.injEq] at he
          subst he
          exact snd_fn h rfl hf hc hN
        · cases he
      · cases he
    | _ => simp only [eff0] at he; cases he
  | call c =>
    obtain ⟨callee, args, ts⟩ := c
    cases callee with
    | invoke r m => simp only [eff0] at he; cases he
    | builtin b =>
      cases b with
      | len =>
        simp only [eff0] at he
        split at he
        · rename_i x t hx ht
          split at he
          · rename_i i v hi h1
            split at he
            · rename_i n hn
              obtain rfl : args = #[x] := by simpa using congrArg List.toArray hx
              obtain rfl : ts = #[t] := by simpa using congrArg List.toArray ht
              simp only [Option.some.injEq] at he
              subst he
              exact snd_len hT h hi x rfl h1 hn hN
            · cases he
          · cases he
        · cases he
      | min =>
        simp only [eff0] at he
        split at he
        · rename_i k m k' n hm
          split at he
          · rename_i hk
            obtain rfl := of_decide_eq_true hk
            simp only [Option.some.injEq] at he
            subst he
            obtain ⟨x, y, rfl, hmx, hmy⟩ := two_args hm
            · exact snd_min h x y ts rfl hmx hmy hN
          · cases he
        · cases he
      | max =>
        simp only [eff0] at he
        split at he
        · rename_i k m k' n hm
          split at he
          · rename_i hk
            obtain rfl := of_decide_eq_true hk
            simp only [Option.some.injEq] at he
            subst he
            obtain ⟨x, y, rfl, hmx, hmy⟩ := two_args hm
            · exact snd_max h x y ts rfl hmx hmy hN
          · cases he
        · cases he
      | append =>
        simp only [eff0] at he
        split at he
        · rename_i d x y t t' hx ht
          obtain rfl : args = #[x, y] := by simpa using congrArg List.toArray hx
          obtain rfl : ts = #[t, t'] := by simpa using congrArg List.toArray ht
          split at he
          · rename_i e k Y htt hel h1 h2
            obtain rfl := Nat.eq_of_beq_eq_true htt
            split at he
            · rename_i k' e' ys hs
              split at he
              · rename_i hk
                subst hk
                split at he
                · rename_i ok hroom
                  split at he
                  · simp only [Option.some.injEq] at he
                    subst he
                    have hok : ok = true := hok
                    subst hok
                    exact snd_append_nil hT h (hfr d _ List.mem_cons_self).1 (hfr d _ List.mem_cons_self).2 rfl hel h1 h2 hs hroom hN
                  · cases he
                · cases he
              · cases he
            · cases he
          · rename_i e k r htt hel h1 h2
            obtain rfl := Nat.eq_of_beq_eq_true htt
            split at he
            · rename_i k1 e1 xs nil hr
              simp only [Option.some.injEq] at he
              subst he
              exact snd_append_none hT h (hfr d _ (List.mem_cons_of_mem _ List.mem_cons_self)).1 (hfr d _ (List.mem_cons_of_mem _ List.mem_cons_self)).2 rfl hel h1 h2 hr hN
            · cases he
          · rename_i e k r Y _ htt hel h1 h2
            obtain rfl := Nat.eq_of_beq_eq_true htt
            split at he
            · rename_i k1 e1 xs nil hr
              split at he
              · rename_i k' e' ys hs
                split at he
                · rename_i hk
                  subst hk
                  split at he
                  · rename_i ok hroom
                    split at he
                    · rename_i hchk
                      simp only [Bool.and_eq_true] at hchk
                      obtain rfl := Nat.eq_of_beq_eq_true hchk.1.2
                      simp only [Option.some.injEq] at he
                      subst he
                      have hok : ok = true := hok
                      subst hok
                      exact snd_append hT h (hfr d _ (List.mem_cons_of_mem _ List.mem_cons_self)).1 (hfr d _ (List.mem_cons_of_mem _ List.mem_cons_self)).2 rfl hel h1 (Nat.eq_of_beq_eq_true hchk.2) hr h2 hs hroom hN
                    · cases he
                  · cases he
                · cases he
              · cases he
            · cases he
          · cases he
        · cases he
      | _ => simp only [eff0] at he; cases he
    | value f =>
      simp only [eff0] at he
      split at he
      · rename_i g caps hg
        split at he
        · rename_i sp hsp
          split at he
          · rename_i ok v out hc
            split at he
            · cases he
            · rename_i hdist
              simp only [Option.some.injEq] at he
              subst he
              have hok : ok = true := hok
              subst hok
              rw [Bool.and_eq_true] at hdist
              exact snd_call hC h f args ts rfl hg hsp rfl rfl hc hdist.1 hdist.2 (fun b ob hm => hfr b ob (List.mem_append_right _ hm)) hN
          · cases he
        · cases he
      · cases he
  | _ => simp only [eff0] at he; cases he
theorem effP_sound (hT : TOk P T) (h : Rel cx ψ st a w) {c : Bool} {v : SV} (he : effP T (opd st) o.op = some (c, v)) (hok : c = true) (hN : Nx cx st a o.dst st.hp v N) : o.wp P a w N Q := by
  subst hok
  obtain ⟨dst, op, ty, pos, after, guard⟩ := o
  cases op with
  | binOp b t x y t' =>
    cases b with
    | eql =>
      simp only [effP] at he
      split at he
      · rename_i b hb
        simp only [Option.some.injEq, Prod.mk.injEq, true_and] at he
        subst he
        have hr := (cmp_run hT (X := x) hb (opd_ok h x) (opd_ok h y)).1
        refine snd_val h (v := .l (.bool b)) (x := .bool b) rfl ?_ hN
        simp only [execOp]
        simp only [Sem.run_bind] at hr ⊢
        rw [hr]
        rfl
      · cases he
    | neq =>
      simp only [effP] at he
      split at he
      · rename_i b hb
        simp only [Option.some.injEq, Prod.mk.injEq, true_and] at he
        subst he
        have hr := (cmp_run hT (X := x) hb (opd_ok h x) (opd_ok h y)).2
        refine snd_val h (v := .l (.bool (!b))) (x := .bool (!b)) rfl ?_ hN
        simp only [execOp]
        simp only [Sem.run_bind] at hr ⊢
        rw [hr]
        rfl
      · cases he
    | _ => simp only [effP] at he; cases he
  | makeInterface t x =>
    simp only [effP] at he
    split at he
    · rename_i i hi
      obtain ⟨d, hd, _, _, _, _, _, _, _, _, _, hni⟩ := tchk_und (hT t i hi)
      split at he
      · cases he
      · rename_i k n hx hne
        simp only [Option.some.injEq, Prod.mk.injEq, true_and] at he
        subst he
        have hv : a.eval x = .int k n := opd_l h hx
        refine snd_val h (v := .l (.ifi t k (some n))) (x := .iface t (a.eval x)) (by rw [hv]; rfl) ?_ hN
        have hni := hni (fun e => hne e)
        simp only [execOp, Instr.makeInterface, Sem.run_bind, run_underlying hd, Result.andThen_ok]
        cases d <;> first | rfl | exact absurd rfl (hni _)
      · rename_i hne _
        simp only [Option.some.injEq, Prod.mk.injEq, true_and] at he
        subst he
        refine snd_val h (v := .l (.ifc false)) (x := .iface t (a.eval x)) ⟨_, _, rfl⟩ ?_ hN
        have hni := hni (fun e => hne e)
        simp only [execOp, Instr.makeInterface, Sem.run_bind, run_underlying hd, Result.andThen_ok]
        cases d <;> first | rfl | exact absurd rfl (hni _)
    · cases he
  | convert t t' x =>
    simp only [effP] at he
    split at he
    · rename_i i j k n hi hj hx
      obtain ⟨d, hd, _, hint, _⟩ := tchk_und (hT t i hi)
      obtain ⟨d', hd', _, _, _, hst, _⟩ := tchk_und (hT t' j hj)
      split at he
      · rename_i ik h1 h2
        obtain rfl := hint _ h1
        obtain rfl := hst h2
        simp only [Option.some.injEq, Prod.mk.injEq, true_and] at he
        subst he
        have hv : a.eval x = .int k n := opd_l h hx
        refine snd_val h (v := .l (.str (Utf8.encode n))) (x := .string (Utf8.encode n)) rfl ?_ hN
        simp [execOp, convert, run_underlying hd, run_underlying hd', hv, Conv.intToString]
      · cases he
    · cases he
  | _ => simp only [effP] at he; cases he
theorem eff_sound (hT : TOk P T) (hC : COkx P G C cx) (h : Rel cx ψ st a w) {ef : Ef} (he : eff T C o st = some ef) (hok : ef.ok = true) (hfr : ∀ b ob, Up.new b ob ∈ ef.ups → Free st b ∧ b ∉ st.pin) (hN : Nx cx st a o.dst (upsH st.hp ef.ups) ef.v N) : o.wp P a w N Q := by
  unfold eff at he
  split at he
  · rename_i c v hp
    obtain rfl := Option.some.inj he
    exact effP_sound hT h hp hok hN
  · exact eff0_sound hT hC h he hok hfr hN
end
end Go.Proofs.YtopplbiadpcalaaDoor.U

/- The small abstract machine: regions in the order of their text; what is kept of a state where ways meet. -/
namespace Go.Proofs.YtopplbiadpcalaaDoor.U
open Go Go.RowKit

section
variable {ρ : Type} (T : Tab) (C : Nat → Option Sp)
def St.upd (st : St) (o : Oper) (ef : Ef) : St := ({ st with hp := upsH st.hp ef.ups } : St).put o.dst ef.v
/-- One operation, then K. -/
def doOp (o : Oper) (st : St) (K : St → Option ρ) : Option ρ :=
  match eff T C o st with
  | some ef => match st.fit o.dst && ef.ups.all (Up.fresh st) with
    | true => cond ef.ok (K (st.upd o ef)) none
    | false => none
  | none => none
def dstOf (ops : Array Oper) (j : Nat) : Option Nat := (ops[j]?).bind (·.dst)
/-- Operations, each under its guard. -/
def doOps (ops : Array Oper) : List Oper → St → (St → Option ρ) → Option ρ
  | [], st, K => K st
  | o :: os, st, K => match o.guard with
    | none => doOp T C o st fun st' => doOps ops os st' K
    | some (j, want) => match dstOf ops j with
      | none => none
      | some s => match getE st.env s with
        | .l (.bool b) => match want with
          | true => cond b (doOp T C o (st.put (some s) (.l (.bool true))) fun st' => doOps ops os st' K) (doOps ops os ((st.put (some s) (.l (.bool false))).put o.dst (.l .undef)) K)
          | false => cond b (doOps ops os ((st.put (some s) (.l (.bool true))).put o.dst (.l .undef)) K) (doOp T C o (st.put (some s) (.l (.bool false))) fun st' => doOps ops os st' K)
        | .l .undef => doOps ops os (st.put o.dst (.l .undef)) K
        | _ => none
end

/-- How a kept cell is told: as it is (rows read alone from now on); as a slice that is read; as an own row of that key. -/
inductive Ct where
  | keep
  | sl (k : Kn) (e : Nat)
  | own (r : Nat) (k : Kn) (e : Nat)
  | row (r : Nat) (k : Kn) (e : Nat)
/-- What of the state lives on at a loop's head or where ways meet: slots; boxes. -/
structure Keep where
  sl : List (Nat × List Ct)
  bx : List (Nat × List Ct)
/-- An own row's new key, its old one (none: it was nil), what it is. -/
abbrev Rw := Nat × Option Nat × Ob
structure Cs (α : Type) where
  v : α
  rows : List Rw
  frz : List Nat
def castL (hp : Heap) (bks : List Nat) : Ct → L → Option (Cs L)
  | .keep, .ptr b off => some ⟨cond (bks.any (Nat.beq b)) (.ptr b off) .un, [], []⟩
  | .keep, .rel _ _ _ _ => some ⟨.un, [], []⟩
  | .keep, x => some ⟨frzL hp x, [], rowsIn hp [x]⟩
  | .sl k e, .nils => some ⟨.sl k e [] none, [], []⟩
  | .sl k e, x => match sliOf hp x with
    | some ⟨k', e', xs⟩ => if h : k' = k then match Nat.beq e' e with
        | true => some ⟨.sl k e (h ▸ xs) none, [], rowsIn hp [x]⟩
        | false => none
      else none
    | none => none
  | .own r' k e, .nils => some ⟨.rs r', [(r', none, .row k e [] none false)], []⟩
  | .own r' k e, .rs r => match getH hp r with
    | some (.row k' e' xs _ false) => if h : k' = k then match Nat.beq e' e with
        | true => some ⟨.rs r', [(r', some r, .row k e (h ▸ xs) none false)], []⟩
        | false => none
      else none
    | _ => none
  | .row r k e, _ => match getH hp r with
    | some (.row k' e' xs _ false) => if h : k' = k then match Nat.beq e' e with
        | true => some ⟨.un, [(r, some r, .row k e (h ▸ xs) none false)], []⟩
        | false => none
      else none
    | _ => none
  | _, _ => none
def castLs (hp : Heap) (bks : List Nat) : List Ct → List L → Option (Cs (List L))
  | _, [] => some ⟨[], [], []⟩
  | [], x :: xs => match castL hp bks .keep x, castLs hp bks [] xs with
    | some a, some b => some ⟨a.v :: b.v, a.rows ++ b.rows, a.frz ++ b.frz⟩
    | _, _ => none
  | ct :: cts, x :: xs => match castL hp bks ct x, castLs hp bks cts xs with
    | some a, some b => some ⟨a.v :: b.v, a.rows ++ b.rows, a.frz ++ b.frz⟩
    | _, _ => none
def castEs (hp : Heap) (bks : List Nat) : List (L ⊕ List L) → Option (Cs (List (L ⊕ List L)))
  | [] => some ⟨[], [], []⟩
  | .inl x :: r => match castL hp bks .keep x, castEs hp bks r with
    | some a, some b => some ⟨.inl a.v :: b.v, a.rows ++ b.rows, a.frz ++ b.frz⟩
    | _, _ => none
  | .inr cs :: r => match castLs hp bks [] cs, castEs hp bks r with
    | some a, some b => some ⟨.inr a.v :: b.v, a.rows ++ b.rows, a.frz ++ b.frz⟩
    | _, _ => none
def castV (hp : Heap) (bks : List Nat) (cts : List Ct) : SV → Option (Cs SV)
  | .l x => match castL hp bks (cts.headD .keep) x with
    | some a => some ⟨.l a.v, a.rows, a.frz⟩
    | none => none
  | .agg cs => match castLs hp bks cts cs with
    | some a => some ⟨.agg a.v, a.rows, a.frz⟩
    | none => none
  | .tup es => match castEs hp bks es with
    | some a => some ⟨.tup a.v, a.rows, a.frz⟩
    | none => none
  | .fn f cs => match castLs hp bks [] cs with
    | some a => some ⟨.fn f a.v, a.rows, a.frz⟩
    | none => none
def castEnv (hp : Heap) (bks : List Nat) (env : List (Nat × SV)) : List (Nat × List Ct) → Option (Cs (List (Nat × SV)))
  | [] => some ⟨[], [], []⟩
  | (i, cts) :: r => match castV hp bks cts (getE env i), castEnv hp bks env r with
    | some a, some b => some ⟨(i, a.v) :: b.v, a.rows ++ b.rows, a.frz ++ b.frz⟩
    | _, _ => none
def castBx (hp : Heap) (bks : List Nat) : List (Nat × List Ct) → Option (Cs Heap)
  | [] => some ⟨[], [], []⟩
  | (b, cts) :: r => match getH hp b with
    | some (.box t cs) => match castLs hp bks cts cs, castBx hp bks r with
      | some a, some z => some ⟨(b, .box t a.v) :: z.v, a.rows ++ z.rows, a.frz ++ z.frz⟩
      | _, _ => none
    | _ => none
def srcs : List Rw → List Nat
  | [] => []
  | (_, some r, _) :: q => r :: srcs q
  | (_, none, _) :: q => srcs q
/-- Rows: each key once, each old one once; none of them is read alone; what was handed over keeps its key. -/
def okRows (bks pin : List Nat) (rows : List Rw) (frz : List Nat) : Bool :=
  distinct (rows.map Prod.fst) && distinct (srcs rows) && (srcs rows).all (fun r => !frz.any (Nat.beq r)) && rows.all (fun x => !bks.any (Nat.beq x.1) && (!pin.any (Nat.beq x.1) || (match x.2.1 with | some r => Nat.beq r x.1 | none => false)))
def St.prune (st : St) (k : Keep) : Option St :=
  let bks := k.bx.map Prod.fst
  match castEnv st.hp bks st.env k.sl, castBx st.hp bks k.bx with
  | some a, some b => match okRows bks st.pin (a.rows ++ b.rows) (a.frz ++ b.frz) with
    | true => some { nt := st.nt, env := a.v, hp := b.v ++ (a.rows ++ b.rows).map (fun x => (x.1, x.2.2)), pin := st.pin }
    | false => none
  | _, _ => none

section
variable {P : Program} {G : GB} {T : Tab} {C : Nat → Option Sp} {ρ : Type} {cx : Cx} {ψ : Nat → Value} {st : St} {a : Act} {w : World} {out : ρ} {Q : Exit → Act → World → Prop}
/-- What is to be shown of what comes behind. -/
def Nxt (cx : Cx) (K : St → Option ρ) (out : ρ) (N : Act → World → Prop) : Prop := ∀ ψ st a w, Rel cx ψ st a w → K st = some out → N a w
theorem cond_some {b : Bool} {x : Option ρ} (h : cond b x none = some out) : b = true ∧ x = some out := by
  cases b
  · cases h
  · exact ⟨rfl, h⟩
theorem fresh_ok {ups : List Up} (h : ups.all (Up.fresh st) = true) : ∀ b ob, Up.new b ob ∈ ups → Free st b ∧ b ∉ st.pin := by
  intro b ob hm
  have := List.all_eq_true.1 h _ hm
  simp only [Up.fresh, Bool.and_eq_true, Bool.not_eq_true'] at this
  refine ⟨free_sem this.1, fun hp => ?_⟩
  rw [any_mem.2 hp] at this
  exact absurd this.2 (by decide)
theorem doOp_sound (hT : TOk P T) (hC : COkx P G C cx) (h : Rel cx ψ st a w) {o : Oper} {K : St → Option ρ} {N : Act → World → Prop} (hd : doOp T C o st K = some out) (hN : Nxt cx K out N) : o.wp P a w N Q := by
  unfold doOp at hd
  split at hd
  · rename_i ef he
    split at hd
    · rename_i hf
      simp only [Bool.and_eq_true] at hf
      obtain ⟨hok, hk⟩ := cond_some hd
      refine eff_sound hT hC h he hok (fresh_ok hf.2) fun ψ' w' x h' hx => hN ψ' _ _ w' ?_ hk
      exact h'.put' (st := { st with hp := upsH st.hp ef.ups }) hf.1 hx
    · cases hd
  · cases hd
theorem Rel.ref (h : Rel cx ψ st a w) {s : Nat} {v : SV} (hv : RV ψ (RO cx ψ st.hp) w v (a.tmps.getD s undef)) : Rel cx ψ (st.put (some s) v) a w where
  nt := h.nt
  df := h.df
  env j := by
    rw [getE_put]
    split
    · rename_i hj; rw [hj]; exact hv
    · exact h.env j
  obj := h.obj
  onew := h.onew
  oinj := h.oinj
  fr := h.fr
  pin := h.pin
theorem yielded_bool {ops : Array Oper} {j s : Nat} {b : Bool} (hj : dstOf ops j = some s) (hv : a.tmps.getD s undef = .bool b) : yielded ops a.tmps j = some b := by
  unfold yielded
  have h1 : (ops[j]?).bind (·.dst) = some s := hj
  rw [h1]
  simp only [Option.bind_some]
  rw [Array.getD_eq_getD_getElem?] at hv
  cases hs : a.tmps[s]? with
  | none => rw [hs] at hv; simp [undef] at hv
  | some v => rw [hs] at hv; simp at hv; subst hv; rfl
theorem yielded_undef {ops : Array Oper} {j s : Nat} (hj : dstOf ops j = some s) (hv : a.tmps.getD s undef = undef) : yielded ops a.tmps j = none := by
  unfold yielded
  have h1 : (ops[j]?).bind (·.dst) = some s := hj
  rw [h1]
  simp only [Option.bind_some]
  rw [Array.getD_eq_getD_getElem?] at hv
  cases hs : a.tmps[s]? with
  | none => rfl
  | some v => rw [hs] at hv; simp at hv; subst hv; rfl
/-- An operation that is passed over. -/
theorem Rel.skip (h : Rel cx ψ st a w) (dst : Option Nat) : Rel cx ψ (st.put dst (.l .undef)) (a.put dst undef) w := by
  cases dst with
  | none => exact h
  | some d =>
    by_cases hlt : d < st.nt
    · exact h.put hlt (v := .l .undef) rfl
    · have hlt' : ¬ d < a.tmps.size := by rw [h.nt]; exact hlt
      have hsame : a.put (some d) undef = a := by
        simp [Act.put, Array.setIfInBounds, hlt']
      rw [hsame]
      refine h.ref (v := .l .undef) ?_
      show a.tmps.getD d undef = undef
      simp [hlt']
theorem doOps_sound (hT : TOk P T) (hC : COkx P G C cx) {ops : Array Oper} {K : St → Option ρ} : ∀ (os : List Oper) {ψ : Nat → Value} {st : St} {a : Act} {w : World}, Rel cx ψ st a w → doOps T C ops os st K = some out → Nxt cx K out (Q .normal) → wpList P ops Q os a w
  | [], ψ, st, a, w, h, hd, hN => wpList_nil (hN ψ st a w h hd)
  | o :: os, ψ, st, a, w, h, hd, hN => by
    have hrest : ∀ ψ st a w, Rel cx ψ st a w → doOps T C ops os st K = some out → wpList P ops Q os a w := fun ψ st a w h hd => doOps_sound hT hC os h hd hN
    refine wpList_step fun K' hK' => ?_
    simp only [doOps] at hd
    split at hd
    · rename_i hg
      rw [if_pos (by simp [Region.wanted, hg])]
      exact doOp_sound hT hC h hd (fun ψ st a w h hk => hK' a w (hrest ψ st a w h hk))
    · rename_i j want hg
      split at hd
      · cases hd
      · rename_i s hs
        have hskip : ∀ {st : St}, Rel cx ψ st a w → doOps T C ops os (st.put o.dst (.l .undef)) K = some out → K' (a.put o.dst undef) w := fun h hd => hK' _ _ (hrest ψ _ _ _ (h.skip o.dst) hd)
        split at hd
        · rename_i b hb
          have hv := h.env s
          rw [hb] at hv
          have hv : a.tmps.getD s undef = .bool b := hv
          have hy := yielded_bool hs hv
          have hput : Rel cx ψ (st.put (some s) (.l (.bool b))) a w := h.ref hv
          have hw : Region.wanted o (yielded ops a.tmps) = (some b == some want) := by simp [Region.wanted, hg, hy]
          rw [hw]
          cases want <;> cases b <;> simp only [cond_true, cond_false] at hd
          · rw [if_pos (by decide)]; exact doOp_sound hT hC hput hd (fun ψ st a w h hk => hK' a w (hrest ψ st a w h hk))
          · rw [if_neg (by decide)]; exact hskip hput hd
          · rw [if_neg (by decide)]; exact hskip hput hd
          · rw [if_pos (by decide)]; exact doOp_sound hT hC hput hd (fun ψ st a w h hk => hK' a w (hrest ψ st a w h hk))
        · rename_i hb
          have hv := h.env s
          rw [hb] at hv
          have hy := yielded_undef hs hv
          rw [if_neg (by simp [Region.wanted, hg, hy])]
          exact hskip h hd
        · cases hd

end
end Go.Proofs.YtopplbiadpcalaaDoor.U
