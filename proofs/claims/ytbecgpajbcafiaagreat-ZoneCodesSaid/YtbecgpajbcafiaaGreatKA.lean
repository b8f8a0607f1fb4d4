/-
  The values of an abstract reading of Go's memory, and what it is that a machine's value is one of them. For every world: what a value is read as stays so while the world grows and what is fixed in it stays.
  A small language for what Go's loaded code does at one operation, and what each operation comes to on abstract values. For every program: the reading of an operation is told by the program's own tables.
  How the machine's loaded code is read as the small language; and what a call, an operation, a piece of code is said to do. For every program: the reading is reckoned from the program's own tables.
  The values that operations compute are what the machine computes: operands, cells, numbers, texts. For every world in which the operands are read as said.
  What an operation that calls nothing comes to is what the machine does at it: loads, stores, addresses, new variables. For every world in which the temporaries and the store are as said.
  What an operation that calls nothing comes to is what the machine does at it: numbers, texts, addresses, variables, literals. For every world in which the temporaries and the store are as said.
  Literals of structs and slices: what the machine fills in is what the abstract cells say. For every world in which the parts are as said.
  Stores into variables, and appends: what the machine does is what the abstract store says. For every world in which the temporaries and the store are as said.
-/
import Derived.Below
import Derived.Laws.AppendOwn
import Derived.OwnWalk
import Derived.OrdersIn
import Derived.RangeFuncLeaves
import Derived.RangeFuncIn
import Derived.MapKept
import Derived.Laws.Entries
import Derived.ChangeKeysEq
import Derived.Laws.Slices
import Derived.Laws.Tables
import Derived.Maps.AppendAt
import Derived.Laws.CopyRow
set_option linter.unusedVariables false
namespace Go.Av
open Go.RowKit

/-- Data: no pointer, no function in it. A slice: the cells of an element, and the elements, each a list of cells. -/
inductive D where
  | int (k : IntKind) (n : Int)
  | bool (b : Bool)
  | str (s : ByteArray)
  | sl (sz : Nat) (rows : List (List D))

/-- What a temporary, or a cell of a variable, holds. -/
inductive C where
  | d (x : D)
  /-- a slice to which the holder of the token a may append -/
  | o (sz : Nat) (rows : List (List D)) (a : Nat)
  /-- a slice that a call has just made: as a result alone -/
  | fr (e : TypeId) (sz : Nat) (rows : List (List D))
  /-- the nil slice -/
  | nils (e : TypeId) (sz : Nat)
  /-- a slice of no elements that is not nil -/
  | enn (sz : Nat)
  | ref (n : Nat) (off : Nat)
  | elt (row : List D) (off : Nat)
  | cl (f : FuncId) (first : List C) (caps : List C)
  | csl (sz : Nat) (rows : List (List C))
  | celt (row : List C) (off : Nat)
  | map (n : Nat)
  | yl (n : Nat)
  | nilf
  /-- a map that a call has just made: as a result alone -/
  | frm (ks : List D) (cs : List C)
  | agg (cs : List C)
  | tup (cs : List C)
  | undef

instance : Inhabited D := ⟨.bool false⟩
instance : Inhabited C := ⟨.undef⟩

inductive Opd where
  | t (i : Nat)
  | k (c : C)

inductive AOp where
  | mv (x : Opd)
  | nilsl (e : TypeId) (sz : Nat)
  | pick (c a b : Opd)
  | box (t : TypeId) (agg : Bool) (n : Nat) (x : Opd)
  | alloc (t : TypeId) (zero : List C)
  | build (zero : List C) (parts : List (Nat × Nat × Opd))
  | bsl (e : TypeId) (sz : Nat) (parts : List Opd)
  | load (agg : Bool) (n : Nat) (a : Opd)
  | store (n : Nat) (a x : Opd)
  | fld (off : Nat) (x : Opd)
  | ixa (sz : Nat) (x i : Opd)
  | ixs (x i : Opd)
  | bin (op : BinOp) (x y : Opd)
  | un (op : UnOp) (x : Opd)
  | ext (x : Opd) (i : Nat)
  | mkfn (f : FuncId) (first caps : List Opd)
  | nilck (x : Opd)
  | len (str : Bool) (x : Opd)
  | mx (xs : List Opd)
  | mn (xs : List Opd)
  | app (str : Bool) (e : TypeId) (sz bytes : Nat) (x y : Opd)
  | cvi (k : IntKind) (x : Opd)
  | cvid (x : Opd)
  | cvs (x : Opd)
  | slc (sz : Nat) (x : Opd) (lo hi : Option Opd)
  | sls (x : Opd) (lo hi : Option Opd)
  | call (f : Opd) (args : List Opd)
  | mkmap
  | mset (ki : Bool) (m k x : Opd)
  | look (ki ok : Bool) (z : C) (m k : Opd)
  | rng (x : Opd)
  | nxt (x : Opd)
  | fldv (agg : Bool) (off n : Nat) (x : Opd)
  | ixaa (len sz : Nat) (x i : Opd)
  | ixv (agg : Bool) (len sz : Nat) (x i : Opd)
  /-- what is not read; it must not be come to -/
  | bad
  | isn (neg : Bool) (x : Opd)
  | eqa (neg : Bool) (ks : List Nat) (x y : Opd)
  | eqb (neg : Bool) (x y : Opd)

structure AOper where
  dst : Option Nat
  op : AOp
  guard : Option (Nat × Bool)

structure DOp where
  op : AOper
  bef : List Bool
  slot : Nat

inductive ACode where
  | skip
  | region (draw : Bool) (ops : List AOper)
  | draw (N : Nat) (ops : List DOp)
  | regw (ops : List DOp)
  | seq (a b : ACode)
  | cond (c : Opd) (a b : ACode)
  | block (id : Nat) (c : ACode)
  | loop (c : ACode)
  | scope (c : ACode)
  | rfunc (g : Opd) (ps : List Nat) (asg body : ACode)
  | exit (id : Nat)
  | ret

inductive ARes where
  | tmp (t : Nat)
  | cell (t : Nat) (agg : Bool) (n : Nat)

structure AFunc where
  ntmps : Nat
  results : List ARes
  body : ACode

def oT : Opd → List Nat
  | .t i => [i]
  | .k _ => []
def oT? : Option Opd → List Nat
  | some x => oT x
  | none => []
def oTs (xs : List Opd) : List Nat := xs.flatMap oT

/-- The temporaries that an operation looks at. -/
def opT : AOp → List Nat
  | .mv x => oT x
  | .nilsl _ _ => []
  | .pick c a b => oT c ++ oT a ++ oT b
  | .box _ _ _ x => oT x
  | .alloc _ _ => []
  | .build _ ps => ps.flatMap fun p => oT p.2.2
  | .bsl _ _ ps => oTs ps
  | .load _ _ a => oT a
  | .store _ a x => oT a ++ oT x
  | .fld _ x => oT x
  | .ixa _ x i => oT x ++ oT i
  | .ixs x i => oT x ++ oT i
  | .bin _ x y => oT x ++ oT y
  | .un _ x => oT x
  | .ext x _ => oT x
  | .mkfn _ fs cs => oTs fs ++ oTs cs
  | .nilck x => oT x
  | .len _ x => oT x
  | .mx xs => oTs xs
  | .mn xs => oTs xs
  | .app _ _ _ _ x y => oT x ++ oT y
  | .cvi _ x => oT x
  | .cvid x => oT x
  | .cvs x => oT x
  | .slc _ x lo hi => oT x ++ oT? lo ++ oT? hi
  | .sls x lo hi => oT x ++ oT? lo ++ oT? hi
  | .call f xs => oT f ++ oTs xs
  | .mkmap => []
  | .mset _ m k x => oT m ++ oT k ++ oT x
  | .look _ _ _ m k => oT m ++ oT k
  | .rng x => oT x
  | .nxt x => oT x
  | .fldv _ _ _ x => oT x
  | .ixaa _ _ x i => oT x ++ oT i
  | .ixv _ _ _ x i => oT x ++ oT i
  | .bad => []
  | .isn _ x => oT x
  | .eqa _ _ x y => oT x ++ oT y
  | .eqb _ x y => oT x ++ oT y



/-- Operations that look at temporaries alone. -/
def pureOp : AOp → Bool
  | .mv _ | .pick .. | .build .. | .fld .. | .ixa .. | .ixs .. | .bin .. | .un .. | .ext .. | .mkfn .. | .nilck .. | .len .. | .mx .. | .mn .. | .cvi .. | .cvid .. | .cvs .. | .slc .. | .sls .. | .fldv .. | .ixaa .. | .ixv .. | .isn .. | .eqa .. | .eqb .. => true
  | _ => false

def loadOp : AOp → Bool
  | .load .. | .look .. => true
  | _ => false

/-- Neither minds the other. -/
def mindless (p q : AOp) : Bool := pureOp p || pureOp q || (loadOp p && loadOp q)

/-- Whichever order: as if they came one after the other. -/
def seqOk (qs : List DOp) : Bool := (List.range qs.length).all fun j => match qs[j]? with
  | some q => (List.range j).all fun i => q.bef.getD i false || (match qs[i]? with | some p => mindless p.op.op q.op.op | none => true)
  | none => true

def isLd : AOp → Bool
  | .load .. => true
  | _ => false

/-- Neither minds the other, or one is a load: what it finds is looked at by itself. -/
def mindW (p q : AOp) : Bool := mindless p q || isLd p || isLd q

/-- All that write are in order. -/
def seqOkW (qs : List DOp) : Bool := (List.range qs.length).all fun j => match qs[j]? with
  | some q => (List.range j).all fun i => q.bef.getD i false || (match qs[i]? with | some p => mindW p.op.op q.op.op | none => true)
  | none => true

/-! ### The reading -/

def szT (P : Program) (t : TypeId) : Option Nat := (P.info? t).map (·.size)
def elemT (P : Program) (t : TypeId) : Option TypeId := match P.underlying t with | some (.slice e) => some e | _ => none
def aggT (P : Program) (t : TypeId) : Option Bool := match P.underlying t with
  | some (.struct _) => some true
  | some (.array _ _) => some true
  | some _ => some false
  | none => none

/-- The types of the cells of a type. -/
def leafT (P : Program) : Nat → TypeId → List TypeId
  | 0, t => [t]
  | d + 1, t => match P.underlying t with
    | some (.struct fs) => fs.toList.flatMap fun f => leafT P d f.type
    | some (.array n e) => (List.replicate n (leafT P d e)).flatten
    | _ => [t]

def cOfT (P : Program) (t : TypeId) : Value → C
  | .int k n => .d (.int k n)
  | .bool b => .d (.bool b)
  | .string s => .d (.str s)
  | .slice none 0 0 => .nils ((elemT P t).getD 0) (((elemT P t).bind (szT P)).getD 0)
  | .nilFunc => .nilf
  | _ => .undef

def linkO (P : Program) (t : TypeId) : Operand → Option Opd
  | .tmp i => some (.t i)
  | .const v => match cOfT P t v with
    | .undef => none
    | c => some (.k c)
  | .func f => some (.k (.cl f [] []))
  | .global _ => none

def zeroT (P : Program) (t : TypeId) : Option (List C) :=
  match (P.info? t).bind (·.zero) with
  | some z => let ts := leafT P 20 t
    if ts.length = z.cells.size then some ((ts.zip z.cells.toList).map fun (t, v) => cOfT P t v) else none
  | none => none

def linkOs (P : Program) (ts : List TypeId) : List Operand → Option (List Opd)
  | [] => some []
  | x :: xs => match linkO P (ts.headD 0) x, linkOs P ts.tail xs with
    | some y, some ys => some (y :: ys)
    | _, _ => none

def linkParts (P : Program) (fs : Array Field) : List (Nat × Operand) → Option (List (Nat × Nat × Opd))
  | [] => some []
  | (i, x) :: rest => match fs[i]? with
    | some f => match linkO P f.type x, szT P f.type, linkParts P fs rest with
      | some y, some n, some ys => some ((f.offset, n, y) :: ys)
      | _, _, _ => none
    | none => none

/-- The parts of a slice's literal, in order, one for each element. -/
def linkElems (P : Program) (e : TypeId) : Nat → List (Nat × Operand) → Option (List Opd)
  | _, [] => some []
  | i, (j, x) :: rest => if i = j then match linkO P e x, linkElems P e (i + 1) rest with
      | some y, some ys => some (y :: ys)
      | _, _ => none
    else none

/-- The parts of an array's literal, with their places. -/
def linkElemsA (P : Program) (e : TypeId) : List (Nat × Operand) → Option (List (Nat × Opd))
  | [] => some []
  | (j, x) :: rest => match linkO P e x, linkElemsA P e rest with
    | some y, some ys => some ((j, y) :: ys)
    | _, _ => none

/-- A struct of numbers, strings, bools: their kinds. -/
def flatT (P : Program) : Nat → List Field → Option (List Nat)
  | _, [] => some []
  | i, f :: fs => if f.offset = i ∧ f.name ≠ "_" then
      match P.underlying f.type, flatT P (i + 1) fs with
      | some (.int _), some ks => some (0 :: ks)
      | some .string, some ks => some (1 :: ks)
      | some .bool, some ks => some (2 :: ks)
      | _, _ => none
    else none

/-- Keys of maps: numbers or strings. -/
def keyT (P : Program) (t : TypeId) : Option Bool := match P.underlying t with
  | some (.int _) => some true
  | some .string => some false
  | _ => none

def optO (P : Program) : Option Operand → Option (Option Opd)
  | none => some none
  | some x => (linkO P 0 x).map some

def linkOp (P : Program) (o : Oper) : Option AOp :=
  match o.op with
  | .move x | .assign x => match x with
    | .const (.slice none 0 0) => match elemT P o.type with
      | some e => match szT P e with
        | some sz => some (.nilsl e sz)
        | none => none
      | none => none
    | .const (.map none) => some (.mv (.k .undef))
    | x => (linkO P o.type x).map .mv
  | .pick c a b => match linkO P 0 c, linkO P o.type a, linkO P o.type b with
    | some c, some a, some b => some (.pick c a b)
    | _, _, _ => none
  | .alloc t => (zeroT P t).map (.alloc t)
  | .box t x => match aggT P t, szT P t, linkO P t x with
    | some g, some n, some x => some (.box t g n x)
    | _, _, _ => none
  | .build t parts => match P.underlying t with
    | some (.struct fs) => match zeroT P t, linkParts P fs parts.toList with
      | some z, some ps => if (fs.toList.mapM (fun f => (P.info? f.type).map fun i => (f.offset, i.size))).isSome then some (.build z ps) else none
      | _, _ => none
    | some (.array _ e) => match zeroT P t, szT P e, linkElemsA P e parts.toList with
      | some z, some n, some xs => some (.build z (xs.map fun x => (x.1 * n, n, x.2)))
      | _, _, _ => none
    | _ => none
  | .buildSlice t len parts => match elemT P t with
    | some e => match szT P e, linkElems P e 0 parts.toList, (P.info? e).bind (·.zero) with
      | some sz, some xs, some z => if xs.length = len ∧ z.cells.size = sz ∧ 0 < sz ∧ len * sz ≤ 16777216 then some (.bsl e sz xs) else none
      | _, _, _ => none
    | none => none
  | .load t a => match aggT P t, szT P t, linkO P 0 a with
    | some g, some n, some a => if g = true ∨ n = 1 then some (.load g n a) else none
    | _, _, _ => none
  | .store t a x => match szT P t, linkO P 0 a, linkO P t x with
    | some n, some a, some x => some (.store n a x)
    | _, _, _ => none
  | .fieldAddr s x i => match P.underlying s with
    | some (.struct fs) => match fs[i]? with
      | some f => match linkO P 0 x, szT P f.type with
        | some x, some n => if n = 0 then none else some (.fld f.offset x)
        | _, _ => none
      | none => none
    | _ => none
  | .indexAddr t x i => match elemT P t with
    | some e => match szT P e, linkO P t x, linkO P 3 i with
      | some sz, some x, some i => some (.ixa sz x i)
      | _, _, _ => none
    | none => match P.underlying t with
      | some (.array len e) => match szT P e, linkO P 0 x, linkO P 3 i with
        | some sz, some x, some i => some (.ixaa len sz x i)
        | _, _, _ => none
      | _ => none
  | .index t x i => match P.underlying t with
    | some (.array len e) => match aggT P e, szT P e, linkO P t x, linkO P 3 i with
      | some g, some sz, some x, some i => if g = true ∨ sz = 1 then some (.ixv g len sz x i) else none
      | _, _, _, _ => none
    | some .string => match linkO P t x, linkO P 3 i with
      | some x, some i => some (.ixs x i)
      | _, _ => none
    | _ => none
  | .binOp op t x y _ => match P.underlying t with
    | some (.slice _) => match y with
      | .const (.slice none 0 0) => match op with
        | .eql => (linkO P t x).map (.isn false)
        | .neq => (linkO P t x).map (.isn true)
        | _ => none
      | _ => none
    | some .bool => match linkO P t x, linkO P t y with
      | some x, some y => match op with
        | .eql => some (.eqb false x y)
        | .neq => some (.eqb true x y)
        | _ => none
      | _, _ => none
    | some (.struct fs) => if P.stoodInHeld t = false ∧ P.eqGuardType P.depth t = false then
        match flatT P 0 fs.toList, linkO P t x, linkO P t y with
        | some ks, some x, some y => match op with
          | .eql => some (.eqa false ks x y)
          | .neq => some (.eqa true ks x y)
          | _ => none
        | _, _, _ => none
      else none
    | _ => match linkO P t x, linkO P t y with
      | some x, some y => some (.bin op x y)
      | _, _ => none
  | .unOp op t x => (linkO P t x).map (.un op)
  | .extract x i => (linkO P 0 x).map (.ext · i)
  | .field t x i => match P.underlying t with
    | some (.struct fs) => match fs[i]? with
      | some f => match aggT P f.type, szT P f.type, linkO P t x with
        | some g, some n, some x => if g = true ∨ n = 1 then some (.fldv g f.offset n x) else none
        | _, _, _ => none
      | none => none
    | _ => none
  | .makeMap t none => match P.underlying t with
    | some (.map _ _) => some .mkmap
    | _ => none
  | .insert t m k x | .mapUpdate t m k x => match P.underlying t with
    | some (.map kt et) => match keyT P kt, linkO P t m, linkO P kt k, linkO P et x with
      | some ki, some m, some k, some x => some (.mset ki m k x)
      | _, _, _, _ => none
    | _ => none
  | .lookup t m k ok => match P.underlying t with
    | some (.map kt et) => match keyT P kt, linkO P t m, linkO P kt k, (P.info? et).bind (·.zero) with
      | some ki, some m, some k, some z => some (.look ki ok (cOfT P et z) m k)
      | _, _, _, _ => none
    | _ => none
  | .range t x => match P.underlying t with
    | some .string => (linkO P t x).map .rng
    | _ => none
  | .next x true => (linkO P 0 x).map .nxt
  | .panic _ | .makeInterface .. | .typeAssert .. | .go _ | .send .. | .recv .. | .select .. | .entry _ | .next _ false | .makeSlice .. => some .bad
  | .makeFunc (.func f) first caps => match linkOs P [] first.toList, linkOs P [] caps.toList with
    | some fs, some cs => some (.mkfn f fs cs)
    | _, _ => none
  | .nilCheck x => (linkO P 0 x).map .nilck
  | .convert s d x => match P.underlying s, P.underlying d, linkO P s x with
    | some (.int _), some (.int k), some x => some (.cvi k x)
    | some .string, some .string, some x => some (.cvid x)
    | some (.slice e), some .string, some x => match P.underlying e, szT P e with
      | some (.int .u8), some 1 => some (.cvs x)
      | _, _ => none
    | _, _, _ => none
  | .slice t x lo hi none => match P.underlying t with
    | some (.slice e) => match szT P e, linkO P t x, optO P lo, optO P hi with
      | some sz, some x, some lo, some hi => some (.slc sz x lo hi)
      | _, _, _, _ => none
    | some .string => match linkO P t x, optO P lo, optO P hi with
      | some x, some lo, some hi => some (.sls x lo hi)
      | _, _, _ => none
    | _ => none
  | .call c => match c.callee with
    | .builtin .len => match c.args.toList, c.argTypes.toList with
      | [x], [t] => match P.underlying t with
        | some .string => (linkO P t x).map (.len true)
        | some (.slice _) => (linkO P t x).map (.len false)
        | _ => none
      | _, _ => none
    | .builtin .max => (linkOs P c.argTypes.toList c.args.toList).map .mx
    | .builtin .min => (linkOs P c.argTypes.toList c.args.toList).map .mn
    | .builtin .append => match c.args.toList, c.argTypes.toList with
      | [x, y], [t, t'] => match P.underlying t with
          | some (.slice e) => match P.info? e, linkO P t x, linkO P t' y with
            | some i, some x, some y => match i.zero with
              | some z => if z.cells.size = i.size then (if t = t' then some (.app false e i.size i.bytes x y) else match P.underlying t' with
                  | some .string => if i.size = 1 then some (.app true e i.size i.bytes x y) else none
                  | _ => none) else none
              | none => none
            | _, _, _ => none
          | _ => none
      | _, _ => none
    | .builtin .cap => some .bad
    | .builtin .copy => some .bad
    | .value f => match linkO P 0 f, linkOs P c.argTypes.toList c.args.toList with
      | some f, some xs => some (.call f xs)
      | _, _ => none
    | _ => none
  | _ => none

def linkOper (P : Program) (ops : Array Oper) (o : Oper) : Option AOper :=
  match linkOp P o with
  | some p => match o.guard with
    | none => some ⟨o.dst, p, none⟩
    | some (j, want) => match (ops[j]?).bind (·.dst) with
      | some t => some ⟨o.dst, p, some (t, want)⟩
      | none => none
  | none => none

def linkOpers (P : Program) (ops : Array Oper) : List Oper → Option (List AOper)
  | [] => some []
  | o :: os => match linkOper P ops o, linkOpers P ops os with
    | some p, some ps => some (p :: ps)
    | _, _ => none

/-- What an operation waits for. -/
def aft (o : Oper) : List Nat := (o.after.toList.filter fun e => Region.binds .any e).map (·.on)

def lookT (q : AOper) : List Nat := opT q.op ++ (match q.guard with | some (g, _) => [g] | none => [])

def befG (qs : List DOp) (i j : Nat) : Bool := ((qs[i]?).map fun q => q.bef.getD j false).getD false

/-- One operation in its region. -/
def dOk1 (as : List (List Nat)) (qs : List DOp) (N : Nat) (i : Nat) (q : DOp) : Bool :=
  q.bef.length == i && decide (q.slot < N) &&
  (match as[i]? with
   | some a => a.all (fun e => decide (e < i) && q.bef.getD e false) && (List.range i).all (fun k => !q.bef.getD k false || a.contains k || a.any fun e => befG qs e k)
   | none => false) &&
  (List.range qs.length).all (fun j => match qs[j]? with
    | some r => i == j || ((match r.op.dst with
        | some t => (!(lookT q.op).contains t || (if j < i then q.bef.getD j false else r.bef.getD i false)) && (match q.op.dst with | some t' => t != t' | none => true)
        | none => true))
    | none => true)

def dOk (as : List (List Nat)) (qs : List DOp) (N : Nat) : Bool :=
  as.length == qs.length && (List.range qs.length).all fun i => match qs[i]? with | some q => dOk1 as qs N i q | none => true


/-- Operations that may make something. -/
def slotOp : AOp → Bool
  | .nilsl .. | .box .. | .alloc .. | .bsl .. | .app .. | .call .. | .mkmap | .rng .. => true
  | _ => false

def befs : List (List Nat) → List (List Bool) → List (List Bool)
  | [], acc => acc
  | a :: as, acc => befs as (acc ++ [(List.range acc.length).map fun k => a.contains k || a.any fun e => (acc.getD e []).getD k false])

def mkD : List AOper → List (List Bool) → Nat → List DOp
  | q :: qs, b :: bs, s => if slotOp q.op then ⟨q, b, s⟩ :: mkD qs bs (s + 1) else ⟨q, b, 0⟩ :: mkD qs bs s
  | _, _, _ => []

def nSlots (qs : List AOper) : Nat := max 1 (qs.filter fun q => slotOp q.op).length

/-- A region whose order is open. -/
def linkDraw (ops : Array Oper) (qs : List AOper) : Option ACode :=
  let ds := mkD qs (befs (ops.toList.map aft) []) 0
  if dOk (ops.toList.map aft) ds (nSlots qs) && ds.length == qs.length then (if seqOk ds then some (.region true qs) else if seqOkW ds then some (.regw ds) else some (.draw (nSlots qs) ds)) else none

def linkC (P : Program) : Code → Option ACode
  | .skip => some .skip
  | .region _ ops draw => if draw then (linkOpers P ops ops.toList).bind (linkDraw ops) else (linkOpers P ops ops.toList).map (.region false)
  | .seq a b => match linkC P a, linkC P b with
    | some x, some y => some (.seq x y)
    | _, _ => none
  | .cond c a b => match linkO P 0 c, linkC P a, linkC P b with
    | some c, some x, some y => some (.cond c x y)
    | _, _, _ => none
  | .block id c => (linkC P c).map (.block id)
  | .loop c => (linkC P c).map .loop
  | .scope c => (linkC P c).map .scope
  | .rangeFunc g ps asg body => match linkO P 0 g, linkC P asg, linkC P body with
    | some g, some a, some b => some (.rfunc g ps.toList a b)
    | _, _, _ => none
  | .exit id => some (.exit id)
  | .label _ => some .skip
  | .ret => some .ret
  | _ => none

def linkR (P : Program) : List ResultVar → Option (List ARes)
  | [] => some []
  | .tmp t :: rest => (linkR P rest).map (.tmp t :: ·)
  | .cell a t :: rest => match aggT P t, szT P t, linkR P rest with
    | some g, some n, some rs => if g = true ∨ n = 1 then some (.cell a g n :: rs) else none
    | _, _, _ => none

def linkF (P : Program) (fn : Func) : Option AFunc :=
  match fn.body with
  | some c => match linkC P c, linkR P fn.results.toList with
    | some b, some rs => some ⟨fn.ntmps, rs, b⟩
    | _, _ => none
  | none => none


/-- Code, with what is forgotten at a loop: what lives at its head, what lives behind it. -/
inductive ECode where
  | skip
  | region (draw : Bool) (ops : List AOper)
  | draw (N : Nat) (ops : List DOp)
  | regw (ops : List DOp)
  | seq (a b : ECode)
  | cond (c : Opd) (a b : ECode)
  | block (id : Nat) (c : ECode)
  | loop (live lout : List Bool) (c : ECode)
  | scope (c : ECode)
  | exit (id : Nat)
  | ret
  | rfunc (live : List Bool) (g : Opd) (ps : List Nat) (asg body : ECode)

def ECode.strip : ECode → ACode
  | .skip => .skip
  | .region d ops => .region d ops
  | .draw N ops => .draw N ops
  | .regw ops => .regw ops
  | .seq a b => .seq a.strip b.strip
  | .cond c a b => .cond c a.strip b.strip
  | .block id c => .block id c.strip
  | .loop _ _ c => .loop c.strip
  | .scope c => .scope c.strip
  | .exit id => .exit id
  | .ret => .ret
  | .rfunc _ g ps asg body => .rfunc g ps asg.strip body.strip

structure EFunc where
  ntmps : Nat
  results : List ARes
  body : ECode

def EFunc.strip (f : EFunc) : AFunc := ⟨f.ntmps, f.results, f.body.strip⟩

/-- What is known beside the world: how many cells of a block are fixed; the block of a name; the slice and the length of a token. -/
structure G where
  im : Nat → Nat
  mu : Nat → Nat
  tk : Nat → Value
  len : Nat → Nat

def at2 {α : Type} (rows : List (List α)) (i j : Nat) : Option α := (rows[i]?).bind (·[j]?)

inductive RepD (w : World) (im : Nat → Nat) : D → Value → Prop
  | int (k : IntKind) (n : Int) : RepD w im (.int k n) (.int k n)
  | bool (b : Bool) : RepD w im (.bool b) (.bool b)
  | str (s : ByteArray) : RepD w im (.str s) (.string s)
  | sl0 (sz : Nat) (a : Option Addr) (cap : Nat) (h : a = none → cap = 0) : RepD w im (.sl sz []) (.slice a 0 cap)
  | sl (sz : Nat) (rows : List (List D)) (g o cap : Nat) (val : Nat → Nat → Value) (hcap : rows.length ≤ cap)
      (hlen : ∀ (i : Nat) (row : List _), rows[i]? = some row → row.length = sz)
      (hcell : ∀ i j d, at2 rows i j = some d → w.cell? ⟨g, o + i * sz + j, none⟩ = some (val i j) ∧ o + i * sz + j < im g)
      (hrep : ∀ i j d, at2 rows i j = some d → RepD w im d (val i j)) :
      RepD w im (.sl sz rows) (.slice (some ⟨g, o, none⟩) rows.length cap)

/-- The fixed cells stay. -/
structure ExtD (w : World) (im : Nat → Nat) (w' : World) (im' : Nat → Nat) : Prop where
  cell : ∀ g i, i < im g → w'.cell? ⟨g, i, none⟩ = w.cell? ⟨g, i, none⟩
  im : ∀ g, im g ≤ im' g

theorem ExtD.refl (w : World) (im : Nat → Nat) : ExtD w im w im := ⟨fun _ _ _ => rfl, fun _ => Nat.le_refl _⟩
theorem ExtD.trans {w w' w'' : World} {im im' im'' : Nat → Nat} (h : ExtD w im w' im') (k : ExtD w' im' w'' im'') : ExtD w im w'' im'' :=
  ⟨fun g i hi => (k.cell g i (Nat.lt_of_lt_of_le hi (h.im g))).trans (h.cell g i hi), fun g => Nat.le_trans (h.im g) (k.im g)⟩

theorem RepD.ext {w w' : World} {im im' : Nat → Nat} (he : ExtD w im w' im') {x : D} {v : Value} (h : RepD w im x v) : RepD w' im' x v := by
  induction h with
  | int k n => exact .int k n
  | bool b => exact .bool b
  | str s => exact .str s
  | sl0 sz a cap h => exact .sl0 sz a cap h
  | sl sz rows g o cap val hcap hlen hcell hrep ih =>
    refine .sl sz rows g o cap val hcap hlen (fun i j d hd => ?_) ih
    obtain ⟨h1, h2⟩ := hcell i j d hd
    exact ⟨(he.cell _ _ h2).trans h1, Nat.lt_of_lt_of_le h2 (he.im g)⟩

inductive RepC (w : World) (γ : G) (A : Nat → Prop) : C → Value → Prop
  | d {x : D} {v : Value} (h : RepD w γ.im x v) : RepC w γ A (.d x) v
  | o {sz : Nat} {rows : List (List D)} {a : Nat} {v : Value} (h : RepD w γ.im (.sl sz rows) v) (ha : A a) (hl : rows.length ≤ γ.len a)
      (hv : rows.length = γ.len a → v = γ.tk a) : RepC w γ A (.o sz rows a) v
  | nils (e : TypeId) (sz : Nat) : RepC w γ A (.nils e sz) (.slice none 0 0)
  | enn (sz : Nat) (p : Addr) (cap : Nat) : RepC w γ A (.enn sz) (.slice (some p) 0 cap)
  | ref {n off : Nat} (hn : A n) : RepC w γ A (.ref n off) (.pointer (some ⟨γ.mu n, off, none⟩))
  | elt {row : List D} {off g o : Nat} (h : ∀ (j : Nat) (d : D), row[j]? = some d → ∃ u, w.cell? ⟨g, o + j, none⟩ = some u ∧ o + j < γ.im g ∧ RepD w γ.im d u) :
      RepC w γ A (.elt row off) (.pointer (some ⟨g, o + off, none⟩))
  | cl {f : FuncId} {first caps : List C} (fs cs : Array Value) (hf : fs.size = first.length) (hc : cs.size = caps.length)
      (h1 : ∀ (i : Nat) (c : C), first[i]? = some c → RepC w γ A c (fs.getD i undef)) (h2 : ∀ (i : Nat) (c : C), caps[i]? = some c → RepC w γ A c (cs.getD i undef)) :
      RepC w γ A (.cl f first caps) (.func (.func f) fs cs)
  | csl {sz : Nat} {rows : List (List C)} {g o cap : Nat} (val : Nat → Nat → Value)
      (hlen : ∀ (i : Nat) (row : List _), rows[i]? = some row → row.length = sz)
      (hcell : ∀ i j c, at2 rows i j = some c → w.cell? ⟨g, o + i * sz + j, none⟩ = some (val i j) ∧ o + i * sz + j < γ.im g)
      (hrep : ∀ i j c, at2 rows i j = some c → RepC w γ A c (val i j)) :
      RepC w γ A (.csl sz rows) (.slice (some ⟨g, o, none⟩) rows.length cap)
  | celt {row : List C} {off g o : Nat} (val : Nat → Value) (hcell : ∀ (j : Nat) (c : C), row[j]? = some c → w.cell? ⟨g, o + j, none⟩ = some (val j) ∧ o + j < γ.im g)
      (hrep : ∀ (j : Nat) (c : C), row[j]? = some c → RepC w γ A c (val j)) :
      RepC w γ A (.celt row off) (.pointer (some ⟨g, o + off, none⟩))
  | map {n : Nat} (hn : A n) : RepC w γ A (.map n) (.map (some (γ.mu n)))
  | yl {n : Nat} (hn : A n) : RepC w γ A (.yl n) (.func (.yield (γ.mu n)) #[] #[])
  | nilf : RepC w γ A .nilf .nilFunc
  | agg {cs : List C} (vs : Array Value) (hs : vs.size = cs.length) (h : ∀ (i : Nat) (c : C), cs[i]? = some c → RepC w γ A c (vs.getD i undef)) : RepC w γ A (.agg cs) (.agg vs)
  | tup {cs : List C} (vs : Array Value) (hs : vs.size = cs.length) (h : ∀ (i : Nat) (c : C), cs[i]? = some c → RepC w γ A c (vs.getD i undef)) : RepC w γ A (.tup cs) (.tuple vs)
  | undef (v : Value) : RepC w γ A .undef v

/-- What a step keeps, for what is told with the names of A. -/
structure Ext (A : Nat → Prop) (w : World) (γ : G) (w' : World) (γ' : G) : Prop where
  d : ExtD w γ.im w' γ'.im
  mu : ∀ n, A n → γ'.mu n = γ.mu n
  len : ∀ a, A a → γ.len a ≤ γ'.len a
  tk : ∀ a, A a → γ'.len a = γ.len a → γ'.tk a = γ.tk a

theorem Ext.refl (A : Nat → Prop) (w : World) (γ : G) : Ext A w γ w γ := ⟨.refl _ _, fun _ _ => rfl, fun _ _ => Nat.le_refl _, fun _ _ _ => rfl⟩
theorem Ext.trans {A : Nat → Prop} {w w' w'' : World} {γ γ' γ'' : G} (h : Ext A w γ w' γ') (k : Ext A w' γ' w'' γ'') : Ext A w γ w'' γ'' :=
  ⟨h.d.trans k.d, fun n hn => (k.mu n hn).trans (h.mu n hn), fun a ha => Nat.le_trans (h.len a ha) (k.len a ha), fun a ha e => by
    have h1 := h.len a ha
    have h2 := k.len a ha
    exact (k.tk a ha (by omega)).trans (h.tk a ha (by omega))⟩
theorem Ext.mono {A A' : Nat → Prop} {w w' : World} {γ γ' : G} (h : Ext A w γ w' γ') (hA : ∀ n, A' n → A n) : Ext A' w γ w' γ' :=
  ⟨h.d, fun n hn => h.mu n (hA n hn), fun n hn => h.len n (hA n hn), fun n hn => h.tk n (hA n hn)⟩

theorem RepC.ext {A : Nat → Prop} {w w' : World} {γ γ' : G} (he : Ext A w γ w' γ') {c : C} {v : Value} (h : RepC w γ A c v) : RepC w' γ' A c v := by
  induction h with
  | d h => exact .d (h.ext he.d)
  | o h ha hl hv =>
    refine .o (h.ext he.d) ha (Nat.le_trans hl (he.len _ ha)) (fun e => ?_)
    have h1 := he.len _ ha
    rw [he.tk _ ha (by omega)]
    exact hv (by omega)
  | nils e sz => exact .nils e sz
  | enn sz p cap => exact .enn sz p cap
  | ref hn => rw [← he.mu _ hn]; exact .ref hn
  | elt h =>
    refine .elt (fun j d hd => ?_)
    obtain ⟨u, h1, h2, h3⟩ := h j d hd
    exact ⟨u, (he.d.cell _ _ h2).trans h1, Nat.lt_of_lt_of_le h2 (he.d.im _), h3.ext he.d⟩
  | cl fs cs hf hc h1 h2 ih1 ih2 => exact .cl fs cs hf hc ih1 ih2
  | csl val hlen hcell hrep ih =>
    refine .csl val hlen (fun i j c hc => ?_) ih
    obtain ⟨h1, h2⟩ := hcell i j c hc
    exact ⟨(he.d.cell _ _ h2).trans h1, Nat.lt_of_lt_of_le h2 (he.d.im _)⟩
  | celt val hcell hrep ih =>
    refine .celt val (fun j c hc => ?_) ih
    obtain ⟨h1, h2⟩ := hcell j c hc
    exact ⟨(he.d.cell _ _ h2).trans h1, Nat.lt_of_lt_of_le h2 (he.d.im _)⟩
  | map hn => rw [← he.mu _ hn]; exact .map hn
  | yl hn => rw [← he.mu _ hn]; exact .yl hn
  | nilf => exact .nilf
  | agg vs hs h ih => exact .agg vs hs ih
  | tup vs hs h ih => exact .tup vs hs ih
  | undef v => exact .undef v

theorem RepC.mono {A A' : Nat → Prop} (hA : ∀ n, A n → A' n) {w : World} {γ : G} {c : C} {v : Value} (h : RepC w γ A c v) : RepC w γ A' c v := by
  induction h with
  | d h => exact .d h
  | o h ha hl hv => exact .o h (hA _ ha) hl hv
  | nils e sz => exact .nils e sz
  | enn sz p cap => exact .enn sz p cap
  | ref hn => exact .ref (hA _ hn)
  | elt h => exact .elt h
  | cl fs cs hf hc h1 h2 ih1 ih2 => exact .cl fs cs hf hc ih1 ih2
  | csl val hlen hcell hrep ih => exact .csl val hlen hcell ih
  | celt val hcell hrep ih => exact .celt val hcell ih
  | map hn => exact .map (hA _ hn)
  | yl hn => exact .yl (hA _ hn)
  | nilf => exact .nilf
  | agg vs hs h ih => exact .agg vs hs ih
  | tup vs hs h ih => exact .tup vs hs ih
  | undef v => exact .undef v

/-- A variable in memory; a map; a token: the type and the size of an element, and the length. -/
inductive JEx where
  | ret
  | exit (id : Nat)

def JEx.code : JEx → Code
  | .ret => .ret
  | .exit id => .exit id

/-- How a range over a function stands. -/
inductive LSt where
  | ready
  | busy
  | done (x : JEx)
  | over

inductive Ob where
  | box (t : TypeId) (cs : List C)
  | map (es : List (D × C))
  | tok (e : TypeId) (sz : Nat) (len : Nat)
  | loop (T : List C) (ps : List Nat) (asg body : ECode) (st : LSt)
  | siter (s : ByteArray) (pos : Nat)
  /-- the token of a nil slice -/
  | ntok (e : TypeId) (sz : Nat)

abbrev St := List (Option Ob)

/-- The block of a slice's array. -/
def blkOf : Value → Option Nat
  | .slice (some a) _ _ => some a.block
  | _ => none

/-- The block that an object of a name has. -/
def ownBlk (γ : G) (n : Nat) : Option Ob → Option Nat
  | some (.box _ _) => some (γ.mu n)
  | some (.map _) => some (γ.mu n)
  | some (.loop ..) => some (γ.mu n)
  | some (.siter ..) => some (γ.mu n)
  | some (.tok _ _ _) => blkOf (γ.tk n)
  | some (.ntok _ _) => blkOf (γ.tk n)
  | none => none

/-- The names that have an object. -/
def Fil (σ : St) (n : Nat) : Prop := ∃ b, σ[n]? = some (some b)

/-- The names of A below n. -/
def Low (A : Nat → Prop) (n m : Nat) : Prop := m < n ∧ A m

/-- The program that the code of rounds is of. -/
class TheProg where
  prog : Program

variable [TheProg]

def InvOb (w : World) (γ : G) (A : Nat → Prop) (n : Nat) : Ob → Prop
  | .box t cs => γ.im (γ.mu n) = 0 ∧ ∃ vs : Array Value, w.heap[γ.mu n]? = some (.cells vs t (0, 0)) ∧ vs.size = cs.length ∧
      (∀ (i : Nat) (c : C), cs[i]? = some c → RepC w γ (Low A n) c (vs.getD i undef)) ∧ (∀ i, i < vs.size → (vs.getD i undef).oneCell' = true)
  | .map es => γ.im (γ.mu n) = 0 ∧ ∃ (ms : Array MapEntry) (ck : Nat), w.heap[γ.mu n]? = some (.map ms ck) ∧ ms.size = es.length ∧ MapKept.Stamped ms ck ∧
      (∀ (i : Nat) (k : D) (c : C), es[i]? = some (k, c) → RepD w γ.im k ((ms.getD i default).key) ∧ RepC w γ (Low A n) c ((ms.getD i default).val))
  | .tok e sz len => γ.len n = len ∧ ((γ.tk n = .slice none 0 0 ∧ len = 0) ∨
      ∃ g cap cur, γ.tk n = .slice (some ⟨g, 0, none⟩) len cap ∧ w.heap[g]? = some (.cells cur e (0, 0)) ∧ len ≤ cap ∧ cap ≤ maxLen ∧ cur.size = cap * sz ∧ γ.im g = len * sz)

  | .loop T ps asg body st => γ.im (γ.mu n) = 0 ∧ ∃ r : Loop, w.heap[γ.mu n]? = some (.loop r) ∧ r.params.toList = ps ∧ linkC TheProg.prog r.assign = some asg.strip ∧ linkC TheProg.prog r.body = some body.strip ∧
      r.tmps.size = T.length ∧ (∀ (i : Nat) (c : C), T[i]? = some c → RepC w γ (Low A n) c (r.tmps.getD i undef)) ∧
      (match st with
       | .ready => r.state = .ready ∧ r.pending = none
       | .busy => r.state = .busy
       | .done x => r.state = .done ∧ r.pending = some x.code
       | .over => True)
  | .ntok e sz => γ.len n = 0 ∧ γ.tk n = .slice none 0 0
  | .siter s pos => γ.im (γ.mu n) = 0 ∧ w.heap[γ.mu n]? = some (.stringIter s pos)

structure Inv (w : World) (γ : G) (σ : St) : Prop where
  ob : ∀ (n : Nat) (b : Ob), σ[n]? = some (some b) → InvOb w γ (Fil σ) n b
  apart : ∀ (n m : Nat) (b c : Ob) (g : Nat), σ[n]? = some (some b) → σ[m]? = some (some c) → ownBlk γ n (some b) = some g → ownBlk γ m (some c) = some g → n = m
  lt : ∀ g, w.heap.size ≤ g → γ.im g = 0

end Go.Av

set_option linter.unusedVariables false
namespace Go.Av
open Go.RowKit

/-! ### Small reckoning -/

def evO (T : List C) : Opd → C
  | .t i => T.getD i .undef
  | .k c => c

/-- One cell. -/
def C.one : C → Bool
  | .agg _ | .tup _ | .undef | .fr _ _ _ | .frm _ _ => false
  | _ => true

def toD : C → Option D
  | .d x => some x
  | .o sz rows _ => some (.sl sz rows)
  | .nils _ sz => some (.sl sz [])
  | .enn sz => some (.sl sz [])
  | _ => none

def toDs : List C → Option (List D)
  | [] => some []
  | c :: cs => match toD c, toDs cs with
    | some x, some xs => some (x :: xs)
    | _, _ => none

def toDss : List (List C) → Option (List (List D))
  | [] => some []
  | c :: cs => match toDs c, toDss cs with
    | some x, some xs => some (x :: xs)
    | _, _ => none

/-- The cells of a value that takes n cells. -/
def cellsOf (agg : Bool) (n : Nat) : C → Option (List C)
  | .agg cs => if agg && cs.length == n && cs.all C.one then some cs else none
  | c => if !agg && n == 1 && c.one then some [c] else none

def aggOf (agg : Bool) (cs : List C) : Option C :=
  if agg then some (.agg cs) else match cs with | [c] => some c | _ => none

mutual
def C.lt (s : Nat) : C → Bool
  | .o _ _ a => decide (a < s)
  | .ref n _ => decide (n < s)
  | .cl _ fs cs => C.ltL s fs && C.ltL s cs
  | .csl _ rows => C.ltLL s rows
  | .celt row _ => C.ltL s row
  | .map n => decide (n < s)
  | .yl n => decide (n < s)
  | .agg cs => C.ltL s cs
  | .tup cs => C.ltL s cs
  | _ => true
def C.ltL (s : Nat) : List C → Bool
  | [] => true
  | c :: cs => C.lt s c && C.ltL s cs
def C.ltLL (s : Nat) : List (List C) → Bool
  | [] => true
  | c :: cs => C.ltL s c && C.ltLL s cs
end

def fillC : List C → List (Nat × List C) → Option (List C)
  | cs, [] => some cs
  | cs, (off, xs) :: rest => if off + xs.length ≤ cs.length then fillC (cs.take off ++ xs ++ cs.drop (off + xs.length)) rest else none

def binInt (op : BinOp) (k : IntKind) (a b : Int) : Option D :=
  match op with
  | .add => some (.int k (k.wrap (a + b)))
  | .sub => some (.int k (k.wrap (a - b)))
  | .mul => some (.int k (k.wrap (a * b)))
  | .quo => if b = 0 then none else some (.int k (k.wrap (a.tdiv b)))
  | .rem => if b = 0 then none else some (.int k (a.tmod b))
  | .and => some (.int k (k.wrap (BitVec.ofInt k.bits a &&& BitVec.ofInt k.bits b).toNat))
  | .or => some (.int k (k.wrap (BitVec.ofInt k.bits a ||| BitVec.ofInt k.bits b).toNat))
  | .xor => some (.int k (k.wrap (BitVec.ofInt k.bits a ^^^ BitVec.ofInt k.bits b).toNat))
  | .andNot => some (.int k (k.wrap (BitVec.ofInt k.bits a &&& ~~~BitVec.ofInt k.bits b).toNat))
  | .eql => some (.bool (a == b))
  | .neq => some (.bool (a != b))
  | .lss => some (.bool (decide (a < b)))
  | .leq => some (.bool (decide (a ≤ b)))
  | .gtr => some (.bool (decide (a > b)))
  | .geq => some (.bool (decide (a ≥ b)))
  | _ => none

def strLt (a b : ByteArray) : Bool := Op.bytesLess a.data.toList b.data.toList
def strEq (a b : ByteArray) : Bool := a.data.toList == b.data.toList

def binStr (op : BinOp) (a b : ByteArray) : Option D :=
  match op with
  | .add => if ((a.size + b.size : Nat) : Int) > IntKind.i64.max then none else some (.str (a ++ b))
  | .eql => some (.bool (strEq a b))
  | .neq => some (.bool (!strEq a b))
  | .lss => some (.bool (strLt a b))
  | .leq => some (.bool (strLt a b || strEq a b))
  | .gtr => some (.bool (!(strLt a b || strEq a b)))
  | .geq => some (.bool (!strLt a b))
  | _ => none

def binC (op : BinOp) : C → C → Option C
  | .d (.int k a), .d (.int k' b) =>
    match op with
    | .shl => if b < 0 then none else some (.d (.int k (k.wrap (a * 2 ^ (min b.toNat k.bits)))))
    | .shr => if b < 0 then none else some (.d (.int k (a.fdiv (2 ^ (min b.toNat k.bits)))))
    | _ => if k = k' then (binInt op k a b).map .d else none
  | .d (.str a), .d (.str b) => (binStr op a b).map .d
  | _, _ => none

def unC (op : UnOp) : C → Option C
  | .d (.int k n) => match op with
    | .neg => some (.d (.int k (k.wrap (0 - n))))
    | _ => none
  | .d (.bool b) => match op with
    | .not => some (.d (.bool (!b)))
    | _ => none
  | _ => none

def maxI (l : List C) : Option C :=
  match l with
  | .d (.int k x) :: rest => rest.foldlM (fun c y => match c, y with
    | .d (.int k x), .d (.int k' y) => if k = k' then some (.d (.int k (if y > x then y else x))) else none
    | _, _ => none) (.d (.int k x))
  | _ => none
def minI (l : List C) : Option C :=
  match l with
  | .d (.int k x) :: rest => rest.foldlM (fun c y => match c, y with
    | .d (.int k x), .d (.int k' y) => if k = k' then some (.d (.int k (if y < x then y else x))) else none
    | _, _ => none) (.d (.int k x))
  | _ => none

/-- The rows of a slice that holds data. -/
def rowsOf (sz : Nat) : C → Option (List (List D))
  | .d (.sl s rows) => if s = sz then some rows else none
  | .o s rows _ => if s = sz then some rows else none
  | .nils _ _ => some []
  | .enn _ => some []
  | _ => none

def lenC : Bool → C → Option Int
  | false, .d (.sl _ rows) => some rows.length
  | false, .o _ rows _ => some rows.length
  | false, .csl _ rows => some rows.length
  | false, .nils _ _ => some 0
  | false, .enn _ => some 0
  | true, .d (.str s) => some s.size
  | _, _ => none

def natOf : C → Option Int
  | .d (.int _ n) => some n
  | _ => none

/-- A bound of a cut. -/
def boundN (T : List C) (d : Int) : Option Opd → Option Int
  | none => some d
  | some x => natOf (evO T x)

def loadC (σ : St) (agg : Bool) (n : Nat) : C → Option C
  | .ref m off => match σ[m]? with
    | some (some (.box _ cs)) => if off + n ≤ cs.length then aggOf agg ((cs.drop off).take n) else none
    | _ => none
  | .elt row off => if off + n ≤ row.length then aggOf agg (((row.drop off).take n).map .d) else none
  | .celt row off => if off + n ≤ row.length then aggOf agg ((row.drop off).take n) else none
  | _ => none

def ixC (sz : Nat) (x : C) (i : Int) : Option C :=
  match x with
  | .d (.sl s rows) => if s = sz ∧ 0 ≤ i ∧ i < rows.length then some (.elt (rows.getD i.toNat []) 0) else none
  | .o s rows _ => if s = sz ∧ 0 ≤ i ∧ i < rows.length then some (.elt (rows.getD i.toNat []) 0) else none
  | .csl s rows => if s = sz ∧ 0 ≤ i ∧ i < rows.length then some (.celt (rows.getD i.toNat []) 0) else none
  | _ => none

/-- A string's bytes, as rows. -/
def rowsS (s : ByteArray) : List (List D) := s.data.toList.map fun b => [D.int .u8 b.toNat]

/-- What is appended. -/
def rowsY : Bool → Nat → C → Option (List (List D))
  | false, sz, c => rowsOf sz c
  | true, 1, .d (.str s) => some (rowsS s)
  | _, _, _ => none

/-- The bytes of a slice of bytes. -/
def byteOf : List D → Option Int
  | [.int .u8 n] => some n
  | _ => none

def bytesOf (rows : List (List D)) : Option ByteArray := (rows.mapM byteOf).map fun ns => ns.foldl (fun r n => r.push (UInt8.ofNat n.toNat)) ByteArray.empty

/-- Keys: equal or not. -/
def keyEq : D → D → Option Bool
  | .int k a, .int k' b => if k = k' then some (a == b) else none
  | .str a, .str b => some (strEq a b)
  | _, _ => none

def isKey : Bool → D → Bool
  | true, .int _ _ => true
  | false, .str _ => true
  | _, _ => false

def findK : List (D × C) → D → Nat → Option (Option (Nat × C))
  | [], _, _ => some none
  | (k', c) :: es, k, i => match keyEq k k' with
    | some true => some (some (i, c))
    | some false => findK es k (i + 1)
    | none => none

def putK (es : List (D × C)) (k : D) (x : C) : Option (Nat × C) → List (D × C)
  | some (i, _) => es.set i (k, x)
  | none => es ++ [(k, x)]

def lookC (ok : Bool) (z : C) : Option (Nat × C) → C
  | some (_, c) => if ok then .tup [c, .d (.bool true)] else c
  | none => if ok then .tup [z, .d (.bool false)] else z

def fldC (off : Nat) : C → Option C
  | .ref m o => some (.ref m (o + off))
  | .elt row o => some (.elt row (o + off))
  | .celt row o => some (.celt row (o + off))
  | _ => none

/-- What an operation leaves that is not wanted. -/
abbrev nwC : C := .tup []

/-- Whether an operation with such a guard is wanted. -/
def gdec (T : List C) (g : Nat) (want : Bool) : Option Bool := match T.getD g .undef with
  | .d (.bool b) => some (b == want)
  | .tup [] => some false
  | _ => none

/-- Nil or not. -/
def nilC : C → Option Bool
  | .nils _ _ => some true
  | .enn _ => some false
  | .d (.sl _ (_ :: _)) => some false
  | .o _ (_ :: _) _ => some false
  | _ => none

def eqCell : Nat → C → C → Option Bool
  | 0, .d (.int k a), .d (.int k' b) => if k = k' then some (a == b) else none
  | 1, .d (.str a), .d (.str b) => some (strEq a b)
  | 2, .d (.bool a), .d (.bool b) => some (a == b)
  | _, _, _ => none

def eqCells : List Nat → List C → List C → Option Bool
  | [], [], [] => some true
  | k :: ks, c :: cs, d :: ds => match eqCell k c d, eqCells ks cs ds with
    | some a, some b => some (a && b)
    | _, _ => none
  | _, _, _ => none

/-- The cells of what is stored. -/
def valsC : C → Option (List C)
  | .agg xs => some xs
  | .tup _ => none
  | c => some [c]

/-- A token: type and size of an element, length. -/
def tokOf : Option (Option Ob) → Option (TypeId × Nat × Nat)
  | some (some (.tok e s l)) => some (e, s, l)
  | some (some (.ntok e s)) => some (e, s, 0)
  | _ => none

/-- A cell that comes into box m, where old lies: newer tokens are forgotten; a nil slice keeps its token. -/
def putC (σ : St) (m : Nat) (old : C) : C → C
  | .o sz rows a => if a < m then .o sz rows a else .d (.sl sz rows)
  | .nils e sz => match old with
    | .o s _ a => match σ[a]? with
      | some (some (.ntok _ _)) => if s = sz ∧ a < m then .o sz [] a else .nils e sz
      | _ => .nils e sz
    | _ => .nils e sz
  | c => c

def putCs (σ : St) (m : Nat) : List C → List C → List C
  | old :: olds, c :: cs => putC σ m old c :: putCs σ m olds cs
  | [], c :: cs => putC σ m .undef c :: putCs σ m [] cs
  | _, [] => []

/-- Nil slices in a new variable get tokens. -/
def tokC : Nat → List C → List C
  | _, [] => []
  | s, .nils _ sz :: cs => .o sz [] s :: tokC (s + 1) cs
  | s, c :: cs => c :: tokC s cs
def toksC : List C → St
  | [] => []
  | .nils e sz :: cs => some (.ntok e sz) :: toksC cs
  | _ :: cs => toksC cs

/-- What an operation that calls nothing comes to: its value, and the store. Stores, appends: to names from n0 on alone. -/
def evOp (n0 : Nat) (T : List C) (σ : St) : AOp → Option (C × St)
  | .mv x => some (evO T x, σ)
  | .nilsl e sz => some (.o sz [] σ.length, σ ++ [some (.tok e sz 0)])
  | .pick c a b => match evO T c with
    | .d (.bool t) => some (if t then evO T a else evO T b, σ)
    | _ => none
  | .box t agg n x => match cellsOf agg n (evO T x) with
    | some cs => some (.ref (σ.length + (toksC cs).length) 0, σ ++ toksC cs ++ [some (.box t (tokC σ.length cs))])
    | none => none
  | .alloc t zero => if zero.all C.one && C.ltL 0 zero then some (.ref (σ.length + (toksC zero).length) 0, σ ++ toksC zero ++ [some (.box t (tokC σ.length zero))]) else none
  | .build zero parts => match parts.mapM (fun (off, n, x) => match evO T x with
        | .agg cs => if cs.length = n then some (off, cs) else none
        | .tup _ => none
        | c => if n = 1 && c.one then some (off, [c]) else none) with
    | some ps => (fillC zero ps).map fun cs => (.agg cs, σ)
    | none => none
  | .bsl e sz parts => match parts.mapM (fun x => match evO T x with
        | .agg cs => if cs.length = sz && cs.all C.one then some cs else none
        | c => if sz = 1 && c.one then some [c] else none) with
    | some rows => match toDss rows with
      | some ds => some (.o sz ds σ.length, σ ++ [some (.tok e sz ds.length)])
      | none => some (.csl sz rows, σ)
    | none => none
  | .load agg n a => (loadC σ agg n (evO T a)).map fun c => (c, σ)
  | .store n a x => match evO T a with
    | .ref m off => match σ[m]? with
      | some (some (.box t cs)) =>
        match valsC (evO T x) with
        | some xs => if n0 ≤ m && xs.length == n && xs.all C.one && C.ltL m (putCs σ m ((cs.drop off).take n) xs) && decide (off + n ≤ cs.length) then
            some (.undef, σ.set m (some (.box t (cs.take off ++ putCs σ m ((cs.drop off).take n) xs ++ cs.drop (off + n))))) else none
        | none => none
      | _ => none
    | _ => none
  | .fld off x => match evO T x with
    | .ref m o => some (.ref m (o + off), σ)
    | .elt row o => some (.elt row (o + off), σ)
    | .celt row o => some (.celt row (o + off), σ)
    | _ => none
  | .ixa sz x i => match natOf (evO T i) with
    | some n => (ixC sz (evO T x) n).map fun c => (c, σ)
    | none => none
  | .ixs x i => match evO T x, natOf (evO T i) with
    | .d (.str s), some n => if h : 0 ≤ n ∧ n.toNat < s.size then some (.d (.int .u8 (s[n.toNat]'h.2).toNat), σ) else none
    | _, _ => none
  | .bin op x y => (binC op (evO T x) (evO T y)).map fun c => (c, σ)
  | .un op x => (unC op (evO T x)).map fun c => (c, σ)
  | .ext x i => match evO T x with
    | .tup cs => (cs[i]?).map fun c => (c, σ)
    | _ => none
  | .mkfn f first caps => some (.cl f (first.map (evO T)) (caps.map (evO T)), σ)
  | .nilck x => match evO T x with
    | .ref m o => some (.ref m o, σ)
    | .elt row o => some (.elt row o, σ)
    | .celt row o => some (.celt row o, σ)
    | _ => none
  | .len g x => (lenC g (evO T x)).map fun n => (.d (.int .i64 n), σ)
  | .mx xs => (maxI (xs.map (evO T))).map fun c => (c, σ)
  | .mn xs => (minI (xs.map (evO T))).map fun c => (c, σ)
  | .app str e sz bytes x y => match rowsY str sz (evO T y) with
    | none => none
    | some ys => match evO T x with
      | .o s rows a => match tokOf σ[a]? with
        | some (e', s', len) =>
          if n0 ≤ a ∧ e' = e ∧ s' = sz ∧ s = sz ∧ len = rows.length ∧ 0 < sz ∧ (rows.length + ys.length) * bytes ≤ 140737488355328 ∧ rows.length + ys.length ≤ 140737488355328 then
            some (.o sz (rows ++ ys) a, σ.set a (some (.tok e sz (rows.length + ys.length)))) else none
        | _ => none
      | .nils _ s => if s = sz ∧ 0 < sz ∧ ys.length * bytes ≤ 140737488355328 ∧ ys.length ≤ 140737488355328 then
            some (.o sz ys σ.length, σ ++ [some (.tok e sz ys.length)]) else none
      | _ => none
  | .cvi k x => match evO T x with
    | .d (.int _ n) => some (.d (.int k (k.wrap n)), σ)
    | _ => none
  | .cvid x => match evO T x with
    | .d (.str s) => some (.d (.str s), σ)
    | _ => none
  | .cvs x => match rowsOf 1 (evO T x) with
    | some rows => (bytesOf rows).map fun b => (.d (.str b), σ)
    | none => none
  | .slc sz x lo hi => match rowsOf sz (evO T x) with
    | some rows =>
      match boundN T 0 lo, boundN T rows.length hi with
      | some l, some h => if 0 ≤ l ∧ l ≤ h ∧ h ≤ rows.length then some (.d (.sl sz ((rows.drop l.toNat).take (h.toNat - l.toNat))), σ) else none
      | _, _ => none
    | none => none
  | .sls x lo hi => match evO T x with
    | .d (.str s) =>
      match boundN T 0 lo, boundN T s.size hi with
      | some l, some h => if 0 ≤ l ∧ l ≤ h ∧ h ≤ s.size then some (.d (.str (s.extract l.toNat h.toNat)), σ) else none
      | _, _ => none
    | _ => none
  | .call _ _ => none
  | .mkmap => some (.map σ.length, σ ++ [some (.map [])])
  | .mset ki m k x => match evO T m, evO T k with
    | .map n, .d kd => match σ[n]? with
      | some (some (.map es)) => match findK es kd 0 with
        | some r => if n0 ≤ n && isKey ki kd && C.lt n (evO T x) then some (.undef, σ.set n (some (.map (putK es kd (evO T x) r)))) else none
        | none => none
      | _ => none
    | _, _ => none
  | .look ki ok z m k => match evO T m, evO T k with
    | .map n, .d kd => match σ[n]? with
      | some (some (.map es)) => match findK es kd 0 with
        | some r => if isKey ki kd then some (lookC ok z r, σ) else none
        | none => none
      | _ => none
    | _, _ => none
  | .rng x => match evO T x with
    | .d (.str s) => some (.ref σ.length 0, σ ++ [some (.siter s 0)])
    | _ => none
  | .nxt x => match evO T x with
    | .ref n 0 => match σ[n]? with
      | some (some (.siter s pos)) =>
        if pos < s.size then (if n0 ≤ n then some (.tup [.d (.bool true), .d (.int .i64 pos), .d (.int .i32 (Utf8.decode s pos).1)], σ.set n (some (.siter s (pos + (Utf8.decode s pos).2)))) else none)
        else some (.tup [.d (.bool false)], σ)
      | _ => none
    | _ => none
  | .fldv agg off n x => match evO T x with
    | .agg cs => if off + n ≤ cs.length then (aggOf agg ((cs.drop off).take n)).map fun c => (c, σ) else none
    | _ => none
  | .ixaa len sz x i => match natOf (evO T i) with
    | some k => if 0 ≤ k ∧ k < len then (fldC (k.toNat * sz) (evO T x)).map fun c => (c, σ) else none
    | none => none
  | .ixv agg len sz x i => match evO T x, natOf (evO T i) with
    | .agg cs, some k => if 0 ≤ k ∧ k < len ∧ k.toNat * sz + sz ≤ cs.length then (aggOf agg ((cs.drop (k.toNat * sz)).take sz)).map fun c => (c, σ) else none
    | _, _ => none
  | .bad => none
  | .isn neg x => (nilC (evO T x)).map fun b => (.d (.bool (b != neg)), σ)
  | .eqa neg ks x y => match evO T x, evO T y with
    | .agg cs, .agg ds => (eqCells ks cs ds).map fun b => (.d (.bool (b != neg)), σ)
    | _, _ => none
  | .eqb neg x y => match evO T x, evO T y with
    | .d (.bool a), .d (.bool b) => some (.d (.bool ((a == b) != neg)), σ)
    | _, _ => none

/-- Operations whose run changes no world. -/
def quietOp : AOp → Bool
  | .mv _ | .pick .. | .build .. | .load .. | .fld .. | .ixa .. | .ixs .. | .bin .. | .un .. | .ext .. | .mkfn .. | .nilck .. | .len .. | .mx .. | .mn .. | .cvi .. | .cvid .. | .cvs .. | .slc .. | .sls .. | .look .. | .fldv .. | .ixaa .. | .ixv .. | .isn .. | .eqa .. | .eqb .. => true
  | _ => false



end Go.Av

set_option linter.unusedVariables false
namespace Go.Av
open Go.RowKit
variable [TheProg]
set_option linter.unusedSectionVars false

/-! ### What temporaries hold; steps -/

structure RepT (w : World) (γ : G) (A : Nat → Prop) (T : List C) (tmps : Array Value) : Prop where
  size : tmps.size = T.length
  get : ∀ (i : Nat) (c : C), T[i]? = some c → RepC w γ A c (tmps.getD i undef)

theorem RepT.eval {w : World} {γ : G} {A : Nat → Prop} {T : List C} {a : Act} (h : RepT w γ A T a.tmps) (i : Nat) : RepC w γ A (T.getD i .undef) (a.eval (.tmp i)) := by
  cases hi : T[i]? with
  | none => simp only [List.getD_eq_getElem?_getD, hi, Option.getD_none]; exact .undef _
  | some c => simp only [List.getD_eq_getElem?_getD, hi, Option.getD_some]; exact h.get i c hi

theorem RepT.ext {w w' : World} {γ γ' : G} {A : Nat → Prop} {T : List C} {tmps : Array Value} (h : RepT w γ A T tmps) (he : Ext A w γ w' γ') : RepT w' γ' A T tmps :=
  ⟨h.size, fun i c hc => (h.get i c hc).ext he⟩
theorem RepT.mono {w : World} {γ : G} {A A' : Nat → Prop} {T : List C} {tmps : Array Value} (h : RepT w γ A T tmps) (hA : ∀ n, A n → A' n) : RepT w γ A' T tmps :=
  ⟨h.size, fun i c hc => (h.get i c hc).mono hA⟩

/-- A frame: names below lo are not turned; names below hi stay what they are. -/
structure Fr where
  lo : Nat
  hi : Nat
  le : lo ≤ hi
  D : Nat

/-- Of a function that turns nothing of what was there. -/
def Fr.all (n : Nat) : Fr := ⟨n, n, Nat.le_refl _, 0⟩

/-- What a piece of a function's body keeps: of what was there before the function was entered (blocks below B, names below n0) nothing has turned. -/
structure Fn (B : Nat) (n0 : Fr) (w : World) (γ : G) (w' : World) (γ' : G) : Prop where
  ext : Ext (· < n0.hi) w γ w' γ'
  below : Below B w w'
  im : ∀ g, g < B → γ'.im g = γ.im g
  out : ∀ a, a < n0.lo → γ'.len a = γ.len a ∧ γ'.tk a = γ.tk a
  dfr : ∀ r : Nat, w.heap[r]? = some (Obj.deferred (some [])) → w'.heap[r]? = some (Obj.deferred (some []))
  lps : ∀ (l : Nat) (x : Loop), w.heap[l]? = some (Obj.loop x) → ∃ y, w'.heap[l]? = some (Obj.loop y)

theorem Fn.refl (B : Nat) (n0 : Fr) (w : World) (γ : G) : Fn B n0 w γ w γ := ⟨.refl _ _ _, .refl _ _, fun _ _ => rfl, fun _ _ => ⟨rfl, rfl⟩, fun _ h => h, fun _ x h => ⟨x, h⟩⟩
theorem Fn.trans {B : Nat} {n0 : Fr} {w w' w'' : World} {γ γ' γ'' : G} (h : Fn B n0 w γ w' γ') (k : Fn B n0 w' γ' w'' γ'') : Fn B n0 w γ w'' γ'' :=
  ⟨h.ext.trans k.ext, h.below.trans k.below, fun g hg => (k.im g hg).trans (h.im g hg), fun a ha => ⟨(k.out a ha).1.trans (h.out a ha).1, (k.out a ha).2.trans (h.out a ha).2⟩, fun r hr => k.dfr r (h.dfr r hr), fun l x hl => let ⟨y, hy⟩ := h.lps l x hl; k.lps l y hy⟩

/-- What is of the function's own: from B on. -/
def Own (B : Nat) (n0 : Fr) (γ : G) (σ : St) : Prop := ∀ (n : Nat) (b : Ob) (g : Nat), n0.lo ≤ n → σ[n]? = some (some b) → ownBlk γ n (some b) = some g → B ≤ g

/-- A state of the machine within a function: B is the heap's size when the function was entered, n0 the number of names. -/
structure Sat (B : Nat) (n0 : Fr) (w : World) (γ : G) (σ : St) : Prop where
  inv : Inv w γ σ
  own : Own B n0 γ σ
  n0 : n0.hi ≤ σ.length
  B : B ≤ w.heap.size

/-- A result is what a caller may hold. -/
inductive RepR (w : World) (γ : G) (A : Nat → Prop) (B : Nat) : C → Value → Prop
  | c {c : C} {v : Value} (h : RepC w γ A c v) : RepR w γ A B c v
  | fr {e : TypeId} {sz : Nat} {rows : List (List D)} {v : Value} (h : RepD w γ.im (.sl sz rows) v)
      (hv : v = .slice none 0 0 ∨ ∃ g cap cur, v = .slice (some ⟨g, 0, none⟩) rows.length cap ∧ B ≤ g ∧ w.heap[g]? = some (.cells cur e (0, 0)) ∧ rows.length ≤ cap ∧ cap ≤ maxLen ∧ cur.size = cap * sz ∧ γ.im g = rows.length * sz) :
      RepR w γ A B (.fr e sz rows) v
  | frm {ks : List D} {cs : List C} {g ck : Nat} {ms : Array MapEntry} (hB : B ≤ g) (hg : w.heap[g]? = some (.map ms ck)) (hst : MapKept.Stamped ms ck) (h1 : ms.size = cs.length) (h2 : ks.length = cs.length) (h0 : γ.im g = 0)
      (he : ∀ (i : Nat) (k : D) (c : C), ks[i]? = some k → cs[i]? = some c → RepD w γ.im k (ms.getD i default).key ∧ RepC w γ (fun _ => False) c (ms.getD i default).val) : RepR w γ A B (.frm ks cs) (.map (some g))

/-- A function that a call enters. -/
def Enters (P : Program) (f : FuncId) : Prop := ∃ fn, P.funcs[f]? = some fn ∧ fn.body.isNone = false ∧ (fn.name == "runtime.NumGoroutine") = false

/-- A call of f with such arguments, in whatever world, returns what r says; of what was there before nothing has turned. -/
def CallQ (P : Program) (f : FuncId) (args : List C) (σ : St) (r : C) : Prop :=
  Enters P f ∧ ∀ (w : World) (γ : G) (vs : Array Value), Inv w γ σ → vs.size = args.length → (∀ (i : Nat) (c : C), args[i]? = some c → RepC w γ (Fil σ) c (vs.getD i undef)) →
    Calls P f vs w fun e w' => ∃ v γ', e = .returned v ∧ Fn w.heap.size (.all σ.length) w γ w' γ' ∧ (∀ g, w'.heap.size ≤ g → γ'.im g = 0) ∧ RepR w' γ' (Fil σ) w.heap.size r v

/-- The frame of a function that may turn what its caller may turn: all names that are there stay. -/
def Fr.up (n0 : Fr) (n : Nat) (h : n0.hi ≤ n) : Fr := ⟨n0.lo, n, Nat.le_trans n0.le h, n0.D⟩

/-- A call of f that may turn what its caller made. -/
def CallX (P : Program) (n0 : Fr) (f : FuncId) (args : List C) (σ : St) (Q : C → St → Prop) : Prop :=
  Enters P f ∧ ∀ (B : Nat) (w : World) (γ : G) (vs : Array Value) (hs : Sat B n0 w γ σ), vs.size = args.length → (∀ (i : Nat) (c : C), args[i]? = some c → RepC w γ (Fil σ) c (vs.getD i undef)) →
    Calls P f vs w fun e w' => ∃ v γ' r σ', e = .returned v ∧ Fn B (n0.up σ.length hs.n0) w γ w' γ' ∧ (∀ n, Fil σ n → Fil σ' n) ∧ Sat B (n0.up σ.length hs.n0) w' γ' σ' ∧ RepC w' γ' (Fil σ') r v ∧ Q r σ'

inductive AEx where
  | normal
  | exit (id : Nat)
  | ret

def AEx.ex : AEx → Exit
  | .normal => .normal
  | .exit id => .exit id
  | .ret => .ret

/-- The mark of a block for the deferred calls of rounds. -/
def markOf (r : Nat) : Deferred := { target := .collected r, args := #[] }

/-- The marks that ranges over functions have left: in their blocks is nothing. -/
def DefOk (D : Nat) (w : World) (ds : List Deferred) : Prop := D ≤ w.heap.size ∧ ∃ rs : List Nat, ds = rs.map markOf ∧ rs.Nodup ∧ ∀ r, r ∈ rs → D ≤ r ∧ w.heap[r]? = some (Obj.deferred (some []))

theorem DefOk.nil (D : Nat) (w : World) (h : D ≤ w.heap.size) : DefOk D w [] := ⟨h, [], rfl, List.nodup_nil, fun _ h => by cases h⟩
theorem DefOk.step {D B' : Nat} {n0 : Fr} {w w' : World} {γ γ' : G} {ds : List Deferred} (h : DefOk D w ds) (hf : Fn B' n0 w γ w' γ') : DefOk D w' ds := by
  obtain ⟨h0, rs, h1, h2, h3⟩ := h
  exact ⟨Nat.le_trans h0 hf.below.size, rs, h1, h2, fun r hr => ⟨(h3 r hr).1, hf.dfr r (h3 r hr).2⟩⟩

/-- The loop whose round it is. -/
def RoOk (ro : Option Nat) (w : World) : Prop := ∀ l, ro = some l → ∃ x, w.heap[l]? = some (Obj.loop x)

theorem RoOk.none (w : World) : RoOk none w := fun l h => by cases h
theorem RoOk.step {ro : Option Nat} {B : Nat} {n0 : Fr} {w w' : World} {γ γ' : G} (h : RoOk ro w) (hf : Fn B n0 w γ w' γ') : RoOk ro w' := fun l hl =>
  let ⟨x, hx⟩ := h l hl; hf.lps l x hx

/-- The fence of a function's frame, and of a round's. -/
def Fo (ro : Option Nat) : Fence := { Fence.wide with round := ro }

/-- A round of a range over a function. -/
def CallY (P : Program) (n0 : Fr) (n : Nat) (args : List C) (σ : St) (Q : C → St → Prop) : Prop :=
  ∀ (ro : Option Nat) (B : Nat) (w : World) (γ : G) (vs : Array Value) (hs : Sat B n0 w γ σ), vs.size = args.length → (∀ (i : Nat) (c : C), args[i]? = some c → RepC w γ (Fil σ) c (vs.getD i undef)) →
    ∃ l fn tmps asg body, (Instr.yield (γ.mu n) vs).run P w = .ok (.round l fn tmps asg body) w ∧
      RoundIn (Fo ro) 0 P l fn tmps asg body w fun e w' => ∃ v γ' r σ', e = .returned v ∧ Fn B (n0.up σ.length hs.n0) w γ w' γ' ∧ (∀ n, Fil σ n → Fil σ' n) ∧ Sat B (n0.up σ.length hs.n0) w' γ' σ' ∧ RepC w' γ' (Fil σ') r v ∧ Q r σ'

/-- A piece of code, from such temporaries and such a store, within a function that began with n0 names. -/
def Tr (P : Program) (n0 : Fr) (c : Code) (T : List C) (σ : St) (Q : AEx → List C → St → Prop) : Prop :=
  ∀ (ro : Option Nat) (B : Nat) (w : World) (γ : G) (a : Act), RoOk ro w → DefOk n0.D w a.defers → Sat B n0 w γ σ → RepT w γ (Fil σ) T a.tmps →
    c.wpIn (Fo ro) 0 P (fun e a' w' => ∃ x T' σ' γ', e = AEx.ex x ∧ DefOk n0.D w' a'.defers ∧ Fn B n0 w γ w' γ' ∧ Sat B n0 w' γ' σ' ∧ RepT w' γ' (Fil σ') T' a'.tmps ∧ Q x T' σ') a w

/-- What an operation that calls nothing does. -/
def OpRun (P : Program) (o : Oper) (a : Act) (w : World) (v : Value) (w' : World) : Prop :=
  (execOp a.eval o).run P w = .ok (.value v) w' ∨ ((execOp a.eval o).run P w = .ok .skip w' ∧ v = undef)

theorem Fn.mono {B B' : Nat} {n0 n0' : Fr} {w w' : World} {γ γ' : G} (h : Fn B n0 w γ w' γ') (hB : B' ≤ B) (hl : n0'.lo ≤ n0.lo) (hn : n0'.hi ≤ n0.hi) : Fn B' n0' w γ w' γ' :=
  ⟨h.ext.mono (fun _ h => Nat.lt_of_lt_of_le h hn), h.below.mono hB, fun g hg => h.im g (Nat.lt_of_lt_of_le hg hB), fun a ha => h.out a (Nat.lt_of_lt_of_le ha hl), h.dfr, h.lps⟩

theorem heap_lt {w : World} {g : Nat} {o : Obj} (h : w.heap[g]? = some o) : g < w.heap.size := (Array.getElem?_eq_some_iff.1 h).1

theorem Fil.lt {σ : St} {n : Nat} (h : Fil σ n) : n < σ.length := by
  obtain ⟨b, hb⟩ := h
  exact (List.getElem?_eq_some_iff.1 hb).1

theorem InvOb.blk_lt {w : World} {γ : G} {A : Nat → Prop} {n : Nat} {b : Ob} {g : Nat} (h : InvOb w γ A n b) (hg : ownBlk γ n (some b) = some g) : g < w.heap.size := by
  cases b with
  | box t cs =>
    obtain ⟨_, vs, hh, _⟩ := h
    simp only [ownBlk, Option.some.injEq] at hg
    exact hg ▸ heap_lt hh
  | map es =>
    obtain ⟨_, ms, ck, hh, _⟩ := h
    simp only [ownBlk, Option.some.injEq] at hg
    exact hg ▸ heap_lt hh
  | loop T ps asg body st =>
    obtain ⟨_, r, hh, _⟩ := h
    simp only [ownBlk, Option.some.injEq] at hg
    exact hg ▸ heap_lt hh
  | siter s pos =>
    obtain ⟨_, hh⟩ := h
    simp only [ownBlk, Option.some.injEq] at hg
    exact hg ▸ heap_lt hh
  | ntok e sz =>
    obtain ⟨_, hh⟩ := h
    simp [ownBlk, hh, blkOf] at hg
  | tok e sz len =>
    obtain ⟨_, ⟨h, _⟩ | ⟨g', cap, cur, h, hh, _⟩⟩ := h
    · simp [ownBlk, h, blkOf] at hg
    · simp only [ownBlk, h, blkOf, Option.some.injEq] at hg
      exact hg ▸ heap_lt hh

/-- An object whose block is as it was. -/
theorem InvOb.kept {w w' : World} {γ γ' : G} {A A' : Nat → Prop} {n : Nat} {b : Ob} (h : InvOb w γ A n b) (hn : A n) (he : Ext A w γ w' γ') (hA : ∀ m, A m → A' m)
    (hlen : γ'.len n = γ.len n) (hb : ∀ g, ownBlk γ n (some b) = some g → w'.heap[g]? = w.heap[g]? ∧ γ'.im g = γ.im g) : InvOb w' γ' A' n b := by
  have hlow : ∀ m, Low A n m → Low A' n m := fun m hm => ⟨hm.1, hA m hm.2⟩
  have hel : Ext (Low A n) w γ w' γ' := he.mono fun _ h => h.2
  cases b with
  | box t cs =>
    obtain ⟨h0, vs, hh, h1, h2, h3⟩ := h
    obtain ⟨k1, k2⟩ := hb _ rfl
    refine ⟨?_, vs, ?_, h1, fun i c hc => ((h2 i c hc).ext hel).mono hlow, h3⟩
    · rw [he.mu _ hn, k2, h0]
    · rw [he.mu _ hn, k1, hh]
  | map es =>
    obtain ⟨h0, ms, ck, hh, h1, hst, h2⟩ := h
    obtain ⟨k1, k2⟩ := hb _ rfl
    refine ⟨?_, ms, ck, ?_, h1, hst, fun i k c hc => ⟨(h2 i k c hc).1.ext he.d, ((h2 i k c hc).2.ext hel).mono hlow⟩⟩
    · rw [he.mu _ hn, k2, h0]
    · rw [he.mu _ hn, k1, hh]
  | loop T ps asg body st =>
    obtain ⟨h0, r, hh, h1, h2, h3, h4, h5, h6⟩ := h
    obtain ⟨k1, k2⟩ := hb _ rfl
    refine ⟨?_, r, ?_, h1, h2, h3, h4, fun i c hc => ((h5 i c hc).ext hel).mono hlow, h6⟩
    · rw [he.mu _ hn, k2, h0]
    · rw [he.mu _ hn, k1, hh]
  | ntok e sz =>
    obtain ⟨h0, hh⟩ := h
    exact ⟨hlen.trans h0, (he.tk _ hn hlen).trans hh⟩
  | siter s pos =>
    obtain ⟨h0, hh⟩ := h
    obtain ⟨k1, k2⟩ := hb _ rfl
    exact ⟨by rw [he.mu _ hn, k2, h0], by rw [he.mu _ hn, k1, hh]⟩
  | tok e sz len =>
    obtain ⟨h0, h1⟩ := h
    have ht := he.tk _ hn hlen
    refine ⟨hlen.trans h0, ?_⟩
    rcases h1 with ⟨h1, h2⟩ | ⟨g, cap, cur, h1, h2, h3, h4, h5, h6⟩
    · exact .inl ⟨ht.trans h1, h2⟩
    · obtain ⟨k1, k2⟩ := hb g (by simp [ownBlk, h1, blkOf])
      exact .inr ⟨g, cap, cur, ht.trans h1, k1.trans h2, h3, h4, h5, k2.trans h6⟩

theorem ownBlk_congr {γ γ' : G} {A : Nat → Prop} {n : Nat} {w w' : World} (b : Option Ob) (hn : A n) (he : Ext A w γ w' γ') (hlen : γ'.len n = γ.len n) : ownBlk γ' n b = ownBlk γ n b := by
  rcases b with _ | ⟨_ | _ | _ | _ | _ | _⟩ <;> simp [ownBlk, he.mu _ hn, he.tk _ hn hlen]

/-- What was there has not turned: a step for the names of a store. -/
structure Keep (σ : St) (w : World) (γ : G) (w' : World) (γ' : G) : Prop where
  ext : Ext (Fil σ) w γ w' γ'
  below : Below w.heap.size w w'
  im : ∀ g, g < w.heap.size → γ'.im g = γ.im g
  out : ∀ a, Fil σ a → γ'.len a = γ.len a

theorem Fn.keep {σ : St} {w w' : World} {γ γ' : G} (h : Fn w.heap.size (.all σ.length) w γ w' γ') : Keep σ w γ w' γ' :=
  ⟨h.ext.mono fun _ h => h.lt, h.below, h.im, fun a ha => (h.out a ha.lt).1⟩

theorem Inv.after {w w' : World} {γ γ' : G} {σ : St} (h : Inv w γ σ) (hf : Keep σ w γ w' γ') (hlt : ∀ g, w'.heap.size ≤ g → γ'.im g = 0) : Inv w' γ' σ := by
  refine ⟨fun n b hb => (h.ob n b hb).kept ⟨b, hb⟩ hf.ext (fun _ h => h) (hf.out n ⟨b, hb⟩) (fun g hg => ?_), fun n m b c g hb hc h1 h2 => ?_, hlt⟩
  · have := (h.ob n b hb).blk_lt hg
    exact ⟨hf.below.block g this, hf.im g this⟩
  · rw [ownBlk_congr _ ⟨b, hb⟩ hf.ext (hf.out n ⟨b, hb⟩)] at h1
    rw [ownBlk_congr _ ⟨c, hc⟩ hf.ext (hf.out m ⟨c, hc⟩)] at h2
    exact h.apart n m b c g hb hc h1 h2

theorem Sat.after {B : Nat} {n0 : Fr} {w w' : World} {γ γ' : G} {σ : St} (h : Sat B n0 w γ σ) (hf : Keep σ w γ w' γ') (hlt : ∀ g, w'.heap.size ≤ g → γ'.im g = 0) : Sat B n0 w' γ' σ := by
  refine ⟨h.inv.after hf hlt, fun n b g hn hb hg => ?_, h.n0, Nat.le_trans h.B hf.below.size⟩
  rw [ownBlk_congr _ ⟨b, hb⟩ hf.ext (hf.out n ⟨b, hb⟩)] at hg
  exact h.own n b g hn hb hg

/-- A place that has no object yet. -/
theorem Sat.hole {B : Nat} {n0 : Fr} {w : World} {γ : G} {σ : St} (h : Sat B n0 w γ σ) : Sat B n0 w γ (σ ++ [none]) ∧ ∀ n, Fil (σ ++ [none]) n ↔ Fil σ n := by
  have key : ∀ (n : Nat) (c : Ob), (σ ++ [none])[n]? = some (some c) ↔ σ[n]? = some (some c) := by
    intro n c
    rcases Nat.lt_trichotomy n σ.length with hl | hl | hl
    · rw [List.getElem?_append_left hl]
    · subst hl; simp
    · rw [List.getElem?_eq_none (by simp; omega), List.getElem?_eq_none (by omega)]
  have hfil : ∀ n, Fil (σ ++ [none]) n ↔ Fil σ n := fun n => ⟨fun ⟨b, hb⟩ => ⟨b, (key n b).1 hb⟩, fun ⟨b, hb⟩ => ⟨b, (key n b).2 hb⟩⟩
  refine ⟨⟨⟨fun n b hb => ?_, fun n m b c g hb hc => h.inv.apart n m b c g ((key n b).1 hb) ((key m c).1 hc), h.inv.lt⟩, fun n b g hn hb => h.own n b g hn ((key n b).1 hb), by simp; have := h.n0; omega, h.B⟩, hfil⟩
  exact (h.inv.ob n b ((key n b).1 hb)).kept ⟨b, (key n b).1 hb⟩ (.refl _ _ _) (fun m hm => (hfil m).2 hm) rfl (fun g _ => ⟨rfl, rfl⟩)

theorem fil_set {σ : St} {s : Nat} {b : Ob} (hs : s < σ.length) (n : Nat) : Fil (σ.set s (some b)) n ↔ (n = s ∨ Fil σ n) := by
  unfold Fil
  by_cases e : s = n
  · subst e; rw [List.getElem?_set_self hs]; simp
  · rw [List.getElem?_set_ne e]
    constructor
    · exact fun h => .inr h
    · rintro (h | h)
      · exact absurd h.symm e
      · exact h

/-- An object comes where there was none, in a block that is new. -/
theorem Sat.fill {B : Nat} {n0 : Fr} {w : World} {γ : G} {σ : St} {s : Nat} (h : Sat B n0 w γ σ) (hs : σ[s]? = some none) (b : Ob)
    (hb : InvOb w γ (Fil (σ.set s (some b))) s b) (hg : ∀ g, ownBlk γ s (some b) = some g → B ≤ g ∧ ∀ (n : Nat) (c' : Ob), σ[n]? = some (some c') → ownBlk γ n (some c') ≠ some g) :
    Sat B n0 w γ (σ.set s (some b)) := by
  have hsl : s < σ.length := (List.getElem?_eq_some_iff.1 hs).1
  have key : ∀ (n : Nat) (c : Ob), (σ.set s (some b))[n]? = some (some c) → (σ[n]? = some (some c)) ∨ (n = s ∧ c = b) := by
    intro n c hc
    by_cases e : s = n
    · subst e; rw [List.getElem?_set_self hsl] at hc; simp at hc; exact .inr ⟨rfl, hc.symm⟩
    · rw [List.getElem?_set_ne e] at hc; exact .inl hc
  refine ⟨⟨fun n c hc => ?_, fun n m c c' g hc hc' h1 h2 => ?_, h.inv.lt⟩, fun n c g hn hc hg' => ?_, by simpa using h.n0, h.B⟩
  · rcases key n c hc with k | ⟨rfl, rfl⟩
    · exact (h.inv.ob n c k).kept ⟨c, k⟩ (.refl _ _ _) (fun m hm => (fil_set hsl m).2 (.inr hm)) rfl (fun g _ => ⟨rfl, rfl⟩)
    · exact hb
  · rcases key n c hc with k | ⟨rfl, rfl⟩ <;> rcases key m c' hc' with k' | ⟨rfl, rfl⟩
    · exact h.inv.apart n m c c' g k k' h1 h2
    · exact absurd h1 ((hg g h2).2 n c k)
    · exact absurd h2 ((hg g h1).2 m c' k')
    · rfl
  · rcases key n c hc with k | ⟨rfl, rfl⟩
    · exact h.own n c g hn k hg'
    · exact (hg g hg').1

/-- The block of an object is turned, and no other. -/
theorem Sat.upd {B : Nat} {n0 : Fr} {w w' : World} {γ γ' : G} {σ : St} {m : Nat} {b b' : Ob} (h : Sat B n0 w γ σ) (hm : σ[m]? = some (some b)) (hn0 : n0.lo ≤ m)
    (he : Ext (Fil σ) w γ w' γ') (hsz : w.heap.size ≤ w'.heap.size) (hlen : ∀ n, Fil σ n → n ≠ m → γ'.len n = γ.len n)
    (hblk : ∀ g, g < w.heap.size → ownBlk γ m (some b) ≠ some g → w'.heap[g]? = w.heap[g]? ∧ γ'.im g = γ.im g)
    (hnew : InvOb w' γ' (Fil σ) m b') (hown : ∀ g, ownBlk γ' m (some b') = some g → ownBlk γ m (some b) = some g ∨ w.heap.size ≤ g)
    (hlt : ∀ g, w'.heap.size ≤ g → γ'.im g = 0) : Sat B n0 w' γ' (σ.set m (some b')) ∧ ∀ n, Fil (σ.set m (some b')) n ↔ Fil σ n := by
  have hml : m < σ.length := (List.getElem?_eq_some_iff.1 hm).1
  have hfil : ∀ n, Fil (σ.set m (some b')) n ↔ Fil σ n := by
    intro n
    rw [fil_set hml]
    exact ⟨fun h => h.elim (fun e => e ▸ ⟨b, hm⟩) id, .inr⟩
  have key : ∀ (n : Nat) (c : Ob), (σ.set m (some b'))[n]? = some (some c) → (n ≠ m ∧ σ[n]? = some (some c)) ∨ (n = m ∧ c = b') := by
    intro n c hc
    by_cases e : n = m
    · subst e; rw [List.getElem?_set_self hml] at hc; simp at hc; exact .inr ⟨rfl, hc.symm⟩
    · rw [List.getElem?_set_ne (fun h => e h.symm)] at hc; exact .inl ⟨e, hc⟩
  have hne : ∀ (n : Nat) (c : Ob) (g : Nat), n ≠ m → σ[n]? = some (some c) → ownBlk γ n (some c) = some g → ownBlk γ m (some b) ≠ some g :=
    fun n c g e hc hg h2 => e (h.inv.apart n m c b g hc hm hg h2)
  have hob : ∀ (n : Nat) (c : Ob), n ≠ m → σ[n]? = some (some c) → ownBlk γ' n (some c) = ownBlk γ n (some c) := fun n c e hc => ownBlk_congr _ ⟨c, hc⟩ he (hlen n ⟨c, hc⟩ e)
  refine ⟨⟨⟨fun n c hc => ?_, fun n k c c' g hc hc' h1 h2 => ?_, hlt⟩, fun n c g hn hc hg => ?_, by simpa using h.n0, Nat.le_trans h.B hsz⟩, hfil⟩
  · rcases key n c hc with ⟨e, k1⟩ | ⟨rfl, rfl⟩
    · refine (h.inv.ob n c k1).kept ⟨c, k1⟩ he (fun k hk => (hfil k).2 hk) (hlen n ⟨c, k1⟩ e) (fun g hg => ?_)
      exact hblk g ((h.inv.ob n c k1).blk_lt hg) (hne n c g e k1 hg)
    · exact hnew.kept ⟨b, hm⟩ (.refl _ _ _) (fun k hk => (hfil k).2 hk) rfl (fun g _ => ⟨rfl, rfl⟩)
  · rcases key n c hc with ⟨e, k1⟩ | ⟨rfl, rfl⟩ <;> rcases key k c' hc' with ⟨e', k2⟩ | ⟨rfl, rfl⟩
    · rw [hob n c e k1] at h1; rw [hob k c' e' k2] at h2
      exact h.inv.apart n k c c' g k1 k2 h1 h2
    · rw [hob n c e k1] at h1
      rcases hown g h2 with h3 | h3
      · exact absurd h3 (hne n c g e k1 h1)
      · have := (h.inv.ob n c k1).blk_lt h1; omega
    · rw [hob k c' e' k2] at h2
      rcases hown g h1 with h3 | h3
      · exact absurd h3 (hne k c' g e' k2 h2)
      · have := (h.inv.ob k c' k2).blk_lt h2; omega
    · rfl
  · rcases key n c hc with ⟨e, k1⟩ | ⟨rfl, rfl⟩
    · rw [hob n c e k1] at hg; exact h.own n c g hn k1 hg
    · rcases hown g hg with h3 | h3
      · exact h.own n b g hn hm h3
      · exact Nat.le_trans h.B h3

end Go.Av

set_option linter.unusedVariables false
set_option linter.unusedSimpArgs false
namespace Go.Av
open Go.RowKit
variable [TheProg]
set_option linter.unusedSectionVars false

theorem ltL_get {s : Nat} : ∀ {cs : List C}, C.ltL s cs = true → ∀ (i : Nat) (c : C), cs[i]? = some c → C.lt s c = true
  | [], _, i, c, h => by simp at h
  | x :: xs, hl, i, c, h => by
    simp only [C.ltL, Bool.and_eq_true] at hl
    cases i with
    | zero => simp at h; exact h ▸ hl.1
    | succ i => exact ltL_get hl.2 i c (by simpa using h)

theorem ltLL_get {s : Nat} : ∀ {rows : List (List C)}, C.ltLL s rows = true → ∀ (i j : Nat) (c : C), at2 rows i j = some c → C.lt s c = true
  | [], _, i, j, c, h => by simp [at2] at h
  | x :: xs, hl, i, j, c, h => by
    simp only [C.ltLL, Bool.and_eq_true] at hl
    cases i with
    | zero => exact ltL_get hl.1 j c (by simpa [at2] using h)
    | succ i => exact ltLL_get hl.2 i j c (by simpa [at2] using h)

theorem RepC.lt {w : World} {γ : G} {A : Nat → Prop} {s : Nat} {c : C} {v : Value} (h : RepC w γ A c v) (hs : C.lt s c = true) : RepC w γ (Low A s) c v := by
  induction h with
  | d h => exact .d h
  | o h ha hl hv => exact .o h ⟨by simpa [C.lt] using hs, ha⟩ hl hv
  | nils e sz => exact .nils e sz
  | enn sz p cap => exact .enn sz p cap
  | ref hn => exact .ref ⟨by simpa [C.lt] using hs, hn⟩
  | elt h => exact .elt h
  | cl fs cs hf hc h1 h2 ih1 ih2 =>
    simp only [C.lt, Bool.and_eq_true] at hs
    exact .cl fs cs hf hc (fun i c hc => ih1 i c hc (ltL_get hs.1 i c hc)) (fun i c hc => ih2 i c hc (ltL_get hs.2 i c hc))
  | csl val hlen hcell hrep ih => exact .csl val hlen hcell (fun i j c hc => ih i j c hc (ltLL_get hs i j c hc))
  | celt val hcell hrep ih => exact .celt val hcell (fun j c hc => ih j c hc (ltL_get hs j c hc))
  | map hn => exact .map ⟨by simpa [C.lt] using hs, hn⟩
  | yl hn => exact .yl ⟨by simpa [C.lt] using hs, hn⟩
  | nilf => exact .nilf
  | agg vs hv h ih => exact .agg vs hv (fun i c hc => ih i c hc (ltL_get hs i c hc))
  | tup vs hv h ih => exact .tup vs hv (fun i c hc => ih i c hc (ltL_get hs i c hc))
  | undef v => exact .undef v

theorem RepD.one {w : World} {im : Nat → Nat} {x : D} {v : Value} (h : RepD w im x v) : v.oneCell' = true := by cases h <;> rfl
theorem RepC.one {w : World} {γ : G} {A : Nat → Prop} {c : C} {v : Value} (h : RepC w γ A c v) (hc : c.one = true) : v.oneCell' = true := by
  cases h with
  | d h => exact h.one
  | o h ha hl hv => exact h.one
  | agg vs hs h => simp [C.one] at hc
  | tup vs hs h => simp [C.one] at hc
  | undef v => simp [C.one] at hc
  | _ => rfl

theorem rep_cOfT (P : Program) (t : TypeId) (w : World) (γ : G) (A : Nat → Prop) (v : Value) : RepC w γ A (cOfT P t v) v := by
  unfold cOfT
  split
  · exact .d (.int _ _)
  · exact .d (.bool _)
  · exact .d (.str _)
  · exact .nils _ _
  · exact .nilf
  · exact .undef _

theorem linkO_rep {P : Program} {t : TypeId} {x : Operand} {y : Opd} (h : linkO P t x = some y) {w : World} {γ : G} {A : Nat → Prop} {T : List C} {a : Act} (hT : RepT w γ A T a.tmps) :
    RepC w γ A (evO T y) (a.eval x) := by
  cases x with
  | tmp i => simp only [linkO, Option.some.injEq] at h; subst h; exact hT.eval i
  | const v =>
    simp only [linkO] at h
    split at h
    · cases h
    · simp only [Option.some.injEq] at h; subst h; exact rep_cOfT P t w γ A v
  | func f =>
    simp only [linkO, Option.some.injEq] at h; subst h
    exact .cl #[] #[] rfl rfl (fun i c hc => by simp at hc) (fun i c hc => by simp at hc)
  | global g => simp [linkO] at h

theorem linkOs_rep {P : Program} {w : World} {γ : G} {A : Nat → Prop} {T : List C} {a : Act} (hT : RepT w γ A T a.tmps) :
    ∀ {xs : List Operand} {ts : List TypeId} {ys : List Opd}, linkOs P ts xs = some ys → ys.length = xs.length ∧ ∀ (i : Nat) (y : Opd), ys[i]? = some y → ∃ x, xs[i]? = some x ∧ RepC w γ A (evO T y) (a.eval x)
  | [], ts, ys, h => by simp only [linkOs, Option.some.injEq] at h; subst h; exact ⟨rfl, fun i y hy => by simp at hy⟩
  | x :: xs, ts, ys, h => by
    simp only [linkOs] at h
    split at h
    · rename_i y' ys' h1 h2
      simp only [Option.some.injEq] at h; subst h
      obtain ⟨k1, k2⟩ := linkOs_rep hT h2
      refine ⟨by simp [k1], fun i y hy => ?_⟩
      cases i with
      | zero => simp at hy; subst hy; exact ⟨x, rfl, linkO_rep h1 hT⟩
      | succ i => exact k2 i y (by simpa using hy)
    · cases h

/-- The operands' values, as an array, are the operands' abstract values. -/
theorem linkOs_map {P : Program} {w : World} {γ : G} {A : Nat → Prop} {T : List C} {a : Act} (hT : RepT w γ A T a.tmps) {xs : Array Operand} {ts : List TypeId} {ys : List Opd}
    (h : linkOs P ts xs.toList = some ys) : (xs.map a.eval).size = (ys.map (evO T)).length ∧ ∀ (i : Nat) (c : C), (ys.map (evO T))[i]? = some c → RepC w γ A c ((xs.map a.eval).getD i undef) := by
  obtain ⟨k1, k2⟩ := linkOs_rep hT h
  refine ⟨by simp [k1], fun i c hc => ?_⟩
  simp only [List.getElem?_map, Option.map_eq_some_iff] at hc
  obtain ⟨y, hy, rfl⟩ := hc
  obtain ⟨x, hx, hr⟩ := k2 i y hy
  have : xs[i]? = some x := by simpa using hx
  simp only [Array.getD_eq_getD_getElem?, Array.getElem?_map, this, Option.map_some, Option.getD_some]
  exact hr

theorem isAgg_run {P : Program} {t : TypeId} {g : Bool} (h : aggT P t = some g) (w : World) : (isAgg t).run P w = .ok g w := by
  unfold aggT at h
  cases hu : P.underlying t with
  | none => simp [hu] at h
  | some d =>
    have hr := run_underlying hu w
    unfold isAgg
    simp only [Sem.run_bind, hr, Result.andThen_ok]
    cases d <;> simp_all

theorem sizeOf_run {P : Program} {t : TypeId} {n : Nat} (h : szT P t = some n) (w : World) : (sizeOf t).run P w = .ok n w := by
  unfold szT at h
  obtain ⟨i, hi, rfl⟩ := Option.map_eq_some_iff.1 h
  simp [sizeOf, run_typeInfo (w := w) hi]

theorem typeInfo_run {P : Program} {t : TypeId} {i : TypeInfo} (h : P.info? t = some i) (w : World) : (typeInfo t).run P w = .ok i w := run_typeInfo (w := w) h

theorem add_pl (g j k : Nat) : (⟨g, j, none⟩ : Addr).add k = ⟨g, j + k, none⟩ := by unfold Addr.add; split <;> simp_all

/-- Loading n cells that are known. -/
theorem loadVar_run {P : Program} {t : TypeId} {g : Bool} {n : Nat} (hg : aggT P t = some g) (hn : szT P t = some n) (hgn : g = true ∨ n = 1) (w : World) (b o : Nat) (vs : List Value) (hl : vs.length = n)
    (hc : ∀ j v, vs[j]? = some v → w.cell? ⟨b, o + j, none⟩ = some v) :
    (loadVar t ⟨b, o, none⟩).run P w = .ok (if g then .agg vs.toArray else vs.getD 0 undef) w := by
  unfold loadVar
  simp only [Sem.run_bind, isAgg_run hg, Result.andThen_ok]
  cases g with
  | true =>
    have h := run_loadCells_list (P := P) w ⟨b, o, none⟩ vs (fun j v hv => by rw [add_pl]; exact hc j v hv)
    simp [sizeOf_run hn, hl ▸ h]
  | false =>
    simp at hgn; subst hgn
    have hv : vs[0]? = some (vs.getD 0 undef) := by
      match vs, hl with
      | [v], _ => rfl
    have := hc 0 _ hv
    simp at this
    simp [this]

end Go.Av

set_option linter.unusedVariables false
set_option linter.unusedSimpArgs false
namespace Go.Av
open Go.RowKit
variable [TheProg]
set_option linter.unusedSectionVars false

def OpOk (P : Program) (B : Nat) (n0 : Fr) (o : Oper) (a : Act) (w : World) (γ : G) (σ : St) (c : C) (σ' : St) (q : Bool) : Prop :=
  ∃ v w' γ', OpRun P o a w v w' ∧ Fn B n0 w γ w' γ' ∧ Ext (Fil σ) w γ w' γ' ∧ Sat B n0 w' γ' σ' ∧ (∀ n, Fil σ n → Fil σ' n) ∧ RepC w' γ' (Fil σ') c v ∧ (q = true → (execOp a.eval o).run P w = .ok (.value v) w ∧ w' = w ∧ γ' = γ)

section
variable {P : Program} {B : Nat} {n0 : Fr} {o : Oper} {a : Act} {w : World} {γ : G} {σ : St} {c : C} {T : List C}

theorem OpOk.pure {q : Bool} {v : Value} (hs : Sat B n0 w γ σ) (hr : (execOp a.eval o).run P w = .ok (.value v) w) (hc : RepC w γ (Fil σ) c v) : OpOk P B n0 o a w γ σ c σ q :=
  ⟨v, w, γ, .inl hr, .refl _ _ _ _, .refl _ _ _, hs, fun _ h => h, hc, fun _ => ⟨hr, rfl, rfl⟩⟩

def cellsAt (w : World) (b o n : Nat) : List Value := (List.range n).map fun j => (w.cell? ⟨b, o + j, none⟩).getD undef

theorem load_sound {t : TypeId} {g : Bool} {n : Nat} (hg : aggT P t = some g) (hn : szT P t = some n) (hgn : g = true ∨ n = 1) {b off : Nat} {A : Nat → Prop} {cs : List C} (hl : cs.length = n)
    (h : ∀ (j : Nat) (c : C), cs[j]? = some c → ∃ u, w.cell? ⟨b, off + j, none⟩ = some u ∧ RepC w γ A c u) {c : C} (ha : aggOf g cs = some c) :
    ∃ v, (loadVar t ⟨b, off, none⟩).run P w = .ok v w ∧ RepC w γ A c v := by
  have hcell : ∀ j v, (cellsAt w b off n)[j]? = some v → w.cell? ⟨b, off + j, none⟩ = some v := by
    intro j v hv
    simp only [cellsAt, List.getElem?_map, Option.map_eq_some_iff] at hv
    obtain ⟨k, hk, rfl⟩ := hv
    have hjn : j < n := by
      rcases Nat.lt_or_ge j n with h' | h'
      · exact h'
      · rw [List.getElem?_eq_none (by simpa using h')] at hk; cases hk
    have : k = j := by rw [List.getElem?_range hjn] at hk; simpa using hk.symm
    subst this
    have hk' : k < cs.length := by omega
    obtain ⟨u, hu, _⟩ := h k cs[k] (List.getElem?_eq_getElem hk')
    simp [hu]
  refine ⟨_, loadVar_run hg hn hgn w b off (cellsAt w b off n) (by simp [cellsAt]) hcell, ?_⟩
  have hrep : ∀ (j : Nat) (c : C), cs[j]? = some c → RepC w γ A c ((cellsAt w b off n).getD j undef) := by
    intro j c hc
    obtain ⟨u, hu, hr⟩ := h j c hc
    have hjn : j < n := by have := (List.getElem?_eq_some_iff.1 hc).1; omega
    simp only [cellsAt, List.getD_eq_getElem?_getD, List.getElem?_map, List.getElem?_range hjn, Option.map_some, Option.getD_some, hu]
    exact hr
  cases g with
  | true =>
    simp only [aggOf, if_true, Option.some.injEq] at ha
    subst ha
    refine .agg _ (by simp [cellsAt, hl]) (fun i c hc => ?_)
    have := hrep i c hc
    simpa [Array.getD_eq_getD_getElem?, List.getD_eq_getElem?_getD] using this
  | false =>
    simp only [aggOf, Bool.false_eq_true, if_false] at ha ⊢
    match cs, ha with
    | [c'], ha => simp only [Option.some.injEq] at ha; subst ha; exact hrep 0 _ rfl

theorem get_drop_take {α : Type} (l : List α) (off n j : Nat) (x : α) (h : ((l.drop off).take n)[j]? = some x) : j < n ∧ l[off + j]? = some x := by
  rw [List.getElem?_take] at h
  split at h
  · rename_i hj; rw [List.getElem?_drop] at h; exact ⟨hj, h⟩
  · cases h

theorem loadC_sound {t : TypeId} {g : Bool} {n : Nat} (hg : aggT P t = some g) (hn : szT P t = some n) (hgn : g = true ∨ n = 1) (hi : Inv w γ σ) {p c : C} {v : Value} (hp : RepC w γ (Fil σ) p v)
    (h : loadC σ g n p = some c) : ∃ u, (Instr.loadAt t v).run P w = .ok u w ∧ RepC w γ (Fil σ) c u := by
  have key : ∀ (b off : Nat) (cs : List C), cs.length = n → aggOf g cs = some c → v = .pointer (some ⟨b, off, none⟩) →
      (∀ (j : Nat) (c : C), cs[j]? = some c → ∃ u, w.cell? ⟨b, off + j, none⟩ = some u ∧ RepC w γ (Fil σ) c u) → ∃ u, (Instr.loadAt t v).run P w = .ok u w ∧ RepC w γ (Fil σ) c u := by
    intro b off cs hl ha hv hh
    obtain ⟨u, hu, hr⟩ := load_sound hg hn hgn hl hh ha
    subst hv
    exact ⟨u, by simp [Instr.loadAt, Instr.sureAddr, hu], hr⟩
  cases hp with
  | @ref m off hm =>
    simp only [loadC] at h
    split at h
    · rename_i t' cs hb
      split at h
      · rename_i hle
        obtain ⟨_, vs, hh, hs, hr, h1⟩ := hi.ob m _ hb
        refine key _ off _ (by simp; omega) h rfl (fun j c hc => ?_)
        obtain ⟨hj, hc⟩ := get_drop_take _ _ _ _ _ hc
        have hlt : off + j < vs.size := by have := (List.getElem?_eq_some_iff.1 hc).1; omega
        refine ⟨vs.getD (off + j) undef, ?_, (hr _ _ hc).mono (fun _ h => h.2)⟩
        rw [cell_of_row w _ _ _ _ _ hh]
        simp [hlt]
      · cases h
    · cases h
  | @elt row off b o hrow =>
    simp only [loadC] at h
    split at h
    · rename_i hle
      refine key b (o + off) _ (by simp; omega) h rfl (fun j c hc => ?_)
      simp only [List.getElem?_map, Option.map_eq_some_iff] at hc
      obtain ⟨d, hd, rfl⟩ := hc
      obtain ⟨hj, hd⟩ := get_drop_take _ _ _ _ _ hd
      obtain ⟨u, hu, _, hr⟩ := hrow _ _ hd
      exact ⟨u, by rw [← hu, Nat.add_assoc], .d hr⟩
    · cases h
  | @celt row off b o val hcell hrep =>
    simp only [loadC] at h
    split at h
    · rename_i hle
      refine key b (o + off) _ (by simp; omega) h rfl (fun j c hc => ?_)
      obtain ⟨hj, hc⟩ := get_drop_take _ _ _ _ _ hc
      exact ⟨_, by rw [Nat.add_assoc]; exact (hcell _ _ hc).1, hrep _ _ hc⟩
    · cases h
  | _ => simp [loadC] at h

/-! ### New blocks -/

/-- Beside the world: a new block for the name N. -/
def G.name (γ : G) (N g : Nat) : G := { γ with mu := fun n => if n = N then g else γ.mu n }

/-- A new block: nothing that was there has turned. -/
theorem keep_alloc (hs : Sat B n0 w γ σ) (ob : Obj) (γ' : G) (s : Nat) (hn0 : n0.hi ≤ s) (hS : ¬ Fil σ s) (him : ∀ g, g < w.heap.size → γ'.im g = γ.im g) (hmu : ∀ n, n ≠ s → γ'.mu n = γ.mu n) (hlen : ∀ n, n ≠ s → γ'.len n = γ.len n)
    (htk : ∀ n, n ≠ s → γ'.tk n = γ.tk n) : Keep σ w γ (w.alloc ob) γ' ∧ Fn B n0 w γ (w.alloc ob) γ' := by
  have hne : ∀ n, Fil σ n → n ≠ s := fun n h e => hS (e ▸ h)
  have hd : ExtD w γ.im (w.alloc ob) γ'.im := by
    refine ⟨fun g i hi => ?_, fun g => ?_⟩
    · rcases Nat.lt_or_ge g w.heap.size with h | h
      · exact World.cell?_alloc_lt w ob ⟨g, i, none⟩ h
      · have := hs.inv.lt g h; omega
    · rcases Nat.lt_or_ge g w.heap.size with h | h
      · rw [him g h]; exact Nat.le_refl _
      · rw [hs.inv.lt g h]; exact Nat.zero_le _
  refine ⟨⟨⟨hd, fun n hn => hmu n (hne n hn), fun n hn => by rw [hlen n (hne n hn)]; exact Nat.le_refl _, fun n hn _ => htk n (hne n hn)⟩, (Below.refl _ _).alloc (Nat.le_refl _) _, him, fun n hn => hlen n (hne n hn)⟩, ?_⟩
  have hlt : ∀ n, n < n0.hi → n ≠ s := fun n hn => by omega
  have hle := n0.le
  exact ⟨⟨hd, fun n hn => hmu n (hlt n hn), fun n hn => by rw [hlen n (hlt n hn)]; exact Nat.le_refl _, fun n hn _ => htk n (hlt n hn)⟩, (Below.refl _ _).alloc hs.B _, fun g hg => him g (by have := hs.B; omega), fun n hn => ⟨hlen n (hlt n (by omega)), htk n (hlt n (by omega))⟩, fun r hr => (Below.heap_alloc w ob r (heap_lt hr)).trans hr, fun l x hl => ⟨x, (Below.heap_alloc w ob l (heap_lt hl)).trans hl⟩⟩

theorem hole_not_fil {s : Nat} (h : σ[s]? = some none) : ¬ Fil σ s := fun ⟨b, hb⟩ => by rw [h] at hb; cases hb

theorem box_new (hs : Sat B n0 w γ σ) {s : Nat} (hh : σ[s]? = some none) (hn0 : n0.hi ≤ s) {t : TypeId} {cs : List C} {vs : Array Value} (hsz : vs.size = cs.length) (hr : ∀ (i : Nat) (c : C), cs[i]? = some c → RepC w γ (Low (Fil σ) s) c (vs.getD i undef))
    (h1 : ∀ i, i < vs.size → (vs.getD i undef).oneCell' = true) :
    ∃ γ', Fn B n0 w γ (w.alloc (.cells vs t)) γ' ∧ Ext (Fil σ) w γ (w.alloc (.cells vs t)) γ' ∧ Sat B n0 (w.alloc (.cells vs t)) γ' (σ.set s (some (.box t cs))) ∧ γ'.mu s = w.heap.size := by
  have hS := hole_not_fil hh
  have hsl : s < σ.length := (List.getElem?_eq_some_iff.1 hh).1
  obtain ⟨hk, hf⟩ := keep_alloc hs (.cells vs t) (γ.name s w.heap.size) s hn0 hS (fun _ _ => rfl) (fun n hn => by simp [G.name, hn]) (fun _ _ => rfl) (fun _ _ => rfl)
  have hsat := hs.after hk (fun g hg => by have := hs.inv.lt g (by simp at hg; omega); exact this)
  have hmu : (γ.name s w.heap.size).mu s = w.heap.size := by simp [G.name]
  refine ⟨γ.name s w.heap.size, hf, hk.ext, hsat.fill hh _ ?_ (fun g hg => ?_), hmu⟩
  · refine ⟨by rw [hmu]; exact hs.inv.lt _ (Nat.le_refl _), vs, by rw [hmu]; exact heap_alloc_new w _, hsz, fun i c hc => ((hr i c hc).ext (hk.ext.mono fun _ h => h.2)).mono (fun n hn => ⟨hn.1, (fil_set hsl n).2 (.inr hn.2)⟩), h1⟩
  · simp only [ownBlk, hmu, Option.some.injEq] at hg
    subst hg
    refine ⟨hs.B, fun n c' hn hg => ?_⟩
    rw [ownBlk_congr _ ⟨c', hn⟩ hk.ext (hk.out n ⟨c', hn⟩)] at hg
    have := (hs.inv.ob n c' hn).blk_lt hg
    omega

theorem cellsOf_sound {g : Bool} {n : Nat} {x : C} {cs : List C} {v : Value} {A : Nat → Prop} (h : cellsOf g n x = some cs) (hx : RepC w γ A x v) :
    v.cells.size = cs.length ∧ cs.length = n ∧ (∀ (i : Nat) (c : C), cs[i]? = some c → RepC w γ A c (v.cells.getD i undef)) ∧ ∀ i, i < v.cells.size → (v.cells.getD i undef).oneCell' = true := by
  have one : ∀ (y : C), (if !g && n == 1 && y.one then some [y] else none) = some cs → RepC w γ A y v →
      v.cells.size = cs.length ∧ cs.length = n ∧ (∀ (i : Nat) (c : C), cs[i]? = some c → RepC w γ A c (v.cells.getD i undef)) ∧ ∀ i, i < v.cells.size → (v.cells.getD i undef).oneCell' = true := by
    intro y h hy
    split at h
    · rename_i hc
      simp only [Option.some.injEq] at h
      subst h
      simp only [Bool.and_eq_true, beq_iff_eq] at hc
      have h1 := hy.one hc.2
      have hv : v.cells = #[v] := by cases v <;> first | rfl | simp [Value.oneCell'] at h1
      rw [hv]
      refine ⟨rfl, by simp [hc.1.2], fun i c hc => ?_, fun i hi => ?_⟩
      · cases i with
        | zero => simp at hc; subst hc; exact hy
        | succ i => simp at hc
      · have : i = 0 := by simpa using hi
        subst this; exact h1
    · cases h
  cases x with
  | agg xs =>
    simp only [cellsOf] at h
    split at h
    · rename_i hc
      simp only [Option.some.injEq] at h
      subst h
      simp only [Bool.and_eq_true, beq_iff_eq] at hc
      cases hx with
      | agg vs hs hr =>
        refine ⟨hs, hc.1.2, hr, fun i hi => ?_⟩
        have hi' : i < xs.length := by simpa [Value.cells, hs] using hi
        refine (hr i xs[i] (List.getElem?_eq_getElem hi')).one ?_
        exact List.all_eq_true.1 hc.2 _ (List.getElem_mem hi')
    · cases h
  | _ => exact one _ h hx

end
end Go.Av

set_option linter.unusedVariables false
set_option linter.unusedSimpArgs false
namespace Go.Av
open Go.RowKit
variable [TheProg]
set_option linter.unusedSectionVars false

section
variable {P : Program} {B : Nat} {n0 : Fr} {o : Oper} {a : Act} {w : World} {γ : G} {σ σ' : St} {c : C} {T : List C}

theorem exec_v {s : Sem Value} {v : Value} {w' : World} (he : execOp a.eval o = (do pure (.value (← s)) : Sem Next)) (hr : s.run P w = .ok v w') : OpRun P o a w v w' := by
  refine .inl ?_
  rw [he]
  simp [hr]

theorem exec_u {s : Sem Unit} {w' : World} (he : execOp a.eval o = (do s; pure .skip : Sem Next)) (hr : s.run P w = .ok () w') : OpRun P o a w undef w' := by
  refine .inr ⟨?_, rfl⟩
  rw [he]
  simp [hr]

theorem ok_v {q : Bool} {s : Sem Value} {v : Value} (hs : Sat B n0 w γ σ) (he : execOp a.eval o = (do pure (.value (← s)) : Sem Next)) (hr : s.run P w = .ok v w) (hc : RepC w γ (Fil σ) c v) : OpOk P B n0 o a w γ σ c σ q :=
  ⟨v, w, γ, exec_v he hr, .refl _ _ _ _, .refl _ _ _, hs, fun _ h => h, hc, fun _ => ⟨by rw [he]; simp [hr], rfl, rfl⟩⟩

theorem rep_int {A : Nat → Prop} {k : IntKind} {n : Int} {v : Value} (h : RepC w γ A (.d (.int k n)) v) : v = .int k n := by cases h with | d h => cases h; rfl
theorem rep_bool {A : Nat → Prop} {b : Bool} {v : Value} (h : RepC w γ A (.d (.bool b)) v) : v = .bool b := by cases h with | d h => cases h; rfl
theorem rep_str {A : Nat → Prop} {s : ByteArray} {v : Value} (h : RepC w γ A (.d (.str s)) v) : v = .string s := by cases h with | d h => cases h; rfl

theorem natOf_rep {A : Nat → Prop} {x : C} {n : Int} {v : Value} (h : natOf x = some n) (hx : RepC w γ A x v) : ∃ k, v = .int k n := by
  unfold natOf at h
  split at h
  · simp only [Option.some.injEq] at h; subst h; exact ⟨_, rep_int hx⟩
  · cases h

/-! ### Numbers and texts -/

theorem binInt_run {op : BinOp} {k : IntKind} {x y : Int} {d : D} (h : binInt op k x y = some d) (t : TypeId) (hns : op ≠ .shl ∧ op ≠ .shr) :
    ∃ v, (binOp op t (.int k x) (.int k y)).run P w = .ok v w ∧ ∀ im, RepD w im d v := by
  cases op <;> simp only [binInt] at h <;> first
    | (simp only [Option.some.injEq] at h; subst h; exact ⟨_, by simp [binOp, Op.intArith, Op.intCmp]; rfl, fun im => by constructor⟩)
    | (simp only [Option.some.injEq] at h; subst h; exact ⟨_, rfl, fun im => by constructor⟩)
    | (split at h
       · cases h
       · rename_i hy
         simp only [Option.some.injEq] at h; subst h; exact ⟨_, by simp [binOp, Op.intDiv, hy]; rfl, fun im => by constructor⟩)
    | exact absurd rfl hns.1
    | exact absurd rfl hns.2
    | cases h

theorem binStr_run {op : BinOp} {x y : ByteArray} {d : D} (h : binStr op x y = some d) (t : TypeId) :
    ∃ v, (binOp op t (.string x) (.string y)).run P w = .ok v w ∧ ∀ im, RepD w im d v := by
  have hb : ∀ (b : Bool) (s : Sem Value), s.run P w = .ok (.bool b) w → ∃ v, s.run P w = .ok v w ∧ ∀ im, RepD w im (.bool b) v := fun b s h => ⟨_, h, fun im => .bool b⟩
  cases op <;> simp only [binStr] at h <;> first
    | (split at h
       · cases h
       · rename_i hy
         simp only [Option.some.injEq] at h; subst h
         exact ⟨.string (x ++ y), by simp only [binOp, Op.stringOp]; rw [if_neg hy]; rfl, fun im => .str _⟩)
    | (simp only [Option.some.injEq] at h; subst h; exact hb _ _ (by simp [binOp, Op.stringOp, strEq, strLt, ByteArray.toList_eq]))
    | cases h

theorem eqGuard_int (op : BinOp) (t : TypeId) (x y : Operand) (k k' : IntKind) (u v : Int) : (eqGuard op t x y (.int k u) (.int k' v)).run P w = .ok () w := by
  cases op <;> rfl
theorem eqGuard_str (op : BinOp) (t : TypeId) (x y : Operand) (u v : ByteArray) : (eqGuard op t x y (.string u) (.string v)).run P w = .ok () w := by
  cases op <;> rfl

theorem binC_run {op : BinOp} {x y c : C} {u v : Value} {A : Nat → Prop} (h : binC op x y = some c) (hx : RepC w γ A x u) (hy : RepC w γ A y v) (t : TypeId) (ox oy : Operand) :
    ∃ r, (do eqGuard op t ox oy u v; binOp op t u v : Sem Value).run P w = .ok r w ∧ RepC w γ A c r := by
  unfold binC at h
  split at h
  · rename_i k1 n1 k2 n2
    obtain rfl := rep_int hx
    obtain rfl := rep_int hy
    have hg := eqGuard_int (P := P) (w := w) op t ox oy k1 k2 n1 n2
    simp only [Sem.run_bind, hg, Result.andThen_ok]
    split at h
    · split at h
      · cases h
      · rename_i hb
        simp only [Option.some.injEq] at h; subst h
        exact ⟨_, by simp only [binOp, Op.shift]; rw [if_neg hb]; rfl, .d (.int _ _)⟩
    · split at h
      · cases h
      · rename_i hb
        simp only [Option.some.injEq] at h; subst h
        exact ⟨_, by simp only [binOp, Op.shift]; rw [if_neg hb]; rfl, .d (.int _ _)⟩
    · rename_i h1 h2
      split at h
      · rename_i hk
        subst hk
        obtain ⟨d, hd, rfl⟩ := Option.map_eq_some_iff.1 h
        obtain ⟨r, hr, hrep⟩ := binInt_run (P := P) (w := w) hd t ⟨fun e => h1 e, fun e => h2 e⟩
        exact ⟨r, hr, .d (hrep _)⟩
      · cases h
  · rename_i s1 s2
    obtain rfl := rep_str hx
    obtain rfl := rep_str hy
    have hg := eqGuard_str (P := P) (w := w) op t ox oy s1 s2
    simp only [Sem.run_bind, hg, Result.andThen_ok]
    obtain ⟨d, hd, rfl⟩ := Option.map_eq_some_iff.1 h
    obtain ⟨r, hr, hrep⟩ := binStr_run (P := P) (w := w) hd t
    exact ⟨r, hr, .d (hrep _)⟩
  · cases h

theorem unC_run {op : UnOp} {x c : C} {u : Value} {A : Nat → Prop} (h : unC op x = some c) (hx : RepC w γ A x u) : ∃ r, (Op.unary op u).run P w = .ok r w ∧ RepC w γ A c r := by
  unfold unC at h
  split at h
  · obtain rfl := rep_int hx
    split at h
    · simp only [Option.some.injEq] at h; subst h
      exact ⟨_, by simp [Op.unary, Op.intArith], .d (.int _ _)⟩
    · cases h
  · obtain rfl := rep_bool hx
    split at h
    · simp only [Option.some.injEq] at h; subst h
      exact ⟨_, by simp [Op.unary], .d (.bool _)⟩
    · cases h
  · cases h

theorem lenC_run {g : Bool} {x : C} {n : Int} {u : Value} {A : Nat → Prop} (h : lenC g x = some n) (hx : RepC w γ A x u) (t ty : TypeId) (ht : (g = true ∧ P.underlying t = some .string) ∨ (g = false ∧ ∃ e, P.underlying t = some (.slice e))) :
    (Builtin.len_ #[t] ty #[u]).run P w = .ok (.int .i64 n) w := by
  have hsl : ∀ (sz : Nat) (rows : List (List D)) (im : Nat → Nat) (v : Value), RepD w im (.sl sz rows) v → ∃ a c, v = .slice a rows.length c := by
    intro sz rows im v h
    cases h with
    | sl0 sz a cap _ => exact ⟨_, _, rfl⟩
    | sl sz rows g o cap val hcap h1 h2 h3 => exact ⟨_, _, rfl⟩
  have hfin : ∀ (a : Option Addr) (l c : Nat), g = false → u = .slice a l c → (l : Int) = n → (Builtin.len_ #[t] ty #[u]).run P w = .ok (.int .i64 n) w := by
    intro a l c hg hu hn
    subst hu; subst hn
    rcases ht with ⟨hs, _⟩ | ⟨_, e, he⟩
    · rw [hg] at hs; cases hs
    · simp [Builtin.len_, run_underlying he, goInt]
  unfold lenC at h
  split at h
  · simp only [Option.some.injEq] at h
    cases hx with
    | d hx => obtain ⟨a, c, hv⟩ := hsl _ _ _ _ hx; exact hfin _ _ _ rfl hv h
  · simp only [Option.some.injEq] at h
    cases hx with
    | o hx => obtain ⟨a, c, hv⟩ := hsl _ _ _ _ hx; exact hfin _ _ _ rfl hv h
  · simp only [Option.some.injEq] at h
    cases hx with
    | csl val h1 h2 h3 => exact hfin _ _ _ rfl rfl h
  · simp only [Option.some.injEq] at h
    cases hx with
    | nils e sz => exact hfin _ _ _ rfl rfl (by simpa using h)
  · simp only [Option.some.injEq] at h
    cases hx with
    | enn sz p cap => exact hfin _ _ _ rfl rfl (by simpa using h)
  · rename_i s
    simp only [Option.some.injEq] at h
    obtain rfl := rep_str hx
    rcases ht with ⟨_, ht⟩ | ⟨hs, _⟩
    · simp [Builtin.len_, run_underlying ht, goInt, h]
    · cases hs
  · cases h

theorem maxFold : ∀ (xs : List C) (us : List Value) (k : IntKind) (x : Int) (c : C) (A : Nat → Prop), xs.length = us.length → (∀ (i : Nat) (y : C), xs[i]? = some y → RepC w γ A y (us.getD i undef)) →
    xs.foldlM (fun c y => match c, y with
    | .d (.int k x), .d (.int k' y) => if k = k' then some (C.d (.int k (if y > x then y else x))) else none
    | _, _ => none) (C.d (.int k x)) = some c → ∃ r, (us.foldlM Builtin.max2 (.int k x)).run P w = .ok r w ∧ RepC w γ A c r
  | [], us, k, x, c, A, hl, hr, h => by
    have : us = [] := List.eq_nil_of_length_eq_zero (by simpa using hl.symm)
    subst this
    simp only [List.foldlM_nil, Option.pure_def, Option.some.injEq] at h; subst h
    exact ⟨.int k x, by simp, .d (.int _ _)⟩
  | y :: ys, us, k, x, c, A, hl, hr, h => by
    match us, hl with
    | u :: us, hl =>
      have hy : RepC w γ A y u := hr 0 y rfl
      simp only [List.foldlM_cons, Option.bind_eq_bind, Option.bind_eq_some_iff] at h
      obtain ⟨z, hz, h⟩ := h
      split at hz
      · rename_i k1 x1 k2 y1 e1 _
        cases e1
        split at hz
        · rename_i hk; subst hk
          simp only [Option.some.injEq] at hz; subst hz
          obtain rfl := rep_int hy
          obtain ⟨r, hr', hc⟩ := maxFold ys us _ _ c A (by simpa using hl) (fun i y hy => by simpa using hr (i + 1) y (by simpa using hy)) h
          exact ⟨r, by simp [Builtin.max2, hr'], hc⟩
        · cases hz
      · cases hz

theorem minFold : ∀ (xs : List C) (us : List Value) (k : IntKind) (x : Int) (c : C) (A : Nat → Prop), xs.length = us.length → (∀ (i : Nat) (y : C), xs[i]? = some y → RepC w γ A y (us.getD i undef)) →
    xs.foldlM (fun c y => match c, y with
    | .d (.int k x), .d (.int k' y) => if k = k' then some (C.d (.int k (if y < x then y else x))) else none
    | _, _ => none) (C.d (.int k x)) = some c → ∃ r, (us.foldlM Builtin.min2 (.int k x)).run P w = .ok r w ∧ RepC w γ A c r
  | [], us, k, x, c, A, hl, hr, h => by
    have : us = [] := List.eq_nil_of_length_eq_zero (by simpa using hl.symm)
    subst this
    simp only [List.foldlM_nil, Option.pure_def, Option.some.injEq] at h; subst h
    exact ⟨.int k x, by simp, .d (.int _ _)⟩
  | y :: ys, us, k, x, c, A, hl, hr, h => by
    match us, hl with
    | u :: us, hl =>
      have hy : RepC w γ A y u := hr 0 y rfl
      simp only [List.foldlM_cons, Option.bind_eq_bind, Option.bind_eq_some_iff] at h
      obtain ⟨z, hz, h⟩ := h
      split at hz
      · rename_i k1 x1 k2 y1 e1 _
        cases e1
        split at hz
        · rename_i hk; subst hk
          simp only [Option.some.injEq] at hz; subst hz
          obtain rfl := rep_int hy
          obtain ⟨r, hr', hc⟩ := minFold ys us _ _ c A (by simpa using hl) (fun i y hy => by simpa using hr (i + 1) y (by simpa using hy)) h
          exact ⟨r, by simp [Builtin.min2, hr'], hc⟩
        · cases hz
      · cases hz

theorem at2_of_getD {α : Type} {rows : List (List α)} {i j : Nat} {x : α} (h : i < rows.length) (hx : (rows.getD i [])[j]? = some x) : at2 rows i j = some x := by
  simpa [at2, List.getElem?_eq_getElem h, List.getD_eq_getElem?_getD] using hx

/-- The address of an element. -/
theorem ixC_run {t e : TypeId} {sz : Nat} (he : elemT P t = some e) (hsz : szT P e = some sz) {x : C} {k : IntKind} {i : Int} {u : Value} {A : Nat → Prop} (h : ixC sz x i = some c) (hx : RepC w γ A x u) :
    ∃ r, (Instr.indexAt t u (.int k i)).run P w = .ok r w ∧ RepC w γ A c r := by
  have hu : P.underlying t = some (.slice e) := by
    unfold elemT at he
    split at he
    · rename_i e' h'; simp only [Option.some.injEq] at he; subst he; exact h'
    · cases he
  have run : ∀ (g o cap : Nat) (n : Nat), 0 ≤ i → i < n → u = .slice (some ⟨g, o, none⟩) n cap → (Instr.indexAt t u (.int k i)).run P w = .ok (.pointer (some ⟨g, o + i.toNat * sz, none⟩)) w := by
    intro g o cap n h0 h1 hu'
    subst hu'
    simp [Instr.indexAt, asIntOf, run_underlying hu, h0, h1, sizeOf_run hsz, add_pl]
  have rowOf : ∀ (rows : List (List D)), RepD w γ.im (.sl sz rows) u → 0 ≤ i → i < rows.length → c = .elt (rows.getD i.toNat []) 0 → ∃ r, (Instr.indexAt t u (.int k i)).run P w = .ok r w ∧ RepC w γ A c r := by
    intro rows hr h0 h1 hc
    cases hr with
    | sl0 => simp at h1; omega
    | sl _ _ g o cap val hcap hlen hcell hrep =>
      refine ⟨_, run g o cap rows.length h0 h1 rfl, ?_⟩
      subst hc
      refine RepC.elt (off := 0) (fun j d hd => ?_)
      have hat : at2 rows i.toNat j = some d := by
        have : i.toNat < rows.length := by omega
        simpa [at2, List.getElem?_eq_getElem this, List.getD_eq_getElem?_getD] using hd
      exact ⟨_, (hcell _ _ _ hat).1, (hcell _ _ _ hat).2, hrep _ _ _ hat⟩
  unfold ixC at h
  split at h
  · split at h
    · rename_i hh
      simp only [Option.some.injEq] at h
      obtain ⟨rfl, h0, h1⟩ := hh
      cases hx with
      | d hx => exact rowOf _ hx h0 h1 h.symm
    · cases h
  · split at h
    · rename_i hh
      simp only [Option.some.injEq] at h
      obtain ⟨rfl, h0, h1⟩ := hh
      cases hx with
      | o hx => exact rowOf _ hx h0 h1 h.symm
    · cases h
  · split at h
    · rename_i hh
      simp only [Option.some.injEq] at h
      obtain ⟨rfl, h0, h1⟩ := hh
      cases hx with
      | csl val hlen hcell hrep =>
        refine ⟨_, run _ _ _ _ h0 h1 rfl, ?_⟩
        subst h
        exact RepC.celt (off := 0) (val i.toNat) (fun j c hc => hcell _ _ _ (at2_of_getD (by omega) hc)) (fun j c hc => hrep _ _ _ (at2_of_getD (by omega) hc))
    · cases h
  · cases h

end
end Go.Av

set_option linter.unusedVariables false
set_option linter.unusedSimpArgs false
namespace Go.Av
open Go.RowKit
variable [TheProg]
set_option linter.unusedSectionVars false

section
variable {P : Program} {B : Nat} {n0 : Fr} {o : Oper} {a : Act} {w : World} {γ : G} {σ σ' : St} {c : C} {T : List C}

/-- An array of values is a list of abstract cells. -/
def RepL (w : World) (γ : G) (A : Nat → Prop) (cs : List C) (vs : Array Value) : Prop := vs.size = cs.length ∧ ∀ (i : Nat) (c : C), cs[i]? = some c → RepC w γ A c (vs.getD i undef)

def setFrom (off : Nat) (cells : Array Value) (xs : List Value) : Array Value := (xs.zipIdx).foldl (fun cs (c, j) => cs.setIfInBounds (off + j) c) cells

theorem setFrom_go (off : Nat) : ∀ (xs : List Value) (k : Nat) (cells : Array Value), ((xs.zipIdx k).foldl (fun cs (c, j) => cs.setIfInBounds (off + j) c) cells).size = cells.size ∧
    ∀ i, off + k + xs.length ≤ cells.size → ((xs.zipIdx k).foldl (fun cs (c, j) => cs.setIfInBounds (off + j) c) cells).getD i undef = if off + k ≤ i ∧ i < off + k + xs.length then xs.getD (i - (off + k)) undef else cells.getD i undef
  | [], k, cells => by
    refine ⟨rfl, fun i _ => ?_⟩
    simp only [List.zipIdx_nil, List.foldl_nil, List.length_nil]
    rw [if_neg (by omega)]
  | x :: xs, k, cells => by
    obtain ⟨h1, h2⟩ := setFrom_go off xs (k + 1) (cells.setIfInBounds (off + k) x)
    simp only [List.zipIdx_cons, List.foldl_cons, List.length_cons]
    refine ⟨by rw [h1]; simp, fun i hi => ?_⟩
    rw [h2 i (by simp; omega)]
    by_cases e : i = off + k
    · subst e
      rw [if_neg (by omega), if_pos (by omega)]
      have : off + k < cells.size := by omega
      simp [Array.getD_eq_getD_getElem?, this]
    · by_cases e2 : off + (k + 1) ≤ i ∧ i < off + (k + 1) + xs.length
      · rw [if_pos e2, if_pos (by omega)]
        obtain ⟨m, hm⟩ : ∃ m, i - (off + k) = m + 1 := ⟨i - (off + k) - 1, by omega⟩
        rw [hm, List.getD_cons_succ]
        congr 1
        omega
      · rw [if_neg e2, if_neg (by omega)]
        simp only [Array.getD_eq_getD_getElem?, Array.getElem?_setIfInBounds]
        rw [if_neg (fun h => e h.symm)]

theorem setFrom_arr (off : Nat) (cells vs : Array Value) : vs.zipIdx.foldl (fun cs (x : Value × Nat) => cs.setIfInBounds (off + x.2) x.1) cells = setFrom off cells vs.toList := by
  unfold setFrom
  rw [← Array.foldl_toList]
  simp

theorem repL_set {A : Nat → Prop} {cs xs : List C} {cells vs : Array Value} {off : Nat} (hc : RepL w γ A cs cells) (hx : RepL w γ A xs vs) (hle : off + xs.length ≤ cs.length) :
    RepL w γ A (cs.take off ++ xs ++ cs.drop (off + xs.length)) (setFrom off cells vs.toList) := by
  obtain ⟨h1, h2⟩ := setFrom_go off vs.toList 0 cells
  have hs : vs.toList.length = xs.length := by simp [hx.1]
  refine ⟨?_, fun i c hi => ?_⟩
  · show (setFrom off cells vs.toList).size = _
    unfold setFrom
    rw [h1, hc.1]
    simp; omega
  · show RepC w γ A c ((setFrom off cells vs.toList).getD i undef)
    unfold setFrom
    rw [h2 i (by rw [hs, hc.1]; omega), hs]
    by_cases e : off + 0 ≤ i ∧ i < off + 0 + xs.length
    · rw [if_pos e]
      have e1 : (cs.take off).length = off := by simp; omega
      rw [List.append_assoc, List.getElem?_append_right (by omega), e1, List.getElem?_append_left (by omega)] at hi
      have := hx.2 _ _ hi
      simpa [Array.getD_eq_getD_getElem?, List.getD_eq_getElem?_getD] using this
    · rw [if_neg e]
      refine hc.2 i c ?_
      rcases Nat.lt_or_ge i off with hlt | hge
      · rw [List.append_assoc, List.getElem?_append_left (by simp; omega), List.getElem?_take, if_pos hlt] at hi
        exact hi
      · have e1 : (cs.take off ++ xs).length = off + xs.length := by simp; omega
        rw [List.getElem?_append_right (by omega), e1, List.getElem?_drop] at hi
        rw [← hi]
        congr 1
        omega

/-- What is filled in. -/
inductive RepP (w : World) (γ : G) (A : Nat → Prop) (place : Nat → Option (Nat × Nat)) : List (Nat × Value) → List (Nat × List C) → Prop
  | nil : RepP w γ A place [] []
  | cons {i : Nat} {v : Value} {off : Nat} {xs : List C} {ps : List (Nat × Value)} {qs : List (Nat × List C)} (hp : place i = some (off, xs.length)) (hx : RepL w γ A xs v.cells)
      (h : RepP w γ A place ps qs) : RepP w γ A place ((i, v) :: ps) ((off, xs) :: qs)

theorem fill_sound {A : Nat → Prop} {place : Nat → Option (Nat × Nat)} {ps : List (Nat × Value)} {qs : List (Nat × List C)} (h : RepP w γ A place ps qs) :
    ∀ {cs cs' : List C} {cells : Array Value}, RepL w γ A cs cells → fillC cs qs = some cs' → ∃ cells', Instr.fill place cells ps = some cells' ∧ RepL w γ A cs' cells' := by
  induction h with
  | nil => intro cs cs' cells hc hf; simp only [fillC, Option.some.injEq] at hf; subst hf; exact ⟨cells, rfl, hc⟩
  | @cons i v off xs ps qs hp hx h ih =>
    intro cs cs' cells hc hf
    simp only [fillC] at hf
    split at hf
    · rename_i hle
      obtain ⟨cells', h1, h2⟩ := ih (repL_set hc hx hle) hf
      refine ⟨cells', ?_, h2⟩
      rw [Instr.fill, hp]
      simp only []
      rw [if_neg]
      · rw [← h1, ← setFrom_arr]
      · simp only [Bool.or_eq_true, decide_eq_true_eq, not_or]
        refine ⟨fun h => h hx.1, ?_⟩
        have := hx.1; have := hc.1
        omega
    · cases hf

theorem agg_repL {A : Nat → Prop} {cs : List C} {v : Value} (h : RepC w γ A (.agg cs) v) : RepL w γ A cs v.cells := by
  cases h with | agg vs hs hr => exact ⟨hs, hr⟩

theorem one_repL {A : Nat → Prop} {c : C} {v : Value} (h : RepC w γ A c v) (h1 : v.oneCell' = true) : RepL w γ A [c] v.cells := by
  have hv : v.cells = #[v] := by cases v <;> first | rfl | simp [Value.oneCell'] at h1
  rw [hv]
  refine ⟨rfl, fun i x hx => ?_⟩
  cases i with
  | zero => simp at hx; subst hx; exact h
  | succ i => simp at hx

theorem zeroT_repL {t : TypeId} {zs : List C} (h : zeroT P t = some zs) (w : World) (γ : G) (A : Nat → Prop) : ∃ i z, P.info? t = some i ∧ i.zero = some z ∧ RepL w γ A zs z.cells := by
  unfold zeroT at h
  split at h
  · rename_i z hz
    obtain ⟨i, hi, hiz⟩ := Option.bind_eq_some_iff.1 hz
    simp only [] at h
    split at h
    · rename_i hl
      simp only [Option.some.injEq] at h; subst h
      refine ⟨i, z, hi, hiz, by simp [hl], fun k c hk => ?_⟩
      simp only [List.getElem?_map, Option.map_eq_some_iff] at hk
      obtain ⟨⟨t', v⟩, hk, rfl⟩ := hk
      rw [List.getElem?_zip_eq_some] at hk
      have : z.cells[k]? = some v := by simpa using hk.2
      simp only [Array.getD_eq_getD_getElem?, this, Option.getD_some]
      exact rep_cOfT P t' w γ A v
    · cases h
  · cases h

end
end Go.Av

set_option linter.unusedVariables false
set_option linter.unusedSimpArgs false
namespace Go.Av
open Go.RowKit
variable [TheProg]
set_option linter.unusedSectionVars false

section
variable {P : Program} {B : Nat} {n0 : Fr} {o : Oper} {a : Act} {w : World} {γ : G} {σ σ' : St} {c : C} {T : List C}

theorem toD_rep {A : Nat → Prop} {c : C} {x : D} {v : Value} (h : toD c = some x) (hc : RepC w γ A c v) : RepD w γ.im x v := by
  unfold toD at h
  split at h
  · simp only [Option.some.injEq] at h; subst h; cases hc with | d hc => exact hc
  · simp only [Option.some.injEq] at h; subst h; cases hc with | o hc => exact hc
  · simp only [Option.some.injEq] at h; subst h; cases hc with | nils => exact .sl0 _ _ _ (fun _ => rfl)
  · simp only [Option.some.injEq] at h; subst h; cases hc with | enn => exact .sl0 _ _ _ (fun h => by cases h)
  · cases h

theorem toDs_get : ∀ {cs : List C} {xs : List D}, toDs cs = some xs → cs.length = xs.length ∧ ∀ (i : Nat) (x : D), xs[i]? = some x → ∃ c, cs[i]? = some c ∧ toD c = some x
  | [], xs, h => by simp only [toDs, Option.some.injEq] at h; subst h; exact ⟨rfl, fun i x hx => by simp at hx⟩
  | c :: cs, xs, h => by
    simp only [toDs] at h
    split at h
    · rename_i x xs' h1 h2
      simp only [Option.some.injEq] at h; subst h
      obtain ⟨k1, k2⟩ := toDs_get h2
      refine ⟨by simp [k1], fun i y hy => ?_⟩
      cases i with
      | zero => simp at hy; subst hy; exact ⟨c, rfl, h1⟩
      | succ i => exact k2 i y (by simpa using hy)
    · cases h

theorem toDss_get : ∀ {rows : List (List C)} {ds : List (List D)}, toDss rows = some ds → rows.length = ds.length ∧ ∀ (i : Nat) (r : List D), ds[i]? = some r → ∃ cs, rows[i]? = some cs ∧ toDs cs = some r
  | [], ds, h => by simp only [toDss, Option.some.injEq] at h; subst h; exact ⟨rfl, fun i x hx => by simp at hx⟩
  | cs :: rows, ds, h => by
    simp only [toDss] at h
    split at h
    · rename_i x xs' h1 h2
      simp only [Option.some.injEq] at h; subst h
      obtain ⟨k1, k2⟩ := toDss_get h2
      refine ⟨by simp [k1], fun i y hy => ?_⟩
      cases i with
      | zero => simp at hy; subst hy; exact ⟨cs, rfl, h1⟩
      | succ i => exact k2 i y (by simpa using hy)
    · cases h

/-! ### A store -/

theorem store_sound {t : TypeId} {n m off : Nat} {ty : TypeId} {cs xs : List C} {v : Value} (hs : Sat B n0 w γ σ) (hm : σ[m]? = some (some (.box ty cs))) (hn0 : n0.lo ≤ m) (hsz : szT P t = some n)
    (hx : RepL w γ (Fil σ) xs v.cells) (hl : xs.length = n) (h1 : xs.all C.one = true) (hlt : C.ltL m xs = true) (hle : off + n ≤ cs.length) :
    ∃ w' γ', (storeVar t ⟨γ.mu m, off, none⟩ v).run P w = .ok () w' ∧ Fn B n0 w γ w' γ' ∧ Ext (Fil σ) w γ w' γ' ∧ Sat B n0 w' γ' (σ.set m (some (.box ty (cs.take off ++ xs ++ cs.drop (off + n))))) := by
  have hml : m < σ.length := (List.getElem?_eq_some_iff.1 hm).1
  obtain ⟨h0, vs, hh, hvs, hr, hone⟩ := hs.inv.ob m _ hm
  have hvl : v.cells.toList.length = n := by simp [hx.1, hl]
  have hone' : ∀ u ∈ v.cells.toList, u.oneCell' = true := by
    intro u hu
    obtain ⟨i, hi, rfl⟩ := List.mem_iff_getElem.1 hu
    have hi' : i < xs.length := by omega
    have := (hx.2 i xs[i] (List.getElem?_eq_getElem hi')).one (List.all_eq_true.1 h1 _ (List.getElem_mem hi'))
    have hi2 : i < v.cells.size := by simpa using hi
    simpa [Array.getD_eq_getD_getElem?, hi2] using this
  have hrun := run_storeCells_at P (γ.mu m) off ty v.cells.toList 0 vs w hh (by omega) hone'
  simp only [Nat.add_zero] at hrun
  rw [hvl] at hrun
  refine ⟨w.setRow (γ.mu m) (vs.toList.take off ++ v.cells.toList ++ vs.toList.drop (off + n)).toArray, γ, ?_, ?_, ?_, ?_⟩
  · unfold storeVar
    have hne : ¬ (v.cells.size ≠ n) := by simp [hx.1, hl]
    simp only [Sem.run_bind, sizeOf_run hsz, Result.andThen_ok]
    rw [if_neg hne]
    simpa using hrun
  all_goals
    have hblk : ∀ k, k ≠ γ.mu m → (w.setRow (γ.mu m) (vs.toList.take off ++ v.cells.toList ++ vs.toList.drop (off + n)).toArray).heap[k]? = w.heap[k]? := fun k hk => setRow_other w _ k _ hk
    have hext : ∀ A : Nat → Prop, Ext A w γ (w.setRow (γ.mu m) (vs.toList.take off ++ v.cells.toList ++ vs.toList.drop (off + n)).toArray) γ := by
      refine fun A => ⟨⟨fun g i hi => ?_, fun _ => Nat.le_refl _⟩, fun _ _ => rfl, fun _ _ => Nat.le_refl _, fun _ _ _ => rfl⟩
      have : g ≠ γ.mu m := by rintro rfl; omega
      exact cell_setRow_other w _ _ ⟨g, i, none⟩ this
    have hBm : B ≤ γ.mu m := hs.own m _ _ hn0 hm rfl
  · exact ⟨hext _, ⟨rfl, rfl, rfl, by simp, fun k hk => hblk k (by omega)⟩, fun _ _ => rfl, fun _ _ => ⟨rfl, rfl⟩, fun r hr => (hblk r (by rintro rfl; rw [hh] at hr; cases hr)).trans hr, fun r x hr => ⟨x, (hblk r (by rintro rfl; rw [hh] at hr; cases hr)).trans hr⟩⟩
  · exact hext _
  · refine (hs.upd (b' := .box ty (cs.take off ++ xs ++ cs.drop (off + n))) hm hn0 (hext _) (by simp) (fun _ _ _ => rfl) (fun g hg hne => ⟨hblk g (fun e => hne (by simp [ownBlk, e])), rfl⟩) ?_ (fun g hg => .inl hg) (fun g hg => hs.inv.lt g (by simpa using hg))).1
    refine ⟨h0, _, setRow_heap w _ vs _ ty _ hh, ?_, fun i c hc => ?_, fun i hi => ?_⟩
    · have := hx.1; simp; omega
    · have e1 : (cs.take off).length = off := by simp; omega
      have e2 : (cs.take off ++ xs).length = off + n := by simp; omega
      have f1 : (vs.toList.take off).length = off := by simp; omega
      have f2 : (vs.toList.take off ++ v.cells.toList).length = off + n := by simp [hx.1]; omega
      simp only [Array.getD_eq_getD_getElem?, List.getElem?_toArray]
      rcases Nat.lt_or_ge i off with hi | hi
      · rw [List.append_assoc, List.getElem?_append_left (by omega), List.getElem?_take, if_pos hi] at hc
        rw [List.append_assoc, List.getElem?_append_left (by omega), List.getElem?_take, if_pos hi]
        have := hr i c hc
        simpa [Array.getD_eq_getD_getElem?] using this.ext (hext _)
      · rcases Nat.lt_or_ge i (off + n) with hi2 | hi2
        · rw [List.append_assoc, List.getElem?_append_right (by omega), e1, List.getElem?_append_left (by omega)] at hc
          rw [List.append_assoc, List.getElem?_append_right (by omega), f1, List.getElem?_append_left (by omega)]
          have := ((hx.2 _ _ hc).ext (hext _)).lt (ltL_get hlt _ _ hc)
          simpa [Array.getD_eq_getD_getElem?] using this
        · rw [List.getElem?_append_right (by omega), e2, List.getElem?_drop] at hc
          rw [List.getElem?_append_right (by omega), f2, List.getElem?_drop]
          have := hr _ c hc
          simpa [Array.getD_eq_getD_getElem?] using this.ext (hext _)
    · have hall : ∀ u ∈ (vs.toList.take off ++ v.cells.toList ++ vs.toList.drop (off + n)), u.oneCell' = true := by
        have hv0 : ∀ u ∈ vs.toList, u.oneCell' = true := by
          intro u hu
          obtain ⟨k, hk, rfl⟩ := List.mem_iff_getElem.1 hu
          have hk2 : k < vs.size := by simpa using hk
          simpa [Array.getD_eq_getD_getElem?, hk2] using hone k hk2
        intro u hu
        rcases List.mem_append.1 hu with hu | hu
        · rcases List.mem_append.1 hu with hu | hu
          · exact hv0 u (List.mem_of_mem_take hu)
          · exact hone' u hu
        · exact hv0 u (List.mem_of_mem_drop hu)
      have hi2 : i < (vs.toList.take off ++ v.cells.toList ++ vs.toList.drop (off + n)).length := by simpa using hi
      have := hall _ (List.getElem_mem hi2)
      rw [Array.getD_eq_getD_getElem?, List.getElem?_toArray, List.getElem?_eq_getElem hi2]
      exact this

end
end Go.Av
