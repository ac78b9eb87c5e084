/- An executor over plain data for the code of a function, and the relation of its data to the values of a world. -/
import Derived.Orders
import Derived.Still
import Derived.Laws.AppendOwn
import Derived.Laws.MakeOwn
set_option linter.unnecessarySimpa false
set_option linter.unusedVariables false
set_option linter.unusedSimpArgs false
set_option linter.unusedVariables false
namespace Go.Rx
inductive Sh where
  | int (k : IntKind) | bool | str | sl (s : Sh) | pair (a b : Sh)
  deriving DecidableEq

def Sh.T : Sh → Type
  | .int _ => Int
  | .bool => Bool
  | .str => ByteArray
  | .sl s => List s.T
  | .pair a b => a.T × b.T

def Sh.d : (s : Sh) → s.T
  | .int _ => (0 : Int)
  | .bool => false
  | .str => ByteArray.empty
  | .sl s => ([] : List s.T)
  | .pair a b => (a.d, b.d)

def Sh.sz : Sh → Nat
  | .pair a b => a.sz + b.sz
  | _ => 1

def Sh.deep : Sh → Bool
  | .sl _ => true
  | .pair a b => a.deep || b.deep
  | _ => false

inductive C where
  | int (k : IntKind) (n : Int)
  | bool (b : Bool)
  | str (s : ByteArray)
  | lst (s : Sh) (l : List s.T)
  | row (id : Nat)
  | sub (id off len : Nat)
  | ptr (id off : Nat)
  | eptr (id i j : Nat)
  | vp (s : Sh) (x : s.T) (j : Nat)
  | fn (f : FuncId) (caps : List Nat)
  | nil
  | undef

inductive V where
  | one (c : C)
  | agg (cs : List C)
  | tup (ps : List (Bool × List C))

def V.cells : V → List C
  | .one c => [c]
  | .agg cs => cs
  | .tup _ => [.undef]

def Sh.cells : (s : Sh) → s.T → List C
  | .int k, x => [.int k x]
  | .bool, x => [.bool x]
  | .str, x => [.str x]
  | .sl s, l => [.lst s l]
  | .pair a b, x => a.cells x.1 ++ b.cells x.2

inductive Blk where
  | box (cs : List C)
  | arr (e : TypeId) (s : Sh) (l : List s.T)
  | frz (e : TypeId) (s : Sh) (l : List s.T)

def Blk.mut : Blk → Bool
  | .frz .. => false
  | _ => true

abbrev Bs := Nat → Option Blk

def upd (B : Bs) (i : Nat) (x : Option Blk) : Bs := fun j => match Nat.beq j i with | true => x | false => B j

def upds (B : Bs) : List (Nat × Option Blk) → Bs
  | [] => B
  | (i, x) :: r => upds (upd B i x) r

structure St where
  tm : List V
  bs : Bs
  nx : Nat

structure Eff where
  v : V
  rd : List Nat
  up : List (Nat × Option Blk)

def cnd {α : Type} (b : Bool) (x : Option α) : Option α := match b with | true => x | false => none
def ite2 {α : Type} (b : Bool) (x y : Option α) : Option α := match b with | true => x | false => y
def spl {α : Type} (b : Bool) (K : Bool → Option α) : Option α := match b with | true => K true | false => K false

abbrev R := Option (Bool × Eff)
def pu (v : V) : R := some (true, ⟨v, [], []⟩)
def puc (b : Bool) (v : V) : R := some (b, ⟨v, [], []⟩)

def castL (s s' : Sh) (l : List s.T) : Option (List s'.T) := if h : s = s' then some (h ▸ l) else none

def rdl (B : Bs) (s : Sh) : C → Option (List s.T)
  | .lst s' l => castL s' s l
  | .row id => match B id with
    | some (.arr _ s' l) => castL s' s l
    | some (.frz _ s' l) => castL s' s l
    | _ => none
  | .sub id off len => match B id with
    | some (.arr _ s' l) => castL s' s ((l.drop off).take len)
    | some (.frz _ s' l) => castL s' s ((l.drop off).take len)
    | _ => none
  | .nil => some []
  | _ => none

def C.rowIds : C → List Nat
  | .row id => [id]
  | .sub id _ _ => [id]
  | _ => []

def C.ids : C → List Nat
  | .row id => [id]
  | .sub id _ _ => [id]
  | .ptr id _ => [id]
  | .eptr id _ _ => [id]
  | .fn _ caps => caps
  | _ => []

def toT (B : Bs) : (s : Sh) → List C → Option (s.T × List C)
  | .int k, c :: r => match c with
    | .int k' n => if k' = k then some (n, r) else none
    | _ => none
  | .bool, c :: r => match c with
    | .bool b => some (b, r)
    | _ => none
  | .str, c :: r => match c with
    | .str b => some (b, r)
    | _ => none
  | .sl s, c :: r => match rdl B s c with
    | some l => some (l, r)
    | none => none
  | .pair a b, cs => match toT B a cs with
    | some (x, r) => match toT B b r with
      | some (y, r') => some ((x, y), r')
      | none => none
    | none => none
  | _, [] => none

def toTs (B : Bs) (s : Sh) : Nat → List C → Option (List s.T)
  | 0, [] => some []
  | 0, _ :: _ => none
  | n + 1, cs => match toT B s cs with
    | some (x, r) => match toTs B s n r with
      | some l => some (x :: l)
      | none => none
    | none => none

def frzUp (B : Bs) : List Nat → List (Nat × Option Blk)
  | [] => []
  | id :: r => match B id with
    | some (.arr e s l) => (id, some (.frz e s l)) :: frzUp B r
    | _ => frzUp B r

def rowIdsL (cs : List C) : List Nat := cs.flatMap C.rowIds

def idx (ids : List Nat) (id : Nat) : Option Nat :=
  match ids with
  | [] => none
  | i :: r => match Nat.beq i id with
    | true => some 0
    | false => (idx r id).map (· + 1)
def splice (cs : List C) (off : Nat) (ds : List C) : List C := cs.take off ++ ds ++ cs.drop (off + ds.length)

section types
variable (P : Program)
def isAg (t : TypeId) : Option Bool := match P.underlying t with | some (.struct _) => some true | some (.array _ _) => some true | some _ => some false | none => none
def size (t : TypeId) : Option Nat := (P.info? t).map (·.size)

def rep : Nat → Sh → Sh
  | 0, s => s
  | k + 1, s => .pair s (rep k s)

mutual
def shOf : Nat → TypeId → Option Sh
  | 0, _ => none
  | n + 1, t => match P.underlying t with
    | some (.int k) => some (.int k)
    | some .bool => some .bool
    | some .string => some .str
    | some (.slice e) => (shOf n e).map .sl
    | some (.struct fs) => shFs n fs.toList
    | some (.array k e) => match k with
      | 0 => none
      | k + 1 => (shOf n e).map fun s => rep k s
    | _ => none
def shFs : Nat → List Field → Option Sh
  | 0, _ => none
  | _ + 1, [] => none
  | n + 1, f :: r => match r with
    | [] => shOf n f.type
    | _ :: _ => match shOf n f.type, shFs n r with
      | some a, some b => some (.pair a b)
      | _, _ => none
end
def shape (t : TypeId) : Option Sh := shOf P 60 t
end types
def constC : Value → Option C
  | .int k n => some (.int k n)
  | .bool b => some (.bool b)
  | .string s => some (.str s)
  | .slice none n c => match n, c with
    | 0, 0 => some .nil
    | _, _ => none
  | .nilFunc => some .undef
  | _ => none
def constCs : List Value → Option (List C)
  | [] => some []
  | v :: r => match constC v, constCs r with
    | some c, some cs => some (c :: cs)
    | _, _ => none
def constV : Value → Option V
  | .agg cs => (constCs cs.toList).map .agg
  | v => (constC v).map .one

def ev (tm : List V) : Operand → Option V
  | .tmp t => tm[t]?
  | .const v => constV v
  | .func f => some (.one (.fn f []))
  | .global _ => none

def binI (op : BinOp) (k : IntKind) (a b : Int) : Option (Bool × C) :=
  match op with
  | .add => some (true, .int k (k.wrap (a + b)))
  | .sub => some (true, .int k (k.wrap (a - b)))
  | .mul => some (true, .int k (k.wrap (a * b)))
  | .quo => some (!decide (b = 0), .int k (k.wrap (a.tdiv b)))
  | .rem => some (!decide (b = 0), .int k (a.tmod b))
  | .and => some (true, .int k (k.wrap (BitVec.ofInt k.bits a &&& BitVec.ofInt k.bits b).toNat))
  | .or => some (true, .int k (k.wrap (BitVec.ofInt k.bits a ||| BitVec.ofInt k.bits b).toNat))
  | .xor => some (true, .int k (k.wrap (BitVec.ofInt k.bits a ^^^ BitVec.ofInt k.bits b).toNat))
  | .andNot => some (true, .int k (k.wrap (BitVec.ofInt k.bits a &&& ~~~(BitVec.ofInt k.bits b)).toNat))
  | .eql => some (true, .bool (a == b))
  | .neq => some (true, .bool (a != b))
  | .lss => some (true, .bool (decide (a < b)))
  | .leq => some (true, .bool (decide (a ≤ b)))
  | .gtr => some (true, .bool (decide (a > b)))
  | .geq => some (true, .bool (decide (a ≥ b)))
  | _ => none
def shI (op : BinOp) (k : IntKind) (a b : Int) : Option (Bool × C) :=
  match op with
  | .shl => some (decide (0 ≤ b), .int k (k.wrap (a * 2 ^ (min b.toNat k.bits))))
  | .shr => some (decide (0 ≤ b), .int k (a.fdiv (2 ^ (min b.toNat k.bits))))
  | _ => none

def eqC : Nat → C → C → Option Bool
  | 0, .int k a, .int k' b => match decide (k = k') with
    | true => some (a == b)
    | false => none
  | 1, .bool a, .bool b => some (a == b)
  | 2, .str a, .str b => some (a == b)
  | _, _, _ => none
def eqCs : List Nat → List C → List C → Option Bool
  | [], [], [] => some true
  | k :: ks, c :: cs, d :: ds => match eqC k c d, eqCs ks cs ds with
    | some x, some y => some (x && y)
    | _, _ => none
  | _, _, _ => none

section
variable (P : Program)
-- a type whose equality goes cell by cell: the kinds of its cells; n: the fuel; off: where the next part must begin
mutual
def eqKs : Nat → TypeId → Option (List Nat)
  | 0, _ => none
  | n + 1, t => match P.underlying t with
    | some (.int _) => some [0]
    | some .bool => some [1]
    | some .string => some [2]
    | some (.struct fs) => match P.stoodInHeld t with
      | true => none
      | false => eqFs n 0 fs.toList
    | some (.array k e) => match size P e, eqKs n e with
      | some m, some l => match Nat.beq m l.length with
        | true => some (List.replicate k l).flatten
        | false => none
      | _, _ => none
    | _ => none
def eqFs : Nat → Nat → List Field → Option (List Nat)
  | 0, _, _ => none
  | _ + 1, _, [] => some []
  | n + 1, off, f :: r => match decide (f.name ≠ "_") && decide (f.offset = off), size P f.type, eqKs n f.type with
    | true, some s, some l => match Nat.beq s l.length, eqFs n (off + s) r with
      | true, some l' => some (l ++ l')
      | _, _ => none
    | _, _, _ => none
end
end
def isRow : V → Option C
  | .one (.row id) => some (.row id)
  | .one (.sub id o n) => some (.sub id o n)
  | _ => none

def lenOfC (B : Bs) : C → Option (Nat × List Nat)
  | .lst _ l => some (l.length, [])
  | .row id => match B id with
    | some (.arr _ _ l) => some (l.length, [id])
    | some (.frz _ _ l) => some (l.length, [id])
    | _ => none
  | .sub id off len => match B id with
    | some (.arr _ _ l) => some (len, [id])
    | some (.frz _ _ l) => some (len, [id])
    | _ => none
  | .nil => some (0, [])
  | _ => none

section
variable (P : Program)
def partC (t : TypeId) (cs : List C) (off : Nat) : Option V :=
  match isAg P t, size P t with
  | some true, some n => match Nat.ble (off + n) cs.length with
    | true => some (.agg ((cs.drop off).take n))
    | false => none
  | some false, _ => match cs[off]? with
    | some c => some (.one c)
    | none => none
  | _, _ => none

def loadC (B : Bs) (t : TypeId) : C → R
  | .ptr id off => match B id with
    | some (.box cs) => match partC P t cs off with
      | some v => some (true, ⟨v, [id], []⟩)
      | none => none
    | _ => none
  | .eptr id i j => match B id with
    | some (.arr _ s l) => match partC P t (s.cells (l.getD i s.d)) j with
      | some v => some (decide (i < l.length), ⟨v, [id], []⟩)
      | none => none
    | some (.frz _ s l) => match partC P t (s.cells (l.getD i s.d)) j with
      | some v => some (decide (i < l.length), ⟨v, [id], []⟩)
      | none => none
    | _ => none
  | .vp s x j => match partC P t (s.cells x) j with
    | some v => pu v
    | none => none
  | _ => none

def noUndef : List C → Bool
  | [] => true
  | .undef :: _ => false
  | _ :: r => noUndef r

def ownNil : Nat → List TypeId → List C → List C × List (Nat × Option Blk)
  | _, _, [] => ([], [])
  | id, ts, c :: cs => match (match c, ts with
      | .nil, t :: _ => match P.underlying t with
        | some (.slice e) => match shape P e with
          | some s => some (e, s)
          | none => none
        | _ => none
      | _, _ => none) with
    | some (e, s) => match ownNil (id + 1) (ts.drop 1) cs with
      | (ds, up) => (.row id :: ds, (id, some (.arr e s [])) :: up)
    | none => match ownNil id (ts.drop 1) cs with
      | (ds, up) => (c :: ds, up)

mutual
def cellTs : Nat → TypeId → List TypeId
  | 0, t => [t]
  | n + 1, t => match P.underlying t with
    | some (.struct fs) => cellFs n fs.toList
    | some (.array k e) => (List.replicate k (cellTs n e)).flatten
    | _ => [t]
def cellFs : Nat → List Field → List TypeId
  | 0, _ => []
  | _ + 1, [] => []
  | n + 1, f :: r => cellTs n f.type ++ cellFs n r
end
def boxOf (base : Nat) (t : TypeId) (cs : List C) : R :=
  match size P t with
  | none => none
  | some n => match Nat.beq cs.length n with
    | false => none
    | true => match noUndef cs with
      | false => none
      | true => match ownNil P (base + 1) (cellTs P 20 t) cs with
        | (ds, up) => match Nat.ble up.length 15 with
          | true => some (true, ⟨.one (.ptr base 0), [], up ++ [(base, some (.box ds))]⟩)
          | false => none

def zeroC (t : TypeId) : Option (List C) :=
  match (P.info? t).bind (·.zero) with
  | some z => constCs z.cells.toList
  | none => none

def isSlice (t : TypeId) : Bool := match P.underlying t with | some (.slice _) => true | _ => false

def moveV (base : Nat) (t : TypeId) (v : V) : R :=
  match v with
  | .one .nil => match P.underlying t with
    | some (.slice e) => match shape P e with
      | some s => some (true, ⟨.one (.row base), [], [(base, some (.arr e s []))]⟩)
      | none => pu v
    | _ => pu v
  | v => pu v

def storeC (B : Bs) (t : TypeId) (v : V) : C → R
  | .ptr id off => match B id with
    | some (.box cs) => match size P t with
      | none => none
      | some n => match Nat.beq v.cells.length n, Nat.ble (off + n) cs.length with
        | true, true => match noUndef v.cells with
          | true => some (true, ⟨.one .undef, [id], [(id, some (.box (splice cs off v.cells)))]⟩)
          | false => none
        | _, _ => none
    | _ => none
  | .eptr id i j => match B id with
    | some (.arr e s l) => match size P t with
      | none => none
      | some n => match Nat.beq v.cells.length n, Nat.ble (j + n) s.sz with
        | true, true => match toT B s (splice (s.cells (l.getD i s.d)) j v.cells), idx (rowIdsL v.cells) id, noUndef v.cells with
          | some (x, []), none, true => some (decide (i < l.length), ⟨.one .undef, id :: rowIdsL v.cells, frzUp B (rowIdsL v.cells) ++ [(id, some (.arr e s (l.set i x)))]⟩)
          | _, _, _ => none
        | _, _ => none
    | _ => none
  | _ => none

def setAll : List C → Nat → List C → List C
  | cs, _, [] => cs
  | cs, off, d :: ds => setAll (cs.set off d) (off + 1) ds

def fillC : (Nat → Option (Nat × Nat)) → List C → List (Nat × V) → Option (List C)
  | _, cells, [] => some cells
  | place, cells, (i, v) :: rest => match place i with
    | none => none
    | some (off, n) => match Nat.beq v.cells.length n, Nat.ble (off + n) cells.length with
      | true, true => match noUndef v.cells with
        | true => fillC place (setAll cells off v.cells) rest
        | false => none
      | _, _ => none

def evs (tm : List V) : List (Nat × Operand) → Option (List (Nat × V))
  | [] => some []
  | (i, x) :: r => match ev tm x, evs tm r with
    | some v, some vs => some ((i, v) :: vs)
    | _, _ => none
def evl (tm : List V) : List Operand → Option (List V)
  | [] => some []
  | x :: r => match ev tm x, evl tm r with
    | some v, some vs => some (v :: vs)
    | _, _ => none

def fieldPlaces : List Field → Option (List (Nat × Nat))
  | [] => some []
  | f :: r => match size P f.type, fieldPlaces r with
    | some n, some l => some ((f.offset, n) :: l)
    | _, _ => none

def limit : Nat := 140737488355328
def mostLen : Nat := 281474976710656

structure El where
  e : TypeId
  s : Sh
  bytes : Nat
  z : s.T
def elemOf (t : TypeId) : Option El :=
  match P.underlying t with
  | some (.slice e) => match shape P e, P.info? e with
    | some s, some i => match Nat.beq i.size s.sz, i.zero with
      | true, some z => match Nat.beq z.cells.size s.sz, constCs z.cells.toList with
        | true, some cs => match toT (fun _ => none) s cs with
          | some (x, []) => some ⟨e, s, i.bytes, x⟩
          | _ => none
        | _, _ => none
      | _, _ => none
    | _, _ => none
  | _ => none

def appendC (B : Bs) (base : Nat) (t : TypeId) (x y : C) : R :=
  match elemOf P t with
  | none => none
  | some ⟨e, s, bytes, z0⟩ => match rdl B s y with
    | none => none
    | some ys => match x with
      | .row id => match B id with
        | some (.arr e' s' l') => match Nat.beq e' e, castL s' s l' with
          | true, some l => some (decide ((l.length + ys.length) * (bytes + 1) ≤ limit), ⟨.one (.row base), id :: y.rowIds, [(id, none), (base, some (.arr e s (l ++ ys)))]⟩)
          | _, _ => none
        | _ => none
      | .nil => some (decide (ys.length * (bytes + 1) ≤ limit), ⟨.one (.row base), y.rowIds, [(base, some (.arr e s ys))]⟩)
      | _ => none

def copyC (B : Bs) (t : TypeId) (x y : C) : R :=
  match elemOf P t with
  | none => none
  | some ⟨e, s, _, z0⟩ => match Nat.beq s.sz 1 with
  | false => none
  | true => match rdl B s y with
    | none => none
    | some ys => match x with
      | .row id => match B id with
        | some (.arr e' s' l') => match castL s' s l' with
          | some l => some (true, ⟨.one (.int .i64 (min ys.length l.length : Nat)), id :: y.rowIds, [(id, some (.arr e' s (ys.take l.length ++ l.drop (min ys.length l.length))))]⟩)
          | none => none
        | _ => none
      | .sub id off n => match B id with
        | some (.arr e' s' l') => match castL s' s l' with
          | some l => some (true, ⟨.one (.int .i64 (min ys.length n : Nat)), id :: y.rowIds, [(id, some (.arr e' s (l.take off ++ ys.take n ++ l.drop (off + min ys.length n))))]⟩)
          | none => none
        | _ => none
      | _ => none

def intOf : V → Option (IntKind × Int)
  | .one (.int k n) => some (k, n)
  | _ => none

def bounds (n : Nat) (lo hi : Option V) : Option (Bool × Nat × Nat) :=
  match (match hi with
    | none => some (true, n)
    | some v => match intOf v with
      | some (_, h) => some (decide (0 ≤ h ∧ h ≤ n), h.toNat)
      | none => none) with
  | none => none
  | some (c, h) => match (match lo with
    | none => some (true, 0)
    | some v => match intOf v with
      | some (_, l) => some (decide (0 ≤ l ∧ l ≤ h), l.toNat)
      | none => none) with
    | none => none
    | some (d, l) => some (c && d, l, h)

def sliceC (B : Bs) (t : TypeId) (x : V) (lo hi : Option V) : R :=
  match P.underlying t with
  | some (.slice e) => match x with
    | .one (.lst s l) => match size P e with
      | none => none
      | some z => match Nat.beq z s.sz, bounds l.length lo hi with
        | true, some (c, a, b) => puc c (.one (.lst s ((l.drop a).take (b - a))))
        | _, _ => none
    | .one (.row id) => match B id with
      | some (.arr _ s l) => match size P e with
        | none => none
        | some z => match Nat.beq z s.sz, bounds l.length lo hi with
          | true, some (c, a, b) => some (c, ⟨.one (.sub id a (b - a)), [id], []⟩)
          | _, _ => none
      | some (.frz _ s l) => match size P e with
        | none => none
        | some z => match Nat.beq z s.sz, bounds l.length lo hi with
          | true, some (c, a, b) => some (c, ⟨.one (.sub id a (b - a)), [id], []⟩)
          | _, _ => none
      | _ => none
    | .one (.sub id off n) => match B id with
      | some (.arr _ s l) => match size P e with
        | none => none
        | some z => match Nat.beq z s.sz, bounds n lo hi with
          | true, some (c, a, b) => some (c, ⟨.one (.sub id (off + a) (b - a)), [id], []⟩)
          | _, _ => none
      | some (.frz _ s l) => match size P e with
        | none => none
        | some z => match Nat.beq z s.sz, bounds n lo hi with
          | true, some (c, a, b) => some (c, ⟨.one (.sub id (off + a) (b - a)), [id], []⟩)
          | _, _ => none
      | _ => none
    | _ => none
  | _ => none

def indexAddrC (B : Bs) (t : TypeId) (x : C) (i : Int) : R :=
  match P.underlying t with
  | some (.array n e) => match size P e with
    | none => none
    | some z => match Nat.beq z 0 with
      | true => none
      | false => match x with
        | .ptr id off => match B id with
          | some (.box _) => some (decide (0 ≤ i ∧ i < n), ⟨.one (.ptr id (off + i.toNat * z)), [id], []⟩)
          | _ => none
        | .vp s y j => puc (decide (0 ≤ i ∧ i < n)) (.one (.vp s y (j + i.toNat * z)))
        | .eptr id k j => match B id with
          | some (.arr _ _ _) => some (decide (0 ≤ i ∧ i < n), ⟨.one (.eptr id k (j + i.toNat * z)), [id], []⟩)
          | some (.frz _ _ _) => some (decide (0 ≤ i ∧ i < n), ⟨.one (.eptr id k (j + i.toNat * z)), [id], []⟩)
          | _ => none
        | _ => none
  | some (.slice e) => match size P e with
    | none => none
    | some z => match x with
      | .lst s l => match Nat.beq z s.sz with
        | true => puc (decide (0 ≤ i ∧ i < l.length)) (.one (.vp s (l.getD i.toNat s.d) 0))
        | false => none
      | .row id => match B id with
        | some (.arr _ s l) => match Nat.beq z s.sz with
          | true => some (decide (0 ≤ i ∧ i < l.length), ⟨.one (.eptr id i.toNat 0), [id], []⟩)
          | false => none
        | some (.frz _ s l) => match Nat.beq z s.sz with
          | true => some (decide (0 ≤ i ∧ i < l.length), ⟨.one (.eptr id i.toNat 0), [id], []⟩)
          | false => none
        | _ => none
      | .sub id off n => match B id with
        | some (.arr _ s l) => match Nat.beq z s.sz with
          | true => some (decide (0 ≤ i ∧ i < n), ⟨.one (.eptr id (off + i.toNat) 0), [id], []⟩)
          | false => none
        | some (.frz _ s l) => match Nat.beq z s.sz with
          | true => some (decide (0 ≤ i ∧ i < n), ⟨.one (.eptr id (off + i.toNat) 0), [id], []⟩)
          | false => none
        | _ => none
      | _ => none
  | _ => none

def binC (op : BinOp) (t : TypeId) (x y : V) : R :=
  match x, y with
  | .one (.int k a), .one (.int k' b) => match (match op with | .shl => true | .shr => true | _ => false) with
    | true => match shI op k a b with
      | some (c, v) => puc c (.one v)
      | none => none
    | false => match decide (k = k') with
      | true => match binI op k a b with
        | some (c, v) => puc c (.one v)
        | none => none
      | false => none
  | .one (.bool a), .one (.bool b) => match op, P.underlying t with
    | .eql, some .bool => pu (.one (.bool (a == b)))
    | .neq, some .bool => pu (.one (.bool (!(a == b))))
    | _, _ => none
  | .agg cs, .agg ds => match isAg P t, P.eqGuardType P.depth t, (eqKs P 20 t).bind fun ks => eqCs ks cs ds with
    | some true, false, some b => match op with
      | .eql => pu (.one (.bool b))
      | .neq => pu (.one (.bool (!b)))
      | _ => none
    | _, _, _ => none
  | _, _ => none

def unC (op : UnOp) (x : V) : R :=
  match op, x with
  | .not, .one (.bool b) => pu (.one (.bool (!b)))
  | .neg, .one (.int k n) => pu (.one (.int k (k.wrap (0 - n))))
  | _, _ => none

def mm (mx : Bool) (x y : Int) : Int := match mx with | true => if y > x then y else x | false => if y < x then y else x

def minmaxL (mx : Bool) : C → List V → Option C
  | c, [] => some c
  | .int k x, .one (.int _ y) :: r => minmaxL mx (.int k (mm mx x y)) r
  | _, _ => none

def convC (dst : TypeId) (x : V) : R :=
  match P.underlying dst, x with
  | some (.int k), .one (.int _ n) => pu (.one (.int k (k.wrap n)))
  | _, _ => none

def fieldC (t : TypeId) (x : V) (f : Nat) : R :=
  match P.underlying t, x with
  | some (.struct fs), .agg cs => match fs.toList[f]? with
    | some fd => match partC P fd.type cs fd.offset with
      | some v => pu v
      | none => none
    | none => none
  | _, _ => none

def fieldAddrC (B : Bs) (t : TypeId) (x : C) (f : Nat) : R :=
  match P.underlying t with
  | some (.struct fs) => match fs.toList[f]? with
    | some fd => match size P fd.type with
      | some (_ + 1) => match x with
        | .ptr id off => match B id with
          | some (.box _) => some (true, ⟨.one (.ptr id (off + fd.offset)), [id], []⟩)
          | _ => none
        | .eptr id i j => match B id with
          | some (.arr _ _ _) => some (true, ⟨.one (.eptr id i (j + fd.offset)), [id], []⟩)
          | some (.frz _ _ _) => some (true, ⟨.one (.eptr id i (j + fd.offset)), [id], []⟩)
          | _ => none
        | .vp s y j => pu (.one (.vp s y (j + fd.offset)))
        | _ => none
      | _ => none
    | none => none
  | _ => none

def ints (k : IntKind) : List C → Option (List Int)
  | [] => some []
  | c :: r => match c with
    | .int k' a => match decide (k' = k), ints k r with
      | true, some l => some (a :: l)
      | _, _ => none
    | _ => none
def bools : List C → Option (List Bool)
  | [] => some []
  | c :: r => match c with
    | .bool a => match bools r with
      | some l => some (a :: l)
      | none => none
    | _ => none
def selC (i : Nat) : List C → Option C
  | .int k a :: r => match ints k r with
    | some l => some (.int k ((a :: l).getD i 0))
    | none => none
  | .bool a :: r => match bools r with
    | some l => some (.bool ((a :: l).getD i false))
    | none => none
  | _ => none
def seqO : List (Option C) → Option (List C)
  | [] => some []
  | x :: r => match x, seqO r with
    | some c, some l => some (c :: l)
    | _, _ => none
def upTo : Nat → List Nat
  | 0 => []
  | n + 1 => upTo n ++ [n]
def selCs (i z n : Nat) (cs : List C) : Option (List C) := seqO ((upTo z).map fun j => selC i ((upTo n).map fun q => cs.getD (q * z + j) .undef))

def indexC (t : TypeId) (x : V) (i : Int) : R :=
  match P.underlying t, x with
  | some (.array n e), .agg cs => match size P e with
    | some z => match Nat.beq cs.length (n * z), selCs i.toNat z n cs with
      | true, some ds => match partC P e ds 0 with
        | some v => puc (decide (0 ≤ i ∧ i < n)) v
        | none => none
      | _, _ => match partC P e cs (i.toNat * z) with
        | some v => puc (decide (0 ≤ i ∧ i < n)) v
        | none => none
    | none => none
  | some .string, .one (.str s) => puc (decide (0 ≤ i ∧ i < (s.size : Int))) (.one (.int .u8 (s.data.toList.getD i.toNat 0).toNat))
  | _, _ => none

def makeC (base : Nat) (t : TypeId) (n c : Int) : R :=
  match elemOf P t with
  | none => none
  | some ⟨e, s, bytes, z0⟩ => some (decide (0 ≤ n ∧ n ≤ c ∧ c * (bytes + 1) ≤ limit), ⟨.one (.row base), [], [(base, some (.arr e s (List.replicate n.toNat z0)))]⟩)

def buildC (t : TypeId) (ps : List (Nat × V)) : R :=
  match P.underlying t, zeroC P t with
  | some (.struct fs), some z => match fieldPlaces P fs.toList with
    | some pl => match fillC (fun i => pl[i]?) z ps with
      | some cs => pu (.agg cs)
      | none => none
    | none => none
  | some (.array _ e), some z => match size P e with
    | some n => match fillC (fun i => some (i * n, n)) z ps with
      | some cs => pu (.agg cs)
      | none => none
    | none => none
  | _, _ => none

def ownB (base : Nat) (t : TypeId) (v : V) : V × List (Nat × Option Blk) :=
  match v with
  | .agg cs => match ownNil P base (cellTs P 20 t) cs with
    | (ds, up) => match Nat.ble up.length 15 with
      | true => (.agg ds, up)
      | false => (.agg cs, [])
  | v => (v, [])
def buildO (base : Nat) (t : TypeId) (ps : List (Nat × V)) : R :=
  match buildC P t ps with
  | some (c, e) => match ownB P base t e.v with
    | (v, up) => some (c, ⟨v, [], up⟩)
  | none => none

def buildSliceC (B : Bs) (base : Nat) (t : TypeId) (len : Nat) (ps : List (Nat × V)) : R :=
  match elemOf P t with
  | none => none
  | some ⟨e, s, bytes, z0⟩ => match zeroC P e, Nat.ble (len * s.sz) 16777216 with
    | some z, true => match fillC (fun i => some (i * s.sz, s.sz)) (List.replicate len z).flatten ps with
      | some cs => match toTs B s len cs with
        | some l => some (true, ⟨.one (.row base), rowIdsL cs, frzUp B (rowIdsL cs) ++ [(base, some (.arr e s l))]⟩)
        | none => none
      | none => none
    | _, _ => none

structure Out where
  res : V
  lent : List (Option Blk)
  fresh : List Blk
abbrev Summ := List V → List Blk → Option (Bool × Out)

def renIds (f : Nat → Option Nat) : List Nat → Option (List Nat)
  | [] => some []
  | i :: r => match f i, renIds f r with
    | some j, some l => some (j :: l)
    | _, _ => none
def renC (f : Nat → Option Nat) : C → C
  | .row id => match f id with | some j => .row j | none => .undef
  | .sub id o n => match f id with | some j => .sub j o n | none => .undef
  | .ptr id o => match f id with | some j => .ptr j o | none => .undef
  | .eptr id i o => match f id with | some j => .eptr j i o | none => .undef
  | .fn g caps => match renIds f caps with | some l => .fn g l | none => .undef
  | c => c
def renV (f : Nat → Option Nat) : V → V
  | .one c => .one (renC f c)
  | .agg cs => .agg (cs.map (renC f))
  | .tup ps => .tup (ps.map fun p => (p.1, p.2.map (renC f)))
def renB (f : Nat → Option Nat) : Blk → Blk
  | .box cs => .box (cs.map (renC f))
  | b => b
def V.all : V → List C
  | .one c => [c]
  | .agg cs => cs
  | .tup ps => ps.flatMap (·.2)
def Blk.all : Option Blk → List C
  | some (.box cs) => cs
  | _ => []
def reach (B : Bs) : Nat → List Nat → List Nat → List Nat
  | 0, _, acc => acc
  | _ + 1, [], acc => acc
  | n + 1, i :: r, acc => match idx acc i with
    | some _ => reach B n r acc
    | none => match B i with
      | none => reach B n r acc
      | some b => reach B n (r ++ (Blk.all (some b)).flatMap C.ids) (acc ++ [i])
def noneLst : List C → Bool
  | [] => true
  | .lst _ _ :: _ => false
  | .vp _ _ _ :: _ => false
  | _ :: r => noneLst r
def plainB : Option Blk → Bool
  | some (.box cs) => noneLst cs
  | some (.arr _ s _) => !s.deep
  | some (.frz _ _ _) => false
  | none => true

def snapC (B : Bs) (ids : List Nat) : C → C
  | .row id => match idx ids id with
    | some j => .row j
    | none => match B id with
      | some (.arr _ s l) => .lst s l
      | some (.frz _ s l) => .lst s l
      | _ => .undef
  | .sub id o n => match idx ids id with
    | some j => .sub j o n
    | none => match B id with
      | some (.arr _ s l) => .lst s ((l.drop o).take n)
      | some (.frz _ s l) => .lst s ((l.drop o).take n)
      | _ => .undef
  | c => renC (idx ids) c
def snapV (B : Bs) (ids : List Nat) : V → V
  | .one c => .one (snapC B ids c)
  | .agg cs => .agg (cs.map (snapC B ids))
  | .tup _ => .one .undef

def nilCs : List TypeId → List C → List C
  | t :: ts, c :: cs => (match c with
    | .nil => (match P.underlying t with
      | some (.slice e) => match shape P e with
        | some s => .lst s []
        | none => c
      | _ => c)
    | c => c) :: nilCs ts cs
  | _, cs => cs
def argNil (t : TypeId) (v : V) : V :=
  match v with
  | .one .nil => match P.underlying t with
    | some (.slice e) => match shape P e with
      | some s => .one (.lst s [])
      | none => v
    | _ => v
  | .agg cs => .agg (nilCs P (cellTs P 20 t) cs)
  | v => v

def boxesOk (B : Bs) : List Nat → Bool
  | [] => true
  | i :: r => match B i with
    | some (.box _) => boxesOk B r
    | _ => false

def nodupB : List Nat → Bool
  | [] => true
  | i :: r => (match idx r i with | some _ => false | none => true) && nodupB r

def ptrIds : C → List Nat
  | .ptr id _ => [id]
  | .eptr id _ _ => [id]
  | .fn _ caps => caps
  | _ => []

def getB (B : Bs) : List Nat → Option (List Blk)
  | [] => some []
  | i :: r => match B i, getB B r with
    | some b, some l => some (b :: l)
    | _, _ => none

def backF (ids : List Nat) (base : Nat) (j : Nat) : Option Nat :=
  match ids[j]? with
  | some i => some i
  | none => some (base + (j - ids.length))
def backUp : List Nat → List (Option Blk) → List (Nat × Option Blk)
  | i :: is, b :: bs => (i, b) :: backUp is bs
  | _, _ => []
def freshUp : Nat → List Blk → List (Nat × Option Blk)
  | _, [] => []
  | i, b :: bs => (i, some b) :: freshUp (i + 1) bs

def capsV : List Nat → List V
  | [] => []
  | i :: r => .one (.ptr i 0) :: capsV r

def zipNil : List TypeId → List V → List V
  | t :: ts, v :: vs => argNil P t v :: zipNil ts vs
  | _, vs => vs

def snapsOf (ids : List Nat) (cs : List C) : List Nat := (rowIdsL cs).filter fun i => match idx ids i with | some _ => false | none => true

def lends (G : Summ) : Bool := match G [.tup []] [] with | some _ => true | none => false
def isT : List V → Bool
  | [.tup _] => true
  | _ => false
def lendG (args : List V) (x : Option (Bool × Out)) : Option (Bool × Out) := match isT args with | true => some (false, ⟨.one .undef, [], []⟩) | false => x
theorem lendG_s {args : List V} {x : Option (Bool × Out)} {o : Out} (h : lendG args x = some (true, o)) : x = some (true, o) := by
  unfold lendG at h
  split at h
  · cases h
  · exact h
def seedsOf (G : Summ) (cs : List C) : List Nat := cs.flatMap ptrIds ++ (match lends G with | true => rowIdsL cs | false => [])

def callC0 (tab : FuncId → Option Summ) (B : Bs) (base : Nat) (f : FuncId) (caps : List Nat) (ts : List TypeId) (args : List V) : R :=
  match tab f with
  | none => none
  | some G =>
    let vs := zipNil P ts args ++ capsV caps
    let cs := vs.flatMap V.all
    let ids := reach B 60 (seedsOf G cs) []
    let snaps := snapsOf ids cs
    match nodupB ids && boxesOk B caps, getB B ids with
    | false, _ => none
    | true, none => none
    | true, some bl => match G (vs.map (snapV B ids)) (bl.map (renB (idx ids))) with
      | none => none
      | some (c, o) =>
        let g := backF ids base
        let res := renV g o.res
        let lent := o.lent.map fun b => b.map (renB g)
        let fresh := o.fresh.map (renB g)
        let keep := noneLst o.res.all && o.lent.all plainB && o.fresh.all (fun b => plainB (some b))
        match Nat.beq lent.length ids.length, Nat.ble fresh.length 12 with
        | true, true => some (c, ⟨res, cs.flatMap ptrIds ++ rowIdsL cs ++ ids ++ ids.flatMap (fun i => (Blk.all (B i)).flatMap C.ids), (match keep with | true => [] | false => frzUp B snaps) ++ backUp ids lent ++ freshUp base fresh⟩)
        | _, _ => none

def keeps (G : Summ) : List Nat := match G [.tup [], .tup []] [] with
  | some (_, o) => (match o.res with | .one (.fn _ js) => js | _ => [])
  | none => []
def isTT : List V → Bool
  | [.tup _, .tup _] => true
  | _ => false
def keepG (js : List Nat) (args : List V) (x : Option (Bool × Out)) : Option (Bool × Out) := match isTT args with | true => some (false, ⟨.one (.fn 0 js), [], []⟩) | false => x
theorem keepG_s {js : List Nat} {args : List V} {x : Option (Bool × Out)} {o : Out} (h : keepG js args x = some (true, o)) : x = some (true, o) := by
  unfold keepG at h
  split at h
  · cases h
  · exact h
def KeepOk (G : Summ) : Prop := ∀ args lent o, G args lent = some (true, o) → ∀ j ∈ keeps G, ∃ b, lent[j]? = some b ∧ o.lent[j]? = some (some b)
theorem keep_nil {G : Summ} (h : keeps G = []) : KeepOk G := by
  intro args lent o _ j hj
  rw [h] at hj; cases hj
def closedB (B : Bs) (ids : List Nat) (i : Nat) : Bool := ((Blk.all (B i)).flatMap C.ids).all fun k => match idx ids k with | some _ => true | none => false
def keptIds (B : Bs) (ids js : List Nat) : List Nat := (js.filterMap fun j => ids[j]?).filter fun i => closedB B ids i
def notKept (ks : List Nat) (i : Nat) : Bool := match idx ks i with | some _ => false | none => true
def callC (tab : FuncId → Option Summ) (B : Bs) (base : Nat) (f : FuncId) (caps : List Nat) (ts : List TypeId) (args : List V) : R :=
  match callC0 P tab B base f caps ts args with
  | none => none
  | some (c, e) => match tab f with
    | none => none
    | some G => match keeps G with
      | [] => some (c, e)
      | j :: js => some (c, ⟨e.v, e.rd, e.up.filter fun p => notKept (keptIds B (reach B 60 (seedsOf G ((zipNil P ts args ++ capsV caps).flatMap V.all)) []) (j :: js)) p.1⟩)

def ptrCaps (B : Bs) : List V → Option (List Nat)
  | [] => some []
  | v :: r => match v with
    | .one (.ptr id 0) => match B id, ptrCaps B r with
      | some (.box _), some l => some (id :: l)
      | _, _ => none
    | _ => none

def ofV : V → Option C
  | .one c => some c
  | _ => none

def effOp (tab : FuncId → Option Summ) (B : Bs) (base : Nat) (tm : List V) (o : Oper) : R :=
  match o.op with
  | .move x => match ev tm x with | some v => moveV P base o.type v | none => none
  | .assign x => match ev tm x with | some v => moveV P base o.type v | none => none
  | .pick c a b => match ev tm c, ev tm a, ev tm b with
    | some (.one (.bool c)), some a, some b => match a, b with
      | .one (.bool x), .one (.bool y) => pu (.one (.bool (match c with | true => x | false => y)))
      | a, b => pu (match c with | true => a | false => b)
    | _, _, _ => none
  | .alloc t => match zeroC P t with | some cs => boxOf P base t cs | none => none
  | .box t x => match ev tm x with | some v => boxOf P base t v.cells | none => none
  | .build t ps => match evs tm ps.toList with | some vs => buildO P base t vs | none => none
  | .buildSlice t n ps => match evs tm ps.toList with | some vs => buildSliceC P B base t n vs | none => none
  | .load t x => match ev tm x with | some (.one c) => loadC P B t c | _ => none
  | .store t x y => match ev tm x, ev tm y with | some (.one c), some v => storeC P B t v c | _, _ => none
  | .nilCheck x => match ev tm x with
    | some (.one (.ptr id off)) => match B id with
      | some (.box _) => some (true, ⟨.one (.ptr id off), [id], []⟩)
      | _ => none
    | some (.one (.vp s y j)) => pu (.one (.vp s y j))
    | some (.one (.fn f caps)) => pu (.one (.fn f caps))
    | _ => none
  | .binOp op t x y _ => match ev tm x, ev tm y with | some a, some b => binC P op t a b | _, _ => none
  | .unOp op _ x => match ev tm x with | some v => unC op v | none => none
  | .convert s d x => match P.underlying s, ev tm x with | some _, some v => convC P d v | _, _ => none
  | .makeFunc (.func f) first caps => match first.toList, evl tm caps.toList with
    | [], some vs => match ptrCaps B vs with | some ids => some (true, ⟨.one (.fn f ids), ids, []⟩) | none => none
    | _, _ => none
  | .makeSlice t n c => match (ev tm n).bind intOf, (ev tm c).bind intOf with
    | some (_, n), some (_, c) => makeC P base t n c
    | _, _ => none
  | .slice t x lo hi mx => match mx, ev tm x with
    | none, some v => match (match lo with | none => some none | some y => (ev tm y).map some), (match hi with | none => some none | some y => (ev tm y).map some) with
      | some lo, some hi => sliceC P B t v lo hi
      | _, _ => none
    | _, _ => none
  | .fieldAddr t x f => match ev tm x with | some (.one c) => fieldAddrC P B t c f | _ => none
  | .field t x f => match ev tm x with | some v => fieldC P t v f | none => none
  | .indexAddr t x i => match ev tm x, (ev tm i).bind intOf with | some (.one c), some (_, n) => indexAddrC P B t c n | _, _ => none
  | .index t x i => match ev tm x, (ev tm i).bind intOf with | some v, some (_, n) => indexC P t v n | _, _ => none
  | .extract x i => match ev tm x with
    | some (.tup ps) => match ps[i]? with
      | some (true, cs) => pu (.agg cs)
      | some (false, [c]) => pu (.one c)
      | _ => none
    | _ => none
  | .call c => match c.callee with
    | .builtin .len => match c.args.toList, c.argTypes.toList with
      | [x], [t] => match P.underlying t with
        | some (.array n _) => pu (.one (.int .i64 n))
        | some (.slice _) => match ev tm x with
          | some (.one d) => match lenOfC B d with
            | some (n, rd) => some (true, ⟨.one (.int .i64 n), rd, []⟩)
            | none => none
          | _ => none
        | _ => none
      | _, _ => none
    | .builtin .append => match c.args.toList, c.argTypes.toList with
      | [x, y], [t, t'] => match ev tm x, ev tm y with
        | some (.one a), some (.one b) => match Nat.beq t t' with
          | true => appendC P B base t a b
          | false => none
        | _, _ => none
      | _, _ => none
    | .builtin .copy => match c.args.toList, c.argTypes.toList with
      | [x, y], t :: _ => match ev tm x, ev tm y with
        | some (.one a), some (.one b) => copyC P B t a b
        | _, _ => none
      | _, _ => none
    | .builtin .max => match evl tm c.args.toList with
      | some (.one d :: r) => match minmaxL true d r with | some v => pu (.one v) | none => none
      | _ => none
    | .builtin .min => match evl tm c.args.toList with
      | some (.one d :: r) => match minmaxL false d r with | some v => pu (.one v) | none => none
      | _ => none
    | .value g => match ev tm g, evl tm c.args.toList with
      | some (.one (.fn f caps)), some vs => callC P tab B base f caps c.argTypes.toList vs
      | _, _ => none
    | _ => none
  | _ => none

def putT (tm : List V) (dst : Option Tmp) (v : V) : List V :=
  match dst with
  | some d => tm.set d v
  | none => tm

def guardV (ops : List Oper) (tm : List V) (o : Oper) : Option Bool :=
  match o.guard with
  | none => some true
  | some (j, want) => match (ops[j]?).bind (·.dst) with
    | none => some false
    | some d => match tm[d]? with
      | some (.one (.bool b)) => some (b == want)
      | some (.tup _) => some false
      | _ => none

def isGuard (ops : List Oper) (i : Nat) : Bool := ops.any fun o => match o.guard with | some (j, _) => Nat.beq j i | none => false

def disj : List Nat → List Nat → Bool
  | [], _ => true
  | i :: r, l => (match idx l i with | some _ => false | none => true) && disj r l

abbrev Log := Nat → Option (List Nat × List Nat)

def waitsOn (o : Oper) (i : Nat) : Bool := o.after.toList.any fun e => Nat.beq e.on i && Region.binds .any e

def waits2 (ops : List Oper) (o : Oper) (n : Nat) : Bool := o.after.toList.any fun e => Region.binds .any e && (Nat.beq e.on n || match ops[e.on]? with | some om => waitsOn om n | none => false)

def clash (ops : List Oper) (o : Oper) (rd up : List Nat) (lg : Log) : Nat → Bool
  | 0 => true
  | n + 1 => clash ops o rd up lg n && match lg n with
    | none => true
    | some (r, u) => (disj rd u && disj up r && disj up u) || waits2 ops o n

def setLog (lg : Log) (i : Nat) (x : List Nat × List Nat) : Log := fun j => match Nat.beq j i with | true => some x | false => lg j

def stepSt (st : St) (base : Nat) (o : Oper) (e : Eff) : St := ⟨putT st.tm o.dst e.v, upds st.bs e.up, st.nx⟩

def runR {α : Type} (tab : FuncId → Option Summ) (ops : List Oper) : Nat → List Oper → St → (St → Option α) → Option α
  | _, [], st, K => K { st with nx := st.nx + 16 * ops.length }
  | i, o :: rest, st, K => match guardV ops st.tm o with
    | none => none
    | some false => runR tab ops (i + 1) rest ⟨putT st.tm o.dst (.tup []), st.bs, st.nx⟩ K
    | some true => match effOp P tab st.bs (st.nx + 16 * i) st.tm o with
      | none => none
      | some (c, e) => cnd c (match isGuard ops i, e.v with
        | true, .one (.bool b) => spl b fun b' => runR tab ops (i + 1) rest (stepSt st st.nx o ⟨.one (.bool b'), e.rd, e.up⟩) K
        | _, _ => runR tab ops (i + 1) rest (stepSt st st.nx o e) K)

def runD {α : Type} (tab : FuncId → Option Summ) (ops : List Oper) : Nat → List Oper → St → Log → (St → Option α) → Option α
  | _, [], st, _, K => K { st with nx := st.nx + 16 * ops.length }
  | i, o :: rest, st, lg, K => match guardV ops st.tm o with
    | none => none
    | some false => runD tab ops (i + 1) rest ⟨putT st.tm o.dst (.tup []), st.bs, st.nx⟩ lg K
    | some true => match effOp P tab st.bs (st.nx + 16 * i) st.tm o with
      | none => none
      | some (c, e) => match clash ops o e.rd (e.up.map (·.1)) lg i with
        | false => none
        | true => cnd c (match isGuard ops i, e.v with
          | true, .one (.bool b) => spl b fun b' => runD tab ops (i + 1) rest (stepSt st st.nx o ⟨.one (.bool b'), e.rd, e.up⟩) (setLog lg i (e.rd, e.up.map (·.1))) K
          | _, _ => runD tab ops (i + 1) rest (stepSt st st.nx o e) (setLog lg i (e.rd, e.up.map (·.1))) K)

inductive Ex where
  | normal | exit (id : Nat) | ret

def regKey : Code → Option Nat
  | .region id _ _ => some id
  | .seq a b => match regKey a with | some i => some i | none => regKey b
  | .cond _ a b => match regKey a with | some i => some i | none => regKey b
  | .block _ a => regKey a
  | .loop a => regKey a
  | _ => none

def liveIds (m : Nat) (bs : Bs) (vs : List V) : List Nat :=
  let lent := upTo m
  lent ++ (reach bs 200 (lent ++ vs.flatMap fun v => v.all.flatMap C.ids) []).filter fun i => Nat.ble m i

def lbs (l : List (Option Blk)) : Bs := fun j => (l[j]?).join

def gcV (m : Nat) (ks : List Nat) (st : St) : Option (List V × List (Option Blk)) :=
  let vs := ks.map fun k => st.tm.getD k (.one .undef)
  let ids := liveIds m st.bs vs
  match nodupB ids with
  | false => none
  | true => some (vs.map (renV (idx ids)), ids.map fun i => (st.bs i).map (renB (idx ids)))

def unp (N : Nat) (ks : List Nat) (vs : List V) (bl : List (Option Blk)) : St :=
  ⟨(upTo N).map fun i => match idx ks i with | some j => vs.getD j (.one .undef) | none => .one .undef, lbs bl, bl.length⟩

def gc (m : Nat) (keep : Option (List Nat)) (st : St) : St :=
  match keep with
  | none => st
  | some ks => match gcV m ks st with
    | none => st
    | some (vs, bl) => unp st.tm.length ks vs bl

def loopx {α : Type} (g : St → St) (f : St → (Ex → St → Option α) → Option α) : Nat → St → (Ex → St → Option α) → Option α
  | 0, _, _ => none
  | n + 1, st, K => f st fun e st' => match e with
    | .normal => loopx g f n (g st') K
    | .exit i => K (.exit i) st'
    | .ret => K .ret st'

def loopv {α : Type} (m N : Nat) (ks : List Nat) (kx : Ex → List Nat) (f : St → (Ex → St → Option α) → Option α) : Nat → List V → List (Option Blk) → (Ex → List V → List (Option Blk) → Option α) → Option α
  | 0, _, _, _ => none
  | n + 1, vs, bl, K => f (unp N ks vs bl) fun e st => match Nat.beq st.tm.length N with
    | true => match e with
      | .normal => match gcV m ks st with
        | some (vs', bl') => loopv m N ks kx f n vs' bl' K
        | none => none
      | .exit i => match gcV m (kx (.exit i)) st with
        | some (vs', bl') => K (.exit i) vs' bl'
        | none => none
      | .ret => match gcV m (kx .ret) st with
        | some (vs', bl') => K .ret vs' bl'
        | none => none
    | false => none

def kxOf (kx kr : List Nat) : Ex → List Nat
  | .ret => kr
  | _ => kx

inductive LT where
  | leaf (e : Ex) (vs : List V) (bl : List (Option Blk))
  | no
  | br (b : Bool) (x y : LT)
def LT.run {α : Type} : LT → (Ex → List V → List (Option Blk) → Option α) → Option α
  | .leaf e vs bl, K => K e vs bl
  | .no, _ => none
  | .br b x y, K => ite2 b (x.run K) (y.run K)
structure LSumm where
  m : Nat
  N : Nat
  ks : List Nat
  kx : Ex → List Nat
  S : List V → List (Option Blk) → Option (Bool × LT)

variable (tab : FuncId → Option Summ) (ann : Nat → Option (List Nat)) (lt : Nat → Option LSumm) (n : Nat) (m : Nat)
def exec {α : Type} : Code → St → (Ex → St → Option α) → Option α
  | .skip, st, K => K .normal st
  | .region _ ops draw, st, K => match draw with
    | false => runR P tab ops.toList 0 ops.toList st (K .normal)
    | true => match Region.lexB .any ops with
      | true => runD P tab ops.toList 0 ops.toList st (fun _ => none) (K .normal)
      | false => none
  | .seq a b, st, K => exec a st fun e st' => match e with
    | .normal => exec b st' K
    | .exit i => K (.exit i) st'
    | .ret => K .ret st'
  | .cond c x y, st, K => match ev st.tm c with
    | some (.one (.bool b)) => ite2 b (exec x st K) (exec y st K)
    | _ => none
  | .block id a, st, K => exec a st fun e st' => match e with
    | .exit j => match Nat.beq j id with
      | true => K .normal st'
      | false => K (.exit j) st'
    | .normal => K .normal st'
    | .ret => K .ret st'
  | .loop a, st, K => match (regKey a).bind lt with
    | some L => match Nat.beq L.m m && Nat.beq L.N st.tm.length, gcV m L.ks st with
      | true, some (vs, bl) => match L.S vs bl with
        | some (c, t) => cnd c (t.run fun e vs bl => K e (unp L.N (L.kx e) vs bl))
        | none => none
      | _, _ => none
    | none => loopx (gc m ((regKey a).bind ann)) (exec a) n (gc m ((regKey a).bind ann) st) K
  | .exit id, st, K => K (.exit id) st
  | .ret, st, K => K .ret st
  | _, _, _ => none

def initSt (fn : Func) (args : List V) (lent : List Blk) : St :=
  ⟨args ++ List.replicate (fn.ntmps - args.length) (.one .undef), fun j => lent[j]?, lent.length⟩

def partV : V → Option (Bool × List C)
  | .one c => some (false, [c])
  | .agg cs => some (true, cs)
  | .tup _ => none
def resOne (st : St) : ResultVar → Option V
  | .tmp t => st.tm[t]?
  | .cell a t => match st.tm[a]? with
    | some (.one c) => match loadC P st.bs t c with
      | some (true, e) => some e.v
      | _ => none
    | _ => none
def resAll (st : St) : List ResultVar → Option (List (Bool × List C))
  | [] => some []
  | r :: rs => match (resOne P st r).bind partV, resAll st rs with
    | some p, some ps => some (p :: ps)
    | _, _ => none
def resV (fn : Func) (st : St) : Option V :=
  match fn.results.toList with
  | [r] => resOne P st r
  | rs => (resAll P st rs).map .tup

def hdTs : List TypeId → List TypeId
  | t :: _ => cellTs P 20 t
  | [] => []
def ownPs : Nat → List TypeId → List (Bool × List C) → List (Bool × List C) × List (Nat × Option Blk)
  | _, _, [] => ([], [])
  | id, ts, (b, cs) :: r => match ownNil P id (hdTs P ts) cs with
    | (ds, up) => match ownPs (id + up.length) (ts.drop 1) r with
      | (r', up') => ((b, ds) :: r', up ++ up')
def ownRes (id : Nat) (ts : List TypeId) (v : V) : V × List (Nat × Option Blk) :=
  match v with
  | .one c => (.one c, [])
  | .agg cs => match ownNil P id (hdTs P ts) cs with
    | (ds, up) => (.agg ds, up)
  | .tup ps => match ownPs P id ts ps with
    | (ps', up) => (.tup ps', up)
def finish (fn : Func) (m : Nat) (st : St) : Option Out :=
  match resV P fn st with
  | none => none
  | some v0 => match ownRes P st.nx fn.resultTypes.toList v0 with
    | (v, up) =>
      let bs := upds st.bs up
      let ids := liveIds m bs [v]
      let f := idx ids
      match nodupB ids, getB bs (ids.drop m) with
      | true, some bl => some ⟨renV f v, (upTo m).map fun i => (bs i).map (renB f), bl.map (renB f)⟩
      | _, _ => none

def funR (fn : Func) (args : List V) (lent : List Blk) : Option Out :=
  match fn.body with
  | none => none
  | some c => exec P tab ann lt n lent.length c (initSt fn args lent) fun e st => match e with
    | .normal => finish P fn lent.length st
    | .ret => finish P fn lent.length st
    | .exit _ => none

def loopsOf : Code → List Code
  | .seq a b => loopsOf a ++ loopsOf b
  | .cond _ a b => loopsOf a ++ loopsOf b
  | .block _ a => loopsOf a
  | .loop a => a :: loopsOf a
  | _ => []
def bodyOf (f : Func) : Code := match f.body with | some c => c | none => .skip
def loopOf (f : Func) (k : Nat) : Code := (loopsOf (bodyOf f)).getD k .skip

def mkTm : Nat → List (Nat × V) → List V
  | 0, _ => []
  | n + 1, l => match l with
    | [] => .one .undef :: mkTm n []
    | (0, v) :: r => v :: mkTm n (dec r)
    | (k + 1, v) :: r => .one .undef :: mkTm n ((k, v) :: dec r)
where
  dec : List (Nat × V) → List (Nat × V)
    | [] => []
    | (k, v) :: r => (k - 1, v) :: dec r
def tabOf : List (FuncId × Summ) → FuncId → Option Summ
  | [], _ => none
  | (g, G) :: r, f => match Nat.beq g f with
    | true => some G
    | false => tabOf r f
def annOf : List (Nat × List Nat) → Nat → Option (List Nat)
  | [], _ => none
  | (k, l) :: r, i => match Nat.beq k i with
    | true => some l
    | false => annOf r i
def ltOf : List (Nat × LSumm) → Nat → Option LSumm
  | [], _ => none
  | (k, l) :: r, i => match Nat.beq k i with
    | true => some l
    | false => ltOf r i
end
end Go.Rx
set_option linter.unusedVariables false
set_option linter.unusedSimpArgs false
namespace Go.Rx
def F2 {α β : Type} (R : α → β → Prop) : List α → List β → Prop
  | [], [] => True
  | a :: l, b :: m => R a b ∧ F2 R l m
  | _, _ => False

section F2
variable {α β : Type} {R R' : α → β → Prop}
theorem F2.imp (h : ∀ a b, R a b → R' a b) : ∀ {l : List α} {m : List β}, F2 R l m → F2 R' l m
  | [], [], _ => trivial
  | _ :: _, _ :: _, ⟨h1, h2⟩ => ⟨h _ _ h1, F2.imp h h2⟩
  | [], _ :: _, hh => hh.elim
  | _ :: _, [], hh => hh.elim
theorem F2.len : ∀ {l : List α} {m : List β}, F2 R l m → l.length = m.length
  | [], [], _ => rfl
  | _ :: _, _ :: _, ⟨_, h2⟩ => by simp [F2.len h2]
  | [], _ :: _, hh => hh.elim
  | _ :: _, [], hh => hh.elim
theorem F2.get : ∀ {l : List α} {m : List β}, F2 R l m → ∀ {i : Nat} {a : α}, l[i]? = some a → ∃ b, m[i]? = some b ∧ R a b
  | [], [], _, _, _, h => by simp at h
  | a :: _, b :: _, ⟨h1, h2⟩, 0, _, h => ⟨b, rfl, by simp at h; subst h; exact h1⟩
  | _ :: _, _ :: _, ⟨_, h2⟩, i + 1, _, h => F2.get h2 (i := i) (by simpa using h)
  | [], _ :: _, hh, _, _, _ => hh.elim
  | _ :: _, [], hh, _, _, _ => hh.elim
theorem F2.append : ∀ {l : List α} {m : List β} {l' : List α} {m' : List β}, F2 R l m → F2 R l' m' → F2 R (l ++ l') (m ++ m')
  | [], [], _, _, _, h => h
  | _ :: _, _ :: _, _, _, ⟨h1, h2⟩, h => ⟨h1, F2.append h2 h⟩
  | [], _ :: _, _, _, hh, _ => hh.elim
  | _ :: _, [], _, _, hh, _ => hh.elim
theorem F2.drop : ∀ (n : Nat) {l : List α} {m : List β}, F2 R l m → F2 R (l.drop n) (m.drop n)
  | 0, _, _, h => h
  | n + 1, [], [], _ => by simp [F2]
  | n + 1, _ :: _, _ :: _, ⟨_, h2⟩ => F2.drop n h2
  | _ + 1, [], _ :: _, hh => hh.elim
  | _ + 1, _ :: _, [], hh => hh.elim
theorem F2.take : ∀ (n : Nat) {l : List α} {m : List β}, F2 R l m → F2 R (l.take n) (m.take n)
  | 0, _, _, h => by simp [F2]
  | n + 1, [], [], _ => by simp [F2]
  | n + 1, _ :: _, _ :: _, ⟨h1, h2⟩ => ⟨h1, F2.take n h2⟩
  | _ + 1, [], _ :: _, hh => hh.elim
  | _ + 1, _ :: _, [], hh => hh.elim
theorem F2.set : ∀ {l : List α} {m : List β}, F2 R l m → ∀ (i : Nat) {a : α} {b : β}, R a b → F2 R (l.set i a) (m.set i b)
  | [], [], _, _, _, _, _ => by simp [F2]
  | _ :: _, _ :: _, ⟨_, h2⟩, 0, _, _, h => ⟨h, h2⟩
  | _ :: _, _ :: _, ⟨h1, h2⟩, i + 1, _, _, h => ⟨h1, F2.set h2 i h⟩
  | [], _ :: _, hh, _, _, _, _ => hh.elim
  | _ :: _, [], hh, _, _, _, _ => hh.elim
theorem F2.rep {a : α} {b : β} (h : R a b) : ∀ n, F2 R (List.replicate n a) (List.replicate n b)
  | 0 => by simp [F2]
  | n + 1 => by simp [List.replicate_succ, F2]; exact ⟨h, F2.rep h n⟩
end F2
abbrev En := Nat → Option Value

def ob : Value → Option Nat
  | .pointer (some a) => some a.block
  | .slice (some a) _ _ => some a.block
  | _ => none

def Mut (B : Bs) (E : En) (b : Nat) : Prop := ∃ id k v, B id = some k ∧ k.mut = true ∧ E id = some v ∧ ob v = some b

def MX (X : Nat → Prop) (B : Bs) (E : En) (b : Nat) : Prop := Mut B E b ∨ X b

def Chunks {α : Type} (R : α → List Value → Prop) : List α → List Value → Prop
  | [], vs => vs = []
  | x :: l, vs => ∃ u r, vs = u ++ r ∧ R x u ∧ Chunks R l r

def RSl {α : Type} (w : World) (M : Nat → Prop) (R : α → List Value → Prop) (l : List α) (v : Value) : Prop :=
  ∃ a c xs, v = .slice a l.length c ∧ l.length ≤ c ∧ Chunks R l xs ∧
    (xs = [] ∨ ∃ b off, a = some ⟨b, off, none⟩ ∧ ¬ M b ∧ ∀ j u, xs[j]? = some u → w.cell? ⟨b, off + j, none⟩ = some u)

def RT (w : World) (M : Nat → Prop) : (s : Sh) → s.T → List Value → Prop
  | .int k, n, vs => vs = [.int k n]
  | .bool, b, vs => vs = [.bool b]
  | .str, b, vs => vs = [.string b]
  | .sl s, l, vs => ∃ v, vs = [v] ∧ RSl w M (RT w M s) l v
  | .pair a b, x, vs => ∃ u r, vs = u ++ r ∧ RT w M a x.1 u ∧ RT w M b x.2 r

def envs (E : En) : List Nat → Option (List Value)
  | [] => some []
  | i :: r => match E i, envs E r with
    | some v, some vs => some (v :: vs)
    | _, _ => none

def Blk.shp : Blk → Option (Sh × Nat)
  | .arr _ s l => some (s, l.length)
  | .frz _ s l => some (s, l.length)
  | .box _ => none

def RC (X : Nat → Prop) (w : World) (B : Bs) (E : En) : C → Value → Prop
  | .int k n, v => v = .int k n
  | .bool b, v => v = .bool b
  | .str s, v => v = .string s
  | .lst s l, v => RSl w (MX X B E) (RT w (MX X B E) s) l v
  | .row id, v => ∃ v0, E id = some v0 ∧ v.oneCell' = true ∧ (∀ k, B id = some k → v = v0)
  | .sub id off len, v => ∃ v0, E id = some v0 ∧ v.oneCell' = true ∧ ∀ k s n, B id = some k → k.shp = some (s, n) → off + len ≤ n ∧
      ((len = 0 ∧ ∃ a c, v = .slice a 0 c) ∨ ∃ b m c c', v0 = .slice (some ⟨b, 0, none⟩) m c ∧ v = .slice (some ⟨b, off * s.sz, none⟩) len c' ∧ len ≤ c')
  | .ptr id off, v => ∃ v0, E id = some v0 ∧ v.oneCell' = true ∧ ∀ cs, B id = some (.box cs) → ∃ b, v0 = .pointer (some ⟨b, 0, none⟩) ∧ v = .pointer (some ⟨b, off, none⟩)
  | .eptr id i j, v => ∃ v0, E id = some v0 ∧ v.oneCell' = true ∧ ∀ k s n, B id = some k → k.shp = some (s, n) → ∃ b m c, v0 = .slice (some ⟨b, 0, none⟩) m c ∧ v = .pointer (some ⟨b, i * s.sz + j, none⟩)
  | .vp s x j, v => ∃ b off xs, v = .pointer (some ⟨b, off + j, none⟩) ∧ ¬ MX X B E b ∧ RT w (MX X B E) s x xs ∧ ∀ i u, xs[i]? = some u → w.cell? ⟨b, off + i, none⟩ = some u
  | .fn f caps, v => ∃ vs, envs E caps = some vs ∧ v = .func (.func f) #[] vs.toArray
  | .nil, v => v = .slice none 0 0
  | .undef, _ => True

def RP (X : Nat → Prop) (w : World) (B : Bs) (E : En) (p : Bool × List C) (v : Value) : Prop :=
  match p.1 with
  | true => ∃ vs, v = .agg vs ∧ F2 (RC X w B E) p.2 vs.toList
  | false => ∃ c, p.2 = [c] ∧ RC X w B E c v

def RV (X : Nat → Prop) (w : World) (B : Bs) (E : En) : V → Value → Prop
  | .one c, v => RC X w B E c v
  | .agg cs, v => ∃ vs, v = .agg vs ∧ F2 (RC X w B E) cs vs.toList
  | .tup ps, v => ∃ vs, v = .tuple vs ∧ F2 (RP X w B E) ps vs.toList

def RB (X : Nat → Prop) (w : World) (B : Bs) (E : En) (id : Nat) : Blk → Prop
  | .box cs => ∃ b vs t, E id = some (.pointer (some ⟨b, 0, none⟩)) ∧ w.heap[b]? = some (.cells vs t (0, 0)) ∧ F2 (RC X w B E) cs vs.toList
  | .arr e s l => ∃ v xs, E id = some v ∧ w.ownsRow 0 e s.sz v l.length xs ∧ Chunks (RT w (MX X B E) s) l xs
  | .frz e s l => ∃ v, E id = some v ∧ RSl w (MX X B E) (RT w (MX X B E) s) l v ∧ (v = .slice none 0 0 ∨ ∃ b m c, v = .slice (some ⟨b, 0, none⟩) m c)

def Io (w w' : World) : Prop := w'.os = w.os ∧ w'.tape = w.tape ∧ w'.output = w.output
theorem Io.refl (w : World) : Io w w := ⟨rfl, rfl, rfl⟩
theorem Io.trans {w w1 w2 : World} (h : Io w w1) (h' : Io w1 w2) : Io w w2 := ⟨h'.1.trans h.1, h'.2.1.trans h.2.1, h'.2.2.trans h.2.2⟩

structure WR (X : Nat → Prop) (w0 : World) (L : Nat → Prop) (w : World) (B : Bs) (E : En) : Prop where
  blk : ∀ id k, B id = some k → RB X w B E id k
  inj : ∀ id id' k k' v v' b, B id = some k → B id' = some k' → k.mut = true → k'.mut = true → E id = some v → E id' = some v' → ob v = some b → ob v' = some b → id = id'
  own : ∀ b, Mut B E b → b < w.heap.size ∧ (w0.heap.size ≤ b ∨ L b)
  fr : ∀ b, b < w0.heap.size → ¬ L b → w.heap[b]? = w0.heap[b]?
  sz : w0.heap.size ≤ w.heap.size
  far : ∀ b, X b → b < w0.heap.size ∧ ¬ L b
  io : Io w0 w

theorem Chunks.mono {α : Type} {R R' : α → List Value → Prop} (h : ∀ x vs, R x vs → R' x vs) : ∀ (l : List α) (vs : List Value), Chunks R l vs → Chunks R' l vs
  | [], _, hc => hc
  | _ :: l, _, ⟨u, r, he, hx, hr⟩ => ⟨u, r, he, h _ _ hx, Chunks.mono h l r hr⟩

structure Stay (w : World) (M : Nat → Prop) (w' : World) (M' : Nat → Prop) : Prop where
  cell : ∀ b o v, ¬ M b → w.cell? ⟨b, o, none⟩ = some v → w'.cell? ⟨b, o, none⟩ = some v
  nm : ∀ b o v, ¬ M b → w.cell? ⟨b, o, none⟩ = some v → ¬ M' b

theorem RSl.mono {α : Type} {w w' : World} {M M' : Nat → Prop} {R R' : α → List Value → Prop} (hs : Stay w M w' M') (hR : ∀ x vs, R x vs → R' x vs) {l : List α} {v : Value} (h : RSl w M R l v) : RSl w' M' R' l v := by
  obtain ⟨a, c, xs, rfl, hlc, hc, hx⟩ := h
  refine ⟨a, c, xs, rfl, hlc, hc.mono hR, ?_⟩
  rcases hx with rfl | ⟨b, off, rfl, hb, hcell⟩
  · exact .inl rfl
  · rcases xs with _ | ⟨x, xs⟩
    · exact .inl rfl
    · exact .inr ⟨b, off, rfl, hs.nm b _ _ hb (hcell 0 x rfl), fun j u hu => hs.cell _ _ _ hb (hcell j u hu)⟩

theorem RT.mono {w w' : World} {M M' : Nat → Prop} (hs : Stay w M w' M') : ∀ (s : Sh) (x : s.T) (vs : List Value), RT w M s x vs → RT w' M' s x vs
  | .int k, _, _, h => h
  | .bool, _, _, h => h
  | .str, _, _, h => h
  | .sl s, _, _, ⟨v, hv, h⟩ => ⟨v, hv, h.mono hs (RT.mono hs s)⟩
  | .pair a b, _, _, ⟨u, r, he, h1, h2⟩ => ⟨u, r, he, RT.mono hs a _ _ h1, RT.mono hs b _ _ h2⟩

theorem RT.len {w : World} {M : Nat → Prop} : ∀ (s : Sh) (x : s.T) (vs : List Value), RT w M s x vs → vs.length = s.sz
  | .int k, _, _, h => by subst h; rfl
  | .bool, _, _, h => by subst h; rfl
  | .str, _, _, h => by subst h; rfl
  | .sl s, _, _, ⟨v, hv, _⟩ => by subst hv; rfl
  | .pair a b, _, _, ⟨u, r, he, h1, h2⟩ => by subst he; simp [Sh.sz, RT.len a _ _ h1, RT.len b _ _ h2]

theorem Sh.sz_pos : ∀ s : Sh, 0 < s.sz
  | .int _ | .bool | .str | .sl _ => by simp [Sh.sz]
  | .pair a b => by have := Sh.sz_pos a; simp [Sh.sz]; omega

theorem Chunks.len {α : Type} {R : α → List Value → Prop} {n : Nat} (h : ∀ x vs, R x vs → vs.length = n) : ∀ (l : List α) (vs : List Value), Chunks R l vs → vs.length = l.length * n
  | [], _, hc => by simp [Chunks] at hc; simp [hc]
  | _ :: l, _, ⟨u, r, he, hx, hr⟩ => by subst he; simp [h _ _ hx, Chunks.len h l r hr, Nat.add_mul]; omega

theorem Chunks.append {α : Type} {R : α → List Value → Prop} : ∀ (l m : List α) (us vs : List Value), Chunks R l us → Chunks R m vs → Chunks R (l ++ m) (us ++ vs)
  | [], _, _, _, h, h' => by simp [Chunks] at h; subst h; exact h'
  | _ :: l, m, _, _, ⟨u, r, he, hx, hr⟩, h' => by subst he; exact ⟨u, r ++ _, by simp, hx, Chunks.append l m r _ hr h'⟩

theorem Chunks.split {α : Type} {R : α → List Value → Prop} : ∀ (l m : List α) (vs : List Value), Chunks R (l ++ m) vs → ∃ us rs, vs = us ++ rs ∧ Chunks R l us ∧ Chunks R m rs
  | [], m, vs, h => ⟨[], vs, rfl, rfl, h⟩
  | x :: l, m, _, ⟨u, r, he, hx, hr⟩ => by
    obtain ⟨us, rs, he', h1, h2⟩ := Chunks.split l m r hr
    exact ⟨u ++ us, rs, by rw [he, he']; simp, ⟨u, us, rfl, hx, h1⟩, h2⟩

theorem Chunks.get {α : Type} {R : α → List Value → Prop} {n : Nat} (hn : ∀ x vs, R x vs → vs.length = n) (l : List α) (vs : List Value) (h : Chunks R l vs) (i : Nat) (hi : i < l.length) :
    R l[i] ((vs.drop (i * n)).take n) ∧ ∀ j, j < n → ((vs.drop (i * n)).take n)[j]? = vs[i * n + j]? := by
  have e : l = l.take i ++ (l[i] :: l.drop (i + 1)) := by rw [List.getElem_cons_drop]; simp
  rw [e] at h
  obtain ⟨us, rs, he, h1, u, r, he2, hx, _⟩ := Chunks.split _ _ _ h
  have hl : us.length = i * n := by rw [Chunks.len hn _ _ h1, List.length_take]; congr 1; omega
  have hu : (vs.drop (i * n)).take n = u := by rw [he, he2, ← hl, List.drop_left, ← hn _ _ hx, List.take_left]
  refine ⟨by rw [hu]; exact hx, fun j hj => ?_⟩
  rw [List.getElem?_take, if_pos hj, List.getElem?_drop]

theorem Chunks.set {α : Type} {R : α → List Value → Prop} {n : Nat} (hn : ∀ x vs, R x vs → vs.length = n) (l : List α) (vs : List Value) (h : Chunks R l vs) (i : Nat) (hi : i < l.length) (x : α) (u : List Value) (hx : R x u) :
    Chunks R (l.set i x) (vs.take (i * n) ++ u ++ vs.drop (i * n + n)) := by
  have e : l = l.take i ++ (l[i] :: l.drop (i + 1)) := by rw [List.getElem_cons_drop]; simp
  have e2 : l.set i x = l.take i ++ (x :: l.drop (i + 1)) := by rw [List.set_eq_take_append_cons_drop, if_pos hi]
  rw [e] at h
  obtain ⟨us, rs, he, h1, u0, r, he2, hx0, hr⟩ := Chunks.split _ _ _ h
  have hl : us.length = i * n := by rw [Chunks.len hn _ _ h1, List.length_take]; congr 1; omega
  have hl0 := hn _ _ hx0
  rw [e2, he, he2]
  have t1 : (us ++ (u0 ++ r)).take (i * n) = us := by rw [← hl, List.take_left]
  have t2 : (us ++ (u0 ++ r)).drop (i * n + n) = r := by rw [← List.append_assoc, ← hl, ← hl0, ← List.length_append, List.drop_left]
  rw [t1, t2, List.append_assoc]
  exact Chunks.append _ _ _ _ h1 ⟨u, r, rfl, hx, hr⟩

def sameKind (k k' : Blk) : Prop := k.shp = k'.shp

theorem envs_mono {E E' : En} (h : ∀ id v, E id = some v → E' id = some v) : ∀ (l : List Nat) (vs : List Value), envs E l = some vs → envs E' l = some vs
  | [], vs, hh => hh
  | i :: r, vs, hh => by
    simp only [envs] at hh ⊢
    cases hi : E i with
    | none => simp [hi] at hh
    | some v =>
      cases hr : envs E r with
      | none => simp [hi, hr] at hh
      | some us => rw [h i v hi, envs_mono h r us hr]; simpa [hi, hr] using hh

structure On (X : Nat → Prop) (w : World) (B : Bs) (E : En) (w' : World) (B' : Bs) (E' : En) : Prop where
  stay : Stay w (MX X B E) w' (MX X B' E')
  ext : ∀ id v, E id = some v → E' id = some v
  old : ∀ id v k', E id = some v → B' id = some k' → ∃ k, B id = some k ∧ sameKind k k' ∧ (k'.mut = true → k.mut = true)

theorem On.refl (X : Nat → Prop) (w : World) (B : Bs) (E : En) : On X w B E w B E := ⟨⟨fun _ _ _ _ h => h, fun _ _ _ h _ => h⟩, fun _ _ h => h, fun _ _ k _ h => ⟨k, h, rfl, fun x => x⟩⟩
theorem On.trans {X : Nat → Prop} {w w1 w2 : World} {B B1 B2 : Bs} {E E1 E2 : En} (h : On X w B E w1 B1 E1) (h' : On X w1 B1 E1 w2 B2 E2) : On X w B E w2 B2 E2 where
  stay := ⟨fun b o v hm hc => h'.stay.cell b o v (h.stay.nm b o v hm hc) (h.stay.cell b o v hm hc), fun b o v hm hc => h'.stay.nm b o v (h.stay.nm b o v hm hc) (h.stay.cell b o v hm hc)⟩
  ext := fun id v hv => h'.ext id v (h.ext id v hv)
  old := fun id v k' hv hk => by
    obtain ⟨k1, h1, s1, m1⟩ := h'.old id v k' (h.ext id v hv) hk
    obtain ⟨k, h2, s2, m2⟩ := h.old id v k1 hv h1
    exact ⟨k, h2, s2.trans s1, fun x => m2 (m1 x)⟩

theorem shp_box {k : Blk} {cs : List C} (h : sameKind k (.box cs)) : ∃ ds, k = .box ds := by
  cases k with
  | box ds => exact ⟨ds, rfl⟩
  | arr e s l => simp [sameKind, Blk.shp] at h
  | frz e s l => simp [sameKind, Blk.shp] at h

theorem RC.on {X : Nat → Prop} {w w' : World} {B B' : Bs} {E E' : En} (h : On X w B E w' B' E') : ∀ (c : C) (v : Value), RC X w B E c v → RC X w' B' E' c v
  | .int _ _, _, hh => hh
  | .bool _, _, hh => hh
  | .str _, _, hh => hh
  | .lst s l, v, hh => RSl.mono h.stay (RT.mono h.stay s) hh
  | .row id, v, ⟨v0, h0, h1, hk⟩ => ⟨v0, h.ext _ _ h0, h1, fun k hb => by obtain ⟨k0, hb0, _, _⟩ := h.old _ _ _ h0 hb; exact hk _ hb0⟩
  | .sub id off len, v, ⟨v0, h0, h1, hk⟩ => ⟨v0, h.ext _ _ h0, h1, fun k s n hb hs => by
      obtain ⟨k0, hb0, hsk, _⟩ := h.old _ _ _ h0 hb
      exact hk _ _ _ hb0 (by rw [hsk]; exact hs)⟩
  | .ptr id off, v, ⟨v0, h0, h1, hk⟩ => ⟨v0, h.ext _ _ h0, h1, fun cs hb => by
      obtain ⟨k0, hb0, hsk, _⟩ := h.old _ _ _ h0 hb
      obtain ⟨ds, rfl⟩ := shp_box hsk
      exact hk _ hb0⟩
  | .eptr id i j, v, ⟨v0, h0, h1, hk⟩ => ⟨v0, h.ext _ _ h0, h1, fun k s n hb hs => by
      obtain ⟨k0, hb0, hsk, _⟩ := h.old _ _ _ h0 hb
      exact hk _ _ _ hb0 (by rw [hsk]; exact hs)⟩
  | .vp s x j, v, ⟨b, off, xs, hv, hm, hx, hc⟩ => by
      refine ⟨b, off, xs, hv, ?_, RT.mono h.stay s x xs hx, fun i u hu => h.stay.cell _ _ _ hm (hc i u hu)⟩
      have hl := RT.len s x xs hx
      have := Sh.sz_pos s
      exact h.stay.nm b (off + 0) _ hm (hc 0 (xs[0]'(by omega)) (by rw [List.getElem?_eq_getElem]))
  | .fn f caps, v, ⟨vs, hvs, hv⟩ => ⟨vs, envs_mono h.ext _ _ hvs, hv⟩
  | .nil, _, hh => hh
  | .undef, _, _ => trivial

theorem all_on {X : Nat → Prop} {w w' : World} {B B' : Bs} {E E' : En} (h : On X w B E w' B' E') {cs : List C} {vs : List Value} (hh : F2 (RC X w B E) cs vs) : F2 (RC X w' B' E') cs vs :=
  hh.imp (fun c v => RC.on h c v)
theorem RP.on {X : Nat → Prop} {w w' : World} {B B' : Bs} {E E' : En} (h : On X w B E w' B' E') {p : Bool × List C} {v : Value} (hh : RP X w B E p v) : RP X w' B' E' p v := by
  unfold RP at *
  split at hh
  · obtain ⟨vs, hv, hc⟩ := hh; exact ⟨vs, hv, all_on h hc⟩
  · obtain ⟨c, hp, hc⟩ := hh; exact ⟨c, hp, RC.on h _ _ hc⟩
theorem RV.on {X : Nat → Prop} {w w' : World} {B B' : Bs} {E E' : En} (h : On X w B E w' B' E') : ∀ (v : V) (u : Value), RV X w B E v u → RV X w' B' E' v u
  | .one c, _, hh => RC.on h _ _ hh
  | .agg cs, _, ⟨vs, hv, hc⟩ => ⟨vs, hv, all_on h hc⟩
  | .tup ps, _, ⟨vs, hv, hc⟩ => ⟨vs, hv, hc.imp (fun _ _ => RP.on h)⟩
theorem tms_on {X : Nat → Prop} {w w' : World} {B B' : Bs} {E E' : En} (h : On X w B E w' B' E') {vs : List V} {us : List Value} (hh : F2 (RV X w B E) vs us) : F2 (RV X w' B' E') vs us :=
  hh.imp (fun v u => RV.on h v u)
end Go.Rx
set_option linter.unusedVariables false
set_option linter.unusedSimpArgs false
namespace Go.Rx
theorem upd_same (B : Bs) (i : Nat) (x : Option Blk) : upd B i x i = x := by
  show (match Nat.beq i i with | true => x | false => B i) = x
  rw [Nat.beq_refl]
theorem upd_ne (B : Bs) {i j : Nat} (x : Option Blk) (h : j ≠ i) : upd B i x j = B j := by
  show (match Nat.beq j i with | true => x | false => B j) = B j
  have : Nat.beq j i = false := by
    cases hb : Nat.beq j i with
    | false => rfl
    | true => exact (h (Nat.eq_of_beq_eq_true hb)).elim
  rw [this]
theorem upds_append (l m : List (Nat × Option Blk)) : ∀ B : Bs, upds B (l ++ m) = upds (upds B l) m := by
  induction l with
  | nil => intro B; rfl
  | cons p l ih => intro B; exact ih _

def setE (E : En) (i : Nat) (v : Value) : En := fun j => if j = i then some v else E j
theorem setE_same (E : En) (i : Nat) (v : Value) : setE E i v i = some v := by simp [setE]
theorem setE_ne (E : En) {i j : Nat} (v : Value) (h : j ≠ i) : setE E i v j = E j := by simp [setE, h]
theorem setE_ext {E : En} {i : Nat} (v : Value) (h : E i = none) : ∀ id u, E id = some u → setE E i v id = some u := by
  intro id u hu
  rw [setE_ne E v (fun e => by subst e; rw [h] at hu; cases hu)]; exact hu

variable {X : Nat → Prop} {w0 : World} {L : Nat → Prop} {w w' : World} {B B' : Bs} {E E' : En}
theorem RB.env {id : Nat} {k : Blk} (h : RB X w B E id k) : ∃ v, E id = some v := by
  cases k with
  | box cs => obtain ⟨b, _, _, h, _⟩ := h; exact ⟨_, h⟩
  | arr e s l => obtain ⟨v, _, h, _⟩ := h; exact ⟨_, h⟩
  | frz e s l => obtain ⟨v, h, _⟩ := h; exact ⟨_, h⟩
theorem WR.none (hw : WR X w0 L w B E) {id : Nat} (h : E id = none) : B id = none := by
  cases hb : B id with
  | none => rfl
  | some k => obtain ⟨v, hv⟩ := (hw.blk id k hb).env; rw [h] at hv; cases hv

theorem RB.on (h : On X w B E w' B' E') {id : Nat} {k : Blk} (hblk : k.mut = true → ∀ v b, E id = some v → ob v = some b → w'.heap[b]? = w.heap[b]?) (hb : RB X w B E id k) : RB X w' B' E' id k := by
  cases k with
  | box cs =>
    obtain ⟨b, vs, t, he, hh, hc⟩ := hb
    exact ⟨b, vs, t, h.ext _ _ he, by rw [hblk rfl _ b he rfl]; exact hh, all_on h hc⟩
  | arr e s l =>
    obtain ⟨v, xs, he, ho, hc⟩ := hb
    refine ⟨v, xs, h.ext _ _ he, ⟨ho.1, ?_⟩, hc.mono (RT.mono h.stay s)⟩
    rcases ho.2 with hn | ⟨g, cap, cur, rfl, hbg, hg, rest⟩
    · exact .inl hn
    · exact .inr ⟨g, cap, cur, rfl, hbg, by rw [hblk rfl _ g he rfl]; exact hg, rest⟩
  | frz e s l =>
    obtain ⟨v, he, hr, hv⟩ := hb
    exact ⟨v, h.ext _ _ he, hr.mono h.stay (RT.mono h.stay s), hv⟩

theorem cell_lt {w : World} {b o : Nat} {v : Value} (h : w.cell? ⟨b, o, none⟩ = some v) : b < w.heap.size := World.block_lt_of_cell? w _ h
theorem cell_heap {w w' : World} {b : Nat} (h : w'.heap[b]? = w.heap[b]?) (o : Nat) : w'.cell? ⟨b, o, none⟩ = w.cell? ⟨b, o, none⟩ := World.cell?_of_block h

theorem turn (hw : WR X w0 L w B E) (hio : Io w w') (hE : ∀ id v, E id = some v → E' id = some v)
    (hB : ∀ id k', B' id = some k' → E id = none ∨ ∃ k, B id = some k ∧ sameKind k k' ∧ (k'.mut = true → k.mut = true))
    (hsz : w.heap.size ≤ w'.heap.size) (hfr : ∀ b, b < w.heap.size → ¬ Mut B E b → w'.heap[b]? = w.heap[b]?)
    (hnew : ∀ id k' v b, E id = none → B' id = some k' → k'.mut = true → E' id = some v → ob v = some b →
      b < w'.heap.size ∧ (w.heap.size ≤ b ∨ (Mut B E b ∧ ∀ id0 k0 v0, B' id0 = some k0 → k0.mut = true → E id0 = some v0 → ob v0 ≠ some b)))
    (hnn : ∀ id id' k k' v v' b, E id = none → E id' = none → B' id = some k → B' id' = some k' → k.mut = true → k'.mut = true → E' id = some v → E' id' = some v' → ob v = some b → ob v' = some b → id = id')
    (hRB : On X w B E w' B' E' → ∀ id k', B' id = some k' → RB X w' B' E' id k') : On X w B E w' B' E' ∧ WR X w0 L w' B' E' := by
  have hmut : ∀ b, Mut B' E' b → Mut B E b ∨ w.heap.size ≤ b := by
    rintro b ⟨id, k', v, hk, hm, hv, hob⟩
    rcases hB id k' hk with h0 | ⟨k, hk0, _, hmm⟩
    · rcases (hnew id k' v b h0 hk hm hv hob).2 with h | ⟨h, _⟩
      · exact .inr h
      · exact .inl h
    · obtain ⟨v0, hv0⟩ := (hw.blk id k hk0).env
      have : v0 = v := by have := hE _ _ hv0; rw [hv] at this; exact (Option.some.inj this).symm
      subst this
      exact .inl ⟨id, k, v0, hk0, hmm hm, hv0, hob⟩
  have hon : On X w B E w' B' E' := by
    refine ⟨⟨fun b o v hm hc => ?_, fun b o v hm hc hM => ?_⟩, hE, fun id v k' hv hk => ?_⟩
    · rw [cell_heap (hfr b (cell_lt hc) (fun h => hm (.inl h)))]; exact hc
    · rcases hM with hM | hM
      · rcases hmut b hM with h | h
        · exact hm (.inl h)
        · have := cell_lt hc; omega
      · exact hm (.inr hM)
    · rcases hB id k' hk with h0 | ⟨k, hk0, hs, hmm⟩
      · rw [h0] at hv; cases hv
      · exact ⟨k, hk0, hs, hmm⟩
  refine ⟨hon, hRB hon, ?_, ?_, ?_, Nat.le_trans hw.sz hsz, hw.far, hw.io.trans hio⟩
  · intro id id' k k' v v' b hk hk' hm hm' hv hv' ho ho'
    have old : ∀ {id k v}, B' id = some k → k.mut = true → E' id = some v → E id ≠ none → ∃ k0, B id = some k0 ∧ k0.mut = true ∧ E id = some v := by
      intro id k v hk hm hv hn
      rcases hB id k hk with h0 | ⟨k0, hk0, _, hmm⟩
      · exact (hn h0).elim
      · obtain ⟨v0, hv0⟩ := (hw.blk id k0 hk0).env
        have : v0 = v := by have := hE _ _ hv0; rw [hv] at this; exact (Option.some.inj this).symm
        subst this
        exact ⟨k0, hk0, hmm hm, hv0⟩
    by_cases h : E id = none <;> by_cases h' : E id' = none
    · exact hnn id id' k k' v v' b h h' hk hk' hm hm' hv hv' ho ho'
    · obtain ⟨k0, hk0, hm0, hv0⟩ := old hk' hm' hv' h'
      rcases (hnew id k v b h hk hm hv ho).2 with hh | ⟨_, hh⟩
      · have := (hw.own b ⟨id', k0, v', hk0, hm0, hv0, ho'⟩).1; omega
      · exact (hh id' k' v' hk' hm' hv0 ho').elim
    · obtain ⟨k0, hk0, hm0, hv0⟩ := old hk hm hv h
      rcases (hnew id' k' v' b h' hk' hm' hv' ho').2 with hh | ⟨_, hh⟩
      · have := (hw.own b ⟨id, k0, v, hk0, hm0, hv0, ho⟩).1; omega
      · exact (hh id k v hk hm hv0 ho).elim
    · obtain ⟨k0, hk0, hm0, hv0⟩ := old hk hm hv h
      obtain ⟨k1, hk1, hm1, hv1⟩ := old hk' hm' hv' h'
      exact hw.inj id id' k0 k1 v v' b hk0 hk1 hm0 hm1 hv0 hv1 ho ho'
  · rintro b hM
    obtain ⟨id, k', v, hk, hm, hv, hob⟩ := hM
    rcases hB id k' hk with h0 | ⟨k, hk0, _, hmm⟩
    · obtain ⟨h1, h2⟩ := hnew id k' v b h0 hk hm hv hob
      refine ⟨h1, ?_⟩
      rcases h2 with h2 | ⟨h2, _⟩
      · exact .inl (Nat.le_trans hw.sz h2)
      · exact (hw.own b h2).2
    · obtain ⟨v0, hv0⟩ := (hw.blk id k hk0).env
      have : v0 = v := by have := hE _ _ hv0; rw [hv] at this; exact (Option.some.inj this).symm
      subst this
      have := hw.own b ⟨id, k, v0, hk0, hmm hm, hv0, hob⟩
      exact ⟨Nat.lt_of_lt_of_le this.1 hsz, this.2⟩
  · intro b hb hl
    have hnm : ¬ Mut B E b := fun hM => by rcases (hw.own b hM).2 with h | h; omega; exact hl h
    rw [hfr b (Nat.lt_of_lt_of_le hb hw.sz) hnm]
    exact hw.fr b hb hl

theorem add1 (hw : WR X w0 L w B E) (hio : Io w w') {id : Nat} {k : Blk} {v : Value} (hE : E id = none) (hsz : w.heap.size ≤ w'.heap.size) (hfr : ∀ b, b < w.heap.size → w'.heap[b]? = w.heap[b]?)
    (hob : ∀ b, ob v = some b → w.heap.size ≤ b ∧ b < w'.heap.size)
    (hRB : On X w B E w' (upd B id (some k)) (setE E id v) → RB X w' (upd B id (some k)) (setE E id v) id k) :
    On X w B E w' (upd B id (some k)) (setE E id v) ∧ WR X w0 L w' (upd B id (some k)) (setE E id v) := by
  have hB0 := hw.none hE
  refine turn hw hio (setE_ext v hE) ?_ hsz (fun b hb _ => hfr b hb) ?_ ?_ ?_
  · intro i k' hk
    by_cases h : i = id
    · subst h; exact .inl hE
    · rw [upd_ne B _ h] at hk; exact .inr ⟨k', hk, rfl, fun x => x⟩
  · intro i k' u b h0 hk hm hv hob'
    by_cases h : i = id
    · subst h
      rw [setE_same] at hv
      obtain rfl := Option.some.inj hv
      exact ⟨(hob b hob').2, .inl (hob b hob').1⟩
    · rw [setE_ne E v h, h0] at hv; cases hv
  · intro i i' k1 k2 u u' b h0 h0' hk hk' hm hm' hv hv' ho ho'
    by_cases h : i = id
    · by_cases h' : i' = id
      · rw [h, h']
      · rw [setE_ne E v h', h0'] at hv'; cases hv'
    · rw [setE_ne E v h, h0] at hv; cases hv
  · intro hon i k' hk
    by_cases h : i = id
    · subst h; rw [upd_same] at hk; obtain rfl := Option.some.inj hk; exact hRB hon
    · rw [upd_ne B _ h] at hk
      refine (hw.blk i k' hk).on hon (fun hm u b hu hb => hfr b ?_)
      exact (hw.own b ⟨i, k', u, hk, hm, hu, hb⟩).1

theorem put1 (hw : WR X w0 L w B E) (hio : Io w w') {id : Nat} {k k' : Blk} {v : Value} {g : Nat} (hk : B id = some k) (hm : k.mut = true) (hv : E id = some v) (hg : ob v = some g) (hs : sameKind k k') (hm' : k'.mut = true)
    (hsz : w'.heap.size = w.heap.size) (hfr : ∀ b, b ≠ g → w'.heap[b]? = w.heap[b]?)
    (hRB : On X w B E w' (upd B id (some k')) E → RB X w' (upd B id (some k')) E id k') :
    On X w B E w' (upd B id (some k')) E ∧ WR X w0 L w' (upd B id (some k')) E := by
  refine turn hw hio (fun _ _ h => h) ?_ (Nat.le_of_eq hsz.symm) (fun b hb hn => hfr b (fun e => hn ⟨id, k, v, hk, hm, hv, by rw [hg, e]⟩)) ?_ ?_ ?_
  · intro i k1 h1
    by_cases h : i = id
    · subst h; rw [upd_same] at h1; obtain rfl := Option.some.inj h1; exact .inr ⟨k, hk, hs, fun _ => hm⟩
    · rw [upd_ne B _ h] at h1; exact .inr ⟨k1, h1, rfl, fun x => x⟩
  · intro i k1 u b h0 _ _ hu _; rw [h0] at hu; cases hu
  · intro i i' k1 k2 u u' b h0 _ _ _ _ _ hu _ _ _; rw [h0] at hu; cases hu
  · intro hon i k1 h1
    by_cases h : i = id
    · subst h; rw [upd_same] at h1; obtain rfl := Option.some.inj h1; exact hRB hon
    · rw [upd_ne B _ h] at h1
      refine (hw.blk i k1 h1).on hon (fun hm1 u b hu hb => hfr b (fun e => h ?_))
      subst e
      exact hw.inj i id k1 k u v _ h1 hk hm1 hm hu hv hb hg

theorem own_block {w : World} {base : Nat} {e : TypeId} {n : Nat} {v : Value} {m : Nat} {xs : List Value} (h : w.ownsRow base e n v m xs) :
    (v = .slice none 0 0 ∧ m = 0 ∧ xs = []) ∨ ∃ g c, v = .slice (some ⟨g, 0, none⟩) m c ∧ m ≤ c ∧ ob v = some g ∧ g < w.heap.size ∧ ∀ j u, xs[j]? = some u → w.cell? ⟨g, j, none⟩ = some u := by
  rcases h.2 with ⟨hv, hm⟩ | ⟨g, cap, cur, rfl, hb, hg, hn, hc, hs, ht⟩
  · exact .inl ⟨hv, hm, List.eq_nil_of_length_eq_zero (by rw [h.1, hm]; simp)⟩
  · refine .inr ⟨g, cap, rfl, hn, rfl, (Array.getElem?_eq_some_iff.1 hg).1, fun j u hu => ?_⟩
    rw [cell_of_row w g j cur e (0, 0) hg]
    rw [← ht, List.getElem?_take] at hu
    split at hu
    · simpa using hu
    · cases hu

theorem frz1 (hw : WR X w0 L w B E) {id : Nat} {e : TypeId} {s : Sh} {l : List s.T} (hk : B id = some (.arr e s l)) :
    On X w B E w (upd B id (some (.frz e s l))) E ∧ WR X w0 L w (upd B id (some (.frz e s l))) E := by
  refine turn hw (Io.refl _) (fun _ _ h => h) ?_ (Nat.le_refl _) (fun _ _ _ => rfl) ?_ ?_ ?_
  · intro i k1 h1
    by_cases h : i = id
    · subst h; rw [upd_same] at h1; obtain rfl := Option.some.inj h1; exact .inr ⟨_, hk, rfl, fun x => by simp [Blk.mut]⟩
    · rw [upd_ne B _ h] at h1; exact .inr ⟨k1, h1, rfl, fun x => x⟩
  · intro i k1 u b h0 _ _ hu _; rw [h0] at hu; cases hu
  · intro i i' k1 k2 u u' b h0 _ _ _ _ _ hu _ _ _; rw [h0] at hu; cases hu
  · intro hon i k1 h1
    by_cases h : i = id
    · subst h; rw [upd_same] at h1; obtain rfl := Option.some.inj h1
      obtain ⟨v, xs, hv, ho, hc⟩ := hw.blk i _ hk
      refine ⟨v, hv, ?_, ?_⟩
      · rcases own_block ho with ⟨rfl, hm, hx⟩ | ⟨g, c, rfl, hmc, hob, _, hcell⟩
        · exact ⟨none, 0, xs, by rw [hm], by omega, hc.mono (RT.mono hon.stay s), .inl hx⟩
        · refine ⟨some ⟨g, 0, none⟩, c, xs, rfl, hmc, hc.mono (RT.mono hon.stay s), .inr ⟨g, 0, rfl, ?_, fun j u hu => by simpa using hcell j u hu⟩⟩
          rintro (⟨i', k', v', hk', hm', hv', hb'⟩ | hX)
          · by_cases h' : i' = i
            · subst h'; rw [upd_same] at hk'; obtain rfl := Option.some.inj hk'; simp [Blk.mut] at hm'
            · rw [upd_ne B _ h'] at hk'
              exact h' (hw.inj i' i k' _ v' _ g hk' hk hm' rfl hv' hv hb' hob)
          · have h1 := hw.far g hX
            rcases (hw.own g ⟨i, _, _, hk, rfl, hv, hob⟩).2 with h2 | h2
            · omega
            · exact h1.2 h2
      · rcases own_block ho with ⟨rfl, _, _⟩ | ⟨g, c, rfl, _⟩
        · exact .inl rfl
        · exact .inr ⟨g, _, c, rfl⟩
    · rw [upd_ne B _ h] at h1
      exact (hw.blk i k1 h1).on hon (fun _ _ _ _ _ => rfl)

theorem frzs (ids : List Nat) : ∀ {B : Bs} (B0 : Bs), (∀ i e s l, B0 i = some (.arr e s l) → B i = some (.arr e s l) ∨ B i = some (.frz e s l)) → WR X w0 L w B E →
    On X w B E w (upds B (frzUp B0 ids)) E ∧ WR X w0 L w (upds B (frzUp B0 ids)) E := by
  induction ids with
  | nil => intro B B0 _ hw; exact ⟨On.refl _ _ _ _, hw⟩
  | cons i r ih =>
    intro B B0 h0 hw
    simp only [frzUp]
    split
    · rename_i e s l hi
      have step : On X w B E w (upd B i (some (.frz e s l))) E ∧ WR X w0 L w (upd B i (some (.frz e s l))) E := by
        rcases h0 i e s l hi with h | h
        · exact frz1 hw h
        · have : upd B i (some (.frz e s l)) = B := by
            funext j
            by_cases hj : j = i
            · subst hj; rw [upd_same, h]
            · rw [upd_ne B _ hj]
          rw [this]; exact ⟨On.refl _ _ _ _, hw⟩
      have := ih (B := upd B i (some (.frz e s l))) B0 (fun j e' s' l' hj => by
        by_cases hji : j = i
        · subst hji
          rw [hi] at hj
          obtain ⟨rfl, hj⟩ := Blk.arr.inj (Option.some.inj hj)
          obtain ⟨rfl, hj⟩ := hj
          cases hj
          rw [upd_same]; exact .inr rfl
        · rw [upd_ne B _ hji]; exact h0 j e' s' l' hj) step.2
      exact ⟨step.1.trans this.1, this.2⟩
    · exact ih B0 h0 hw

theorem frzUp_ok (hw : WR X w0 L w B E) (ids : List Nat) : On X w B E w (upds B (frzUp B ids)) E ∧ WR X w0 L w (upds B (frzUp B ids)) E :=
  frzs ids B (fun _ _ _ _ h => .inl h) hw
end Go.Rx
set_option linter.unusedVariables false
set_option linter.unusedSimpArgs false
namespace Go.Rx
variable {P : Program} {X : Nat → Prop} {w0 : World} {L : Nat → Prop} {w w' : World} {B B' : Bs} {E E' : En}
def Done (X : Nat → Prop) (w0 : World) (L : Nat → Prop) (w : World) (B : Bs) (E : En) (base : Nat) (up : List (Nat × Option Blk)) (v : V) (w' : World) (u : Value) : Prop :=
  ∃ E', On X w B E w' (upds B up) E' ∧ WR X w0 L w' (upds B up) E' ∧ RV X w' (upds B up) E' v u ∧ ∀ id, E id = none → E' id ≠ none → base ≤ id ∧ id < base + 16

theorem Done.same (hw : WR X w0 L w B E) {base : Nat} {v : V} {u : Value} (h : RV X w B E v u) : Done X w0 L w B E base [] v w u :=
  ⟨E, On.refl _ _ _ _, hw, h, fun _ h1 h2 => (h2 h1).elim⟩

theorem wp_val {o : Oper} {a : Act} {K : Act → World → Prop} {Q : Exit → Act → World → Prop} {v : Value} (h : (execOp a.eval o).run P w = .ok (.value v) w') (hk : K (a.put o.dst v) w') : o.wp P a w K Q := by
  unfold Oper.wp; rw [h]; exact hk
theorem wp_skp {o : Oper} {a : Act} {K : Act → World → Prop} {Q : Exit → Act → World → Prop} (h : (execOp a.eval o).run P w = .ok .skip w') (hk : K (a.put o.dst undef) w') : o.wp P a w K Q := by
  unfold Oper.wp; rw [h]; exact hk

theorem constC_ok {v : Value} {c : C} (h : constC v = some c) : RC X w B E c v := by
  unfold constC at h
  split at h
  · cases h; rfl
  · cases h; rfl
  · cases h; rfl
  · split at h
    · cases h; rfl
    · cases h
  · cases h; trivial
  · cases h
theorem constCs_ok : ∀ {vs : List Value} {cs : List C}, constCs vs = some cs → F2 (RC X w B E) cs vs
  | [], cs, h => by simp [constCs] at h; subst h; trivial
  | v :: r, cs, h => by
    simp only [constCs] at h
    split at h
    · rename_i c cs' h1 h2; cases h; exact ⟨constC_ok h1, constCs_ok h2⟩
    · cases h
theorem constV_ok {u : Value} {v : V} (h : constV u = some v) : RV X w B E v u := by
  unfold constV at h
  split at h
  · obtain ⟨cs, hc, rfl⟩ := Option.map_eq_some_iff.1 h
    exact ⟨_, rfl, constCs_ok hc⟩
  · obtain ⟨c, hc, rfl⟩ := Option.map_eq_some_iff.1 h
    exact constC_ok hc

theorem ev_ok {tm : List V} {a : Act} (ht : F2 (RV X w B E) tm a.tmps.toList) {x : Operand} {v : V} (h : ev tm x = some v) : RV X w B E v (a.eval x) := by
  cases x with
  | tmp t =>
    obtain ⟨u, hu, hr⟩ := ht.get h
    have : a.eval (.tmp t) = u := by simp at hu; simp [Act.eval, hu]
    rw [this]; exact hr
  | const c => exact constV_ok h
  | global g => cases h
  | func f => simp [ev] at h; subst h; exact ⟨[], rfl, rfl⟩
theorem evs_ok {tm : List V} {a : Act} (ht : F2 (RV X w B E) tm a.tmps.toList) : ∀ {ps : List (Nat × Operand)} {vs : List (Nat × V)}, evs tm ps = some vs →
    F2 (fun p q => p.1 = q.1 ∧ RV X w B E p.2 q.2) vs (ps.map fun (i, x) => (i, a.eval x))
  | [], vs, h => by simp [evs] at h; subst h; trivial
  | (i, x) :: r, vs, h => by
    simp only [evs] at h
    split at h
    · rename_i v vs' h1 h2; cases h; exact ⟨⟨rfl, ev_ok ht h1⟩, evs_ok ht h2⟩
    · cases h
theorem evl_ok {tm : List V} {a : Act} (ht : F2 (RV X w B E) tm a.tmps.toList) : ∀ {ps : List Operand} {vs : List V}, evl tm ps = some vs → F2 (RV X w B E) vs (ps.map a.eval)
  | [], vs, h => by simp [evl] at h; subst h; trivial
  | x :: r, vs, h => by
    simp only [evl] at h
    split at h
    · rename_i v vs' h1 h2; cases h; exact ⟨ev_ok ht h1, evl_ok ht h2⟩
    · cases h

theorem RC.one {c : C} {v : Value} (h : RC X w B E c v) (hc : c ≠ .undef) : v.oneCell' = true := by
  cases c with
  | undef => exact (hc rfl).elim
  | lst s l => obtain ⟨a, c, xs, rfl, _⟩ := h; rfl
  | row id => obtain ⟨_, _, h1, _⟩ := h; exact h1
  | sub id o n => obtain ⟨_, _, h1, _⟩ := h; exact h1
  | ptr id o => obtain ⟨_, _, h1, _⟩ := h; exact h1
  | eptr id i j => obtain ⟨_, _, h1, _⟩ := h; exact h1
  | vp s x j => obtain ⟨b, off, xs, rfl, _⟩ := h; rfl
  | fn f caps => obtain ⟨vs, _, rfl⟩ := h; rfl
  | _ => (first | (have h' : _ = _ := h; rw [h']; rfl))
theorem one_cells {v : Value} (h : v.oneCell' = true) : v.cells = #[v] := by cases v <;> simp_all [Value.oneCell', Value.cells]

theorem noUndef_cells : ∀ {cs : List C} {vs : List Value}, F2 (RC X w B E) cs vs → noUndef cs = true → ∀ v ∈ vs, v.oneCell' = true
  | [], [], _, _, v, hv => by cases hv
  | c :: cs, u :: us, ⟨h1, h2⟩, hn, v, hv => by
    have hn' : noUndef cs = true := by cases c <;> simp_all [noUndef]
    rcases List.mem_cons.1 hv with rfl | hv
    · exact RC.one h1 (by cases c <;> simp_all [noUndef])
    · exact noUndef_cells h2 hn' v hv

theorem beq_of {a b : Nat} (h : Nat.beq a b = true) : a = b := Nat.eq_of_beq_eq_true h

theorem add_nil (hw : WR X w0 L w B E) {id : Nat} (hE : E id = none) (e : TypeId) (s : Sh) :
    On X w B E w (upd B id (some (.arr e s []))) (setE E id (.slice none 0 0)) ∧ WR X w0 L w (upd B id (some (.arr e s []))) (setE E id (.slice none 0 0)) :=
  add1 hw (Io.refl _) hE (Nat.le_refl _) (fun _ _ => rfl) (fun b hb => by simp [ob] at hb)
    (fun _ => ⟨_, [], setE_same _ _ _, World.ownsRow_nil w 0 e s.sz, rfl⟩)

theorem row_here {w : World} {B : Bs} {E : En} {id : Nat} {v : Value} (hE : E id = some v) (h : v.oneCell' = true) : RC X w B E (.row id) v :=
  ⟨v, hE, h, fun _ _ => rfl⟩

theorem moveV_ok (hw : WR X w0 L w B E) {base : Nat} (hn : ∀ j, base ≤ j → j < base + 16 → E j = none) {t : TypeId} {v : V} {u : Value} (hv : RV X w B E v u) {c : Bool} {e : Eff} (h : moveV P base t v = some (c, e)) :
    Done X w0 L w B E base e.up e.v w u := by
  have same : ∀ {c : Bool} {e : Eff}, pu v = some (c, e) → Done X w0 L w B E base e.up e.v w u := by
    intro c e h; simp [pu] at h; obtain ⟨_, rfl⟩ := h; exact Done.same hw hv
  unfold moveV at h
  split at h
  · split at h
    · split at h
      · rename_i s hs
        have hu : u = .slice none 0 0 := hv
        subst hu
        cases h
        obtain ⟨h1, h2⟩ := add_nil hw (hn base (Nat.le_refl _) (by omega)) ‹TypeId› s
        refine ⟨_, h1, h2, row_here (X := X) (w := w) (setE_same _ _ _) rfl, fun id h0 hh => ?_⟩
        by_cases he : id = base
        · omega
        · rw [setE_ne _ _ he] at hh; exact (hh h0).elim
      · exact same h
    · exact same h
  · exact same h

theorem run_isAg {t : TypeId} {b : Bool} (h : isAg P t = some b) : (isAgg t).run P w = .ok b w := by
  unfold isAg at h
  unfold isAgg
  cases hu : P.underlying t with
  | none => simp [hu] at h
  | some d =>
    rw [Sem.run_bind, run_underlying hu]
    simp only [hu] at h
    cases d <;> simp_all [Result.andThen]
theorem run_size {t : TypeId} {n : Nat} (h : size P t = some n) : (sizeOf t).run P w = .ok n w := by
  unfold size at h
  obtain ⟨i, hi, rfl⟩ := Option.map_eq_some_iff.1 h
  simp [sizeOf, typeInfo, hi, program, Sem.run]

theorem part_val {w : World} {B : Bs} {E : En} {t : TypeId} {cs : List C} {off : Nat} {v : V} (h : partC P t cs off = some v) {vs : List Value} (hc : F2 (RC X w B E) cs vs) :
    (isAg P t = some true ∧ ∃ n, size P t = some n ∧ off + n ≤ vs.length ∧ RV X w B E v (.agg ((vs.drop off).take n).toArray)) ∨
    (isAg P t = some false ∧ ∃ u, vs[off]? = some u ∧ RV X w B E v u) := by
  unfold partC at h
  split at h
  · rename_i n h1 h2
    split at h
    · rename_i hb
      cases h
      have hb' := Nat.le_of_ble_eq_true hb
      rw [hc.len] at hb'
      exact .inl ⟨h1, n, h2, hb', _, rfl, by simpa using (hc.drop off).take n⟩
    · cases h
  · rename_i h1
    split at h
    · rename_i c hcc
      cases h
      obtain ⟨u, hu, hr⟩ := hc.get hcc
      exact .inr ⟨h1, u, hu, hr⟩
    · cases h
  · cases h

theorem addr_add (b o n : Nat) : (⟨b, o, none⟩ : Addr).add n = ⟨b, o + n, none⟩ := by
  unfold Addr.add; split
  · rename_i h; subst h; rfl
  · rfl

theorem load_val {w : World} {B : Bs} {E : En} {t : TypeId} {cs : List C} {off : Nat} {v : V} (h : partC P t cs off = some v) {vs : List Value} (hc : F2 (RC X w B E) cs vs) {b o0 : Nat}
    (hcell : ∀ j u, vs[j]? = some u → w.cell? ⟨b, o0 + j, none⟩ = some u) : ∃ u, (loadVar t ⟨b, o0 + off, none⟩).run P w = .ok u w ∧ RV X w B E v u := by
  rcases part_val h hc with ⟨h1, n, h2, hle, hr⟩ | ⟨h1, u, hu, hr⟩
  · refine ⟨_, ?_, hr⟩
    have hl := run_loadCells_list (P := P) w ⟨b, o0 + off, none⟩ ((vs.drop off).take n) (fun j u hu => by
      rw [List.getElem?_take] at hu
      split at hu
      · rw [List.getElem?_drop] at hu
        rw [addr_add, Nat.add_assoc]; exact hcell _ _ hu
      · cases hu)
    have hn : ((vs.drop off).take n).length = n := by simp; omega
    rw [hn] at hl
    unfold loadVar
    simp only [Sem.run_bind, run_isAg h1, Result.andThen_ok, if_true, run_size h2, hl, Sem.run_pure]
  · refine ⟨u, ?_, hr⟩
    unfold loadVar
    simp [Sem.run_bind, run_isAg h1, hcell _ _ hu]

theorem part_run {w : World} {B : Bs} {E : En} {t : TypeId} {cs : List C} {off : Nat} {v : V} (h : partC P t cs off = some v) {vs : List Value} (hc : F2 (RC X w B E) cs vs) :
    ∃ u, (part t vs.toArray off).run P w = .ok u w ∧ RV X w B E v u := by
  rcases part_val h hc with ⟨h1, n, h2, hle, hr⟩ | ⟨h1, u, hu, hr⟩
  · refine ⟨_, ?_, hr⟩
    unfold part
    simp only [Sem.run_bind, run_isAg h1, Result.andThen_ok, if_true, run_size h2, Sem.run_pure]
    congr 2
    simp [List.extract_eq_take_drop]
  · refine ⟨u, ?_, hr⟩
    unfold part
    simp [Sem.run_bind, run_isAg h1, hu]

theorem RT_cells {w : World} {B : Bs} {E : En} : ∀ (s : Sh) (x : s.T) (vs : List Value), RT w (MX X B E) s x vs → F2 (RC X w B E) (s.cells x) vs
  | .int k, x, vs, h => by have h' : vs = _ := h; subst h'; exact ⟨rfl, trivial⟩
  | .bool, x, vs, h => by have h' : vs = _ := h; subst h'; exact ⟨rfl, trivial⟩
  | .str, x, vs, h => by have h' : vs = _ := h; subst h'; exact ⟨rfl, trivial⟩
  | .sl s, l, vs, ⟨v, hv, h⟩ => by subst hv; exact ⟨h, trivial⟩
  | .pair a b, x, vs, ⟨u, r, he, h1, h2⟩ => by subst he; exact (RT_cells a _ _ h1).append (RT_cells b _ _ h2)

theorem getD_lt {α : Type} {l : List α} {i : Nat} {d : α} (h : i < l.length) : l.getD i d = l[i] := by simp [List.getD, h]

theorem row_elem {w : World} {B : Bs} {E : En} {s : Sh} {l : List s.T} {xs : List Value} (hc : Chunks (RT w (MX X B E) s) l xs) {i : Nat} (hi : i < l.length) :
    F2 (RC X w B E) (s.cells (l.getD i s.d)) ((xs.drop (i * s.sz)).take s.sz) := by
  rw [getD_lt hi]
  exact RT_cells s _ _ (Chunks.get (RT.len s) l xs hc i hi).1

theorem loadC_ok (hw : WR X w0 L w B E) {t : TypeId} {x : C} {u : Value} (hx : RC X w B E x u) {e : Eff} (h : loadC P B t x = some (true, e)) :
    e.up = [] ∧ ∃ r, (Instr.loadAt t u).run P w = .ok r w ∧ RV X w B E e.v r := by
  have fin : ∀ {b o : Nat} {v : V}, u = .pointer (some ⟨b, o, none⟩) → (∃ r, (loadVar t ⟨b, o, none⟩).run P w = .ok r w ∧ RV X w B E v r) → ∃ r, (Instr.loadAt t u).run P w = .ok r w ∧ RV X w B E v r := by
    rintro b o v rfl ⟨r, hr, hv⟩
    exact ⟨r, by simpa [Instr.loadAt, Instr.sureAddr] using hr, hv⟩
  have elem : ∀ {id i j : Nat} {ty : TypeId} {s : Sh} {l : List s.T} {v : V}, RC X w B E (.eptr id i j) u → (B id = some (.arr ty s l) ∨ B id = some (.frz ty s l)) → i < l.length → partC P t (s.cells (l.getD i s.d)) j = some v →
      ∃ r, (Instr.loadAt t u).run P w = .ok r w ∧ RV X w B E v r := by
    intro id i j ty s l v hx hb hi hp
    obtain ⟨v0, h0, _, hk⟩ := hx
    have key : ∃ g xs, u = .pointer (some ⟨g, i * s.sz + j, none⟩) ∧ Chunks (RT w (MX X B E) s) l xs ∧ ∀ j u, xs[j]? = some u → w.cell? ⟨g, j, none⟩ = some u := by
      rcases hb with hb | hb
      · obtain ⟨b, m, c, hv0, hu⟩ := hk _ s l.length hb rfl
        obtain ⟨v1, xs, he, ho, hc⟩ := hw.blk id _ hb
        rw [h0] at he; obtain rfl := Option.some.inj he
        rcases own_block ho with ⟨hn, _, _⟩ | ⟨g, c', hv, _, _, _, hcell⟩
        · rw [hn] at hv0; cases hv0
        · rw [hv] at hv0; cases hv0
          exact ⟨_, xs, hu, hc, hcell⟩
      · obtain ⟨b, m, c, hv0, hu⟩ := hk _ s l.length hb rfl
        obtain ⟨v1, he, hr, _⟩ := hw.blk id _ hb
        rw [h0] at he; obtain rfl := Option.some.inj he
        obtain ⟨a, c', xs, hv, _, hc, hx⟩ := hr
        rw [hv0] at hv; cases hv
        rcases hx with rfl | ⟨g, off, ha, _, hcell⟩
        · have hp := Sh.sz_pos s
          have h1 : 0 = l.length * s.sz := Chunks.len (RT.len s) l [] hc
          have h2 : 0 < l.length * s.sz := Nat.mul_pos (by omega) hp
          omega
        · cases ha
          exact ⟨b, xs, hu, hc, fun j u hj => by simpa using hcell j u hj⟩
    obtain ⟨g, xs, hu, hc, hcell⟩ := key
    refine fin hu (load_val hp (row_elem hc hi) (o0 := i * s.sz) (fun j' u' hj' => ?_))
    rw [List.getElem?_take] at hj'
    split at hj'
    · rw [List.getElem?_drop] at hj'; exact hcell _ _ hj'
    · cases hj'
  unfold loadC at h
  split at h
  · rename_i id off
    split at h
    · rename_i cs hb
      split at h
      · rename_i v hp
        cases h
        refine ⟨rfl, ?_⟩
        obtain ⟨v0, h0, _, hk⟩ := hx
        obtain ⟨b, hv0, hu⟩ := hk cs hb
        obtain ⟨b', vs, t', he, hh, hc⟩ := hw.blk id _ hb
        rw [h0, hv0] at he
        cases he
        refine fin hu ?_
        have := load_val hp hc (b := b) (o0 := 0) (fun j u hu => by rw [Nat.zero_add, cell_of_row w b j vs t' (0, 0) hh]; simpa using hu)
        simpa using this
      · cases h
    · cases h
  · rename_i id i j
    split at h
    · rename_i ty s l hb
      split at h
      · rename_i v hp
        simp only [Option.some.injEq, Prod.mk.injEq, decide_eq_true_eq] at h
        obtain ⟨hi, rfl⟩ := h
        exact ⟨rfl, elem hx (.inl hb) hi hp⟩
      · cases h
    · rename_i ty s l hb
      split at h
      · rename_i v hp
        simp only [Option.some.injEq, Prod.mk.injEq, decide_eq_true_eq] at h
        obtain ⟨hi, rfl⟩ := h
        exact ⟨rfl, elem hx (.inr hb) hi hp⟩
      · cases h
    · cases h
  · rename_i s x j
    split at h
    · rename_i v hp
      cases h
      refine ⟨rfl, ?_⟩
      obtain ⟨b, off, xs, hu, _, hxs, hcell⟩ := hx
      exact fin hu (load_val hp (RT_cells s x xs hxs) (o0 := off) hcell)
    · cases h
  · cases h
end Go.Rx
set_option linter.unusedVariables false
set_option linter.unusedSimpArgs false
namespace Go.Rx
variable {P : Program} {X : Nat → Prop} {w0 : World} {L : Nat → Prop} {w w' : World} {B B' : Bs} {E E' : En}
theorem cells_ok {v : V} {u : Value} (h : RV X w B E v u) (hn : noUndef v.cells = true) : F2 (RC X w B E) v.cells u.cells.toList := by
  cases v with
  | one c =>
    have h1 := RC.one h (by cases c <;> simp_all [V.cells, noUndef])
    rw [one_cells h1]; exact ⟨h, trivial⟩
  | agg cs => obtain ⟨vs, rfl, hc⟩ := h; exact hc
  | tup ps => simp [V.cells, noUndef] at hn

theorem ownNil_ok : ∀ (cs : List C) (id : Nat) (ts : List TypeId) {ds : List C} {up : List (Nat × Option Blk)} {B : Bs} {E : En} {vs : List Value}, ownNil P id ts cs = (ds, up) → WR X w0 L w B E →
    (∀ j, id ≤ j → j < id + up.length → E j = none) → F2 (RC X w B E) cs vs →
    ∃ E', On X w B E w (upds B up) E' ∧ WR X w0 L w (upds B up) E' ∧ F2 (RC X w (upds B up) E') ds vs ∧ ∀ i, E i = none → E' i ≠ none → id ≤ i ∧ i < id + up.length
  | [], id, ts, ds, up, B, E, vs, h, hw, hn, hc => by
    simp only [ownNil, Prod.mk.injEq] at h
    obtain ⟨rfl, rfl⟩ := h
    exact ⟨E, On.refl _ _ _ _, hw, hc, fun _ h1 h2 => (h2 h1).elim⟩
  | c :: cs, id, ts, ds, up, B, E, [], h, hw, hn, hc => hc.elim
  | c :: cs, id, ts, ds, up, B, E, v :: vs, h, hw, hn, ⟨h1, h2⟩ => by
    simp only [ownNil] at h
    split at h
    · rename_i e s hm
      obtain ⟨ds', up', hr⟩ : ∃ ds' up', ownNil P (id + 1) (ts.drop 1) cs = (ds', up') := ⟨_, _, rfl⟩
      rw [hr] at h
      simp only [Prod.mk.injEq] at h
      obtain ⟨rfl, rfl⟩ := h
      have hcn : c = .nil := by
        split at hm
        · rfl
        · cases hm
      subst hcn
      have hv : v = .slice none 0 0 := h1
      subst hv
      have hid := hn id (Nat.le_refl _) (by simp)
      obtain ⟨o1, w1⟩ := add_nil hw hid e s
      obtain ⟨E', o2, w2, hds, hnew⟩ := ownNil_ok cs (id + 1) (ts.drop 1) hr w1 (fun j hj hj' => by
        rw [setE_ne _ _ (by omega)]; exact hn j (by omega) (by simp; omega)) (all_on o1 h2)
      refine ⟨E', o1.trans o2, w2, ⟨row_here (o2.ext _ _ (setE_same _ _ _)) rfl, hds⟩, fun i h0 hi => ?_⟩
      by_cases he : i = id
      · subst he; simp
      · have := hnew i (by rw [setE_ne _ _ he]; exact h0) hi
        simp; omega
    · obtain ⟨ds', up', hr⟩ : ∃ ds' up', ownNil P id (ts.drop 1) cs = (ds', up') := ⟨_, _, rfl⟩
      rw [hr] at h
      simp only [Prod.mk.injEq] at h
      obtain ⟨rfl, rfl⟩ := h
      obtain ⟨E', o2, w2, hds, hnew⟩ := ownNil_ok cs id (ts.drop 1) hr hw hn h2
      exact ⟨E', o2, w2, ⟨RC.on o2 _ _ h1, hds⟩, hnew⟩

theorem boxOf_ok (hw : WR X w0 L w B E) {base : Nat} (hn : ∀ j, base ≤ j → j < base + 16 → E j = none) {t : TypeId} {cs : List C} {vs : Array Value} (hc : noUndef cs = true → F2 (RC X w B E) cs vs.toList) {e : Eff} (h : boxOf P base t cs = some (true, e)) :
    Done X w0 L w B E base e.up e.v (w.alloc (.cells vs t (0, 0))) (.pointer (some ⟨w.heap.size, 0, none⟩)) := by
  unfold boxOf at h
  split at h
  · cases h
  · split at h
    · cases h
    · split at h
      · cases h
      · rename_i hu
        obtain ⟨ds, up, hr⟩ : ∃ ds up, ownNil P (base + 1) (cellTs P 20 t) cs = (ds, up) := ⟨_, _, rfl⟩
        rw [hr] at h
        simp only at h
        split at h
        · rename_i hle
          have hle' := Nat.le_of_ble_eq_true hle
          cases h
          obtain ⟨E1, o1, w1, hds, hnew⟩ := ownNil_ok cs (base + 1) _ hr hw (fun j h1 h2 => hn j (by omega) (by omega)) (hc hu)
          have hb : E1 base = none := by
            cases hb : E1 base with
            | none => rfl
            | some v =>
              have := hnew base (hn base (Nat.le_refl _) (by omega)) (by rw [hb]; simp)
              omega
          obtain ⟨o2, w2⟩ := add1 (w' := w.alloc (.cells vs t (0, 0))) (k := .box ds) (v := .pointer (some ⟨w.heap.size, 0, none⟩)) w1 ⟨rfl, rfl, rfl⟩ hb (by simp) (fun b hb => heap_alloc_old w _ b hb) (fun b hb => by simp [ob] at hb; subst hb; simp)
            (fun hon => ⟨_, vs, t, setE_same _ _ _, heap_alloc_new w _, all_on hon hds⟩)
          refine ⟨setE E1 base (.pointer (some ⟨w.heap.size, 0, none⟩)), ?_, ?_, ?_, ?_⟩
          · show On X w B E _ (upds B (up ++ _)) _
            rw [upds_append]; exact o1.trans o2
          · show WR X w0 L _ (upds B (up ++ _)) _
            rw [upds_append]; exact w2
          · exact (⟨_, setE_same _ _ _, rfl, fun cs' _ => ⟨_, rfl, rfl⟩⟩ : RC X _ (upds B (up ++ _)) _ (.ptr base 0) _)
          · intro id h0 h1
            by_cases he : id = base
            · subst he; omega
            · rw [setE_ne _ _ he] at h1
              have := hnew id h0 h1
              omega
        · cases h

theorem zero_run {t : TypeId} {cs : List C} (h : zeroC P t = some cs) : ∃ z, (zeroValue t).run P w = .ok z w ∧ F2 (RC X w B E) cs z.cells.toList := by
  unfold zeroC at h
  split at h
  · rename_i z hz
    obtain ⟨i, hi, hz'⟩ := Option.bind_eq_some_iff.1 hz
    refine ⟨z, ?_, constCs_ok h⟩
    simp [zeroValue, typeInfo, hi, hz']
  · cases h

theorem setAll_ok {R : C → Value → Prop} : ∀ (ds : List C) (us : List Value) (off : Nat) {cs : List C} {vs : List Value}, F2 R ds us → F2 R cs vs →
    ∀ n, F2 R (setAll cs (off + n) ds) ((us.zipIdx n).foldl (fun cs (p : Value × Nat) => cs.set (off + p.2) p.1) vs)
  | [], [], off, cs, vs, _, hc, n => hc
  | d :: ds, u :: us, off, cs, vs, ⟨h1, h2⟩, hc, n => by
    simp only [setAll, List.zipIdx_cons, List.foldl_cons]
    exact setAll_ok ds us off h2 (hc.set (off + n) h1) (n + 1)
  | [], _ :: _, _, _, _, h, _, _ => h.elim
  | _ :: _, [], _, _, _, h, _, _ => h.elim

theorem foldl_toList (off : Nat) : ∀ (l : List (Value × Nat)) (a : Array Value), (l.foldl (fun cs (p : Value × Nat) => cs.setIfInBounds (off + p.2) p.1) a).toList = l.foldl (fun cs (p : Value × Nat) => cs.set (off + p.2) p.1) a.toList
  | [], a => rfl
  | p :: l, a => by simp only [List.foldl_cons]; rw [foldl_toList off l]; simp

theorem fill_ok {place : Nat → Option (Nat × Nat)} : ∀ (ps : List (Nat × V)) (us : List (Nat × Value)) {cs ds : List C} {vs : Array Value}, F2 (fun p q => p.1 = q.1 ∧ RV X w B E p.2 q.2) ps us → F2 (RC X w B E) cs vs.toList →
    fillC place cs ps = some ds → ∃ vs', Instr.fill place vs us = some vs' ∧ F2 (RC X w B E) ds vs'.toList
  | [], [], cs, ds, vs, _, hc, h => by simp [fillC] at h; subst h; exact ⟨vs, rfl, hc⟩
  | (i, v) :: ps, (i', u) :: us, cs, ds, vs, ⟨⟨hi, hv⟩, h2⟩, hc, h => by
    obtain rfl : i = i' := hi
    simp only [fillC] at h
    split at h
    · cases h
    · rename_i off n hp
      split at h
      · rename_i h3 h4
        split at h
        · rename_i hu
          have hcs := cells_ok hv hu
          have hl := hcs.len
          have hn := beq_of h3
          have hle := Nat.le_of_ble_eq_true h4
          have key : F2 (RC X w B E) (setAll cs off v.cells) (u.cells.zipIdx.foldl (fun cs (c, j) => cs.setIfInBounds (off + j) c) vs).toList := by
            have h5 := setAll_ok v.cells u.cells.toList off hcs hc 0
            have h6 : (u.cells.zipIdx.foldl (fun cs (c, j) => cs.setIfInBounds (off + j) c) vs).toList = (u.cells.toList.zipIdx 0).foldl (fun cs (p : Value × Nat) => cs.set (off + p.2) p.1) vs.toList := by
              rw [← foldl_toList, ← Array.foldl_toList]; simp
            rw [h6]; exact h5
          obtain ⟨vs', hf, hr⟩ := fill_ok ps us h2 key h
          refine ⟨vs', ?_, hr⟩
          simp only [Instr.fill, hp]
          have h7 : u.cells.size = n := by rw [← hn, hl]; simp
          have h8 : ¬ (off + u.cells.size > vs.size) := by rw [h7]; have := hc.len; simp at this; omega
          rw [if_neg (by simp [h7]; omega)]
          exact hf
        · cases h
      · cases h
  | [], _ :: _, _, _, _, h, _, _ => h.elim
  | _ :: _, [], _, _, _, h, _, _ => h.elim

theorem places_run : ∀ (fs : List Field) {l : List (Nat × Nat)}, fieldPlaces P fs = some l → (fs.mapM (fun f => Prod.mk f.offset <$> sizeOf f.type : Field → Sem (Nat × Nat))).run P w = .ok l w
  | [], l, h => by simp [fieldPlaces] at h; subst h; rfl
  | f :: r, l, h => by
    simp only [fieldPlaces] at h
    split at h
    · rename_i n l' h1 h2
      cases h
      have ih := places_run r h2
      simp [List.mapM_cons, run_size h1, ih]
    · cases h

theorem buildC_ok {t : TypeId} {ps : List (Nat × V)} {us : List (Nat × Value)} (hp : F2 (fun p q => p.1 = q.1 ∧ RV X w B E p.2 q.2) ps us) {e : Eff} (h : buildC P t ps = some (true, e)) :
    e.up = [] ∧ ∃ r, (Instr.build t us.toArray).run P w = .ok r w ∧ RV X w B E e.v r := by
  unfold buildC at h
  split at h
  · rename_i fs z hu hz
    split at h
    · rename_i pl hpl
      split at h
      · rename_i cs hf
        simp [pu] at h
        subst h
        obtain ⟨zv, hzr, hzc⟩ := zero_run (w := w) (X := X) (B := B) (E := E) hz
        obtain ⟨vs', hfill, hr⟩ := fill_ok ps us hp hzc hf
        refine ⟨rfl, .agg vs', ?_, vs', rfl, hr⟩
        have hm := places_run (w := w) fs.toList hpl
        have hm2 : (fs.mapM (fun f => Prod.mk f.offset <$> sizeOf f.type : Field → Sem (Nat × Nat))).run P w = .ok pl.toArray w := by
          rw [Array.mapM_eq_mapM_toList]; simp [hm]
        simp [Instr.build, hzr, run_underlying hu, hm2, hfill]
      · cases h
    · cases h
  · rename_i n el z hu hz
    split at h
    · rename_i sz hs
      split at h
      · rename_i cs hf
        simp [pu] at h
        subst h
        obtain ⟨zv, hzr, hzc⟩ := zero_run (w := w) (X := X) (B := B) (E := E) hz
        obtain ⟨vs', hfill, hr⟩ := fill_ok ps us hp hzc hf
        refine ⟨rfl, .agg vs', ?_, vs', rfl, hr⟩
        simp [Instr.build, hzr, run_underlying hu, run_size hs, hfill]
      · cases h
    · cases h
  · cases h
theorem ownB_ok (hw : WR X w0 L w B E) {base : Nat} (hn : ∀ j, base ≤ j → j < base + 16 → E j = none) {t : TypeId} {v v' : V} {u : Value} (hv : RV X w B E v u) {up : List (Nat × Option Blk)} (h : ownB P base t v = (v', up)) :
    Done X w0 L w B E base up v' w u := by
  unfold ownB at h
  split at h
  · rename_i cs
    obtain ⟨ds, up1, hr⟩ : ∃ ds up1, ownNil P base (cellTs P 20 t) cs = (ds, up1) := ⟨_, _, rfl⟩
    rw [hr] at h
    simp only at h
    split at h
    · rename_i hle
      have hle' := Nat.le_of_ble_eq_true hle
      cases h
      obtain ⟨vs, rfl, hc⟩ := hv
      obtain ⟨E1, o1, w1, hds, hnew⟩ := ownNil_ok cs base _ hr hw (fun j h1 h2 => hn j h1 (by omega)) hc
      exact ⟨E1, o1, w1, ⟨vs, rfl, hds⟩, fun i h0 h1 => by have := hnew i h0 h1; omega⟩
    · cases h
      exact Done.same hw hv
  · cases h
    exact Done.same hw hv
theorem buildO_ok (hw : WR X w0 L w B E) {base : Nat} (hn : ∀ j, base ≤ j → j < base + 16 → E j = none) {t : TypeId} {ps : List (Nat × V)} {us : List (Nat × Value)} (hp : F2 (fun p q => p.1 = q.1 ∧ RV X w B E p.2 q.2) ps us) {e : Eff} (h : buildO P base t ps = some (true, e)) :
    ∃ r, (Instr.build t us.toArray).run P w = .ok r w ∧ Done X w0 L w B E base e.up e.v w r := by
  unfold buildO at h
  split at h
  · rename_i c e0 h0
    obtain ⟨v, up, hr⟩ : ∃ v up, ownB P base t e0.v = (v, up) := ⟨_, _, rfl⟩
    rw [hr] at h
    simp only [Option.some.injEq, Prod.mk.injEq] at h
    obtain ⟨rfl, rfl⟩ := h
    obtain ⟨_, r, h2, h3⟩ := buildC_ok hp h0
    exact ⟨r, h2, ownB_ok hw hn h3 hr⟩
  · cases h
end Go.Rx
set_option linter.unusedVariables false
set_option linter.unusedSimpArgs false
namespace Go.Rx
variable {P : Program} {X : Nat → Prop} {w0 : World} {L : Nat → Prop} {w w' : World} {B B' : Bs} {E E' : En}
theorem castL_ok {s s' : Sh} {l : List s.T} {l' : List s'.T} (h : castL s s' l = some l') : ∃ e : s = s', l' = e ▸ l := by
  unfold castL at h
  split at h
  · rename_i e; exact ⟨e, (Option.some.inj h).symm⟩
  · cases h

theorem frzUp_get (ids : List Nat) (B0 : Bs) : ∀ (B : Bs) (i : Nat), upds B (frzUp B0 ids) i = B i ∨ (i ∈ ids ∧ ∃ e s l, B0 i = some (.arr e s l) ∧ upds B (frzUp B0 ids) i = some (.frz e s l)) := by
  induction ids with
  | nil => intro B i; exact .inl rfl
  | cons a r ih =>
    intro B i
    simp only [frzUp]
    split
    · rename_i e s l ha
      simp only [upds]
      rcases ih (upd B a (some (.frz e s l))) i with h | ⟨h1, h2⟩
      · by_cases hi : i = a
        · subst hi; exact .inr ⟨List.mem_cons_self, e, s, l, ha, by rw [h, upd_same]⟩
        · exact .inl (by rw [h, upd_ne _ _ hi])
      · exact .inr ⟨List.mem_cons_of_mem _ h1, h2⟩
    · rcases ih B i with h | ⟨h1, h2⟩
      · exact .inl h
      · exact .inr ⟨List.mem_cons_of_mem _ h1, h2⟩

theorem frzUp_mem (ids : List Nat) (B0 : Bs) : ∀ (B : Bs) (i : Nat) (e : TypeId) (s : Sh) (l : List s.T), i ∈ ids → B0 i = some (.arr e s l) → upds B (frzUp B0 ids) i = some (.frz e s l) := by
  induction ids with
  | nil => intro B i _ _ _ h; cases h
  | cons a r ih =>
    intro B i e s l hm hb
    by_cases hr : i ∈ r
    · simp only [frzUp]
      split
      · exact ih _ i e s l hr hb
      · exact ih _ i e s l hr hb
    · have hia : i = a := by rcases List.mem_cons.1 hm with h | h; exact h; exact (hr h).elim
      subst hia
      simp only [frzUp, hb, upds]
      rcases frzUp_get r B0 (upd B i (some (.frz e s l))) i with h | ⟨h, _⟩
      · rw [h, upd_same]
      · exact (hr h).elim

def Frz (B B1 : Bs) (ids : List Nat) : Prop := ∀ i ∈ ids, ∀ e s l, (B i = some (.arr e s l) ∨ B i = some (.frz e s l)) → B1 i = some (.frz e s l)

theorem frzUp_Frz (B : Bs) (ids : List Nat) : Frz B (upds B (frzUp B ids)) ids := by
  intro i hi e s l h
  rcases h with h | h
  · exact frzUp_mem ids B B i e s l hi h
  · rcases frzUp_get ids B B i with h1 | ⟨_, e', s', l', h1, _⟩
    · rw [h1]; exact h
    · rw [h1] at h; cases h

theorem Chunks.part {α : Type} {R : α → List Value → Prop} {n : Nat} (hn : ∀ x vs, R x vs → vs.length = n) {l : List α} {xs : List Value} (hc : Chunks R l xs) {off len : Nat} (hl : off + len ≤ l.length) :
    Chunks R (l.take off) (xs.take (off * n)) ∧ Chunks R ((l.drop off).take len) ((xs.drop (off * n)).take (len * n)) ∧ Chunks R (l.drop (off + len)) (xs.drop (off * n + len * n)) := by
  have e : l = l.take off ++ ((l.drop off).take len ++ l.drop (off + len)) := by rw [← List.drop_drop, List.take_append_drop, List.take_append_drop]
  rw [e] at hc
  obtain ⟨us, r1, he1, h1, h2⟩ := Chunks.split _ _ _ hc
  obtain ⟨vs, r2, he2, h3, h4⟩ := Chunks.split _ _ _ h2
  have hul : us.length = off * n := by rw [Chunks.len hn _ _ h1, List.length_take, Nat.min_eq_left (by omega)]
  have hvl : vs.length = len * n := by rw [Chunks.len hn _ _ h3, List.length_take, List.length_drop, Nat.min_eq_left (by omega)]
  subst he2
  subst he1
  refine ⟨?_, ?_, ?_⟩
  · rw [← hul, List.take_left]; exact h1
  · rw [← hul, List.drop_left, ← hvl, List.take_left]; exact h3
  · rw [← List.append_assoc, ← hul, ← hvl, ← List.length_append, List.drop_left]; exact h4
theorem RSl.part {α : Type} {M : Nat → Prop} {R : α → List Value → Prop} {n : Nat} (hn : ∀ x vs, R x vs → vs.length = n) {l : List α} {b o m c : Nat} (h : RSl w M R l (.slice (some ⟨b, o, none⟩) m c)) {off len : Nat} (hl : off + len ≤ l.length) {c' : Nat} (hc' : len ≤ c') :
    RSl w M R ((l.drop off).take len) (.slice (some ⟨b, o + off * n, none⟩) len c') := by
  obtain ⟨a, c0, xs, hv, _, hc, hx⟩ := h
  cases hv
  have hlen : ((l.drop off).take len).length = len := by simp; omega
  obtain ⟨_, h2, _⟩ := Chunks.part hn hc hl
  refine ⟨_, c', _, by rw [hlen], by rw [hlen]; exact hc', h2, ?_⟩
  rcases hx with rfl | ⟨g, o', ha, hm, hcell⟩
  · exact .inl (by simp)
  · cases ha
    refine .inr ⟨b, o + off * n, rfl, hm, fun j u hu => ?_⟩
    rw [List.getElem?_take] at hu
    split at hu
    · rw [List.getElem?_drop] at hu
      rw [Nat.add_assoc]; exact hcell _ _ hu
    · cases hu

theorem RSl.nilv {α : Type} {M : Nat → Prop} {R : α → List Value → Prop} (a : Option Addr) (c : Nat) : RSl w M R ([] : List α) (.slice a 0 c) := ⟨a, c, [], rfl, Nat.zero_le _, rfl, .inl rfl⟩

theorem rdl_frz (hw : WR X w0 L w B' E) {s : Sh} {c : C} {l : List s.T} (h : rdl B s c = some l) {v : Value} (hc : RC X w B' E c v) (hf : Frz B B' c.rowIds) : RSl w (MX X B' E) (RT w (MX X B' E) s) l v := by
  have frow : ∀ {i : Nat} {e : TypeId} {s' : Sh} {l' : List s'.T} {v : Value}, (B i = some (.arr e s' l') ∨ B i = some (.frz e s' l')) → Frz B B' [i] → RC X w B' E (.row i) v →
      ∃ v0, E i = some v0 ∧ v = v0 ∧ RSl w (MX X B' E) (RT w (MX X B' E) s') l' v ∧ (v = .slice none 0 0 ∨ ∃ b m c, v = .slice (some ⟨b, 0, none⟩) m c) := by
    intro i e s' l' v hb hf hc
    have h1 := hf i (by simp) e s' l' hb
    obtain ⟨v0, h0, _, hk⟩ := hc
    obtain ⟨v1, h2, hr, hv⟩ := hw.blk i _ h1
    rw [h0] at h2; cases h2
    have := hk _ h1
    subst this
    exact ⟨v, h0, rfl, hr, hv⟩
  have srow : ∀ {i off len : Nat} {e : TypeId} {s' : Sh} {l' : List s'.T} {v : Value}, (B i = some (.arr e s' l') ∨ B i = some (.frz e s' l')) → Frz B B' [i] → RC X w B' E (.sub i off len) v →
      RSl w (MX X B' E) (RT w (MX X B' E) s') ((l'.drop off).take len) v := by
    intro i off len e s' l' v hb hf hc
    have h1 := hf i (by simp) e s' l' hb
    obtain ⟨v0, h0, _, hk⟩ := hc
    obtain ⟨v1, h2, hr, hv⟩ := hw.blk i _ h1
    rw [h0] at h2; cases h2
    obtain ⟨hle, hs⟩ := hk _ s' l'.length h1 rfl
    rcases hs with ⟨rfl, a, c, rfl⟩ | ⟨b, m, c, c', rfl, rfl, hlc⟩
    · simp; exact RSl.nilv _ _
    · have := hr.part (RT.len s') hle hlc; rwa [Nat.zero_add] at this
  unfold rdl at h
  split at h
  · obtain ⟨e, rfl⟩ := castL_ok h; subst e; exact hc
  · split at h
    · rename_i hb; obtain ⟨e, rfl⟩ := castL_ok h; subst e; obtain ⟨_, _, _, hr, _⟩ := frow (.inl hb) hf hc; exact hr
    · rename_i hb; obtain ⟨e, rfl⟩ := castL_ok h; subst e; obtain ⟨_, _, _, hr, _⟩ := frow (.inr hb) hf hc; exact hr
    · cases h
  · split at h
    · rename_i hb; obtain ⟨e, rfl⟩ := castL_ok h; subst e; exact srow (.inl hb) hf hc
    · rename_i hb; obtain ⟨e, rfl⟩ := castL_ok h; subst e; exact srow (.inr hb) hf hc
    · cases h
  · cases h; have hv : v = .slice none 0 0 := hc; subst hv; exact RSl.nilv _ _
  · cases h

theorem toT_frz (hw : WR X w0 L w B' E) : ∀ (s : Sh) (cs : List C) {x : s.T} {r : List C} {vs : List Value}, toT B s cs = some (x, r) → F2 (RC X w B' E) cs vs → Frz B B' (rowIdsL cs) →
    ∃ us rs, vs = us ++ rs ∧ RT w (MX X B' E) s x us ∧ F2 (RC X w B' E) r rs ∧ ∀ i ∈ rowIdsL r, i ∈ rowIdsL cs
  | .int k, c :: cs, x, r, v :: vs, h, ⟨h1, h2⟩, hf => by
    simp only [toT] at h
    split at h
    · split at h
      · rename_i hk; cases h; subst hk; exact ⟨[v], vs, rfl, congrArg (· :: []) h1, h2, fun i hi => by simp [rowIdsL, C.rowIds] at *; exact hi⟩
      · cases h
    · cases h
  | .bool, c :: cs, x, r, v :: vs, h, ⟨h1, h2⟩, hf => by
    simp only [toT] at h
    split at h
    · cases h; exact ⟨[v], vs, rfl, congrArg (· :: []) h1, h2, fun i hi => by simp [rowIdsL, C.rowIds] at *; exact hi⟩
    · cases h
  | .str, c :: cs, x, r, v :: vs, h, ⟨h1, h2⟩, hf => by
    simp only [toT] at h
    split at h
    · cases h; exact ⟨[v], vs, rfl, congrArg (· :: []) h1, h2, fun i hi => by simp [rowIdsL, C.rowIds] at *; exact hi⟩
    · cases h
  | .sl s, c :: cs, x, r, v :: vs, h, ⟨h1, h2⟩, hf => by
    simp only [toT] at h
    split at h
    · rename_i l hl
      cases h
      refine ⟨[v], vs, rfl, ⟨v, rfl, rdl_frz hw hl h1 (fun i hi => hf i (by simp [rowIdsL]; exact .inl hi))⟩, h2, fun i hi => by simp [rowIdsL] at *; exact .inr hi⟩
    · cases h
  | .pair a b, cs, x, r, vs, h, hc, hf => by
    simp only [toT] at h
    split at h
    · rename_i x1 r1 h1
      split at h
      · rename_i y r2 h2
        cases h
        obtain ⟨us, rs, he, hx, hr, hi⟩ := toT_frz hw a cs h1 hc hf
        obtain ⟨us2, rs2, he2, hx2, hr2, hi2⟩ := toT_frz hw b r1 h2 hr (fun i hh => hf i (hi i hh))
        exact ⟨us ++ us2, rs2, by rw [he, he2]; simp, ⟨us, us2, rfl, hx, hx2⟩, hr2, fun i hh => hi i (hi2 i hh)⟩
      · cases h
    · cases h
  | .int _, [], _, _, _, h, _, _ => by simp [toT] at h
  | .bool, [], _, _, _, h, _, _ => by simp [toT] at h
  | .str, [], _, _, _, h, _, _ => by simp [toT] at h
  | .sl _, [], _, _, _, h, _, _ => by simp [toT] at h
  | .int _, _ :: _, _, _, [], _, h, _ => h.elim
  | .bool, _ :: _, _, _, [], _, h, _ => h.elim
  | .str, _ :: _, _, _, [], _, h, _ => h.elim
  | .sl _, _ :: _, _, _, [], _, h, _ => h.elim

theorem toTs_frz (hw : WR X w0 L w B' E) (s : Sh) : ∀ (n : Nat) (cs : List C) {l : List s.T} {vs : List Value}, toTs B s n cs = some l → F2 (RC X w B' E) cs vs → Frz B B' (rowIdsL cs) → Chunks (RT w (MX X B' E) s) l vs ∧ l.length = n
  | 0, [], l, [], h, _, _ => by simp [toTs] at h; subst h; exact ⟨rfl, rfl⟩
  | 0, _ :: _, _, _, h, _, _ => by simp [toTs] at h
  | 0, [], _, _ :: _, _, h, _ => h.elim
  | n + 1, cs, l, vs, h, hc, hf => by
    simp only [toTs] at h
    split at h
    · rename_i x r h1
      split at h
      · rename_i l' h2
        cases h
        obtain ⟨us, rs, he, hx, hr, hi⟩ := toT_frz hw s cs h1 hc hf
        obtain ⟨h3, h4⟩ := toTs_frz hw s n r h2 hr (fun i hh => hf i (hi i hh))
        exact ⟨⟨us, rs, he, hx, h3⟩, by simp [h4]⟩
      · cases h
    · cases h

theorem idx_none : ∀ {l : List Nat} {i : Nat}, idx l i = none → i ∉ l
  | [], _, _, h => by cases h
  | a :: l, i, h, hm => by
    simp only [idx] at h
    split at h
    · cases h
    · rename_i hb
      rcases List.mem_cons.1 hm with rfl | hm
      · simp at hb
      · exact idx_none (by simpa using h) hm

theorem rowIds_cells : ∀ (s : Sh) (x : s.T), rowIdsL (s.cells x) = []
  | .int _, _ => rfl
  | .bool, _ => rfl
  | .str, _ => rfl
  | .sl _, _ => rfl
  | .pair a b, x => by
    have h1 := rowIds_cells a x.1
    have h2 := rowIds_cells b x.2
    simp only [rowIdsL, Sh.cells, List.flatMap_append] at *
    rw [h1, h2]; rfl
theorem rowIds_splice {cs ds : List C} {off i : Nat} (h : i ∈ rowIdsL (splice cs off ds)) : i ∈ rowIdsL cs ∨ i ∈ rowIdsL ds := by
  simp only [rowIdsL, splice, List.flatMap_append, List.mem_append, List.mem_flatMap] at *
  rcases h with (⟨c, hc, hi⟩ | h) | ⟨c, hc, hi⟩
  · exact .inl ⟨c, List.mem_of_mem_take hc, hi⟩
  · exact .inr h
  · exact .inl ⟨c, List.mem_of_mem_drop hc, hi⟩
theorem splice_at (xs : List Value) (a n j : Nat) (ys : List Value) (h : j + ys.length ≤ n) (hl : a + n ≤ xs.length) :
    xs.take a ++ (((xs.drop a).take n).take j ++ ys ++ ((xs.drop a).take n).drop (j + ys.length)) ++ xs.drop (a + n) = xs.take (a + j) ++ ys ++ xs.drop (a + j + ys.length) := by
  have h1 : xs.take a ++ ((xs.drop a).take n).take j = xs.take (a + j) := by
    rw [List.take_take, Nat.min_eq_left (by omega), List.take_add]
  have h2 : ((xs.drop a).take n).drop (j + ys.length) ++ xs.drop (a + n) = xs.drop (a + j + ys.length) := by
    have : xs.drop (a + j + ys.length) = ((xs.drop a).take n ++ (xs.drop a).drop n).drop (j + ys.length) := by
      rw [List.take_append_drop, List.drop_drop]; congr 1; omega
    rw [this, List.drop_append, List.drop_drop, List.length_take, Nat.min_eq_left (by simp; omega), show j + ys.length - n = 0 by omega]; simp
  rw [← h1, ← h2]; simp [List.append_assoc]
theorem splice_take (cur : List Value) (a n : Nat) (ys : List Value) (h : a + ys.length ≤ n) :
    (cur.take a ++ ys ++ cur.drop (a + ys.length)).take n = (cur.take n).take a ++ ys ++ (cur.take n).drop (a + ys.length) := by
  by_cases hc : a ≤ cur.length
  · rw [List.take_append, List.take_append, List.take_take, List.take_take, Nat.min_eq_right (by omega), Nat.min_eq_left (by omega)]
    have e1 : (cur.take a).length = a := by simp; omega
    rw [List.take_of_length_le (l := ys) (by rw [e1]; omega)]
    congr 1
    rw [List.length_append, e1, List.drop_take]
  · rw [List.drop_eq_nil_of_le (by omega), List.take_of_length_le (by simp; omega), List.take_of_length_le (i := n) (by omega), List.drop_eq_nil_of_le (by omega)]

theorem setRow_cell {w : World} {g : Nat} {cs cs0 : Array Value} {t : TypeId} {f : Nat × Nat} (hg : w.heap[g]? = some (.cells cs0 t f)) : (w.setRow g cs).heap[g]? = some (.cells cs t f) := setRow_heap w g cs0 cs t f hg

theorem F2.splice {R : C → Value → Prop} {cs : List C} {vs : List Value} (h : F2 R cs vs) {ds : List C} {us : List Value} (h2 : F2 R ds us) (off : Nat) : F2 R (splice cs off ds) (vs.take off ++ us ++ vs.drop (off + us.length)) := by
  unfold Rx.splice
  rw [h2.len]
  exact ((h.take off).append h2).append (h.drop _)

theorem storeC_ok (hw : WR X w0 L w B E) {base : Nat} {t : TypeId} {x : C} {v : V} {u y : Value} (hx : RC X w B E x u) (hv : RV X w B E v y) {e : Eff} (h : storeC P B t v x = some (true, e)) :
    ∃ w', (Instr.storeAt t u y).run P w = .ok () w' ∧ Done X w0 L w B E base e.up e.v w' undef := by
  have run : ∀ {g off : Nat} {cur : Array Value} {ty : TypeId}, u = .pointer (some ⟨g, off, none⟩) → w.heap[g]? = some (.cells cur ty (0, 0)) → size P t = some v.cells.length → noUndef v.cells = true → off + v.cells.length ≤ cur.size →
      (Instr.storeAt t u y).run P w = .ok () (w.setRow g (cur.toList.take off ++ y.cells.toList ++ cur.toList.drop (off + y.cells.toList.length)).toArray) := by
    intro g off cur ty hu hg hs hn hle
    subst hu
    have hcs := cells_ok hv hn
    have hl := hcs.len
    have hl' : y.cells.size = v.cells.length := by rw [hl]; simp
    have := run_storeCells_at P g off ty y.cells.toList 0 cur w hg (by simp at hl ⊢; omega) (noUndef_cells hcs hn)
    simp only [Nat.add_zero] at this
    simp [Instr.storeAt, Instr.sureAddr, storeVar, run_size hs, hl', this]
  unfold storeC at h
  split at h
  · rename_i id off
    split at h
    · rename_i cs hb
      split at h
      · cases h
      · rename_i n hs
        split at h
        · rename_i h1 h2
          split at h
          · rename_i hn
            cases h
            have h1' := beq_of h1
            have h2' := Nat.le_of_ble_eq_true h2
            obtain ⟨v0, h0, _, hk⟩ := hx
            obtain ⟨b, rfl, rfl⟩ := hk cs hb
            obtain ⟨b', vs, ty, he, hh, hc⟩ := hw.blk id _ hb
            rw [h0] at he; cases he
            have hlen := hc.len
            refine ⟨_, run rfl hh (by rw [h1']; exact hs) hn (by simp at hlen; omega), ?_⟩
            have hcs := cells_ok hv hn
            obtain ⟨o1, w1⟩ := put1 (w' := w.setRow b (vs.toList.take off ++ y.cells.toList ++ vs.toList.drop (off + y.cells.toList.length)).toArray) (k' := .box (splice cs off v.cells)) hw ⟨rfl, rfl, rfl⟩ hb rfl h0 rfl rfl rfl (by simp) (fun b' hb' => setRow_other w b b' _ hb') (fun hon => ⟨b, _, ty, h0, setRow_cell hh, by
              have := all_on hon (hc.splice hcs off)
              simpa using this⟩)
            exact ⟨E, o1, w1, trivial, fun _ h1 h2 => (h2 h1).elim⟩
          · cases h
        · cases h
    · cases h
  · rename_i id i j
    split at h
    · rename_i ty s l hb
      split at h
      · cases h
      · rename_i n hs
        split at h
        · rename_i h1 h2
          split at h
          · rename_i x hx1 hx2 hx3
            simp only [Option.some.injEq, Prod.mk.injEq, decide_eq_true_eq] at h
            obtain ⟨hi, rfl⟩ := h
            have h1' := beq_of h1
            have h2' := Nat.le_of_ble_eq_true h2
            obtain ⟨o1, w1⟩ := frzUp_ok hw (rowIdsL v.cells)
            have hb1 : upds B (frzUp B (rowIdsL v.cells)) id = some (.arr ty s l) := by
              rcases frzUp_get (rowIdsL v.cells) B B id with hh | ⟨hm, _⟩
              · rw [hh]; exact hb
              · exact (idx_none hx2 hm).elim
            have hF := frzUp_Frz B (rowIdsL v.cells)
            generalize hB1 : upds B (frzUp B (rowIdsL v.cells)) = B1 at *
            obtain ⟨v0, h0, _, hk⟩ := hx
            obtain ⟨b, m, c, rfl, rfl⟩ := hk _ s l.length hb rfl
            obtain ⟨v1, xs, he, ho, hc⟩ := w1.blk id _ hb1
            rw [h0] at he; cases he
            obtain ⟨hxl, ho2⟩ := ho
            rcases ho2 with ⟨hn0, _⟩ | ⟨g, cap, cur, hv1, hbg, hg, hnc, hcm, hcs, htake⟩
            · cases hn0
            · cases hv1
              have hcells := cells_ok hv hx3
              have hlen := hcells.len
              have hel := (row_elem (X := X) (B := B1) (E := E) hc hi).splice (all_on o1 hcells) j
              obtain ⟨us, rs, heq, hRT, hrs, _⟩ := toT_frz w1 s _ hx1 hel (fun i hi' => by
                rcases rowIds_splice hi' with hh | hh
                · rw [rowIds_cells] at hh; cases hh
                · exact hF i hh)
              have hrs0 : rs = [] := by cases rs with | nil => rfl | cons _ _ => exact hrs.elim
              subst hrs0
              rw [List.append_nil] at heq
              have hle : i * s.sz + s.sz ≤ l.length * s.sz := by rw [← Nat.succ_mul]; exact Nat.mul_le_mul_right _ hi
              have hcap : l.length * s.sz ≤ c * s.sz := Nat.mul_le_mul_right _ hnc
              have hset := Chunks.set (RT.len s) l xs hc i hi x us hRT
              have hnew : xs.take (i * s.sz) ++ us ++ xs.drop (i * s.sz + s.sz) = xs.take (i * s.sz + j) ++ y.cells.toList ++ xs.drop (i * s.sz + j + y.cells.toList.length) := by
                rw [← heq]; exact splice_at xs (i * s.sz) s.sz j y.cells.toList (by omega) (by omega)
              have hfin : (cur.toList.take (i * s.sz + j) ++ y.cells.toList ++ cur.toList.drop (i * s.sz + j + y.cells.toList.length)).take (l.length * s.sz) = xs.take (i * s.sz + j) ++ y.cells.toList ++ xs.drop (i * s.sz + j + y.cells.toList.length) := by
                rw [← htake]; exact splice_take cur.toList (i * s.sz + j) (l.length * s.sz) y.cells.toList (by omega)
              refine ⟨_, run rfl hg (by rw [h1']; exact hs) hx3 (by omega), ?_⟩
              obtain ⟨o2, w2⟩ := put1 (w' := w.setRow b (cur.toList.take (i * s.sz + j) ++ y.cells.toList ++ cur.toList.drop (i * s.sz + j + y.cells.toList.length)).toArray) (k' := .arr ty s (l.set i x)) w1 ⟨rfl, rfl, rfl⟩ hb1 rfl h0 rfl (by simp [sameKind, Blk.shp]) rfl (by simp) (fun b' hb' => setRow_other w b b' _ hb') (fun hon => by
                refine ⟨_, xs.take (i * s.sz + j) ++ y.cells.toList ++ xs.drop (i * s.sz + j + y.cells.toList.length), h0, ⟨?_, .inr ⟨b, c, _, by simp, hbg, setRow_cell hg, by simpa using hnc, hcm, ?_, ?_⟩⟩, ?_⟩
                · have := congrArg List.length hnew
                  rw [Chunks.len (RT.len s) _ _ hset] at this
                  exact this.symm
                · simp only [List.size_toArray, List.length_append, List.length_take, List.length_drop, Array.length_toList] at *; omega
                · simp only [List.length_set]; exact hfin
                · rw [← hnew]; exact hset.mono (RT.mono hon.stay s))
              refine ⟨E, ?_, ?_, trivial, fun _ h1 h2 => (h2 h1).elim⟩
              · show On X w B E _ (upds B (frzUp B (rowIdsL v.cells) ++ _)) _
                rw [upds_append, hB1]; exact o1.trans o2
              · show WR X w0 L _ (upds B (frzUp B (rowIdsL v.cells) ++ _)) _
                rw [upds_append, hB1]; exact w2
          · cases h
        · cases h
    · cases h
  · cases h
end Go.Rx
