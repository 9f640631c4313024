/- The abstract machine, and what it means that a state of it is a state of the model. -/
import GoSem.Step
import Derived.AtR
import Derived.Laws.Cells
set_option linter.unusedSectionVars false
set_option linter.unusedVariables false
set_option linter.unusedSimpArgs false

/- An abstract machine over the model's own code: values without addresses where memory is never written again, blocks by numbers of the machine's own where it is. Definitions alone. -/
namespace Am
open Go

/-- Values: 'iptr', 'islice': memory that nobody writes any more, by its content ('cl': no block's number is in it). 'nilslice': a slice of capacity 0. 'stamp': an entry of a map. 'junk': some pointer; 'any': whatever value of one cell. -/
inductive AV where
  | bool (b : Bool)
  | int (k : IntKind) (n : Int)
  | str (s : List UInt8)
  | nilptr
  | ptr (b off : Nat)
  | iptr (cs : List AV)
  | nilslice
  | slice (b off len sz : Nat) (cap : Option Nat)
  | islice (cs : List AV) (len sz : Nat) (cl : Bool)
  | nilmap
  | map (b : Nat)
  | stamp (b n : Nat)
  | junk
  | any
  | func (fn : Fn) (first captured : List AV)
  | nilfunc
  | iface (t : TypeId) (v : AV)
  | niliface
  | agg (cs : List AV)
  | tuple (vs : List AV)
  deriving Inhabited

/-- A way in a binary tree. -/
inductive Path where
  | here
  | lft (p : Path)
  | rgt (p : Path)

def pathF : Nat → Nat → Path
  | 0, _ => .here
  | n + 1, k => bif Nat.beq k 0 then .here else bif Nat.beq (k % 2) 1 then .lft (pathF n (k / 2)) else .rgt (pathF n (k / 2 - 1))

def pathOf (k : Nat) : Path := pathF k k

inductive Tr (α : Type) where
  | nil
  | node (l : Tr α) (v : Option α) (r : Tr α)
  deriving Inhabited

/-REC-/
noncomputable section core

/-- (By recursors: the kernel takes fewer steps so.) -/
def Tr.getP {α : Type} (p : Path) : Tr α → Option α :=
  Path.rec (fun t => Tr.rec none (fun _ v _ _ _ => v) t) (fun _ ih t => Tr.rec none (fun l _ _ _ _ => ih l) t) (fun _ ih t => Tr.rec none (fun _ _ r _ _ => ih r) t) p

def Tr.setP {α : Type} (x : Option α) (p : Path) : Tr α → Tr α :=
  Path.rec (fun t => Tr.rec (.node .nil x .nil) (fun l _ r _ _ => .node l x r) t)
    (fun _ ih t => Tr.rec (.node (ih .nil) none .nil) (fun l v r _ _ => .node (ih l) v r) t)
    (fun _ ih t => Tr.rec (.node .nil none (ih .nil)) (fun l v r _ _ => .node l v (ih r)) t) p

def consO {α : Type} (a : α) (l : Option (List α)) : Option (List α) := Option.rec none (fun r => some (a :: r)) l

def takeN {α : Type} (n : Nat) : List α → Option (List α) :=
  Nat.rec (fun _ => some []) (fun _ ih l => List.rec none (fun a l _ => consO a (ih l)) l) n

def dropN {α : Type} (n : Nat) : List α → Option (List α) :=
  Nat.rec (fun l => some l) (fun _ ih l => List.rec none (fun _ l _ => ih l) l) n

/-- A list with others written over its beginning. -/
def overHead {α : Type} (vs : List α) : List α → Option (List α) :=
  List.rec (fun l => some l) (fun v _ ih l => List.rec none (fun _ l _ => consO v (ih l)) l) vs

/-- A list with others written over it from a place on. -/
def over {α : Type} (vs : List α) (k : Nat) : List α → Option (List α) :=
  Nat.rec (fun l => overHead vs l) (fun _ ih l => List.rec none (fun a l _ => consO a (ih l)) l) k

def nth {α : Type} (l : List α) : Nat → Option α :=
  List.rec (fun _ => none) (fun a _ ih n => Nat.rec (some a) (fun n _ => ih n) n) l

def len' {α : Type} (l : List α) : Nat := List.rec 0 (fun _ _ ih => ih + 1) l

def consOO {α : Type} : Option α → Option (List α) → Option (List α)
  | some b, some bs => some (b :: bs)
  | _, _ => none

def mapO {α β : Type} (f : α → Option β) (l : List α) : Option (List β) :=
  List.rec (some []) (fun a _ ih => consOO (f a) ih) l

end core
/-END-/
noncomputable section

/-- The elements at even places, and those at odd ones. -/
def evens {α : Type} : List α → List α
  | [] => []
  | a :: l => match l with
    | [] => [a]
    | _ :: l => a :: evens l

/-- A list as a tree. -/
def trOf {α : Type} : Nat → List α → Tr α
  | 0, _ => .nil
  | n + 1, l => match l with
    | [] => .nil
    | a :: l => .node (trOf n (evens l)) (some a) (trOf n (evens l.tail))

def Tr.get {α : Type} (t : Tr α) (k : Nat) : Option α := Tr.getP (pathOf k) t
def Tr.set {α : Type} (t : Tr α) (k : Nat) (x : Option α) : Tr α := Tr.setP x (pathOf k) t

structure ALoop where
  state : LoopState
  pending : Option Code
  fn : FuncId
  nt : Nat
  tmps : Tr AV
  params : List Nat
  assign : Code
  body : Code

inductive AObj where
  | cells (cs : List AV) (e : TypeId) (part : Bool)
  | map (es : List (AV × AV × Nat)) (clock : Nat)
  | siter (s : List UInt8) (pos : Nat)
  | miter (m : Option Nat) (since : Nat) (seen : List Nat) (stepped : Nat)
  | loop (l : ALoop)
  | defs (open_ : Bool)

/-- The heap; 'log': the blocks below 'bound' that have been written, freed or taken over. -/
structure St where
  next : Nat
  bound : Nat
  log : List Nat
  heap : Tr AObj

inductive ATarget where
  | fn (fn : Fn) (captured : List AV)
  | collected (r : Nat)

structure ADef where
  target : ATarget
  args : List AV

/-- A frame, but for its slots: how many they are; 'pan': what recover would hand back here. -/
structure Fr where
  nt : Nat
  defers : List ADef
  pan : Option AV
  round : Option Nat

inductive Ex where
  | normal
  | exit (id : Nat)
  | ret
  | panic (v : AV)

structure Res where
  ex : Ex
  fr : Fr
  T : Tr AV
  st : St

/-- What a piece of code may come to: 'many': one of these (a map is ranged over in any order). -/
inductive Out where
  | stuck
  | one (r : Res)
  | many (l : List Res)

def Out.joinAll (k : Res → Out) : List Res → Option (List Res)
  | [] => some []
  | r :: l => match k r with
    | .stuck => none
    | .one x => match Out.joinAll k l with | some y => some (x :: y) | none => none
    | .many xs => match Out.joinAll k l with | some y => some (xs ++ y) | none => none

def Out.ofList : Option (List Res) → Out
  | some y => .many y
  | none => .stuck

def Out.then (o : Out) (k : Res → Out) : Out :=
  match o with
  | .stuck => .stuck
  | .one r => k r
  | .many l => Out.ofList (Out.joinAll k l)

/-- What a call comes to: a value, the heap as it was; a value; a panic. -/
inductive CR where
  | same (v : AV)
  | val (v : AV) (st : St)
  | pan (v : AV) (st : St)

/-- What is known ahead: which functions freeze what they return; calls that are known; package-level variables. -/
structure Env where
  tys : Tr TypeInfo
  fns : Tr Func
  frz : FuncId → Nat
  memo : FuncId → List AV → Option AV
  glob : Nat → Option (List AV)
  merge : Bool
  ext : Bool
  /-- The types of structs that are no stood-in package's. -/
  plain : TypeId → Bool
  /-- Functions that are not carried out: what they hand back, and the heap then. They are none of 'fns'. -/
  prim : FuncId → Option (List AV → St → Option (AV × St))

/-- What is made: a value, or a block and the value that bears its number. -/
inductive Mk where
  | val (v : AV)
  | obj (o : AObj) (v : Nat → AV)

/-- An operation, made ready. -/
inductive SOp where
  | bad
  | make (f : Tr AV → Option Mk)
  | pure (f : Tr AV → Option AV)
  | read (x : Tr AV → Option AV) (f : Tr AV → St → Option AV)
  | look (f : Tr AV → St → Option AV)
  | act (only : Bool) (x : Tr AV → Option AV) (f : Tr AV → St → Option (AV × St))
  | pick (f : Tr AV → Option (List AV))
  | picks (f : Tr AV → St → Option (List (AV × St)))
  | call (f : Tr AV → St → Option (FuncId × List AV))
  | callV (f : Tr AV → Option AV) (args : Tr AV → Option (List AV))
  | defer (f : Tr AV → Option ADef)
  | panic (f : Tr AV → Option AV)
  | recover

section ops
variable (E : Env)

/-- Neither a struct or an array, nor several values. -/
def AV.isCell : AV → Bool
  | .agg _ => false
  | .tuple _ => false
  | _ => true

def AV.isTuple : AV → Bool
  | .tuple _ => true
  | _ => false

def AV.cells : AV → List AV
  | .agg cs => cs
  | v => [v]

def ofVal1 : Value → Option AV
  | .bool b => some (.bool b)
  | .int k n => some (.int k n)
  | .string s => some (.str s.data.toList)
  | .pointer none => some .nilptr
  | .slice none 0 0 => some .nilslice
  | .map none => some .nilmap
  | .nilFunc => some .nilfunc
  | .nilIface => some .niliface
  | _ => none

def ofVal : Value → Option AV
  | .agg cs => match mapO ofVal1 cs.toList with | some l => some (.agg l) | none => none
  | .tuple cs => match mapO ofVal1 cs.toList with | some l => some (.tuple l) | none => none
  | v => ofVal1 v

def namedDesc (T : Tr TypeInfo) : TypeDesc → Option TypeDesc
  | .named _ u => match T.get u with | some i => some i.desc | none => none
  | d => some d

/-- A type's description, behind its name. -/
def und (t : TypeId) : Option TypeDesc := match E.tys.get t with
  | some i => namedDesc E.tys i.desc
  | none => none

def sizeOf (t : TypeId) : Option Nat := match E.tys.get t with | some i => some i.size | none => none
def bytesOf (t : TypeId) : Option Nat := match E.tys.get t with | some i => some i.bytes | none => none
def isAgg (t : TypeId) : Option Bool := match und E t with
  | some (.struct _) => some true
  | some (.array _ _) => some true
  | some _ => some false
  | none => none
def noTuple : Option AV → Option AV
  | some (.tuple _) => none
  | o => o

def zeroOf (t : TypeId) : Option AV := match E.tys.get t with
  | some i => match i.zero with | some v => noTuple (ofVal v) | none => none
  | none => none

abbrev Tm := Tr AV
abbrev TO := Tm → Option AV

def just (v : AV) : TO := fun _ => some v
def nothing : TO := fun _ => none
def justO : Option AV → TO
  | some v => just v
  | none => nothing

def opnd : Operand → TO
  | .tmp t => Tr.getP (pathOf t)
  | .const v => justO (ofVal v)
  | .global g => match E.glob g with | some cs => just (.iptr cs) | none => nothing
  | .func f => just (.func (.func f) [] [])

def St.alloc (s : St) (o : AObj) : St := { s with next := s.next + 1, heap := s.heap.set s.next (some o) }
/-- A number is put into a list, unless it was put there last. -/
def logged (b : Nat) : List Nat → List Nat
  | [] => [b]
  | c :: l => bif Nat.beq b c then c :: l else b :: c :: l

def St.put (s : St) (b : Nat) (o : Option AObj) : St := { s with log := bif Nat.blt b s.bound then logged b s.log else s.log, heap := s.heap.set b o }

def cellsOf? : Option AObj → Option (List AV)
  | some (.cells cs _ _) => some cs
  | _ => none

def mapOf? : Option AObj → Option (List (AV × AV × Nat))
  | some (.map es _) => some es
  | _ => none

/-- n cells of an address. -/
def readAt (s : St) (n : Nat) : AV → Option (List AV)
  | .iptr cs => takeN n cs
  | .ptr b off => (cellsOf? (s.heap.get b)).bind fun cs => (dropN off cs).bind fun l => takeN n l
  | _ => none

def putCells (s : St) (b : Nat) (e : TypeId) (sl : Bool) : Option (List AV) → Option St
  | some cs => some (s.put b (some (.cells cs e sl)))
  | none => none

def writeIn (s : St) (b off : Nat) (vs : List AV) : Option AObj → Option St
  | some (.cells cs e sl) => putCells s b e sl (over vs off cs)
  | _ => none

def writeAt (s : St) (b off : Nat) (vs : List AV) : Option St := writeIn s b off vs (s.heap.get b)

def oneV : List AV → Option AV
  | [v] => some v
  | _ => none

def loadAgg (n : Nat) (s : St) (a : AV) : Option AV := (readAt s n a).bind fun l => some (.agg l)
def loadOne (s : St) (a : AV) : Option AV := (readAt s 1 a).bind oneV

/-- The reading of a variable of a type. -/
def loadC (t : TypeId) : St → AV → Option AV :=
  match isAgg E t, sizeOf E t with
  | some true, some n => loadAgg n
  | some false, some _ => loadOne
  | _, _ => fun _ _ => none

def storeN (n : Nat) (s : St) (v : AV) : AV → Option St
  | .ptr b off => bif Nat.beq (len' v.cells) n && !v.isTuple then writeAt s b off v.cells else none
  | _ => none

def withU : Option St → Option (AV × St)
  | some s => some (.tuple [], s)
  | none => none

def fillA (place : Nat → Option (Nat × Nat)) : List (Nat × AV) → List AV → Option (List AV)
  | [], cells => some cells
  | p :: rest, cells => (place p.1).bind fun q => bif Nat.beq (len' p.2.cells) q.2 && !p.2.isTuple then (over p.2.cells q.1 cells).bind fun cs => fillA place rest cs else none

def repeatA (zero : List AV) : Nat → List AV
  | 0 => []
  | n + 1 => zero ++ repeatA zero n

def partsC : List (Nat × Operand) → Tm → Option (List (Nat × AV))
  | [] => fun _ => some []
  | p :: l => fun T => (opnd E p.2 T).bind fun v => (partsC l T).bind fun r => some ((p.1, v) :: r)

def opndsC : List Operand → Tm → Option (List AV)
  | [] => fun _ => some []
  | x :: l => fun T => (opnd E x T).bind fun v => (opndsC l T).bind fun r => some (v :: r)

def opndOC : Option Operand → Tm → Option (Option AV)
  | none => fun _ => some none
  | some x => fun T => (opnd E x T).bind fun v => some (some v)

def fieldPlaces : List Field → Option (List (Nat × Nat))
  | [] => some []
  | f :: l => (sizeOf E f.type).bind fun n => (fieldPlaces l).bind fun r => some ((f.offset, n) :: r)

/-- How a struct or an array is built: the zero value's cells, and where each part lies. -/
def buildPlan (t : TypeId) : Option (List AV × (Nat → Option (Nat × Nat))) :=
  (zeroOf E t).bind fun z => match und E t with
    | some (.struct fields) => (fieldPlaces E fields.toList).bind fun ps => some (z.cells, nth ps)
    | some (.array _ elem) => (sizeOf E elem).bind fun size => some (z.cells, fun i => some (i * size, size))
    | _ => none

def aggO : Option (List AV) → Option AV
  | some cs => some (.agg cs)
  | none => none

def buildC (t : TypeId) (parts : List (Nat × Operand)) : SOp :=
  match buildPlan E t with
  | some pl => .pure fun T => (partsC E parts T).bind fun ps => aggO (fillA pl.2 ps pl.1)
  | none => .bad

def fieldAggV (off n : Nat) : AV → Option AV
  | .agg cs => (dropN off cs).bind fun l => aggO (takeN n l)
  | _ => none

def fieldOneV (off : Nat) : AV → Option AV
  | .agg cs => nth cs off
  | _ => none

/-- The field of a struct type: its offset, its size, whether it is a struct or an array. -/
def fieldOf (t : TypeId) (i : Nat) : Option (Nat × Nat × Bool) :=
  match und E t with
  | some (.struct fields) => (nth fields.toList i).bind fun f => (sizeOf E f.type).bind fun n => (isAgg E f.type).bind fun a => some (f.offset, n, a)
  | _ => none

def fieldC (t : TypeId) (x : Operand) (i : Nat) : SOp :=
  match fieldOf E t i with
  | some (off, n, true) => .pure fun T => (opnd E x T).bind (fieldAggV off n)
  | some (off, _, false) => .pure fun T => (opnd E x T).bind (fieldOneV off)
  | none => .bad

def addrAdd (n : Nat) : AV → Option AV
  | .ptr b off => some (.ptr b (off + n))
  | .iptr cs => (dropN n cs).bind fun l => some (.iptr l)
  | _ => none

def fieldAddrC (t : TypeId) (x : Operand) (i : Nat) : SOp :=
  match fieldOf E t i with
  | some (off, n + 1, _) => .pure fun T => (opnd E x T).bind (addrAdd off)
  | _ => .bad

def natOf : AV → Option Nat
  | .int _ (.ofNat n) => some n
  | _ => none

def iptrO : List AV → Option AV
  | [] => none
  | c :: l => some (.iptr (c :: l))

def idxSliceV (sz k : Nat) : AV → Option AV
  | .slice b off len _ _ => bif Nat.blt k len then some (.ptr b (off + k * sz)) else none
  | .islice cs len _ _ => bif Nat.blt k len then (dropN (k * sz) cs).bind iptrO else none
  | _ => none

def indexAddrC (t : TypeId) (x i : Operand) : SOp :=
  match und E t with
  | some (.array n elem) => match sizeOf E elem with
    | some (sz + 1) => .pure fun T => (opnd E i T).bind fun iv => (natOf iv).bind fun k => bif Nat.blt k n then (opnd E x T).bind (addrAdd (k * (sz + 1))) else none
    | _ => .bad
  | some (.slice elem) => match sizeOf E elem with
    | some (sz + 1) => .pure fun T => (opnd E i T).bind fun iv => (natOf iv).bind fun k => (opnd E x T).bind (idxSliceV (sz + 1) k)
    | _ => .bad
  | _ => .bad

def idxAggV (sz k : Nat) : AV → Option AV
  | .agg cs => (dropN (k * sz) cs).bind fun l => aggO (takeN sz l)
  | _ => none

def idxOneV (sz k : Nat) : AV → Option AV
  | .agg cs => nth cs (k * sz)
  | _ => none

def idxStrV (k : Nat) : AV → Option AV
  | .str s => (nth s k).bind fun b => some (.int .u8 b.toNat)
  | _ => none

def indexC (t : TypeId) (x i : Operand) : SOp :=
  match und E t with
  | some (.array n elem) => match isAgg E elem, sizeOf E elem with
    | some true, some sz => .pure fun T => (opnd E i T).bind fun iv => (natOf iv).bind fun k => bif Nat.blt k n then (opnd E x T).bind (idxAggV sz k) else none
    | some false, some sz => .pure fun T => (opnd E i T).bind fun iv => (natOf iv).bind fun k => bif Nat.blt k n then (opnd E x T).bind (idxOneV sz k) else none
    | _, _ => .bad
  | some .string => .pure fun T => (opnd E i T).bind fun iv => (natOf iv).bind fun k => (opnd E x T).bind (idxStrV k)
  | _ => .bad

def wrapI (k : IntKind) (n : Int) : AV := .int k (k.wrap n)

def bytesLt : List UInt8 → List UInt8 → Bool
  | _, [] => false
  | [], _ :: _ => true
  | a :: x, b :: y => bif Nat.blt a.toNat b.toNat then true else bif Nat.beq a.toNat b.toNat then bytesLt x y else false

def bytesEq : List UInt8 → List UInt8 → Bool
  | [], [] => true
  | a :: x, b :: y => bif Nat.beq a.toNat b.toNat then bytesEq x y else false
  | _, _ => false

def bitsA (f : (n : Nat) → BitVec n → BitVec n → BitVec n) (k : IntKind) (a b : Int) : AV :=
  wrapI k (f k.bits (BitVec.ofInt k.bits a) (BitVec.ofInt k.bits b)).toNat

def quoA (k : IntKind) (a b : Int) : Option AV := if b = 0 then none else some (wrapI k (a.tdiv b))
def remA (k : IntKind) (a b : Int) : Option AV := if b = 0 then none else some (.int k (a.tmod b))
def shlA (k : IntKind) (x y : Int) : Option AV := if y < 0 then none else some (wrapI k (x * 2 ^ (min y.toNat k.bits)))
def shrA (k : IntKind) (x y : Int) : Option AV := if y < 0 then none else some (.int k (x.fdiv (2 ^ (min y.toNat k.bits))))

def intF : BinOp → Option (IntKind → Int → Int → Option AV)
  | .add => some fun k a b => some (wrapI k (a + b))
  | .sub => some fun k a b => some (wrapI k (a - b))
  | .mul => some fun k a b => some (wrapI k (a * b))
  | .quo => some quoA
  | .rem => some remA
  | .eql => some fun _ a b => some (.bool (decide (a = b)))
  | .neq => some fun _ a b => some (.bool (!decide (a = b)))
  | .lss => some fun _ a b => some (.bool (decide (a < b)))
  | .leq => some fun _ a b => some (.bool (decide (a ≤ b)))
  | .gtr => some fun _ a b => some (.bool (decide (b < a)))
  | .geq => some fun _ a b => some (.bool (decide (b ≤ a)))
  | .and => some fun k a b => some (bitsA (fun _ x y => x &&& y) k a b)
  | .or => some fun k a b => some (bitsA (fun _ x y => x ||| y) k a b)
  | .xor => some fun k a b => some (bitsA (fun _ x y => x ^^^ y) k a b)
  | .andNot => some fun k a b => some (bitsA (fun _ x y => x &&& ~~~ y) k a b)
  | _ => none

def strF : BinOp → Option (List UInt8 → List UInt8 → Option AV)
  | .add => some fun a b => bif Nat.ble (len' a + len' b) 4294967296 then some (.str (a ++ b)) else none
  | .eql => some fun a b => some (.bool (bytesEq a b))
  | .neq => some fun a b => some (.bool (!bytesEq a b))
  | .lss => some fun a b => some (.bool (bytesLt a b))
  | .leq => some fun a b => some (.bool (bytesLt a b || bytesEq a b))
  | .gtr => some fun a b => some (.bool (!(bytesLt a b || bytesEq a b)))
  | .geq => some fun a b => some (.bool (!bytesLt a b))
  | _ => none

def int2 (f : IntKind → Int → Int → Option AV) : AV → AV → Option AV
  | .int k a, .int k' b => if k = k' then f k a b else none
  | _, _ => none

def intSh (f : IntKind → Int → Int → Option AV) : AV → AV → Option AV
  | .int k a, .int _ b => f k a b
  | _, _ => none

def str2 (f : List UInt8 → List UInt8 → Option AV) : AV → AV → Option AV
  | .str a, .str b => f a b
  | _, _ => none

/-- Are two values equal; none: not known. -/
def eq1 : AV → AV → Option Bool
  | .bool a, .bool b => some (bif a then b else !b)
  | .int j a, .int k b => if j = k then some (decide (a = b)) else none
  | .str a, .str b => some (bytesEq a b)
  | _, _ => none

def eqCells : List AV → List AV → Option Bool
  | [], [] => some true
  | a :: x, b :: y => (eq1 a b).bind fun r => bif r then eqCells x y else some false
  | _, _ => none

def scalarD : TypeDesc → Bool
  | .bool => true
  | .int _ => true
  | .string => true
  | _ => false

/-- How values of a type are compared: scalars; structs and arrays of scalars, cell by cell. -/
inductive Kd where
  | one (d : TypeDesc)
  | flat (l : List TypeDesc)

def scalarOf (t : TypeId) : Option TypeDesc := match und E t with
  | some d => bif scalarD d then some d else none
  | none => none

def flatFs : List Field → Nat → Option (List TypeDesc)
  | [], _ => some []
  | f :: l, i => bif Nat.beq f.offset i && !(f.name == "_") then (scalarOf E f.type).bind fun d => (flatFs l (i + 1)).bind fun r => some (d :: r) else none

def rep {α : Type} (a : α) : Nat → List α
  | 0 => []
  | n + 1 => a :: rep a n

def kdOf (t : TypeId) : Option Kd := match und E t with
  | some (.struct fs) => bif E.plain t then (flatFs E fs.toList 0).bind fun l => some (.flat l) else none
  | some (.array n e) => match scalarOf E e, sizeOf E e with
    | some d, some 1 => some (.flat (rep d n))
    | _, _ => none
  | some d => bif scalarD d then some (.one d) else none
  | none => none

def eqD : TypeDesc → AV → AV → Option Bool
  | .bool, .bool a, .bool b => some (bif a then b else !b)
  | .int _, .int j a, .int k b => if j = k then some (decide (a = b)) else none
  | .string, .str a, .str b => some (bytesEq a b)
  | _, _, _ => none

def eqZip : List TypeDesc → List AV → List AV → Option Bool
  | [], [], [] => some true
  | d :: l, a :: x, b :: y => (eqD d a b).bind fun r => bif r then eqZip l x y else some false
  | _, _, _ => none

def eqKd : Kd → AV → AV → Option Bool
  | .one d, a, b => eqD d a b
  | .flat l, .agg a, .agg b => eqZip l a b
  | _, _, _ => none

def okD : TypeDesc → AV → Bool
  | .bool, .bool _ => true
  | .int _, .int _ _ => true
  | .string, .str _ => true
  | _, _ => false

def okZip : List TypeDesc → List AV → Bool
  | [], [] => true
  | d :: l, a :: x => okD d a && okZip l x
  | _, _ => false

def okKd : Kd → AV → Bool
  | .one d, v => okD d v
  | .flat l, .agg cs => okZip l cs
  | _, _ => false

def eqPtr : AV → AV → Option Bool
  | .nilptr, .nilptr => some true
  | .nilptr, .ptr _ _ => some false
  | .nilptr, .iptr _ => some false
  | .ptr _ _, .nilptr => some false
  | .iptr _, .nilptr => some false
  | _, _ => none

/-- Is a block a variable's own? -/
def isVar : Option AObj → Bool
  | some (.cells _ _ part) => !part
  | _ => false

def eqPtrs (s : St) : AV → AV → Option Bool
  | .ptr a i, .ptr b j => bif Nat.beq a b then some (Nat.beq i j) else bif isVar (s.heap.get a) && isVar (s.heap.get b) then some false else none
  | a, b => eqPtr a b

def eqFunc : AV → AV → Option Bool
  | .nilfunc, .nilfunc => some true
  | .nilfunc, .func _ _ _ => some false
  | .func _ _ _, .nilfunc => some false
  | _, _ => none

def eqMap : AV → AV → Option Bool
  | .nilmap, .nilmap => some true
  | .nilmap, .map _ => some false
  | .map _, .nilmap => some false
  | _, _ => none

def comparableT (t : TypeId) : Bool := match E.tys.get t with | some i => i.comparable | none => false

/-- 'lit': one of the two is the literal nil. -/
def eqIface (lit : Bool) : AV → AV → Option Bool
  | .niliface, .niliface => bif lit then some true else none
  | .niliface, .iface _ _ => some false
  | .iface _ _, .niliface => some false
  | .iface t x, .iface u y => bif Nat.beq t u then (bif comparableT E t then (scalarOf E t).bind fun d => eqD d x y else none) else some false
  | _, _ => none

def isConst : Operand → Bool
  | .const _ => true
  | _ => false

/-- Is a slice nil? -/
def nilA : AV → Option (List Bool)
  | .slice _ _ _ _ _ => some [false]
  | .islice (_ :: _) _ _ _ => some [false]
  | .islice [] _ _ _ => some [true, false]
  | .nilslice => some [true, false]
  | _ => none

def isNilSlice : AV → Bool
  | .nilslice => true
  | _ => false

def boolsV (neg : Bool) : List Bool → List AV
  | [] => []
  | b :: l => .bool (bif neg then !b else b) :: boolsV neg l

def boolV (neg : Bool) : Option Bool → Option AV
  | some b => some (.bool (bif neg then !b else b))
  | none => none

def pure2 (f : AV → AV → Option AV) (x y : Operand) : SOp := .pure fun T => (opnd E x T).bind fun a => (opnd E y T).bind fun b => f a b

def eqKdC (neg : Bool) (kd : Option Kd) (x y : Operand) : SOp :=
  match kd with
  | some kd => pure2 E (fun a b => boolV neg (eqKd kd a b)) x y
  | none => .bad

/-- == and != -/
def eqC (neg : Bool) (t : TypeId) (x y : Operand) : SOp :=
  match und E t with
  | some .bool => pure2 E (fun a b => boolV neg (eqD .bool a b)) x y
  | some (.pointer e) => match sizeOf E e with
    | some (_ + 1) => .look fun T s => (opnd E x T).bind fun a => (opnd E y T).bind fun b => boolV neg (eqPtrs s a b)
    | _ => pure2 E (fun a b => boolV neg (eqPtr a b)) x y
  | some (.interface _) => pure2 E (fun a b => boolV neg (eqIface E (isConst x || isConst y) a b)) x y
  | some (.func _ _ _) => pure2 E (fun a b => boolV neg (eqFunc a b)) x y
  | some (.map _ _) => pure2 E (fun a b => boolV neg (eqMap a b)) x y
  | some (.array _ _) => eqKdC E neg (kdOf E t) x y
  | some (.struct _) => eqKdC E neg (kdOf E t) x y
  | some (.slice _) => match y with
    | .const (.slice none 0 0) => .pick fun T => (opnd E x T).bind fun a => (nilA a).bind fun l => some (boolsV neg l)
    | _ => .bad
  | _ => .bad

def binC (op : BinOp) (t : TypeId) (x y : Operand) : SOp :=
  match und E t with
  | some (.int _) => match op with
    | .shl => pure2 E (intSh shlA) x y
    | .shr => pure2 E (intSh shrA) x y
    | _ => match intF op with | some f => pure2 E (int2 f) x y | none => .bad
  | some .string => match strF op with | some f => pure2 E (str2 f) x y | none => .bad
  | _ => match op with
    | .eql => eqC E false t x y
    | .neq => eqC E true t x y
    | _ => .bad

def unV : UnOp → AV → Option AV
  | .neg, .int k n => some (wrapI k (0 - n))
  | .not, .bool b => some (.bool (!b))
  | .xor, .int k n => some (bitsA (fun _ x y => x ^^^ y) k (if k.signed then -1 else k.max) n)
  | _, _ => none

def bytesOfCells : List AV → Option (List UInt8)
  | [] => some []
  | .int .u8 n :: l => (bytesOfCells l).bind fun r => some (UInt8.ofNat n.toNat :: r)
  | _ => none

def byteCells : List UInt8 → List AV
  | [] => []
  | c :: l => .int .u8 c.toNat :: byteCells l

/-- The cells of a slice whose elements have a size, and how many elements. -/
def sliceCells (s : St) (sz : Nat) : AV → Option (List AV × Nat)
  | .nilslice => some ([], 0)
  | .islice cs len sz' _ => bif Nat.beq sz' sz then (takeN (len * sz) cs).bind fun l => some (l, len) else none
  | .slice b off len sz' _ => bif Nat.beq sz' sz then (cellsOf? (s.heap.get b)).bind fun cs => (dropN off cs).bind fun l => (takeN (len * sz) l).bind fun l => some (l, len) else none
  | _ => none

def isByte (e : TypeId) : Bool := match und E e with
  | some (.int .u8) => true
  | _ => false

def intToV (k : IntKind) : AV → Option AV
  | .int _ n => some (wrapI k n)
  | _ => none

def strToV : AV → Option AV
  | .str b => some (.str b)
  | _ => none

def strBytes (e : TypeId) : AV → Option Mk
  | .str b => some (.obj (.cells (byteCells b) e true) fun i => .slice i 0 (len' b) 1 none)
  | _ => none

def bytesStr (s : St) (x : AV) : Option AV :=
  (sliceCells s 1 x).bind fun l => (bytesOfCells l.1).bind fun r => some (.str r)

/-- A pointer turned into a bare one. -/
def toUnsafe (s : St) : AV → Option AV
  | .nilptr => some .nilptr
  | .ptr b off => (cellsOf? (s.heap.get b)).bind fun cs => bif Nat.blt off (len' cs) then some (.ptr b off) else none
  | _ => none

def fieldHere (u off : Nat) : List Field → Bool
  | [] => false
  | f :: l => (Nat.beq f.offset off && Nat.beq f.type u) || fieldHere u off l

/-- Is a type another one, or has it a field of that type at an offset? -/
def holdsT (e u off : Nat) : Bool := (Nat.beq e u && Nat.beq off 0) || (E.plain e && match und E e with
  | some (.struct fs) => fieldHere u off fs.toList
  | _ => false)

def fromUnsafeIn (u b off : Nat) : Option AObj → Option AV
  | some (.cells cs e false) => (sizeOf E e).bind fun n => bif holdsT E e u off && Nat.ble n (len' cs) && Nat.blt off n then some (.ptr b off) else none
  | _ => none

/-- A bare pointer turned back into one to the type that lies there. -/
def fromUnsafe (s : St) (u : TypeId) : AV → Option AV
  | .nilptr => some .nilptr
  | .ptr b off => fromUnsafeIn E u b off (s.heap.get b)
  | _ => none

def convC (src dst : TypeId) (x : Operand) : SOp :=
  match und E src, und E dst with
  | some (.int _), some (.int k) => .pure fun T => (opnd E x T).bind (intToV k)
  | some (.pointer t), some .unsafePointer => match sizeOf E t with
    | some (_ + 1) => .read (opnd E x) fun T s => (opnd E x T).bind (toUnsafe s)
    | _ => .bad
  | some .unsafePointer, some (.pointer u) => match sizeOf E u with
    | some (_ + 1) => .read (opnd E x) fun T s => (opnd E x T).bind (fromUnsafe E s u)
    | _ => .bad
  | some .string, some .string => .pure fun T => (opnd E x T).bind strToV
  | some .string, some (.slice e) => bif isByte E e then .make fun T => (opnd E x T).bind (strBytes e) else .bad
  | some (.slice e), some .string => bif isByte E e then .read (opnd E x) fun T s => (opnd E x T).bind (bytesStr s) else .bad
  | _, _ => .bad

def boundsA (dflt most : Nat) : Option AV → Option Nat
  | none => some dflt
  | some v => (natOf v).bind fun n => bif Nat.ble n most then some n else none

/-- A bound that is there. -/
def boundsS (most : Nat) : Option AV → Option Nat
  | none => none
  | some v => boundsA 0 most (some v)

def cut {α : Type} (l : List α) (lo n : Nat) : Option (List α) := (dropN lo l).bind fun r => takeN n r

def sliceStrV (lo hi : Option AV) : AV → Option AV
  | .str b => (boundsA (len' b) (len' b) hi).bind fun h => (boundsA 0 h lo).bind fun l => (cut b l (h - l)).bind fun q => some (.str q)
  | _ => none

def capSub : Option Nat → Nat → Option Nat
  | some c, l => some (c - l)
  | none, _ => none

/-- How many elements a slice may surely be stretched to. -/
def mostOf (sz off len : Nat) (cap : Option Nat) (cs : List AV) : Nat :=
  match cap with
  | some c => c
  | none => bif Nat.beq sz 0 then len else (len' cs - off) / sz

/-- A slice from element l on: of length 0 and not of known capacity it is marked so (cap: some 0). -/
def sliceFrom (sz b off len : Nat) (cap : Option Nat) (most l : Nat) : Option AV :=
  match cap with
  | some c => some (bif Nat.beq c l then (bif Nat.beq c 0 then .slice b off 0 sz (some 0) else .nilslice) else .slice b (off + l * sz) len sz (some (c - l)))
  | none => bif Nat.blt l most then some (.slice b (off + l * sz) len sz none) else bif Nat.beq len 0 then some (.slice b (off + l * sz) 0 sz (some 0)) else none

def sliceV3 (sz : Nat) (lo hi mx : Option AV) (b off len : Nat) (cap : Option Nat) (most : Nat) : Option AV :=
  match mx with
  | none => (boundsA len most hi).bind fun h => (boundsA 0 h lo).bind fun l => sliceFrom sz b off (h - l) cap most l
  | some m => (boundsA 0 most (some m)).bind fun m => (boundsS m hi).bind fun h => (boundsA 0 h lo).bind fun l =>
      bif Nat.beq m l then some .nilslice else some (.slice b (off + l * sz) (h - l) sz (some (m - l)))

def isliceV (sz : Nat) (lo hi : Option AV) (cs : List AV) (len : Nat) (cl : Bool) (most : Nat) : Option AV :=
  (boundsA len most hi).bind fun h => (boundsA 0 h lo).bind fun l => (cut cs (l * sz) ((h - l) * sz)).bind fun q => some (.islice q (h - l) sz cl)

def isliceV3 (sz : Nat) (lo hi mx : Option AV) (cs : List AV) (len : Nat) (cl : Bool) : Option AV :=
  match mx with
  | none => isliceV sz lo hi cs len cl len
  | some m => (boundsA 0 len (some m)).bind fun m => (boundsS m hi).bind fun h => (boundsA 0 h lo).bind fun l =>
      bif Nat.beq m l then (match cs with | [] => some (.islice [] 0 sz cl) | _ :: _ => some .nilslice) else (cut cs (l * sz) ((h - l) * sz)).bind fun q => some (.islice q (h - l) sz cl)

def nilV3 (lo hi : Option AV) : Option AV → Option AV
  | none => (boundsA 0 0 hi).bind fun _ => (boundsA 0 0 lo).bind fun _ => some .nilslice
  | some m => (boundsA 0 0 (some m)).bind fun _ => (boundsS 0 hi).bind fun _ => (boundsA 0 0 lo).bind fun _ => some .nilslice

def sliceSlV (s : St) (sz : Nat) (lo hi mx : Option AV) : AV → Option AV
  | .nilslice => nilV3 lo hi mx
  | .islice cs len sz' cl => bif Nat.beq sz' sz then isliceV3 sz lo hi mx cs len cl else none
  | .slice b off len sz' cap => bif Nat.beq sz' sz then (cellsOf? (s.heap.get b)).bind fun cs => sliceV3 sz lo hi mx b off len cap (mostOf sz off len cap cs) else none
  | _ => none

def sliceArV (sz n : Nat) (lo hi : Option AV) : AV → Option AV
  | .ptr b off => (boundsA n n hi).bind fun h => (boundsA 0 h lo).bind fun l => bif Nat.beq n l then some .nilslice else some (.slice b (off + l * sz) (h - l) sz (some (n - l)))
  | .iptr cs => isliceV sz lo hi cs n false n
  | _ => none

def sliceC (t : TypeId) (x : Operand) (lo hi mx : Option Operand) : SOp :=
  match und E t with
  | some .string => match mx with
    | none => .pure fun T => (opnd E x T).bind fun a => (opndOC E lo T).bind fun l => (opndOC E hi T).bind fun h => sliceStrV l h a
    | some _ => .bad
  | some (.slice e) => match sizeOf E e with
    | some sz => .read (opnd E x) fun T s => (opnd E x T).bind fun a => (opndOC E lo T).bind fun l => (opndOC E hi T).bind fun h => (opndOC E mx T).bind fun m => sliceSlV s sz l h m a
    | none => .bad
  | some (.array n e) => match sizeOf E e, mx with
    | some sz, none => .pure fun T => (opnd E x T).bind fun a => (opndOC E lo T).bind fun l => (opndOC E hi T).bind fun h => sliceArV sz n l h a
    | _, _ => .bad
  | _ => .bad

def keyCell : AV → Bool
  | .int _ _ => true
  | .str _ => true
  | .bool _ => true
  | _ => false

def keyOk : AV → Bool
  | .int _ _ => true
  | .str _ => true
  | .bool _ => true
  | .agg cs => cs.all keyCell
  | _ => false

def keyEq : AV → AV → Option Bool
  | .agg a, .agg b => eqCells a b
  | a, b => eq1 a b

abbrev Ent := AV × AV × Nat

def findA (k : AV) : List Ent → Option (Option Ent)
  | [] => some none
  | e :: es => (keyEq k e.1).bind fun r => bif r then some (some e) else findA k es

/-- The entry of a key; all keys are looked at. -/
def findT (kd : Kd) (k : AV) : List Ent → Option (Option Ent)
  | [] => some none
  | e :: es => (eqKd kd k e.1).bind fun r => (findT kd k es).bind fun q => some (bif r then some e else q)

def isEq (kd : Kd) (k : AV) (e : Ent) : Bool := match eqKd kd k e.1 with
  | some b => b
  | none => false

def updA (kd : Kd) (k v : AV) : List Ent → List Ent
  | [] => []
  | e :: es => bif isEq kd k e then (k, v, e.2.2) :: es else e :: updA kd k v es

def delA (kd : Kd) (k : AV) : List Ent → List Ent
  | [] => []
  | e :: es => bif isEq kd k e then es else e :: delA kd k es

def entsOf (s : St) : AV → Option (List Ent)
  | .nilmap => some []
  | .map b => mapOf? (s.heap.get b)
  | _ => none

def foundV (ok : Bool) (z : AV) : Option Ent → AV
  | some e => bif ok then .tuple [e.2.1, .bool true] else e.2.1
  | none => bif ok then .tuple [z, .bool false] else z

def lookupV (kd : Kd) (s : St) (ok : Bool) (z x k : AV) : Option AV :=
  bif okKd kd k then (entsOf s x).bind fun es => (findT kd k es).bind fun r => some (foundV ok z r) else none

def lookupC (t : TypeId) (x k : Operand) (ok : Bool) : SOp :=
  match und E t with
  | some (.map key elem) => match zeroOf E elem, kdOf E key with
    | some z, some kd => .read (opnd E x) fun T s => (opnd E x T).bind fun a => (opnd E k T).bind fun b => lookupV kd s ok z a b
    | _, _ => .bad
  | _ => .bad

def mapSetIn (kd : Kd) (s : St) (b : Nat) (k v : AV) : Option AObj → Option St
  | some (.map es clock) => (findT kd k es).bind fun r => match r with
    | some _ => some (s.put b (some (.map (updA kd k v es) clock)))
    | none => some (s.put b (some (.map (es ++ [(k, v, clock)]) (clock + 1))))
  | _ => none

def mapSetV (kd : Kd) (s : St) (k v : AV) : AV → Option St
  | .map b => bif okKd kd k then mapSetIn kd s b k v (s.heap.get b) else none
  | _ => none

def mapSetC (t : TypeId) (m k v : Operand) : SOp :=
  match und E t with
  | some (.map key _) => match kdOf E key with
    | some kd => .act true (opnd E m) fun T s => (opnd E m T).bind fun a => (opnd E k T).bind fun b => (opnd E v T).bind fun c => withU (mapSetV kd s b c a)
    | none => .bad
  | _ => .bad

def mapEntryIn (kd : Kd) (s : St) (b : Nat) (z k : AV) : Option AObj → Option (AV × St)
  | some (.map es clock) => (findT kd k es).bind fun r => match r with
    | some e => some (.tuple [e.2.1, .stamp b e.2.2], s)
    | none => some (.tuple [z, .stamp b clock], s.put b (some (.map (es ++ [(k, z, clock)]) (clock + 1))))
  | _ => none

def mapEntryV (kd : Kd) (s : St) (z k : AV) : AV → Option (AV × St)
  | .map b => bif okKd kd k then mapEntryIn kd s b z k (s.heap.get b) else none
  | _ => none

def mapEntryC (t : TypeId) (m k : Operand) : SOp :=
  match und E t with
  | some (.map key elem) => match zeroOf E elem, kdOf E key with
    | some z, some kd => .act true (opnd E m) fun T s => (opnd E m T).bind fun a => (opnd E k T).bind fun b => mapEntryV kd s z b a
    | _, _ => .bad
  | _ => .bad

def stampSet (n : Nat) (v : AV) : List Ent → Option (List Ent)
  | [] => none
  | e :: es => bif Nat.beq e.2.2 n then some ((e.1, v, e.2.2) :: es) else (stampSet n v es).bind fun r => some (e :: r)

def entryStoreIn (s : St) (b n : Nat) (v : AV) : Option AObj → Option St
  | some (.map es clock) => (stampSet n v es).bind fun es' => some (s.put b (some (.map es' clock)))
  | _ => none

def entryStoreV (s : St) (v : AV) : AV → AV → Option St
  | .map b, .stamp c n => bif Nat.beq b c then entryStoreIn s b n v (s.heap.get b) else none
  | _, _ => none

/-- append: 'new' are n elements of sz cells each. -/
def small (n by_ : Nat) : Bool := Nat.ble (n * by_) 1099511627776 && Nat.ble n 1099511627776 && !(Nat.beq by_ 0) && Nat.ble by_ 1048576

def fitsA (sz len n : Nat) (cap : Option Nat) (l : List AV) : Bool :=
  match cap with
  | some c => Nat.ble (len + n) c
  | none => Nat.ble ((len + n) * sz) (len' l)

def isSome' {α : Type} : Option α → Bool
  | some _ => true
  | none => false

/-- Does a slice reach to its block's end, as far as is known? -/
def tailO : Option Nat → Bool
  | none => true
  | some 0 => true
  | some (_ + 1) => false

def freed (s : St) (b : Nat) (cap : Option Nat) : St := bif tailO cap then s.put b none else s

def appendIn (s : St) (e : TypeId) (sz : Nat) (new : List AV) (n b off len : Nat) (cap : Option Nat) (cs : List AV) (e0 : TypeId) (sl : Bool) : Option (AV × St) :=
  (dropN off cs).bind fun l =>
    bif fitsA sz len n cap l then (over new (off + len * sz) cs).bind fun cs' => some (.slice b off (len + n) sz cap, s.put b (some (.cells cs' e0 sl)))
    else bif Nat.beq e e0 || !(tailO cap) then (takeN (len * sz) l).bind fun old => some (.slice s.next 0 (len + n) sz none, (freed s b cap).alloc (.cells (old ++ new) e true)) else none

def appendOb (s : St) (e : TypeId) (sz : Nat) (new : List AV) (n b off len : Nat) (cap : Option Nat) : Option AObj → Option (AV × St)
  | some (.cells cs e0 sl) => appendIn s e sz new n b off len cap cs e0 sl
  | _ => none

def appendTo (s : St) (e : TypeId) (sz by_ : Nat) (new : List AV) (n : Nat) : AV → Option (AV × St)
  | .nilslice => bif Nat.beq n 0 then some (.nilslice, s) else bif small n by_ then some (.slice s.next 0 n sz none, s.alloc (.cells new e true)) else none
  | .islice cs len sz' cl => bif Nat.beq n 0 then some (.islice cs len sz' cl, s) else none
  | .slice b off len sz' cap => bif Nat.beq n 0 then some (.slice b off len sz' cap, s)
      else bif Nat.beq sz' sz && small (len + n) by_ then appendOb s e sz new n b off len cap (s.heap.get b) else none
  | _ => none

def appendedV (s : St) (sz : Nat) : AV → Option (List AV × Nat)
  | .str b => bif Nat.beq sz 1 then some (byteCells b, len' b) else none
  | y => sliceCells s sz y

def zerosV (z : List AV) (y : AV) : Option (List AV × Nat) :=
  (natOf y).bind fun n => bif Nat.ble n 1048576 then some (repeatA z n, n) else none

def isZeros : Option TypeId → Bool
  | some t => match und E t with
    | some (.int _) => true
    | _ => false
  | none => false

def knownT : Option TypeId → Bool
  | some t => isSome' (und E t)
  | none => true

def appendC (sT : TypeId) (xT : Option TypeId) (x y : Operand) : SOp :=
  match und E sT with
  | some (.slice e) => match sizeOf E e, bytesOf E e, zeroOf E e with
    | some sz, some by_, some z =>
      bif !(Nat.beq (len' z.cells) sz) || Nat.beq sz 0 || !(knownT E xT) then .bad else
      bif isZeros E xT then .act true (opnd E x) fun T s => (opnd E x T).bind fun a => (opnd E y T).bind fun b => (zerosV z.cells b).bind fun p => appendTo s e sz by_ p.1 p.2 a
      else .act false (opnd E x) fun T s => (opnd E x T).bind fun a => (opnd E y T).bind fun b => (appendedV s sz b).bind fun p => appendTo s e sz by_ p.1 p.2 a
    | _, _, _ => .bad
  | _ => .bad

def copyV (s : St) (sz : Nat) (src : List AV × Nat) : AV → Option (AV × St)
  | .slice b off len sz' _ => bif Nat.beq sz' sz then (takeN (Nat.min src.2 len * sz) src.1).bind fun l => (writeAt s b off l).bind fun s' => some (.int .i64 (Nat.min src.2 len : Nat), s') else none
  | .nilslice => some (.int .i64 0, s)
  | _ => none

def copyC (t : TypeId) (x y : Operand) : SOp :=
  match und E t with
  | some (.slice e) => match sizeOf E e with
    | some sz => .act false (opnd E x) fun T s => (opnd E x T).bind fun a => (opnd E y T).bind fun b => (appendedV s sz b).bind fun p => copyV s sz p a
    | none => .bad
  | _ => .bad

def lenStr : AV → Option AV
  | .str b => some (.int .i64 (len' b))
  | _ => none

def lenSl : AV → Option AV
  | .nilslice => some (.int .i64 0)
  | .islice _ n _ _ => some (.int .i64 n)
  | .slice _ _ n _ _ => some (.int .i64 n)
  | _ => none

def lenMap (s : St) (x : AV) : Option AV := (entsOf s x).bind fun es => some (.int .i64 (len' es))

def lenC (t : TypeId) (x : Operand) : SOp :=
  match und E t with
  | some .string => .pure fun T => (opnd E x T).bind lenStr
  | some (.slice _) => .pure fun T => (opnd E x T).bind lenSl
  | some (.array n _) => .pure fun T => (opnd E x T).bind fun _ => some (.int .i64 n)
  | some (.map _ _) => .read (opnd E x) fun T s => (opnd E x T).bind (lenMap s)
  | some (.pointer a) => match und E a with
    | some (.array n _) => .pure fun T => (opnd E x T).bind fun _ => some (.int .i64 n)
    | _ => .bad
  | _ => .bad

def capV : AV → Option AV
  | .nilslice => some (.int .i64 0)
  | .slice _ _ _ _ (some (c + 1)) => some (.int .i64 ((c + 1 : Nat) : Int))
  | _ => none

def capC (t : TypeId) (x : Operand) : SOp :=
  match und E t with
  | some (.slice _) => .pure fun T => (opnd E x T).bind capV
  | _ => .bad

def delIn (kd : Kd) (s : St) (b : Nat) (k : AV) : Option AObj → Option St
  | some (.map es clock) => (findT kd k es).bind fun r => match r with
    | some _ => some (s.put b (some (.map (delA kd k es) clock)))
    | none => some s
  | _ => none

def delV (kd : Kd) (s : St) (k : AV) : AV → Option St
  | .map b => bif okKd kd k then delIn kd s b k (s.heap.get b) else none
  | .nilmap => bif okKd kd k then some s else none
  | _ => none

def delC (t : TypeId) (m k : Operand) : SOp :=
  match und E t with
  | some (.map key _) => match kdOf E key with
    | some kd => .act true (opnd E m) fun T s => (opnd E m T).bind fun a => (opnd E k T).bind fun b => withU (delV kd s b a)
    | none => .bad
  | _ => .bad

def clearV (s : St) (sz : Nat) (z : List AV) : AV → Option St
  | .slice b off len sz' _ => bif Nat.beq sz' sz then (bif Nat.beq len 0 then some s else writeAt s b off (repeatA z len)) else none
  | .nilslice => some s
  | _ => none

def clearMapIn (s : St) (b : Nat) : Option AObj → Option St
  | some (.map _ clock) => some (s.put b (some (.map [] clock)))
  | _ => none

def clearMap (s : St) : AV → Option St
  | .map b => clearMapIn s b (s.heap.get b)
  | .nilmap => some s
  | _ => none

def clearC (t : TypeId) (x : Operand) : SOp :=
  match und E t with
  | some (.slice e) => match sizeOf E e, zeroOf E e with
    | some sz, some z => bif Nat.beq (len' z.cells) sz && !z.isTuple then .act true (opnd E x) fun T s => (opnd E x T).bind fun a => withU (clearV s sz z.cells a) else .bad
    | _, _ => .bad
  | some (.map _ _) => .act true (opnd E x) fun T s => (opnd E x T).bind fun a => withU (clearMap s a)
  | _ => .bad

def cntA (c : Nat) : List UInt8 → Nat
  | [] => 0
  | b :: l => bif Nat.beq b.toNat c then cntA c l + 1 else cntA c l

def idxA (c : Nat) : List UInt8 → Option Nat
  | [] => none
  | b :: l => bif Nat.beq b.toNat c then some 0 else (idxA c l).bind fun n => some (n + 1)

def countV : AV → AV → Option AV
  | .str l, .int .u8 (.ofNat c) => bif Nat.blt c 256 then some (.int .i64 (cntA c l)) else none
  | _, _ => none

def indexByteV : AV → AV → Option AV
  | .str l, .int .u8 (.ofNat c) => bif Nat.blt c 256 then (match idxA c l with
    | some n => some (.int .i64 n)
    | none => some (.int .i64 (-1))) else none
  | _, _ => none

def max2A : AV → AV → Option AV
  | .int k x, .int _ y => some (.int k (if y > x then y else x))
  | _, _ => none
def min2A : AV → AV → Option AV
  | .int k x, .int _ y => some (.int k (if y < x then y else x))
  | _, _ => none

def foldV (f : AV → AV → Option AV) : List AV → AV → Option AV
  | [], x => some x
  | y :: l, x => (f x y).bind fun z => foldV f l z

def maxC (f : AV → AV → Option AV) (xs : List Operand) : SOp :=
  match xs with
  | x :: l => .pure fun T => (opnd E x T).bind fun a => (opndsC E l T).bind fun r => foldV f r a
  | [] => .bad

def makeSliceV (e : TypeId) (sz by_ : Nat) (z : List AV) (l c : Nat) : Option Mk :=
  bif Nat.ble l c && (Nat.beq c 0 || small c by_) then
    bif Nat.beq c 0 then some (.val .nilslice) else some (.obj (.cells (repeatA z c) e false) fun b => .slice b 0 l sz (some c))
  else none

def makeSliceC (t : TypeId) (l c : Operand) : SOp :=
  match und E t with
  | some (.slice e) => match sizeOf E e, bytesOf E e, zeroOf E e with
    | some sz, some by_, some z => bif Nat.beq (len' z.cells) sz then .make fun T => (opnd E l T).bind fun a => (opnd E c T).bind fun b => (natOf a).bind fun n => (natOf b).bind fun m => makeSliceV e sz by_ z.cells n m else .bad
    | _, _, _ => .bad
  | _ => .bad

def buildSliceV (e : TypeId) (sz len : Nat) : Option (List AV) → Option Mk
  | some cs => bif Nat.beq len 0 then some (.val .nilslice) else some (.obj (.cells cs e false) fun b => .slice b 0 len sz (some len))
  | none => none

def buildSliceC (t : TypeId) (len : Nat) (parts : List (Nat × Operand)) : SOp :=
  match und E t with
  | some (.slice e) => match sizeOf E e, zeroOf E e with
    | some sz, some z => bif Nat.beq (len' z.cells) sz && Nat.ble (len * sz) 16777216 && !(Nat.beq sz 0) then
        .make fun T => (partsC E parts T).bind fun ps => buildSliceV e sz len (fillA (fun i => some (i * sz, sz)) ps (repeatA z.cells len)) else .bad
    | _, _ => .bad
  | _ => .bad

def rangeStr : AV → Option Mk
  | .str b => some (.obj (.siter b 0) fun i => .ptr i 0)
  | _ => none

def rangeMap (s : St) : AV → Option (AV × St)
  | .nilmap => some (.ptr s.next 0, s.alloc (.miter none 0 [] 0))
  | .map m => match s.heap.get m with
    | some (.map _ clock) => some (.ptr s.next 0, s.alloc (.miter (some m) clock [] clock))
    | _ => none
  | _ => none

def rangeC (t : TypeId) (x : Operand) : SOp :=
  match und E t with
  | some .string => .make fun T => (opnd E x T).bind rangeStr
  | some (.map _ _) => .act false nothing fun T s => (opnd E x T).bind (rangeMap s)
  | _ => .bad

def wideStr (s : St) (r : Nat) (b : List UInt8) (pos : Nat) (d : Nat × Nat) : Option (AV × St) :=
  some (.tuple [.bool true, .int .i64 pos, .int .i32 d.1], s.put r (some (.siter b (pos + d.2))))

def nextStrIn (s : St) (r : Nat) : Option AObj → Option (AV × St)
  | some (.siter b pos) => (dropN pos b).bind fun l => match l with
    | c :: _ => bif Nat.blt c.toNat 128 then some (.tuple [.bool true, .int .i64 pos, .int .i32 c.toNat], s.put r (some (.siter b (pos + 1)))) else wideStr s r b pos (Utf8.decode ⟨b.toArray⟩ pos)
    | [] => some (.tuple [.bool false], s)
  | _ => none

def nextStr (s : St) : AV → Option (AV × St)
  | .ptr r 0 => nextStrIn s r (s.heap.get r)
  | _ => none

def seenN (n : Nat) : List Nat → Bool
  | [] => false
  | k :: l => bif Nat.beq k n then true else seenN n l

/-- The entries that are still to come. -/
def leftA (seen : List Nat) : List Ent → List Ent
  | [] => []
  | e :: l => bif seenN e.2.2 seen then leftA seen l else e :: leftA seen l

def nextOf (s : St) (r m since clock : Nat) (seen : List Nat) : List Ent → List (AV × St)
  | [] => []
  | e :: l => (.tuple [.bool true, e.1, e.2.1], s.put r (some (.miter (some m) since (seen ++ [e.2.2]) clock))) :: nextOf s r m since clock seen l

def nextMapAt (s : St) (r m since stepped : Nat) (seen : List Nat) : Option AObj → Option (List (AV × St))
  | some (.map es clock) => bif Nat.beq clock stepped && Nat.beq clock since then
      match leftA seen es with
      | [] => some [(.tuple [.bool false], s)]
      | e :: l => some (nextOf s r m since clock seen (e :: l))
    else none
  | _ => none

def nextMapIn (s : St) (r : Nat) : Option AObj → Option (List (AV × St))
  | some (.miter none _ _ _) => some [(.tuple [.bool false], s)]
  | some (.miter (some m) since seen stepped) => nextMapAt s r m since stepped seen (s.heap.get m)
  | _ => none

/-- The next entry of a map, in any order; none of them is newer than the iterator. -/
def nextMap (s : St) : AV → Option (List (AV × St))
  | .ptr r 0 => nextMapIn s r (s.heap.get r)
  | _ => none

def lastN : List Nat → Option Nat
  | [] => none
  | a :: l => match l with
    | [] => some a
    | _ :: _ => lastN l

def stampGet (n : Nat) : List Ent → Option Ent
  | [] => none
  | e :: es => bif Nat.beq e.2.2 n then some e else stampGet n es

def entryAt (stepped n : Nat) : Option AObj → Option AV
  | some (.map es clock) => bif Nat.beq clock stepped then (stampGet n es).bind fun e => some (.tuple [e.1, e.2.1]) else none
  | _ => none

def entryIn (s : St) : Option AObj → Option AV
  | some (.miter (some m) _ seen stepped) => (lastN seen).bind fun n => entryAt stepped n (s.heap.get m)
  | _ => none

/-- The entry at which an iterator stands. -/
def entryV (s : St) : AV → Option AV
  | .ptr r 0 => entryIn s (s.heap.get r)
  | _ => none

def holdsV (ok : Bool) (v : AV) : Option AV := some (bif ok then .tuple [v, .bool true] else v)
def failsV (ok : Bool) (z : AV) : Option AV := bif ok then some (.tuple [z, .bool false]) else none

def hasMethods (want : Array (String × TypeId)) (t : TypeId) : Option Bool :=
  match E.tys.get t with
  | some i => match Instr.missingMethod want i.methods with
    | none => some true
    | some _ => some false
  | none => none

def assertI (want : Array (String × TypeId)) (ok : Bool) (z : AV) : AV → Option AV
  | .iface t v => (hasMethods E want t).bind fun h => bif h then holdsV ok (.iface t v) else failsV ok z
  | .niliface => failsV ok z
  | _ => none

def assertT (t : TypeId) (ok : Bool) (z : AV) : AV → Option AV
  | .iface u v => bif Nat.beq u t then holdsV ok v else failsV ok z
  | .niliface => failsV ok z
  | _ => none

def assertC (x : Operand) (t : TypeId) (ok : Bool) : SOp :=
  match und E t, zeroOf E t with
  | some (.interface want), some z => .pure fun T => (opnd E x T).bind (assertI E want ok z)
  | some _, some z => .pure fun T => (opnd E x T).bind (assertT t ok z)
  | _, _ => .bad

/-- What a method is handed: how far behind the address the receiver lies; whether it is read there; or: a part of the value. -/
inductive Recv where
  | mk (off : Option Nat) (load : Option TypeId)
  | part (off n : Nat) (agg : Bool)

def recvOf (off : Option Nat) (f : FuncId) (t : TypeId) : Bool → Option (FuncId × Recv)
  | true => match und E t, off with
    | some (.pointer _), none => some (f, .mk none none)
    | some (.pointer _), some n => some (f, .mk (some n) (some t))
    | some _, some n => some (f, .mk (some n) none)
    | _, _ => none
  | false => match und E t, off with
    | some (.pointer e), none => some (f, .mk none (some e))
    | some (.pointer _), some _ => none
    | some _, none => some (f, .mk none none)
    | some _, some n => some (f, .mk (some n) (some t))
    | _, _ => none

def isPtrT (t : TypeId) : Bool := match und E t with
  | some (.pointer _) => true
  | _ => false

/-- The field behind a pointer at which a promoted method's receiver lies: its offset and its type. -/
def stepOf (st : FieldStep) : Option (Nat × TypeId) :=
  bif st.deref then match und E st.struct with
    | some (.struct fields) => (nth fields.toList st.index).bind fun f => match sizeOf E f.type with
      | some (_ + 1) => some (f.offset, f.type)
      | _ => none
    | _ => none
  else none

/-- The method of a type by its name: the function, and its receiver. -/
def methodOf (t : TypeId) (name : String) : Option (FuncId × Recv) :=
  (E.tys.get t).bind fun i => (i.methods.toList.find? (·.name == name)).bind fun m => match m.path.toList, m.func with
    | [], some (f, p) => recvOf E none f t p
    | [st], some (f, p) => bif st.deref then (stepOf E st).bind fun q => recvOf E (some q.1) f q.2 p
        else match und E st.struct, p with
          | some (.struct fields), false => (nth fields.toList st.index).bind fun x => bif isPtrT E x.type then none else
              (sizeOf E x.type).bind fun n => (isAgg E x.type).bind fun a => some (f, .part x.offset n a)
          | _, _ => none
    | _, _ => none

def hasBody (f : FuncId) : Bool := match E.fns.get f with
  | some fn => match fn.body with
    | some _ => true
    | none => false
  | none => isSome' (E.prim f)

def offV (v : AV) : Option Nat → Option AV
  | none => some v
  | some n => addrAdd n v

def recvV (s : St) (v : AV) : Recv → Option AV
  | .mk off load => (offV v off).bind fun p => match load with
    | none => some p
    | some e => loadC E e s p
  | .part off n true => fieldAggV off n v
  | .part off _ false => fieldOneV off v

def invokeV (s : St) (name : String) (args : List AV) : AV → Option (FuncId × List AV)
  | .iface t v => (methodOf E t name).bind fun m => bif hasBody E m.1 then (recvV E s v m.2).bind fun r => some (m.1, r :: args) else none
  | _ => none

def dataV : AV → Option AV
  | .slice b off (_ + 1) _ _ => some (.ptr b off)
  | .slice _ _ 0 _ _ => some .junk
  | .nilslice => some .junk
  | _ => none

def dataM (v : AV) : Option Mk := match dataV v with
  | some r => some (.val r)
  | none => none

def dataC (ty : TypeId) (x : Operand) : SOp :=
  match und E ty with
  | some (.pointer _) => .make fun T => (opnd E x T).bind dataM
  | _ => .bad

def rawStrIn (s : St) (E : Env) (e' b off n : Nat) : Option AObj → Option (AV × St)
  | some (.cells cs e _) => bif Nat.beq e e' && isByte E e then (cut cs off n).bind fun l => (bytesOfCells l).bind fun r => some (.str r, s.put b none) else none
  | _ => none

/-- A string over bytes, which nobody touches any more. -/
def rawStrV (s : St) (E : Env) (e' n : Nat) : AV → Option (AV × St)
  | .ptr b off => bif Nat.beq n 0 then some (.str [], s) else rawStrIn s E e' b off n (s.heap.get b)
  | .junk => bif Nat.beq n 0 then some (.str [], s) else none
  | .nilptr => bif Nat.beq n 0 then some (.str [], s) else none
  | _ => none

def rawStrC (t : TypeId) (x y : Operand) : SOp :=
  match und E t with
  | some (.pointer e) => bif isByte E e && Nat.beq ((sizeOf E e).getD 0) 1 then .act false (opnd E x) fun T s => (opnd E x T).bind fun a => (opnd E y T).bind fun b => (natOf b).bind fun n => bif Nat.ble n 1099511627776 then rawStrV s E e n a else none else .bad
  | _ => .bad

/-- Bytes that hold anything: none of them is known. -/
def noZeroV (e : TypeId) : AV → Option Mk
  | .int .i64 (.ofNat n) => bif Nat.blt 0 n && Nat.ble n 1099511627776 then some (.obj (.cells [] e true) fun i => .slice i 0 n 1 none) else none
  | _ => none

def byteT : Option Func → Option TypeId
  | some fn => match fn.resultTypes.toList with
    | [t] => match und E t with
      | some (.slice e) => bif isByte E e then some e else none
      | _ => none
    | _ => none
  | none => none

def externC (f : FuncId) (name : String) (args : List Operand) : SOp :=
  match args with
  | [x] => bif name == "internal/abi.NoEscape" then .pure (opnd E x)
      else bif name == "internal/bytealg.MakeNoZero" then (match byteT E (E.fns.get f) with
        | some e => .make fun T => (opnd E x T).bind (noZeroV e)
        | none => .bad) else .bad
  | [x, y] => bif name == "internal/bytealg.CountString" then pure2 E countV x y
      else bif name == "internal/bytealg.IndexByteString" then pure2 E indexByteV x y else .bad
  | _ => .bad

def nameOf (f : FuncId) : String := match E.fns.get f with
  | some fn => fn.name
  | none => ""

def builtinC (ty : TypeId) (b : Builtin) (ts : List TypeId) (args : List Operand) : SOp :=
  match b, ts, args with
  | .append, t :: ts', [x, y] => appendC E t ts'.head? x y
  | .len, t :: _, [x] => lenC E t x
  | .cap, t :: _, [x] => capC E t x
  | .copy, t :: _, [x, y] => copyC E t x y
  | .delete, t :: _, [m, k] => delC E t m k
  | .clear, t :: _, [x] => clearC E t x
  | .unsafeSliceData, _, [x] => bif E.ext then dataC E ty x else .bad
  | .unsafeString, t :: _, [x, y] => bif E.ext then rawStrC E t x y else .bad
  | .max, _, xs => maxC E max2A xs
  | .min, _, xs => maxC E min2A xs
  | .recover, _, _ => .recover
  | _, _, _ => .bad

def callC (ty : TypeId) (c : Call) : SOp :=
  match c.callee with
  | .builtin b => builtinC E ty b c.argTypes.toList c.args.toList
  | .value (.func f) => bif hasBody E f then .call fun T _ => (opndsC E c.args.toList T).bind fun args => some (f, args) else (bif E.ext then externC E f (nameOf E f) c.args.toList else .bad)
  | .value x => .callV (opnd E x) (opndsC E c.args.toList)
  | .invoke r name => .call fun T s => (opndsC E c.args.toList T).bind fun args => (opnd E r T).bind (invokeV E s name args)

def isYield : Fn → Bool
  | .yield _ => true
  | _ => false

def deferV (args : List AV) : AV → Option ADef
  | .func fn first captured => bif isYield fn then none else some { target := .fn fn captured, args := first ++ args }
  | _ => none

def deferC (c : Call) : SOp :=
  match c.callee with
  | .value x => .defer fun T => (opnd E x T).bind fun f => (opndsC E c.args.toList T).bind fun args => deferV args f
  | _ => .bad

def isAddrV : AV → Bool
  | .ptr _ _ => true
  | .iptr _ => true
  | _ => false

/-- A method value whose receiver, behind its interface, is there. -/
def okMethodIn (v : AV) : Option (FuncId × Recv) → Bool
  | some (_, .mk none none) => true
  | some (_, .mk _ _) => isAddrV v
  | some (_, .part off n true) => isSome' (fieldAggV off n v)
  | some (_, .part off _ false) => isSome' (fieldOneV off v)
  | none => false

def okMethod (name : String) : List AV → Bool
  | [.iface t v] => okMethodIn v (methodOf E t name)
  | _ => false

def okPtr : AV → Option AV
  | .ptr b o => some (.ptr b o)
  | .iptr cs => some (.iptr cs)
  | .func (.func f) a b => some (.func (.func f) a b)
  | .func (.yield f) a b => some (.func (.yield f) a b)
  | .func (.method name) a b => bif okMethod E name a then some (.func (.method name) a b) else none
  | .iface t v => some (.iface t v)
  | _ => none

def pickV (a b : TO) (T : Tm) : AV → Option AV
  | .bool t => bif t then a T else b T
  | _ => none

def isIfaceT (t : TypeId) : Option Bool := match und E t with
  | some (.interface _) => some true
  | some _ => some false
  | none => none

def makeIfaceC (t : TypeId) (x : Operand) : SOp :=
  match isIfaceT E t with
  | some false => .pure fun T => (opnd E x T).bind fun v => some (.iface t v)
  | _ => .bad

def makeFuncC (fn : Fn) (first captured : List Operand) : SOp :=
  bif isYield fn then .bad else .pure fun T => (opndsC E first T).bind fun a => (opndsC E captured T).bind fun b => some (.func fn a b)

def makeMapC (t : TypeId) (r : Option Operand) : SOp :=
  match und E t, r with
  | some (.map _ _), none => .make fun _ => some (.obj (.map [] 0) .map)
  | some (.map _ _), some x => .make fun T => (opnd E x T).bind fun v => (natOf v).bind fun _ => some (.obj (.map [] 0) .map)
  | _, _ => .bad

def extractV (i : Nat) : AV → Option AV
  | .tuple vs => nth vs i
  | _ => none

def panicV : AV → Option AV
  | .iface t v => some (.iface t v)
  | _ => none

def storeC (t : TypeId) (a x : Operand) : SOp :=
  match sizeOf E t with
  | some n => .act true (opnd E a) fun T s => (opnd E a T).bind fun p => (opnd E x T).bind fun v => withU (storeN n s v p)
  | none => .bad

def allocC (t : TypeId) : SOp :=
  match zeroOf E t with
  | some z => bif z.isTuple then .bad else .make fun _ => some (.obj (.cells z.cells t false) fun b => .ptr b 0)
  | none => .bad

/-- An operation, made ready. -/
def opC (ty : TypeId) (o : Op) : SOp :=
  match o with
  | .move x => .pure (opnd E x)
  | .assign x => .pure (opnd E x)
  | .pick c a b => .pure fun T => (opnd E c T).bind (pickV (opnd E a) (opnd E b) T)
  | .alloc t => allocC E t
  | .box t x => .make fun T => (opnd E x T).bind fun v => bif v.isTuple then none else some (.obj (.cells v.cells t false) fun b => .ptr b 0)
  | .build t parts => buildC E t parts.toList
  | .buildSlice t len parts => buildSliceC E t len parts.toList
  | .load t a => .read (opnd E a) fun T s => (opnd E a T).bind (loadC E t s)
  | .store t a x => storeC E t a x
  | .nilCheck x => .pure fun T => (opnd E x T).bind (okPtr E)
  | .binOp op t x y _ => binC E op t x y
  | .unOp op _ x => .pure fun T => (opnd E x T).bind (unV op)
  | .convert src dst x => convC E src dst x
  | .makeInterface t x => makeIfaceC E t x
  | .makeFunc fn first captured => makeFuncC E fn first.toList captured.toList
  | .makeMap t r => makeMapC E t r
  | .makeSlice t l c => makeSliceC E t l c
  | .slice t x lo hi mx => sliceC E t x lo hi mx
  | .fieldAddr t x f => fieldAddrC E t x f
  | .field t x f => fieldC E t x f
  | .indexAddr t x i => indexAddrC E t x i
  | .index t x i => indexC E t x i
  | .lookup t x i ok => lookupC E t x i ok
  | .mapUpdate t m k v => mapSetC E t m k v
  | .insert t m k v => mapSetC E t m k v
  | .mapEntry t m k => mapEntryC E t m k
  | .entryStore _ m st v => .act true (opnd E m) fun T s => (opnd E m T).bind fun a => (opnd E st T).bind fun b => (opnd E v T).bind fun c => withU (entryStoreV s c a b)
  | .range t x => rangeC E t x
  | .next it isString => bif isString then .act true (opnd E it) fun T s => (opnd E it T).bind (nextStr s) else .picks fun T s => (opnd E it T).bind (nextMap s)
  | .entry it => .look fun T s => (opnd E it T).bind (entryV s)
  | .typeAssert x _ a ok => assertC E x a ok
  | .extract t i => .pure fun T => (opnd E t T).bind (extractV i)
  | .call c => callC E ty c
  | .defer c => deferC E c
  | .panic x => .panic fun T => (opnd E x T).bind panicV
  | _ => .bad

/-- Does a value bear no block's number? -/
def closedV : Nat → AV → Bool
  | 0, _ => false
  | n + 1, v => match v with
    | .ptr _ _ => false
    | .slice _ _ _ _ _ => false
    | .map _ => false
    | .stamp _ _ => false
    | .agg cs => cs.all (closedV n)
    | .tuple cs => cs.all (closedV n)
    | .islice _ _ _ cl => cl
    | .iptr cs => cs.all (closedV n)
    | .func (.yield _) _ _ => false
    | .func _ a b => a.all (closedV n) && b.all (closedV n)
    | .iface _ v => closedV n v
    | _ => true

/-- Are all blocks' numbers in a value below one? -/
def underV (m : Nat) : Nat → AV → Bool
  | 0, _ => false
  | n + 1, v => match v with
    | .ptr b _ => Nat.blt b m
    | .slice b _ _ _ _ => Nat.blt b m
    | .map b => Nat.blt b m
    | .stamp b _ => Nat.blt b m
    | .agg cs => cs.all (underV m n)
    | .tuple cs => cs.all (underV m n)
    | .islice cs _ _ cl => cl || cs.all (underV m n)
    | .iptr cs => cs.all (underV m n)
    | .func (.yield l) _ _ => Nat.blt l m
    | .func _ a b => a.all (underV m n) && b.all (underV m n)
    | .iface _ v => underV m n v
    | _ => true

def underO (m : Nat) : Option AObj → Bool
  | some (.cells cs _ _) => cs.all (underV m 40)
  | some (.map es _) => es.all fun e => underV m 40 e.1 && underV m 40 e.2.1
  | none => true
  | _ => false

/-- Freezing: the value with the content of its slices in their place, and the blocks that are then no more; blocks below 'from_' are left. -/
def frzV (s : St) (from_ : Nat) : Nat → AV → List Nat → Option (AV × List Nat)
  | 0, _, _ => none
  | n + 1, v, ks => match v with
    | .slice b off len sz cap => bif Nat.blt b from_ then some (.slice b off len sz cap, ks) else (cellsOf? (s.heap.get b)).bind fun cs => (cut cs off (len * sz)).bind fun l =>
        (many (frzV s from_ n) l ks).bind fun p => some (.islice p.1 len sz (p.1.all (closedV 40)), b :: p.2)
    | .agg cs => (many (frzV s from_ n) cs ks).bind fun p => some (.agg p.1, p.2)
    | .tuple cs => (many (frzV s from_ n) cs ks).bind fun p => some (.tuple p.1, p.2)
    | .islice cs len sz cl => bif cl then some (.islice cs len sz cl, ks) else (many (frzV s from_ n) cs ks).bind fun p => some (.islice p.1 len sz (p.1.all (closedV 40)), p.2)
    | .iface t v => (frzV s from_ n v ks).bind fun p => some (.iface t p.1, p.2)
    | v => some (v, ks)
where
  many (f : AV → List Nat → Option (AV × List Nat)) : List AV → List Nat → Option (List AV × List Nat)
    | [], ks => some ([], ks)
    | v :: l, ks => (f v ks).bind fun p => (many f l p.2).bind fun q => some (p.1 :: q.1, q.2)

def kill (s : St) : List Nat → St
  | [] => s
  | b :: l => kill (s.put b none) l

end ops

section run
variable (E : Env)

def putArgs : Nat → List AV → Tr AV → Tr AV
  | _, [], t => t
  | i, v :: l, t => putArgs (i + 1) l (t.set i (some v))

def putParams (nt : Nat) : List Nat → List AV → Tr AV → Option (Tr AV)
  | [], [], t => some t
  | p :: ps, v :: vs, t => bif Nat.blt p nt then putParams nt ps vs (t.set p (some v)) else none
  | _, _, _ => none

def resultsA (s : St) (T : Tr AV) : List ResultVar → Option (List AV)
  | [] => some []
  | .tmp t :: l => (T.get t).bind fun v => (resultsA s T l).bind fun r => some (v :: r)
  | .cell a t :: l => (T.get a).bind fun p => (loadC E t s p).bind fun v => (resultsA s T l).bind fun r => some (v :: r)

def oneA : List AV → AV
  | [v] => v
  | l => .tuple l

def frozenFrom (n : Nat) (v : AV) (s : St) : Option (AV × St) := (frzV s n 40 v []).bind fun p => some (p.1, kill s p.2)

/-- 0: nothing is frozen; 1: what is new, if nothing old was written; 2: all. -/
def frozen (f : FuncId) (s0 : St) (v : AV) (s : St) : Option (AV × St) :=
  match E.frz f with
  | 0 => some (v, s)
  | 1 => match s.log with
    | [] => frozenFrom s0.next v s
    | _ :: _ => some (v, s)
  | _ => frozenFrom 0 v s

def below (n : Nat) : List Nat → List Nat → List Nat
  | [], l => l
  | b :: r, l => bif Nat.blt b n then b :: below n r l else below n r l

/-- Behind a call: what it wrote of what its caller minds. -/
def St.back (s0 s : St) : St := { s with bound := s0.bound, log := below s0.bound s.log s0.log }

def leaveQ (s0 : St) (v : AV) (s : St) : List Nat → CR
  | [] => bif underV s0.next 40 v then .same v else .val v (s0.back s)
  | _ :: _ => .val v (s0.back s)

/-- The end of a call: what is frozen, and what is forgotten. 's0': the heap at the call's beginning. -/
def leave (f : FuncId) (s0 : St) (v : AV) (s : St) : Option CR :=
  (frozen E f s0 v s).bind fun p => some (leaveQ s0 p.1 p.2 p.2.log)

def St.enter (s : St) : St := { s with bound := s.next, log := [] }

/-- The heap, its caller minding all of it. -/
def St.whole (s : St) : St := { s with bound := s.next, log := [] }

abbrev Run := Fr → Tr AV → St → Out
abbrev Ev := Code → Run

def sameO (a b : Option Nat) : Bool :=
  match a, b with
  | none, none => true
  | some x, some y => Nat.beq x y
  | _, _ => false

/-- The same plain value. -/
def same1 : AV → AV → Bool
  | .bool a, .bool b => bif a then b else !b
  | .int j a, .int k b => if j = k then decide (a = b) else false
  | .str a, .str b => bytesEq a b
  | .nilptr, .nilptr => true
  | .ptr a b, .ptr c d => Nat.beq a c && Nat.beq b d
  | .nilslice, .nilslice => true
  | .slice a b c d e, .slice f g h i j => Nat.beq a f && Nat.beq b g && Nat.beq c h && Nat.beq d i && sameO e j
  | .nilmap, .nilmap => true
  | .map a, .map b => Nat.beq a b
  | _, _ => false

def sameL : List AV → List AV → Bool
  | [], [] => true
  | a :: l, b :: r => same1 a b && sameL l r
  | _, _ => false

def sameV : AV → Option AV → Bool
  | .agg a, some (.agg b) => sameL a b
  | .tuple a, some (.tuple b) => sameL a b
  | a, some b => same1 a b
  | _, none => false

/-- What two plain results have in common. -/
def join1 : AV → AV → Option AV
  | .nilslice, .nilslice => some .nilslice
  | .nilslice, .islice [] 0 sz _ => some (.islice [] 0 sz true)
  | .islice [] 0 sz _, .nilslice => some (.islice [] 0 sz true)
  | .islice [] 0 sz _, .islice [] 0 _ _ => some (.islice [] 0 sz true)
  | .islice cs len sz cl, .islice cs' len' sz' _ => bif cl && Nat.beq len len' && Nat.beq sz sz' && sameL cs cs' then some (.islice cs len sz cl) else none
  | a, b => bif same1 a b then some a else none

def joinL : List AV → List AV → Option (List AV)
  | [], [] => some []
  | a :: l, b :: r => (join1 a b).bind fun c => (joinL l r).bind fun q => some (c :: q)
  | _, _ => none

def joinV : AV → AV → Option AV
  | .tuple a, .tuple b => (joinL a b).bind fun l => some (.tuple l)
  | a, b => join1 a b

def frame (nt : Nat) (args : List AV) (pan : Option AV) : Fr := { nt := Nat.max nt (len' args), defers := [], pan, round := none }

def recovered : Option AV → Option AV → Bool
  | some _, none => true
  | _, _ => false

/-- A deferred call: what recover hands back in it; whether it did. -/
def deferEnd (m : Option AV) : Out → Option (Bool × St)
  | .one ⟨.normal, fr, _, st⟩ => match fr.defers with | [] => some (recovered m fr.pan, st) | _ => none
  | .one ⟨.ret, fr, _, st⟩ => match fr.defers with | [] => some (recovered m fr.pan, st) | _ => none
  | _ => none

def deferF (ev : Ev) (f : FuncId) (args : List AV) (m : Option AV) (s : St) : Option (Bool × St) :=
  (E.fns.get f).bind fun fn => fn.body.bind fun c => match fn.results.toList with
    | [] => deferEnd m (ev c (frame fn.ntmps args m) (putArgs 0 args .nil) s)
    | _ :: _ => none

def unwind1 (ev : Ev) (m : Option AV) (s : St) (d : ADef) : Option (Option AV × St) :=
  match d.target with
  | .collected r => match s.heap.get r with
    | some (.defs true) => some (m, s.put r (some (.defs false)))
    | _ => none
  | .fn (.func f) captured => (deferF E ev f (d.args ++ captured) m s).bind fun p => some (bif p.1 then none else m, p.2)
  | _ => none

/-- The deferred calls; 'm': the panic that is under way. -/
def unwind (ev : Ev) : List ADef → Option AV → St → Option (Option AV × St)
  | [], m, s => some (m, s)
  | d :: ds, m, s => (unwind1 E ev m s d).bind fun p => unwind ev ds p.1 p.2

def modeOf : Ex → Option (Option AV)
  | .normal => some none
  | .ret => some none
  | .panic v => some (some v)
  | .exit _ => none

def endWith (f : FuncId) (fn : Func) (s : St) (T : Tr AV) : Option AV → St → Option CR
  | none, s' => (resultsA E s' T fn.results.toList).bind fun vs => leave E f s (oneA vs) s'
  | some v, s' => some (.pan v (s.back s'))

/-- The end of a call's body: the deferred calls, the results. -/
def endF (ev : Ev) (f : FuncId) (fn : Func) (s : St) (r : Res) : Option CR :=
  (modeOf r.ex).bind fun m => (unwind E ev r.fr.defers m r.st).bind fun p => endWith E f fn s r.T p.1 p.2

/-- An entry of a map with a key, and the others. -/
def pull (k : AV) : List Ent → Option (Ent × List Ent)
  | [] => none
  | e :: es => bif sameV k (some e.1) then some (e, es) else (pull k es).bind fun p => some (p.1, e :: p.2)

def stampLike (n a b : Nat) : Bool := Nat.beq a b || (Nat.ble n a && Nat.ble n b)

/-- The same entries in whatever order; stamps below n are the same. -/
def permEnts (n : Nat) : List Ent → List Ent → Bool
  | [], [] => true
  | [], _ :: _ => false
  | e :: r, l => match pull e.1 l with
    | some p => sameV e.2.1 (some p.1.2.1) && stampLike n e.2.2 p.1.2.2 && permEnts n r p.2
    | none => false

def noStamp (s : Nat) : List Ent → Bool
  | [] => true
  | e :: l => !(Nat.beq s e.2.2) && noStamp s l

/-- Stamps below n, no two alike. -/
def stampsOk (n : Nat) : List Ent → Bool
  | [] => true
  | e :: l => Nat.blt e.2.2 n && noStamp e.2.2 l && stampsOk n l

/-- Two blocks that may stand for each other: cells alike, or maps of the same entries; 'o': what it was. -/
def sameObj (m : Nat) (o a b : Option AObj) : Bool :=
  match o, a, b with
  | some (.map _ n0), some (.map es n), some (.map es' n') => Nat.beq n n' && permEnts n0 es es' && stampsOk n es && underO m (some (.map es n))
  | some (.cells _ _ _), some (.cells a t p), some (.cells b t' p') => sameL a b && Nat.beq t t' && (bif p then p' else !p') && underO m (some (.cells a t p))
  | _, _, _ => false

/-- The end of one of several outcomes: its value, its heap. -/
def outcome (s0 : St) : Option CR → Option (AV × St)
  | some (.same v) => some (v, s0)
  | some (.val v s) => some (v, s)
  | _ => none

def outcomes (ev : Ev) (f : FuncId) (fn : Func) (s0 : St) : List Res → Option (List (AV × St))
  | [] => some []
  | r :: l => (outcome s0.whole (endF E ev f fn s0.whole r)).bind fun o => (outcomes ev f fn s0 l).bind fun os => some (o :: os)

def logsOf : List (AV × St) → List Nat → List Nat
  | [], l => l
  | o :: os, l => logsOf os (addAll o.2.log l)
where addAll : List Nat → List Nat → List Nat
  | [], l => l
  | b :: r, l => addAll r (logged b l)

def likeAt (s0 a b : St) : List Nat → Bool
  | [] => true
  | n :: l => Nat.blt n s0.next && sameObj s0.next (s0.heap.get n) (a.heap.get n) (b.heap.get n) && likeAt s0 a b l

/-- The heap, with some blocks as they are in another one. -/
def takeAll (s1 : St) : List Nat → St → St
  | [], s => s
  | b :: l, s => takeAll s1 l (s.put b (s1.heap.get b))

mutual
/-- The same value, as far as values that bear no block's number and no function go. -/
def eqAV : AV → AV → Bool
  | .bool a, .bool b => bif a then b else !b
  | .int j a, .int k b => if j = k then decide (a = b) else false
  | .str a, .str b => bytesEq a b
  | .nilptr, .nilptr => true
  | .nilslice, .nilslice => true
  | .nilmap, .nilmap => true
  | .nilfunc, .nilfunc => true
  | .niliface, .niliface => true
  | .iptr a, .iptr b => eqAVs a b
  | .islice a l s c, .islice b m t d => Nat.beq l m && Nat.beq s t && (bif c then d else !d) && eqAVs a b
  | .iface t a, .iface u b => Nat.beq t u && eqAV a b
  | .agg a, .agg b => eqAVs a b
  | .tuple a, .tuple b => eqAVs a b
  | _, _ => false
def eqAVs : List AV → List AV → Bool
  | [], [] => true
  | a :: l, b :: r => eqAV a b && eqAVs l r
  | _, _ => false
end

/-- An outcome that left its caller's heap as it was: its value. -/
def sameOf : Option CR → Option AV
  | some (.same v) => some v
  | _ => none

/-- Does each of some outcomes hand back just this? -/
def allThis (ev : Ev) (f : FuncId) (fn : Func) (s0 : St) (v : AV) : List Res → Bool
  | [] => true
  | r :: l => match sameOf (endF E ev f fn s0.whole r) with
    | some u => eqAV u v && allThis ev f fn s0 v l
    | none => false

/-- Several outcomes that all hand back the same. -/
def many1 (ev : Ev) (f : FuncId) (fn : Func) (s0 : St) (r : Res) (l : List Res) : Option CR :=
  (sameOf (endF E ev f fn s0.whole r)).bind fun v => bif allThis E ev f fn s0 v l then some (.same v) else none

/-- Each of some outcomes is like one of them. -/
def likeAll (m : Nat) (s0 : St) (o : AV × St) (L : List Nat) : List (AV × St) → Bool
  | [] => true
  | q :: l => ((sameV o.1 (some q.1) && underV m 40 o.1) || (eqAV o.1 q.1 && closedV 40 o.1)) && likeAt s0 o.2 q.2 L && likeAll m s0 o L l

def mergedL (s0 : St) (o : AV × St) (os : List (AV × St)) (L : List Nat) : Option CR :=
  bif likeAll s0.next s0 o L (o :: os) then some (.val o.1 (takeAll o.2 L s0)) else none

/-- A map that an outcome has made, and hands back; nothing old was written. -/
def freshMap (n : Nat) (o : AV × St) : Option (List Ent × Nat) :=
  match o.1, o.2.log with
  | .map b, [] => bif Nat.ble n b then (match o.2.heap.get b with
    | some (.map es c) => some (es, c)
    | _ => none) else none
  | _, _ => none

def likeMap (es : List Ent) (c : Nat) : Option (List Ent × Nat) → Bool
  | some p => Nat.beq p.2 c && permEnts 0 es p.1 && underO 0 (some (.map p.1 p.2))
  | none => false

def likeMaps (n : Nat) (es : List Ent) (c : Nat) : List (AV × St) → Bool
  | [] => true
  | q :: l => likeMap es c (freshMap n q) && likeMaps n es c l

/-- Several outcomes that all hand back a new map of the same entries. -/
def mergedMap (s0 : St) (o : AV × St) (os : List (AV × St)) : Option CR :=
  (freshMap s0.next o).bind fun p => bif likeMaps s0.next p.1 p.2 (o :: os) && stampsOk p.2 p.1 then some (.val (.map s0.next) (s0.alloc (.map p.1 p.2))) else none

def orCR (b : Option CR) : Option CR → Option CR
  | some c => some c
  | none => b

/-- One of several outcomes, whichever: what they have in common. -/
def mergeF (ev : Ev) (f : FuncId) (fn : Func) (s0 : St) (r : Res) (l : List Res) : Option CR :=
  (outcome s0.whole (endF E ev f fn s0.whole r)).bind fun o => (outcomes E ev f fn s0 l).bind fun os => orCR (mergedMap s0 o os) (mergedL s0 o os (logsOf (o :: os) []))

def manyEnd (ev : Ev) (f : FuncId) (fn : Func) (s0 : St) (r : Res) (l : List Res) : Option CR → Option CR
  | some c => some c
  | none => bif E.merge then mergeF E ev f fn s0 r l else none

def callEnd (ev : Ev) (f : FuncId) (fn : Func) (s : St) : Out → Option CR
  | .one r => endF E ev f fn s r
  | .many (r :: l) => manyEnd E ev f fn s r l (many1 E ev f fn s r l)
  | _ => none

def primF (f : FuncId) (args : List AV) (s : St) : Option CR :=
  match E.prim f with
  | some g => (g args s).bind fun p => some (.val p.1 p.2)
  | none => none

/-- A call of a function with a body. -/
def callF (ev : Ev) (f : FuncId) (args : List AV) (s : St) : Option CR :=
  match E.memo f args with
  | some v => some (.same v)
  | none => match E.fns.get f with
    | some fn => fn.body.bind fun c => callEnd E ev f fn s (ev c (frame fn.ntmps args none) (putArgs 0 args .nil) s.enter)
    | none => primF E f args s

def roundFin (l : Nat) (st : St) (lp : ALoop) (jump : Option Code) (go : Bool) : Option CR :=
  some (.val (.bool go) (st.put l (some (.loop { lp with state := bif go then .ready else .done, pending := jump }))))

def roundEnd2 (l : Nat) (ex : Ex) (st : St) : Option AObj → Option CR
  | some (.loop lp) => match ex with
    | .normal => roundFin l st lp none true
    | .ret => roundFin l st lp (some .ret) false
    | .exit id => roundFin l st lp (some (.exit id)) false
    | .panic v => some (.pan v st)
  | _ => none

def roundEnd (l : Nat) : Out → Option CR
  | .one r => match r.fr.defers with
    | [] => roundEnd2 l r.ex r.st (r.st.heap.get l)
    | _ => none
  | _ => none

def roundBody (ev : Ev) (l : Nat) (body : Code) (fr : Fr) (T : Tr AV) (s : St) : Option AObj → Option CR
  | some (.loop lp) => match lp.state with
    | .ready => roundEnd l (ev body fr T (s.put l (some (.loop { lp with state := .busy }))))
    | _ => none
  | _ => none

def roundAssigned (ev : Ev) (l : Nat) (body : Code) : Out → Option CR
  | .one ⟨.normal, fr, T, s⟩ => roundBody ev l body fr T s (s.heap.get l)
  | _ => none

def roundIn (ev : Ev) (l : Nat) (args : List AV) (s : St) : Option AObj → Option CR
  | some (.loop lp) => (putParams lp.nt lp.params args lp.tmps).bind fun T =>
      roundAssigned ev l lp.body (ev lp.assign { nt := lp.nt, defers := [], pan := none, round := some l } T s)
  | _ => none

/-- A round of a loop over a function. -/
def roundF (ev : Ev) (l : Nat) (args : List AV) (s : St) : Option CR := roundIn ev l args s (s.heap.get l)

/-- A call of a function value. -/
def callVF (ev : Ev) (args : List AV) (s : St) : AV → Option CR
  | .func (.func f) first captured => bif hasBody E f then callF E ev f (first ++ args ++ captured) s else none
  | .func (.yield l) [] [] => roundF ev l args s
  | .func (.method name) first [] => match first ++ args with
    | r :: args => (invokeV E s name args r).bind fun p => callF E ev p.1 p.2 s
    | [] => none
  | _ => none

/-- A slot is set. -/
def putC : Option Nat → Nat → AV → Tr AV → Option (Tr AV)
  | some d, nt, v, T => bif Nat.blt d nt then some (Tr.setP (some v) (pathOf d) T) else none
  | none, _, _, T => some T

def thenT (k : Tr AV → Out) : Option (Tr AV) → Out
  | some T => k T
  | none => .stuck

def valOut (k : AV → Out) : Option AV → Out
  | some v => k v
  | none => .stuck

def actOut (k : AV → St → Out) : Option (AV × St) → Out
  | some p => k p.1 p.2
  | none => .stuck

def mkOut (s : St) (k : AV → St → Out) : Option Mk → Out
  | some (.val v) => k v s
  | some (.obj o g) => k (g s.next) (s.alloc o)
  | none => .stuck

def crOut (fr : Fr) (T : Tr AV) (s : St) (k : AV → St → Out) : Option CR → Out
  | some (.same v) => k v s
  | some (.val v s) => k v s
  | some (.pan v s) => .one ⟨.panic v, fr, T, s⟩
  | none => .stuck

def Out.app : Out → Out → Out
  | .one r, .one r' => .many [r, r']
  | .one r, .many l' => .many (r :: l')
  | .many r, .one r' => .many (r ++ [r'])
  | .many r, .many l' => .many (r ++ l')
  | _, _ => .stuck

/-- Some outcomes of one operation, each with what comes behind it. -/
def manyOut (k : AV → St → Out) : List (AV × St) → Out
  | [] => .stuck
  | p :: l => match l with
    | [] => k p.1 p.2
    | _ :: _ => Out.app (k p.1 p.2) (manyOut k l)

def zipS (s : St) : List AV → List (AV × St)
  | [] => []
  | v :: l => (v, s) :: zipS s l

def picksOut (k : AV → St → Out) : Option (List (AV × St)) → Out
  | some l => manyOut k l
  | none => .stuck

def recoverOut (fr : Fr) (k : Fr → AV → Out) : Out :=
  match fr.round with
  | some _ => .stuck
  | none => match fr.pan with
    | some v => k { fr with pan := none } v
    | none => k fr .niliface

def deferOut (fr : Fr) (k : Fr → AV → Out) : Option ADef → Out
  | some d => match fr.round with
    | none => k { fr with defers := d :: fr.defers } (.tuple [])
    | some _ => .stuck
  | none => .stuck

/-- What is to be run, made ready. -/
structure Cl where
  run : Ev → Run

/-- What comes behind an operation with a value. -/
abbrev K := Ev → Fr → Tr AV → AV → St → Out

structure KCl where
  run : K

def thenK (dst : Option Nat) (k : Cl) : KCl :=
  match dst with
  | some d => ⟨fun ev fr T v s => bif Nat.blt d fr.nt then k.run ev fr (Tr.setP (some v) (pathOf d) T) s else .stuck⟩
  | none => ⟨fun ev fr T _ s => k.run ev fr T s⟩

/-- One operation, with what it calls, and then what comes behind it. -/
def stepC (so : SOp) (k : KCl) : Cl :=
  match so with
  | .bad => ⟨fun _ _ _ _ => .stuck⟩
  | .make f => ⟨fun ev fr T s => mkOut s (k.run ev fr T) (f T)⟩
  | .pure f => ⟨fun ev fr T s => valOut (fun v => k.run ev fr T v s) (f T)⟩
  | .read _ f => ⟨fun ev fr T s => valOut (fun v => k.run ev fr T v s) (f T s)⟩
  | .look f => ⟨fun ev fr T s => valOut (fun v => k.run ev fr T v s) (f T s)⟩
  | .act _ _ f => ⟨fun ev fr T s => actOut (k.run ev fr T) (f T s)⟩
  | .pick f => ⟨fun ev fr T s => picksOut (k.run ev fr T) ((f T).bind fun l => some (zipS s l))⟩
  | .picks f => ⟨fun ev fr T s => picksOut (k.run ev fr T) (f T s)⟩
  | .call f => ⟨fun ev fr T s => crOut fr T s (k.run ev fr T) ((f T s).bind fun p => callF E ev p.1 p.2 s)⟩
  | .callV f a => ⟨fun ev fr T s => crOut fr T s (k.run ev fr T) ((f T).bind fun g => (a T).bind fun args => callVF E ev args s g)⟩
  | .defer f => ⟨fun ev fr T s => deferOut fr (fun fr v => k.run ev fr T v s) (f T)⟩
  | .panic f => ⟨fun _ fr T s => valOut (fun v => .one ⟨.panic v, fr, T, s⟩) (f T)⟩
  | .recover => ⟨fun ev fr T s => recoverOut fr fun fr v => k.run ev fr T v s⟩

def yieldedP (ops : List Oper) (j : Nat) : Option Path :=
  (nth ops j).bind fun o => o.dst.bind fun d => some (pathOf d)

/-- Is an operation carried out? none: not known. -/
def wantedV (want : Bool) : Option AV → Option Bool
  | some (.bool b) => some (bif want then b else !b)
  | some .any => none
  | some _ => some false
  | none => none

def wantedC (ops : List Oper) (g : Nat × Bool) : Tr AV → Option Bool :=
  match yieldedP ops g.1 with
  | some p => fun T => wantedV g.2 (Tr.getP p T)
  | none => fun _ => some false

def guardOut (a b : Unit → Out) : Option Bool → Out
  | some t => bif t then a () else b ()
  | none => .stuck

def guarded (ops : List Oper) (g : Option (Nat × Bool)) (step : Cl) (k : KCl) : Cl :=
  match g with
  | none => step
  | some g => ⟨fun ev fr T s => guardOut (fun _ => step.run ev fr T s) (fun _ => k.run ev fr T (.tuple []) s) (wantedC ops g T)⟩

def oneC (ops : List Oper) (o : Oper) (k : KCl) : Cl := guarded ops o.guard (stepC E (opC E o.type o.op) k) k

def doneC : Cl := ⟨fun _ fr T s => .one ⟨.normal, fr, T, s⟩⟩

def runC (ops : List Oper) : List Oper → Cl
  | [] => doneC
  | o :: rest => oneC E ops o (thenK o.dst (runC ops rest))

/-! A region that draws its order. -/

/-- Blocks that were made in the region, or written, each with the operation that did it. -/
abbrev News := List (Nat × Nat)

/-- What an operation may look at. -/
inductive Touch where
  | nothing
  | block (b : Nat)
  | all

/-- What was looked at; may it be something else as well? -/
abbrev Looked := List (Nat × Touch × (Nat → Option AObj → Bool))

/-- An operation of such a region: itself, made ready, its number, those before it, the slots that it reads. -/
structure DOp where
  o : Oper
  so : SOp
  i : Nat
  anc : Nat
  tmps : List Nat

/-- How a region stands: slots, heap, what was made or written, what was looked at. -/
structure DSt where
  T : Tr AV
  st : St
  news : News
  looked : Looked

def blockOf : Option AV → Option Nat
  | some (.ptr b _) => some b
  | some (.slice b _ _ _ _) => some b
  | some (.map b) => some b
  | _ => none

def touchB : Option Nat → Touch
  | some b => .block b
  | none => .nothing

def touchOf (so : SOp) (T : Tr AV) : Touch :=
  match so with
  | .pure _ => .nothing
  | .pick _ => .nothing
  | .make _ => .nothing
  | .read x _ => touchB (blockOf (x T))
  | .act true x _ => touchB (blockOf (x T))
  | _ => .all

def quietSo : SOp → Bool
  | .defer _ => false
  | .recover => false
  | _ => true

def hitB (b : Nat) : Touch → Bool
  | .nothing => false
  | .block c => Nat.beq b c
  | .all => true

/-- Was a block made or written by an operation that is not before this one? -/
def hiddenB (anc b : Nat) : News → Bool
  | [] => false
  | p :: l => bif Nat.beq p.2 b && !(Nat.testBit anc p.1) then true else hiddenB anc b l

def hideAll (anc : Nat) : News → Tr AObj → Tr AObj
  | [], h => h
  | p :: l, h => hideAll anc l (bif Nat.testBit anc p.1 then h else h.set p.2 none)

/-- What an operation sees of the heap. -/
def subHeap (anc : Nat) (news : News) (h : Tr AObj) : Touch → Tr AObj
  | .nothing => .nil
  | .block b => bif hiddenB anc b news then .nil else Tr.set .nil b (h.get b)
  | .all => hideAll anc news h

/-- Some slots alone. -/
def pickT (T : Tr AV) : List Nat → Tr AV → Tr AV
  | [], t => t
  | i :: l, t => pickT T l (t.set i (T.get i))

/-- The value alone. -/
def oneT (v : AV) : Tr AV := .node .nil (some v) .nil

def K0 : KCl := ⟨fun _ fr _ v s => .one ⟨.normal, fr, oneT v, s⟩⟩

def drawGot (tch : Touch) : Out → Option (Touch × AV × St)
  | .one ⟨.normal, _, .node .nil (some v) .nil, s⟩ => some (tch, v, s)
  | _ => none

def St.sub (s : St) (h : Tr AObj) : St := { next := s.next, bound := s.next, log := [], heap := h }

def drawGo (ev : Ev) (fr : Fr) (d : DOp) (q : DSt) (T : Tr AV) : Option (Touch × AV × St) :=
  bif quietSo d.so then drawGot (touchOf d.so T) ((stepC E d.so K0).run ev fr T (q.st.sub (subHeap d.anc q.news q.st.heap (touchOf d.so T)))) else none

/-- The run of one operation for itself: what it may have looked at, its value, its heap. -/
def drawRun (ops : List Oper) (ev : Ev) (fr : Fr) (d : DOp) (q : DSt) : Option (Touch × AV × St) :=
  match d.o.guard with
  | none => drawGo E ev fr d q (pickT q.T d.tmps .nil)
  | some g => (wantedC ops g q.T).bind fun t => bif t then drawGo E ev fr d q (pickT q.T d.tmps .nil) else some (.nothing, .tuple [], q.st.sub .nil)

def newL (b : Nat) : Nat → List Nat
  | 0 => []
  | n + 1 => b :: newL (b + 1) n

def copyAll (h' : Tr AObj) : List Nat → Tr AObj → Tr AObj
  | [], h => h
  | b :: l, h => copyAll h' l (h.set b (h'.get b))

def tagL (i : Nat) (news : News) : List Nat → News
  | [] => news
  | b :: l => (i, b) :: tagL i news l

/-- None of those that came first, and may come behind, looked at a block, or what it is now would have done as well. -/
def freeOf (anc b n : Nat) (o : Option AObj) : Looked → Bool
  | [] => true
  | p :: l => bif Nat.testBit anc p.1 then freeOf anc b n o l else bif hitB b p.2.1 then p.2.2 n o && freeOf anc b n o l else freeOf anc b n o l

/-- May some blocks be written? -/
def mayWrite (anc next n : Nat) (h : Tr AObj) (q : DSt) : List Nat → Bool
  | [] => true
  | b :: l => Nat.blt b next && !(hiddenB anc b q.news) && freeOf anc b n (h.get b) q.looked && mayWrite anc next n h q l

def eqU (a b : AV) : Bool := eqAV a b || sameV a (some b)

def reads1 (v : AV) : Option AV → Bool
  | some u => eqU u v
  | none => false

/-- Would an operation that looked at a block have read the same of another one? -/
def reOf (d : DOp) (q : DSt) (r : Touch × AV × St) : Nat → Option AObj → Bool :=
  match d.so, r.1 with
  | .read _ f, .block b => fun n o => reads1 r.2.1 (f (pickT q.T d.tmps .nil) { next := n, bound := n, log := [], heap := Tr.set .nil b o }) && underV q.st.next 40 r.2.1
  | _, _ => fun _ _ => false

/-- The region behind an operation. -/
def drawPut (nt : Nat) (d : DOp) (q : DSt) (r : Touch × AV × St) : Option DSt :=
  bif Nat.ble q.st.next r.2.2.next && mayWrite d.anc q.st.next r.2.2.next r.2.2.heap q r.2.2.log then
    (putC d.o.dst nt r.2.1 q.T).bind fun T =>
      some { T, st := { next := r.2.2.next, bound := q.st.bound, log := below q.st.bound r.2.2.log q.st.log,
                        heap := copyAll r.2.2.heap (newL q.st.next (r.2.2.next - q.st.next)) (copyAll r.2.2.heap r.2.2.log q.st.heap) },
             news := tagL d.i (tagL d.i q.news (newL q.st.next (r.2.2.next - q.st.next))) r.2.2.log, looked := (d.i, r.1, reOf d q r) :: q.looked }
  else none

def drawAll (ops : List Oper) (ev : Ev) (fr : Fr) : List DOp → DSt → Option DSt
  | [], q => some q
  | d :: l, q => (drawRun E ops ev fr d q).bind fun r => (drawPut fr.nt d q r).bind fun q' => drawAll ops ev fr l q'

def drawOut (fr : Fr) : Option DSt → Out
  | some q => .one ⟨.normal, fr, q.T, q.st⟩
  | none => .stuck

/-! A panic ends such a region: what it need not come behind has made and written nothing. -/

def panGot : Out → Option (AV × St)
  | .one ⟨.panic v, _, _, s⟩ => some (v, s)
  | _ => none

/-- A call that panics: the panic, the heap then. -/
def panGo (ev : Ev) (fr : Fr) (d : DOp) (q : DSt) (T : Tr AV) : Option (AV × St) :=
  match d.so with
  | .call _ => panGot ((stepC E d.so K0).run ev fr T (q.st.sub (subHeap d.anc q.news q.st.heap .all)))
  | .callV _ _ => panGot ((stepC E d.so K0).run ev fr T (q.st.sub (subHeap d.anc q.news q.st.heap .all)))
  | _ => none

def panRun (ops : List Oper) (ev : Ev) (fr : Fr) (d : DOp) (q : DSt) : Option (AV × St) :=
  match d.o.guard with
  | none => panGo E ev fr d q (pickT q.T d.tmps .nil)
  | some g => (wantedC ops g q.T).bind fun t => bif t then panGo E ev fr d q (pickT q.T d.tmps .nil) else none

def isNilL : List Nat → Bool
  | [] => true
  | _ :: _ => false

/-- Behind a panic of operation p: what may come before it is carried out, and makes and writes nothing. -/
def restAll (ops : List Oper) (ev : Ev) (fr : Fr) (p : Nat) : List DOp → DSt → Option DSt
  | [], q => some q
  | d :: l, q => bif Nat.testBit d.anc p then (drawPut fr.nt d q (.nothing, .tuple [], q.st.sub .nil)).bind fun q' => restAll ops ev fr p l q'
    else (drawRun E ops ev fr d q).bind fun r => bif Nat.beq r.2.2.next q.st.next && isNilL r.2.2.log then (drawPut fr.nt d q r).bind fun q' => restAll ops ev fr p l q' else none

def allAnc (anc : Nat) : News → Bool
  | [] => true
  | p :: l => Nat.testBit anc p.1 && allAnc anc l

/-- The slots that no operation fills. -/
def clearT : List Oper → Tr AV → Tr AV
  | [], T => T
  | o :: l, T => match o.dst with
    | some d => clearT l (Tr.setP none (pathOf d) T)
    | none => clearT l T

def panOut (fr : Fr) (T : Tr AV) (v : AV) : Option DSt → Out
  | some q => .one ⟨.panic v, fr, T, q.st⟩
  | none => .stuck

def panEnd (ops : List Oper) (ev : Ev) (fr : Fr) (T0 : Tr AV) (d : DOp) (l : List DOp) (q : DSt) : Option (AV × St) → Out
  | some p => bif allAnc d.anc q.news then panOut fr (clearT ops T0) p.1 ((drawPut fr.nt d q (.all, .tuple [], p.2)).bind (restAll E ops ev fr d.i l)) else .stuck
  | none => .stuck

def drawRest (ops : List Oper) (ev : Ev) (fr : Fr) (T0 : Tr AV) : List DOp → DSt → Out
  | [], q => .one ⟨.normal, fr, q.T, q.st⟩
  | d :: l, q => match drawRun E ops ev fr d q with
    | some r => match drawPut fr.nt d q r with
      | some q' => drawRest ops ev fr T0 l q'
      | none => .stuck
    | none => panEnd E ops ev fr T0 d l q (panRun E ops ev fr d q)

def befores (ops : List Oper) : List Nat := (Region.before ops.toArray).toList

def tmpsOf : List Operand → List Nat
  | [] => []
  | .tmp t :: l => t :: tmpsOf l
  | _ :: l => tmpsOf l

def planD (bs : List Nat) : List Oper → Nat → List DOp
  | [], _ => []
  | o :: l, i => { o, so := opC E o.type o.op, i, anc := (nth bs i).getD 0, tmps := tmpsOf o.op.operands.toList } :: planD bs l (i + 1)

def dstIs (t : Nat) (o : Oper) : Bool := match o.dst with
  | some d => Nat.beq d t
  | none => false

/-- A slot that operation i reads is written by no operation that may come before or behind it. -/
def slotOk (bs : List Nat) (i anc t : Nat) : List Oper → Nat → Bool
  | [], _ => true
  | o :: l, j => (Nat.beq i j || !(dstIs t o) || Nat.testBit anc j || Nat.testBit ((nth bs j).getD 0) i) && slotOk bs i anc t l (j + 1)

def slotsOk (ops : List Oper) (bs : List Nat) (i anc : Nat) : List Nat → Bool
  | [] => true
  | t :: l => slotOk bs i anc t ops 0 && slotsOk ops bs i anc l

def noDst (d : Nat) : List Oper → Bool
  | [] => true
  | o :: l => !(dstIs d o) && noDst d l

/-- Edges lead back, but for those that the compiler alone has. -/
def backEdges (i : Nat) : List Edge → Bool
  | [] => true
  | e :: l => (match e.ground with | .gcOnly _ => true | _ => Nat.blt e.on i) && backEdges i l

def hasGcE : List Edge → Bool
  | [] => false
  | e :: l => match e.ground with | .gcOnly _ => true | _ => hasGcE l

def hasGc : List Oper → Bool
  | [] => false
  | o :: l => bif hasGcE o.after.toList then true else hasGc l

def posIn (i : Nat) : List Nat → Nat
  | [] => 0
  | a :: l => bif Nat.beq a i then 0 else posIn i l + 1

def gcEdges (n : Nat) (topo : List Nat) (i : Nat) : List Edge → Bool
  | [] => true
  | e :: l => (!(Region.binds .gc e) || (Nat.blt e.on n && Nat.blt (posIn e.on topo) (posIn i topo))) && gcEdges n topo i l

/-- The order of a list is one of the compiler's. -/
def gcAll (n : Nat) (topo : List Nat) : List Oper → Nat → Bool
  | [], _ => true
  | o :: l, i => gcEdges n topo i o.after.toList && gcAll n topo l (i + 1)

def opOk (ops : List Oper) (bs : List Nat) (i : Nat) (o : Oper) (rest : List Oper) : Bool :=
  let anc := (nth bs i).getD 0
  slotsOk ops bs i anc (tmpsOf o.op.operands.toList) && backEdges i o.after.toList &&
  (match o.dst with | some d => noDst d rest | none => true) && (match o.guard with | some (j, _) => Nat.testBit anc j | none => true)

def regionOk (ops : List Oper) (bs : List Nat) : List Oper → Nat → Bool
  | [], _ => true
  | o :: l, i => opOk ops bs i o l && regionOk ops bs l (i + 1)

def drawOk (ops : List Oper) : Bool :=
  regionOk ops (befores ops) ops 0 && bif hasGc ops then gcAll (len' ops) (Region.linearise .gc ops.toArray 0) ops 0 else true

def drawnC (ops : List Oper) (ds : List DOp) : Cl :=
  bif drawOk ops then ⟨fun ev fr T s => drawRest E ops ev fr T ds { T, st := s, news := [], looked := [] }⟩ else ⟨fun _ _ _ _ => .stuck⟩

def regionC (ops : List Oper) (draw : Bool) : Cl :=
  bif draw then drawnC E ops (planD E (befores ops) ops 0) else runC E ops ops

def condOut (a b : Run) (fr : Fr) (T : Tr AV) (s : St) : Option AV → Out
  | some (.bool t) => bif t then a fr T s else b fr T s
  | _ => .stuck

def seqK (k : Run) (r : Res) : Out :=
  match r.ex with
  | .normal => k r.fr r.T r.st
  | _ => .one r

def blockK (id : Nat) (r : Res) : Out :=
  match r.ex with
  | .exit i => bif Nat.beq i id then .one ⟨.normal, r.fr, r.T, r.st⟩ else .one r
  | _ => .one r

def rangeEnd3 (fr : Fr) (T : Tr AV) (s : St) : Option Code → Out
  | none => .one ⟨.normal, fr, T, s⟩
  | some .ret => .one ⟨.ret, fr, T, s⟩
  | some (.exit id) => .one ⟨.exit id, fr, T, s⟩
  | some _ => .stuck

def rangeEnd2 (l : Nat) (fr : Fr) (T : Tr AV) (s : St) : Option AObj → Out
  | some (.loop lp) => match lp.state with
    | .busy => .stuck
    | _ => rangeEnd3 fr T (s.put l (some (.loop { lp with state := .exhausted }))) lp.pending
  | _ => .stuck

def rangeOver (ev : Ev) (params : List Nat) (assign body : Code) (fr : Fr) (T : Tr AV) (s : St) : AV → Out
  | .func (.func g) first captured => match fr.round with
    | none =>
      let s1 := s.alloc (.defs true)
      let s2 := s1.alloc (.loop { state := .ready, pending := none, fn := 0, nt := fr.nt, tmps := T, params, assign, body })
      let fr' : Fr := { fr with defers := { target := .collected s.next, args := [] } :: fr.defers }
      bif hasBody E g then crOut fr' T s2 (fun _ s3 => rangeEnd2 s1.next fr' T s3 (s3.heap.get s1.next)) (callF E ev g (first ++ [.func (.yield s1.next) [] []] ++ captured) s2) else .stuck
    | some _ => .stuck
  | _ => .stuck

def rangeOut (ev : Ev) (params : List Nat) (assign body : Code) (fr : Fr) (T : Tr AV) (s : St) : Option AV → Out
  | some v => rangeOver E ev params assign body fr T s v
  | none => .stuck

/-- Code, made ready: a round of a loop, and a call, go by the machine that is handed in. -/
def codeC : Code → Cl
  | .skip => doneC
  | .label _ => doneC
  | .region _ ops draw => regionC E ops.toList draw
  | .seq a b => let ka := codeC a; let kb := codeC b
    ⟨fun ev fr T s => (ka.run ev fr T s).then (seqK (kb.run ev))⟩
  | .cond x a b => let ka := codeC a; let kb := codeC b
    ⟨fun ev fr T s => condOut (ka.run ev) (kb.run ev) fr T s (opnd E x T)⟩
  | .block id body => let k := codeC body
    ⟨fun ev fr T s => (k.run ev fr T s).then (blockK id)⟩
  | .loop body => let k := codeC body
    ⟨fun ev fr T s => (k.run ev fr T s).then (seqK (ev (.loop body)))⟩
  | .scope body => codeC body
  | .exit id => ⟨fun _ fr T s => .one ⟨.exit id, fr, T, s⟩⟩
  | .ret => ⟨fun _ fr T s => .one ⟨.ret, fr, T, s⟩⟩
  | .rangeFunc f params assign body => ⟨fun ev fr T s => rangeOut E ev params.toList assign body fr T s (opnd E f T)⟩
  | .goto _ => ⟨fun _ _ _ _ => .stuck⟩
  | .refuse _ => ⟨fun _ _ _ _ => .stuck⟩

def ev (n : Nat) : Ev := Nat.rec (fun _ _ _ _ => .stuck) (fun _ ih c => (codeC E c).run ih) n

def call (n : Nat) (f : FuncId) (args : List AV) (s : St) : Option CR := callF E (ev E n) f args s

end run
end
end Am

/- The abstract machine: its trees and its lists, as plain laws. -/
namespace Am

/-! ### Trees -/

def Path.dec : Path → Nat
  | .here => 0
  | .lft p => 2 * p.dec + 1
  | .rgt p => 2 * p.dec + 2

theorem dec_pathF : ∀ (n k : Nat), k ≤ n → (pathF n k).dec = k
  | 0, k, h => by
    have : k = 0 := by omega
    subst this; rfl
  | n + 1, k, h => by
    unfold pathF
    cases hk : Nat.beq k 0 with
    | true =>
      have := Nat.eq_of_beq_eq_true hk
      subst this; rfl
    | false =>
      have hne : k ≠ 0 := Nat.ne_of_beq_eq_false hk
      simp only [cond_false]
      cases ho : Nat.beq (k % 2) 1 with
      | true =>
        have := Nat.eq_of_beq_eq_true ho
        simp only [cond_true, Path.dec, dec_pathF n (k / 2) (by omega)]
        omega
      | false =>
        have := Nat.ne_of_beq_eq_false ho
        simp only [cond_false, Path.dec, dec_pathF n (k / 2 - 1) (by omega)]
        omega

theorem pathOf_inj {a b : Nat} (h : pathOf a = pathOf b) : a = b := by
  have ha := dec_pathF a a (Nat.le_refl a)
  have hb := dec_pathF b b (Nat.le_refl b)
  unfold pathOf at h
  rw [← ha, h, hb]

section tree
variable {α : Type}

@[simp] theorem getP_nil (p : Path) : Tr.getP p (.nil : Tr α) = none := by cases p <;> rfl
@[simp] theorem getP_here (l r : Tr α) (v : Option α) : Tr.getP .here (.node l v r) = v := rfl
@[simp] theorem getP_lft (p : Path) (l r : Tr α) (v : Option α) : Tr.getP (.lft p) (.node l v r) = Tr.getP p l := rfl
@[simp] theorem getP_rgt (p : Path) (l r : Tr α) (v : Option α) : Tr.getP (.rgt p) (.node l v r) = Tr.getP p r := rfl
@[simp] theorem setP_here_nil (x : Option α) : Tr.setP x .here (.nil : Tr α) = .node .nil x .nil := rfl
@[simp] theorem setP_here (x v : Option α) (l r : Tr α) : Tr.setP x .here (.node l v r) = .node l x r := rfl
@[simp] theorem setP_lft_nil (x : Option α) (p : Path) : Tr.setP x (.lft p) (.nil : Tr α) = .node (Tr.setP x p .nil) none .nil := rfl
@[simp] theorem setP_lft (x v : Option α) (p : Path) (l r : Tr α) : Tr.setP x (.lft p) (.node l v r) = .node (Tr.setP x p l) v r := rfl
@[simp] theorem setP_rgt_nil (x : Option α) (p : Path) : Tr.setP x (.rgt p) (.nil : Tr α) = .node .nil none (Tr.setP x p .nil) := rfl
@[simp] theorem setP_rgt (x v : Option α) (p : Path) (l r : Tr α) : Tr.setP x (.rgt p) (.node l v r) = .node l v (Tr.setP x p r) := rfl

theorem getP_setP_same (x : Option α) : ∀ (p : Path) (t : Tr α), Tr.getP p (Tr.setP x p t) = x
  | .here, .nil => rfl
  | .here, .node _ _ _ => rfl
  | .lft p, .nil => getP_setP_same x p .nil
  | .lft p, .node l _ _ => getP_setP_same x p l
  | .rgt p, .nil => getP_setP_same x p .nil
  | .rgt p, .node _ _ r => getP_setP_same x p r

theorem getP_setP_ne (x : Option α) : ∀ (p q : Path) (t : Tr α), p ≠ q → Tr.getP p (Tr.setP x q t) = Tr.getP p t
  | .here, .here, _, h => absurd rfl h
  | .here, .lft _, .nil, _ => rfl
  | .here, .lft _, .node _ _ _, _ => rfl
  | .here, .rgt _, .nil, _ => rfl
  | .here, .rgt _, .node _ _ _, _ => rfl
  | .lft p, .here, .nil, _ => by simp
  | .lft _, .here, .node _ _ _, _ => rfl
  | .lft p, .lft q, .nil, h => by simpa using getP_setP_ne x p q .nil (fun e => h (e ▸ rfl))
  | .lft p, .lft q, .node l _ _, h => getP_setP_ne x p q l (fun e => h (e ▸ rfl))
  | .lft p, .rgt q, .nil, _ => by simp
  | .lft _, .rgt _, .node _ _ _, _ => rfl
  | .rgt p, .here, .nil, _ => by simp
  | .rgt _, .here, .node _ _ _, _ => rfl
  | .rgt p, .lft q, .nil, _ => by simp
  | .rgt _, .lft _, .node _ _ _, _ => rfl
  | .rgt p, .rgt q, .nil, h => by simpa using getP_setP_ne x p q .nil (fun e => h (e ▸ rfl))
  | .rgt p, .rgt q, .node _ _ r, h => getP_setP_ne x p q r (fun e => h (e ▸ rfl))

theorem get_set_same (t : Tr α) (k : Nat) (x : Option α) : (t.set k x).get k = x := getP_setP_same x _ t
theorem get_set_ne (t : Tr α) (j k : Nat) (x : Option α) (h : j ≠ k) : (t.set k x).get j = t.get j :=
  getP_setP_ne x _ _ t (fun e => h (pathOf_inj e))
theorem get_set (t : Tr α) (j k : Nat) (x : Option α) : (t.set k x).get j = if j = k then x else t.get j := by
  split
  · next h => subst h; exact get_set_same t j x
  · next h => exact get_set_ne t j k x h
@[simp] theorem get_nil (k : Nat) : (.nil : Tr α).get k = none := getP_nil _
end tree

/-! ### Lists -/
section lists
variable {α β : Type}

@[simp] theorem len'_eq (l : List α) : len' l = l.length := by
  induction l with
  | nil => rfl
  | cons a l ih => show len' l + 1 = _; rw [ih]; rfl

theorem consO_some {a : α} {o : Option (List α)} {r : List α} (h : consO a o = some r) : ∃ l, o = some l ∧ r = a :: l := by
  cases o with
  | none => cases h
  | some l => exact ⟨l, rfl, (Option.some.inj h).symm⟩

theorem takeN_some : ∀ {n : Nat} {l r : List α}, takeN n l = some r → ∃ post, l = r ++ post ∧ r.length = n
  | 0, l, r, h => by
    obtain rfl : [] = r := Option.some.inj h
    exact ⟨l, rfl, rfl⟩
  | n + 1, [], r, h => by cases h
  | n + 1, a :: l, r, h => by
    obtain ⟨q, hq, rfl⟩ := consO_some (show consO a (takeN n l) = some r from h)
    obtain ⟨post, rfl, hl⟩ := takeN_some hq
    exact ⟨post, rfl, by simp [hl]⟩

theorem takeN_append : ∀ (r post : List α), takeN r.length (r ++ post) = some r
  | [], _ => rfl
  | a :: r, post => by
    show consO a (takeN r.length (r ++ post)) = _
    rw [takeN_append r post]; rfl

theorem dropN_some : ∀ {n : Nat} {l r : List α}, dropN n l = some r → ∃ pre, l = pre ++ r ∧ pre.length = n
  | 0, l, r, h => ⟨[], by simpa using Option.some.inj h, rfl⟩
  | n + 1, [], r, h => by cases h
  | n + 1, a :: l, r, h => by
    obtain ⟨pre, rfl, hl⟩ := dropN_some (show dropN n l = some r from h)
    exact ⟨a :: pre, rfl, by simp [hl]⟩

theorem dropN_append : ∀ (pre r : List α), dropN pre.length (pre ++ r) = some r
  | [], _ => rfl
  | _ :: pre, r => dropN_append pre r

theorem overHead_some : ∀ {vs l r : List α}, overHead vs l = some r → ∃ mid post, l = mid ++ post ∧ mid.length = vs.length ∧ r = vs ++ post
  | [], l, r, h => ⟨[], l, rfl, rfl, (Option.some.inj h).symm⟩
  | v :: vs, [], r, h => by cases h
  | v :: vs, a :: l, r, h => by
    obtain ⟨q, hq, rfl⟩ := consO_some (show consO v (overHead vs l) = some r from h)
    obtain ⟨mid, post, rfl, hl, rfl⟩ := overHead_some hq
    exact ⟨a :: mid, post, rfl, by simp [hl], rfl⟩

theorem over_some : ∀ {k : Nat} {vs l r : List α}, over vs k l = some r →
    ∃ pre mid post, l = pre ++ mid ++ post ∧ pre.length = k ∧ mid.length = vs.length ∧ r = pre ++ vs ++ post
  | 0, vs, l, r, h => by
    obtain ⟨mid, post, rfl, hl, rfl⟩ := overHead_some (show overHead vs l = some r from h)
    exact ⟨[], mid, post, by simp, rfl, hl, by simp⟩
  | k + 1, vs, [], r, h => by cases h
  | k + 1, vs, a :: l, r, h => by
    obtain ⟨q, hq, rfl⟩ := consO_some (show consO a (over vs k l) = some r from h)
    obtain ⟨pre, mid, post, rfl, hp, hm, rfl⟩ := over_some hq
    exact ⟨a :: pre, mid, post, by simp, by simp [hp], hm, by simp⟩

theorem nth_eq : ∀ (l : List α) (n : Nat), nth l n = l[n]?
  | [], n => by simp [nth]
  | a :: l, 0 => rfl
  | a :: l, n + 1 => by
    rw [List.getElem?_cons_succ]
    exact nth_eq l n

theorem cut_some {l r : List α} {lo n : Nat} (h : cut l lo n = some r) : ∃ pre post, l = pre ++ r ++ post ∧ pre.length = lo ∧ r.length = n := by
  unfold cut at h
  obtain ⟨q, hq, ht⟩ := Option.bind_eq_some_iff.1 h
  obtain ⟨pre, rfl, hp⟩ := dropN_some hq
  obtain ⟨post, rfl, hr⟩ := takeN_some ht
  exact ⟨pre, post, by simp, hp, hr⟩

theorem mapO_cons {f : α → Option β} {a : α} {l : List α} {r : List β} (h : mapO f (a :: l) = some r) :
    ∃ b bs, f a = some b ∧ mapO f l = some bs ∧ r = b :: bs := by
  have h' : consOO (f a) (mapO f l) = some r := h
  cases ha : f a with
  | none => rw [ha] at h'; cases hb : mapO f l <;> rw [hb] at h' <;> cases h'
  | some b =>
    rw [ha] at h'
    cases hb : mapO f l with
    | none => rw [hb] at h'; cases h'
    | some bs => rw [hb] at h'; exact ⟨b, bs, rfl, rfl, (Option.some.inj h').symm⟩

end lists

/-! ### Trees out of lists -/
section tables
variable {α : Type}

theorem evens_get : ∀ (l : List α) (k : Nat), (evens l)[k]? = l[2 * k]?
  | [], k => by simp [evens]
  | [a], k => by cases k with
    | zero => rfl
    | succ k => simp [evens]
  | a :: b :: l, 0 => rfl
  | a :: b :: l, k + 1 => by
    show (a :: evens l)[k + 1]? = _
    have h2 : 2 * (k + 1) = 2 * k + 1 + 1 := by omega
    rw [h2]
    simpa using evens_get l k

theorem evens_length (l : List α) : (evens l).length = (l.length + 1) / 2 := by
  match l with
  | [] => simp [evens]
  | [a] => simp [evens]
  | a :: b :: l =>
    show (evens l).length + 1 = _
    rw [evens_length l]; simp; omega

theorem trOf_get : ∀ (n : Nat) (l : List α) (k : Nat), l.length ≤ n → Tr.getP (pathF k k) (trOf n l) = l[k]? := by
  have key : ∀ (n : Nat) (l : List α) (m k : Nat), l.length ≤ n → k ≤ m → Tr.getP (pathF m k) (trOf n l) = l[k]? := by
    intro n
    induction n with
    | zero =>
      intro l m k hl _
      have : l = [] := List.eq_nil_of_length_eq_zero (by omega)
      subst this; simp [trOf]
    | succ n ih =>
      intro l m k hl hk
      cases l with
      | nil => simp [trOf]
      | cons a l =>
        have hl' : l.length ≤ n := by simpa using hl
        have h1 : (evens l).length ≤ n := by rw [evens_length]; omega
        have h2 : (evens l.tail).length ≤ n := by rw [evens_length]; simp; omega
        cases m with
        | zero =>
          have : k = 0 := by omega
          subst this; rfl
        | succ m =>
          show Tr.getP (pathF (m + 1) k) (.node (trOf n (evens l)) (some a) (trOf n (evens l.tail))) = _
          unfold pathF
          cases hk0 : Nat.beq k 0 with
          | true =>
            have := Nat.eq_of_beq_eq_true hk0
            subst this; rfl
          | false =>
            have hne : k ≠ 0 := Nat.ne_of_beq_eq_false hk0
            simp only [cond_false]
            cases ho : Nat.beq (k % 2) 1 with
            | true =>
              have := Nat.eq_of_beq_eq_true ho
              simp only [cond_true, getP_lft]
              rw [ih (evens l) m (k / 2) h1 (by omega), evens_get]
              have : k = 2 * (k / 2) + 1 := by omega
              conv => rhs; rw [this]
              simp
            | false =>
              have := Nat.ne_of_beq_eq_false ho
              simp only [cond_false, getP_rgt]
              rw [ih (evens l.tail) m (k / 2 - 1) h2 (by omega), evens_get]
              have : k = 2 * (k / 2 - 1) + 1 + 1 := by omega
              conv => rhs; rw [this]
              cases l <;> simp
  exact fun n l k hl => key n l k k hl (Nat.le_refl k)

theorem trOf_get' (n : Nat) (l : List α) (k : Nat) (hl : l.length ≤ n) : (trOf n l).get k = l[k]? := trOf_get n l k hl
end tables
end Am

/- The abstract machine: how its values, blocks and heaps stand for the model's. -/
namespace Am
open Go

/-- Where a block of the machine's lies: the model's block, the first cell, how many cells the block has. -/
structure Pl where
  blk : Nat
  base : Nat
  size : Nat

/-- Where blocks lie; what memory that nobody writes holds; which blocks' numbers are good; the stamps of maps' entries, and which of these numbers are good; which of the model's blocks there surely are. -/
structure Cx where
  pl : Nat → Pl
  M : Nat → Option (List Value)
  D : Nat → Prop
  gh : Nat → Nat → Nat
  G : Nat → Nat → Prop
  X : Nat → Prop

/-- An address, if there is one, of a block that is there. -/
def AtX (C : Cx) (a : Option Addr) : Prop := ∀ ad, a = some ad → C.X ad.block

def Cx.bare (C : Cx) : Cx := { C with D := fun _ => False, G := fun _ _ => False }

/-- A list lies in another one from a place on. -/
def IsAt {α : Type} (ms : List α) (off : Nat) (vs : List α) : Prop := ∃ pre post, ms = pre ++ vs ++ post ∧ pre.length = off

def CapR (C : Cx) (b off sz : Nat) : Option Nat → Nat → Prop
  | some n, c => c = n ∧ 0 < n
  | none, c => (C.pl b).base + off + c * sz = (C.pl b).size ∧ 0 < sz

def Cells (cs : List AV) : Prop := ∀ v ∈ cs, v.isCell = true

mutual
inductive VR : Cx → AV → Value → Prop where
  | bool {C : Cx} (b : Bool) : VR C (.bool b) (.bool b)
  | int {C : Cx} (k : IntKind) (n : Int) : VR C (.int k n) (.int k n)
  | str {C : Cx} {l : List UInt8} {s : ByteArray} (h : s.data.toList = l) : VR C (.str l) (.string s)
  | nilptr {C : Cx} : VR C .nilptr (.pointer none)
  | ptr {C : Cx} {b off : Nat} (h : C.D b) : VR C (.ptr b off) (.pointer (some ⟨(C.pl b).blk, (C.pl b).base + off, none⟩))
  | iptr {C : Cx} {blk off : Nat} {cs : List AV} {ms vs : List Value} (hm : C.M blk = some ms) (ha : IsAt ms off vs) (hv : VRs C cs vs) (hcs : Cells cs) :
      VR C (.iptr cs) (.pointer (some ⟨blk, off, none⟩))
  | nilslice {C : Cx} (a : Option Addr) (hx : AtX C a) : VR C .nilslice (.slice a 0 0)
  | slice {C : Cx} {b off len sz : Nat} {cap : Option Nat} {c : Nat} (h : C.D b) (hc : CapR C b off sz cap c) (hlc : len ≤ c) :
      VR C (.slice b off len sz cap) (.slice (some ⟨(C.pl b).blk, (C.pl b).base + off, none⟩) len c)
  | slice0 {C : Cx} {b off sz : Nat} {a : Addr} {c : Nat} (hx : C.X a.block) (h : C.D b) (hc : c = 0 ∨ (a = ⟨(C.pl b).blk, (C.pl b).base + off, none⟩ ∧ (C.pl b).base + off + c * sz = (C.pl b).size ∧ 0 < sz)) :
      VR C (.slice b off 0 sz (some 0)) (.slice (some a) 0 c)
  | islice0 {C : Cx} {sz : Nat} {cl : Bool} {len c : Nat} (a : Option Addr) (h : len * sz = 0) (hlc : len ≤ c) : VR C (.islice [] len sz cl) (.slice a len c)
  | islice {C : Cx} {blk off len sz c : Nat} {cl : Bool} {cs : List AV} {ms vs : List Value} (hl : cs.length = len * sz) (hm : C.M blk = some ms) (ha : IsAt ms off vs)
      (hv : VRs C cs vs) (hc : cl = true → VRs C.bare cs vs) (hcs : Cells cs) (hlc : len ≤ c) : VR C (.islice cs len sz cl) (.slice (some ⟨blk, off, none⟩) len c)
  | nilmap {C : Cx} : VR C .nilmap (.map none)
  | map {C : Cx} {b : Nat} (h : C.D b) : VR C (.map b) (.map (some (C.pl b).blk))
  | stamp {C : Cx} {b n : Nat} (h : C.G b n) : VR C (.stamp b n) (.int .i64 (C.gh b n))
  | junk {C : Cx} (p : Option Addr) : VR C .junk (.pointer p)
  | any {C : Cx} (x : Value) (h : x.cells = #[x] ∧ x.oneCell' = true) : VR C .any x
  | func {C : Cx} {fn : Fn} {a b : List AV} {x y : Array Value} (hf : ∀ l, fn ≠ .yield l) (ha : VRs C a x.toList) (hb : VRs C b y.toList) : VR C (.func fn a b) (.func fn x y)
  | yield {C : Cx} {l : Nat} (h : C.D l) : VR C (.func (.yield l) [] []) (.func (.yield (C.pl l).blk) #[] #[])
  | nilfunc {C : Cx} : VR C .nilfunc .nilFunc
  | iface {C : Cx} {t : TypeId} {v : AV} {x : Value} (h : VR C v x) : VR C (.iface t v) (.iface t x)
  | niliface {C : Cx} : VR C .niliface .nilIface
  | agg {C : Cx} {cs : List AV} {x : Array Value} (h : VRs C cs x.toList) (hcs : Cells cs) : VR C (.agg cs) (.agg x)
  | tuple {C : Cx} {cs : List AV} {x : Array Value} (h : VRs C cs x.toList) : VR C (.tuple cs) (.tuple x)
inductive VRs : Cx → List AV → List Value → Prop where
  | nil {C : Cx} : VRs C [] []
  | cons {C : Cx} {v : AV} {x : Value} {vs : List AV} {xs : List Value} (h : VR C v x) (t : VRs C vs xs) : VRs C (v :: vs) (x :: xs)
end

/-- More is known. -/
structure Ext (C C' : Cx) : Prop where
  D : ∀ b, C.D b → C'.D b
  pl : ∀ b, C.D b → C'.pl b = C.pl b
  M : ∀ b ms, C.M b = some ms → C'.M b = some ms
  G : ∀ b n, C.G b n → C'.G b n
  gh : ∀ b n, C.G b n → C'.gh b n = C.gh b n
  X : ∀ b, C.X b → C'.X b

theorem Ext.refl (C : Cx) : Ext C C := ⟨fun _ h => h, fun _ _ => rfl, fun _ _ h => h, fun _ _ h => h, fun _ _ _ => rfl, fun _ h => h⟩
theorem Ext.trans {A B C : Cx} (h : Ext A B) (g : Ext B C) : Ext A C :=
  ⟨fun b x => g.D b (h.D b x), fun b x => (g.pl b (h.D b x)).trans (h.pl b x), fun b ms x => g.M b ms (h.M b ms x), fun b n x => g.G b n (h.G b n x),
    fun b n x => (g.gh b n (h.G b n x)).trans (h.gh b n x), fun b x => g.X b (h.X b x)⟩
theorem Ext.bare {C C' : Cx} (h : Ext C C') : Ext C.bare C'.bare := ⟨fun _ x => x.elim, fun _ x => x.elim, h.M, fun _ _ x => x.elim, fun _ _ x => x.elim, h.X⟩
theorem Ext.of_bare (C : Cx) : Ext C.bare C := ⟨fun _ x => x.elim, fun _ x => x.elim, fun _ _ h => h, fun _ _ x => x.elim, fun _ _ x => x.elim, fun _ h => h⟩
theorem AtX.mono {C C' : Cx} (e : Ext C C') {a : Option Addr} (h : AtX C a) : AtX C' a := fun ad x => e.X _ (h ad x)
theorem AtX.none {C : Cx} : AtX C none := fun _ x => by cases x
theorem AtX.some {C : Cx} {a : Addr} (h : C.X a.block) : AtX C (some a) := fun _ x => by cases x; exact h

mutual
theorem VR.mono {C C' : Cx} (e : Ext C C') : ∀ {v : AV} {x : Value}, VR C v x → VR C' v x
  | _, _, .bool b => .bool b
  | _, _, .int k n => .int k n
  | _, _, .str h => .str h
  | _, _, .nilptr => .nilptr
  | _, _, .ptr (b := b) (off := off) h => by rw [← e.pl b h]; exact .ptr (e.D _ h)
  | _, _, .iptr hm ha hv hcs => .iptr (e.M _ _ hm) ha (VRs.mono e hv) hcs
  | _, _, .nilslice a hx => .nilslice a (hx.mono e)
  | _, _, .slice (b := b) (cap := cap) h hc hlc => by
    rw [← e.pl b h]
    refine .slice (e.D _ h) ?_ hlc
    cases cap with
    | some n => exact hc
    | none => simpa [CapR, e.pl b h] using hc
  | _, _, .slice0 (b := b) hx h hc => .slice0 (e.X _ hx) (e.D _ h) (by rw [e.pl b h]; exact hc)
  | _, _, .islice0 a h hlc => .islice0 a h hlc
  | _, _, .islice hl hm ha hv hc hcs hlc => .islice hl (e.M _ _ hm) ha (VRs.mono e hv) (fun x => VRs.mono e.bare (hc x)) hcs hlc
  | _, _, .nilmap => .nilmap
  | _, _, .map (b := b) h => by rw [← e.pl b h]; exact .map (e.D _ h)
  | _, _, .stamp (b := b) (n := n) h => by rw [← e.gh b n h]; exact .stamp (e.G _ _ h)
  | _, _, .junk p => .junk p
  | _, _, .any x h => .any x h
  | _, _, .func hf ha hb => .func hf (VRs.mono e ha) (VRs.mono e hb)
  | _, _, .yield (l := l) h => by rw [← e.pl l h]; exact .yield (e.D _ h)
  | _, _, .nilfunc => .nilfunc
  | _, _, .iface h => .iface (VR.mono e h)
  | _, _, .niliface => .niliface
  | _, _, .agg h hcs => .agg (VRs.mono e h) hcs
  | _, _, .tuple h => .tuple (VRs.mono e h)
theorem VRs.mono {C C' : Cx} (e : Ext C C') : ∀ {v : List AV} {x : List Value}, VRs C v x → VRs C' v x
  | _, _, .nil => .nil
  | _, _, .cons h t => .cons (VR.mono e h) (VRs.mono e t)
end

theorem VRs.length {C : Cx} : ∀ {v : List AV} {x : List Value}, VRs C v x → x.length = v.length
  | _, _, .nil => rfl
  | _, _, .cons _ t => by simp [VRs.length t]

theorem VRs.append {C : Cx} : ∀ {a : List AV} {x : List Value} {b : List AV} {y : List Value}, VRs C a x → VRs C b y → VRs C (a ++ b) (x ++ y)
  | _, _, _, _, .nil, g => g
  | _, _, _, _, .cons h t, g => .cons h (VRs.append t g)

theorem VRs.split {C : Cx} : ∀ {a b : List AV} {x : List Value}, VRs C (a ++ b) x → ∃ y z, x = y ++ z ∧ VRs C a y ∧ VRs C b z
  | [], _, x, h => ⟨[], x, rfl, .nil, h⟩
  | _ :: _, _, _, .cons h t => by
    obtain ⟨y, z, rfl, h1, h2⟩ := VRs.split t
    exact ⟨_ :: y, z, rfl, .cons h h1, h2⟩

theorem VRs.get {C : Cx} : ∀ {a : List AV} {x : List Value} {i : Nat} {v : AV}, VRs C a x → a[i]? = some v → ∃ y, x[i]? = some y ∧ VR C v y
  | _, _, i, _, .nil, h => by simp at h
  | _, _, 0, _, .cons h _, e => by
    simp at e; subst e; exact ⟨_, rfl, h⟩
  | _, _, i + 1, _, .cons _ t, e => by
    obtain ⟨y, hy, h⟩ := VRs.get t (by simpa using e)
    exact ⟨y, by simpa using hy, h⟩

theorem VRs.one {C : Cx} {v : AV} {x : Value} (h : VR C v x) : VRs C [v] [x] := .cons h .nil

/-- The parts of a list that lies somewhere. -/
theorem IsAt.mid {α : Type} {ms : List α} {off : Nat} {a b c : List α} (h : IsAt ms off (a ++ b ++ c)) : IsAt ms (off + a.length) b := by
  obtain ⟨pre, post, rfl, rfl⟩ := h
  exact ⟨pre ++ a, c ++ post, by simp, by simp⟩
theorem IsAt.left {α : Type} {ms : List α} {off : Nat} {a b : List α} (h : IsAt ms off (a ++ b)) : IsAt ms off a := by
  obtain ⟨pre, post, rfl, rfl⟩ := h
  exact ⟨pre, b ++ post, by simp, rfl⟩
theorem IsAt.right {α : Type} {ms : List α} {off : Nat} {a b : List α} (h : IsAt ms off (a ++ b)) : IsAt ms (off + a.length) b := by
  obtain ⟨pre, post, rfl, rfl⟩ := h
  exact ⟨pre ++ a, post, by simp, by simp⟩
theorem IsAt.get {α : Type} {ms : List α} {off : Nat} {vs : List α} (h : IsAt ms off vs) (i : Nat) (hi : i < vs.length) : ms[off + i]? = vs[i]? := by
  obtain ⟨pre, post, rfl, rfl⟩ := h
  rw [List.append_assoc, List.getElem?_append_right (by omega), List.getElem?_append_left (by omega)]
  congr 1; omega
theorem IsAt.le {α : Type} {ms : List α} {off : Nat} {vs : List α} (h : IsAt ms off vs) : off + vs.length ≤ ms.length := by
  obtain ⟨pre, post, rfl, rfl⟩ := h
  simp
theorem IsAt.whole {α : Type} (vs : List α) : IsAt vs 0 vs := ⟨[], [], by simp, rfl⟩

/-- A value that bears no block's number stands for the same whatever the blocks are. -/
theorem closed_bare : ∀ (n : Nat) {C : Cx} {v : AV} {x : Value}, VR C v x → closedV n v = true → VR C.bare v x := by
  intro n
  induction n with
  | zero => intro C v x _ h; simp [closedV] at h
  | succ n ih =>
    have many : ∀ {C : Cx} {l : List AV} {xs : List Value}, VRs C l xs → l.all (closedV n) = true → VRs C.bare l xs := by
      intro C l
      induction l with
      | nil => intro xs h _; cases h; exact .nil
      | cons a l il =>
        intro xs h hc
        cases h with
        | cons h t =>
          simp only [List.all_cons, Bool.and_eq_true] at hc
          exact .cons (ih h hc.1) (il t hc.2)
    intro C v x h hc
    cases h with
    | bool b => exact .bool b
    | int k m => exact .int k m
    | str h => exact .str h
    | nilptr => exact .nilptr
    | ptr h => simp [closedV] at hc
    | iptr hm ha hv hcs => exact .iptr hm ha (many hv (by simpa [closedV] using hc)) hcs
    | nilslice a hx => exact .nilslice a hx
    | slice h hcap hlc => simp [closedV] at hc
    | slice0 hx h hcap => simp [closedV] at hc
    | islice0 a h hlc => exact .islice0 a h hlc
    | islice hl hm ha hv hcl hcs hlc =>
      have : _ = true := (by simpa [closedV] using hc)
      exact .islice hl hm ha (hcl this) (fun _ => hcl this) hcs hlc
    | nilmap => exact .nilmap
    | map h => simp [closedV] at hc
    | stamp h => simp [closedV] at hc
    | junk p => exact .junk p
    | any x h => exact .any x h
    | func hf ha hb =>
      rename_i fn a b x y
      cases fn with
      | yield l => exact absurd rfl (hf l)
      | func f => simp only [closedV, Bool.and_eq_true] at hc; exact .func hf (many ha hc.1) (many hb hc.2)
      | method m => simp only [closedV, Bool.and_eq_true] at hc; exact .func hf (many ha hc.1) (many hb hc.2)
      | methodOf t m => simp only [closedV, Bool.and_eq_true] at hc; exact .func hf (many ha hc.1) (many hb hc.2)
      | via t p f q => simp only [closedV, Bool.and_eq_true] at hc; exact .func hf (many ha hc.1) (many hb hc.2)
    | yield h => simp [closedV] at hc
    | nilfunc => exact .nilfunc
    | iface h => exact .iface (ih h (by simpa [closedV] using hc))
    | niliface => exact .niliface
    | agg h hcs => exact .agg (many h (by simpa [closedV] using hc)) hcs
    | tuple h => exact .tuple (many h (by simpa [closedV] using hc))

theorem closeds_bare (n : Nat) {C : Cx} : ∀ {l : List AV} {xs : List Value}, VRs C l xs → l.all (closedV n) = true → VRs C.bare l xs
  | _, _, .nil, _ => .nil
  | _, _, .cons h t, hc => by
    simp only [List.all_cons, Bool.and_eq_true] at hc
    exact .cons (closed_bare n h hc.1) (closeds_bare n t hc.2)

/-! ### Blocks and heaps -/

/-- Slots. -/
def TR (C : Cx) (nt : Nat) (T : Tr AV) (a : Array Value) : Prop :=
  a.size = nt ∧ ∀ i v, T.get i = some v → ∃ x, a[i]? = some x ∧ VR C v x

/-- Entries of a map (whose number is b). -/
inductive EntsR (C : Cx) (b : Nat) : List Ent → List MapEntry → Prop where
  | nil : EntsR C b [] []
  | cons {k v : AV} {n : Nat} {e : MapEntry} {l : List Ent} {es : List MapEntry} (hk : VR C k e.key) (hv : VR C v e.val) (hg : C.G b n) (hn : e.born = C.gh b n) (t : EntsR C b l es) :
      EntsR C b ((k, v, n) :: l) (e :: es)

/-- The keys of a map are plain, and no two are equal. -/
def Keys (l : List Ent) : Prop := (∀ e ∈ l, keyOk e.1 = true) ∧ (l.map (·.1)).Nodup

/-- A block stands for one of the model's. -/
inductive OR (C : Cx) (b : Nat) : AObj → Obj → Prop where
  | cells {cs : List AV} {t : TypeId} {part : Bool} {c : Array Value} {fr : Nat × Nat} {vs : List Value} (hv : VRs C cs vs) (ha : IsAt c.toList (C.pl b).base vs) (hs : c.size = (C.pl b).size)
      (hcs : Cells cs) (hf : c.size ≤ fr.1 ∨ fr.2 ≤ fr.1) (hp : part = false → (C.pl b).base = 0 ∧ cs.length = c.size ∧ fr = (0, 0)) : OR C b (.cells cs t part) (.cells c t fr)
  | map {es : List Ent} {clock : Nat} {arr : Array MapEntry} {l : List MapEntry} (hp : l.Perm arr.toList) (h : EntsR C b es l) (hk : Keys es) (hn : (l.map (·.born)).Nodup)
      (hc : ∀ n, C.G b n → C.gh b n < clock) (hg : ∀ n, C.G b n → n < clock) (hi : ∀ n m, C.G b n → C.G b m → C.gh b n = C.gh b m → n = m) : OR C b (.map es clock) (.map arr clock)
  | siter {l : List UInt8} {s : ByteArray} {pos : Nat} (h : s.data.toList = l) (hb : (C.pl b).base = 0) : OR C b (.siter l pos) (.stringIter s pos)
  | miter0 {since stepped : Nat} {seen : List Nat} {arr : Array Nat} (hb : (C.pl b).base = 0) : OR C b (.miter none since seen stepped) (.mapIter none since arr stepped)
  | miter {m since stepped : Nat} {seen : List Nat} {arr : Array Nat} (hd : C.D m) (hg : ∀ n ∈ seen, C.G m n) (h : arr.toList = seen.map (C.gh m)) (hb : (C.pl b).base = 0) :
      OR C b (.miter (some m) since seen stepped) (.mapIter (some (C.pl m).blk) since arr stepped)
  | loop {lp : ALoop} {L : Loop} (hs : L.state = lp.state) (hp : L.pending = lp.pending) (ht : TR C lp.nt lp.tmps L.tmps) (hps : L.params.toList = lp.params)
      (ha : L.assign = lp.assign) (hb : L.body = lp.body) : OR C b (.loop lp) (.loop L)
  | defs : OR C b (.defs true) (.deferred (some []))
  | undefs : OR C b (.defs false) (.deferred none)

theorem TR.mono {C C' : Cx} (e : Ext C C') {nt : Nat} {T : Tr AV} {a : Array Value} (h : TR C nt T a) : TR C' nt T a :=
  ⟨h.1, fun i v hi => let ⟨x, hx, hv⟩ := h.2 i v hi; ⟨x, hx, hv.mono e⟩⟩

theorem EntsR.mono {C C' : Cx} (e : Ext C C') {b : Nat} {l : List Ent} {es : List MapEntry} (h : EntsR C b l es) : EntsR C' b l es := by
  induction h with
  | nil => exact .nil
  | cons hk hv hg hn _ ih => exact .cons (hk.mono e) (hv.mono e) (e.G _ _ hg) (hn.trans (e.gh _ _ hg).symm) ih

/-- More is known, but of this block: no new stamps. -/
theorem OR.mono {C C' : Cx} (e : Ext C C') {b : Nat} {o : AObj} {x : Obj} (hd : C.D b) (hg : ∀ n, C'.G b n → C.G b n) (h : OR C b o x) : OR C' b o x := by
  have hpl := e.pl b hd
  cases h with
  | cells hv ha hs hcs hf hp => exact .cells (hv.mono e) (by rw [hpl]; exact ha) (by rw [hpl]; exact hs) hcs hf (by rw [hpl]; exact hp)
  | map hp h hk hn hc hg' hi => exact .map hp (h.mono e) hk hn (fun n hn => by rw [e.gh _ _ (hg n hn)]; exact hc n (hg n hn)) (fun n hn => hg' n (hg n hn)) (fun n m h1 h2 he => hi n m (hg n h1) (hg m h2) (by rw [← e.gh _ _ (hg n h1), ← e.gh _ _ (hg m h2)]; exact he))
  | siter h hb => exact .siter h (by rw [hpl]; exact hb)
  | miter0 hb => exact .miter0 (by rw [hpl]; exact hb)
  | miter hd hg h hb =>
    rw [← e.pl _ hd]
    refine .miter (e.D _ hd) (fun n hn => e.G _ _ (hg n hn)) (h.trans ?_) (by rw [hpl]; exact hb)
    exact List.map_congr_left fun n hn => (e.gh _ _ (hg n hn)).symm
  | loop hs hp ht hps ha hb => exact .loop hs hp (ht.mono e) hps ha hb
  | defs => exact .defs
  | undefs => exact .undefs

/-- A heap of the machine's stands for memory. -/
structure StR (C : Cx) (S : St) (w : World) : Prop where
  live : ∀ b o, S.heap.get b = some o → C.D b ∧ ∃ x, w.heap[(C.pl b).blk]? = some x ∧ OR C b o x
  inj : ∀ b b' o o', S.heap.get b = some o → S.heap.get b' = some o' → (C.pl b).blk = (C.pl b').blk → b = b'
  fresh : ∀ b, C.D b → b < S.next
  imm : ∀ blk ms, C.M blk = some ms → ∃ c e fr, w.heap[blk]? = some (.cells c e fr) ∧ c.toList = ms
  apart : ∀ b o, S.heap.get b = some o → C.M (C.pl b).blk = none
  stamps : ∀ b n, C.G b n → C.D b
  there : ∀ k, C.X k → k < w.heap.size
  knownD : ∀ b, C.D b → C.X (C.pl b).blk
  knownM : ∀ blk ms, C.M blk = some ms → C.X blk

/-- What may have been written: what is in the log, and what its keeper does not mind. -/
def Mind (S : St) (log : List Nat) (b : Nat) : Prop := b ∈ log ∨ S.bound ≤ b

/-- From one heap to another one: what was not touched is as it was. -/
structure Tran (C : Cx) (S : St) (w : World) (C' : Cx) (S' : St) (w' : World) : Prop where
  ext : Ext C C'
  st : StR C' S' w'
  bound : S'.bound = S.bound
  log : ∀ b ∈ S.log, b ∈ S'.log
  next : S.next ≤ S'.next
  size : w.heap.size ≤ w'.heap.size
  frame : ∀ blk, blk < w.heap.size → (∀ b o, S.heap.get b = some o → Mind S S'.log b → (C.pl b).blk ≠ blk) → w'.heap[blk]? = w.heap[blk]?
  kept : ∀ b, C.D b → ¬ Mind S S'.log b → S'.heap.get b = S.heap.get b ∧ ∀ n, C'.G b n → C.G b n
  dnew : ∀ b, C'.D b → C.D b ∨ S.next ≤ b
  own : ∀ b o, S'.heap.get b = some o → (C.D b ∧ ∃ o0, S.heap.get b = some o0) ∨ w.heap.size ≤ (C'.pl b).blk ∨
    ∃ b0 o0, S.heap.get b0 = some o0 ∧ Mind S S'.log b0 ∧ (C.pl b0).blk = (C'.pl b).blk
  mnew : ∀ blk ms, C'.M blk = some ms → C.M blk = some ms ∨ w.heap.size ≤ blk ∨ ∃ b0 o0, S.heap.get b0 = some o0 ∧ Mind S S'.log b0 ∧ (C.pl b0).blk = blk
  misc : w'.tape = w.tape ∧ w'.os = w.os ∧ w'.output = w.output

theorem Tran.refl {C : Cx} {S : St} {w : World} (h : StR C S w) : Tran C S w C S w where
  ext := .refl C
  st := h
  bound := rfl
  log := fun _ h => h
  next := Nat.le_refl _
  size := Nat.le_refl _
  frame := fun _ _ _ => rfl
  kept := fun _ _ _ => ⟨rfl, fun _ h => h⟩
  dnew := fun _ h => .inl h
  own := fun b o hb => .inl ⟨(h.live b o hb).1, o, hb⟩
  mnew := fun _ _ h => .inl h
  misc := ⟨rfl, rfl, rfl⟩

theorem Mind.mono {S : St} {l l' : List Nat} {b : Nat} (h : Mind S l b) (hl : ∀ b ∈ l, b ∈ l') : Mind S l' b := h.imp (hl b) id

theorem Tran.trans {C C₁ C₂ : Cx} {S S₁ S₂ : St} {w w₁ w₂ : World} (h : Tran C S w C₁ S₁ w₁) (g : Tran C₁ S₁ w₁ C₂ S₂ w₂) : Tran C S w C₂ S₂ w₂ where
  ext := h.ext.trans g.ext
  st := g.st
  bound := g.bound.trans h.bound
  log := fun b hb => g.log b (h.log b hb)
  next := Nat.le_trans h.next g.next
  size := Nat.le_trans h.size g.size
  frame := by
    intro blk hblk hn
    have h1 := h.frame blk hblk (fun b o hb hl => hn b o hb (hl.mono g.log))
    rw [← h1]
    refine g.frame blk (Nat.lt_of_lt_of_le hblk h.size) ?_
    intro b o hb hl e
    have hl' : Mind S S₂.log b := hl.imp id (fun x => by rw [h.bound] at x; exact x)
    rcases h.own b o hb with ⟨hd, o0, h0⟩ | hs | ⟨b0, o0, h0, hl0, e0⟩
    · exact hn b o0 h0 hl' (by rw [← h.ext.pl b hd]; exact e)
    · omega
    · exact hn b0 o0 h0 (hl0.mono g.log) (e0.trans e)
  kept := by
    intro b hd hm
    have h1 := h.kept b hd (fun x => hm (x.mono g.log))
    have h2 := g.kept b (h.ext.D b hd) (fun x => hm (x.imp id (fun y => by rw [h.bound] at y; exact y)))
    exact ⟨h2.1.trans h1.1, fun n hn => h1.2 n (h2.2 n hn)⟩
  dnew := by
    intro b hb
    rcases g.dnew b hb with h1 | h1
    · exact h.dnew b h1
    · exact .inr (Nat.le_trans h.next h1)
  own := by
    intro b o hb
    rcases g.own b o hb with ⟨hd, o1, h1⟩ | hs | ⟨b1, o1, h1, hl1, e1⟩
    · rcases h.own b o1 h1 with ⟨hd0, o0, h0⟩ | hs | ⟨b0, o0, h0, hl0, e0⟩
      · exact .inl ⟨hd0, o0, h0⟩
      · exact .inr (.inl (by rw [g.ext.pl b hd]; exact hs))
      · exact .inr (.inr ⟨b0, o0, h0, hl0.mono g.log, by rw [g.ext.pl b hd]; exact e0⟩)
    · exact .inr (.inl (Nat.le_trans h.size hs))
    · have hl1' : Mind S S₂.log b1 := hl1.imp id (fun x => by rw [h.bound] at x; exact x)
      rcases h.own b1 o1 h1 with ⟨hd0, o0, h0⟩ | hs | ⟨b0, o0, h0, hl0, e0⟩
      · exact .inr (.inr ⟨b1, o0, h0, hl1', by rw [← e1, h.ext.pl b1 hd0]⟩)
      · exact .inr (.inl (by rw [← e1]; exact hs))
      · exact .inr (.inr ⟨b0, o0, h0, hl0.mono g.log, e0.trans e1⟩)
  mnew := by
    intro blk ms hm
    rcases g.mnew blk ms hm with h1 | hs | ⟨b1, o1, h1, hl1, e1⟩
    · rcases h.mnew blk ms h1 with h0 | hs | ⟨b0, o0, h0, hl0, e0⟩
      · exact .inl h0
      · exact .inr (.inl hs)
      · exact .inr (.inr ⟨b0, o0, h0, hl0.mono g.log, e0⟩)
    · exact .inr (.inl (Nat.le_trans h.size hs))
    · have hl1' : Mind S S₂.log b1 := hl1.imp id (fun x => by rw [h.bound] at x; exact x)
      rcases h.own b1 o1 h1 with ⟨hd0, o0, h0⟩ | hs | ⟨b0, o0, h0, hl0, e0⟩
      · exact .inr (.inr ⟨b1, o0, h0, hl1', by rw [← e1, h.ext.pl b1 hd0]⟩)
      · exact .inr (.inl (by rw [← e1]; exact hs))
      · exact .inr (.inr ⟨b0, o0, h0, hl0.mono g.log, e0.trans e1⟩)
  misc := ⟨g.misc.1.trans h.misc.1, g.misc.2.1.trans h.misc.2.1, g.misc.2.2.trans h.misc.2.2⟩

theorem StR.rebound {C : Cx} {S : St} {w : World} (h : StR C S w) (n : Nat) (l : List Nat) : StR C { S with bound := n, log := l } w :=
  ⟨h.live, h.inj, h.fresh, h.imm, h.apart, h.stamps, h.there, h.knownD, h.knownM⟩

theorem below_mem {n : Nat} : ∀ {a l : List Nat} {b : Nat}, (b ∈ a ∧ b < n) ∨ b ∈ l → b ∈ below n a l
  | [], l, b, h => by
    rcases h with ⟨h, _⟩ | h
    · cases h
    · exact h
  | c :: a, l, b, h => by
    unfold below
    cases hc : Nat.blt c n with
    | true =>
      rcases h with ⟨h, hn⟩ | h
      · rcases List.mem_cons.1 h with rfl | h
        · exact List.mem_cons_self ..
        · exact List.mem_cons_of_mem _ (below_mem (.inl ⟨h, hn⟩))
      · exact List.mem_cons_of_mem _ (below_mem (.inr h))
    | false =>
      have hcn : ¬ c < n := fun x => by
        have : Nat.blt c n = true := by simpa [Nat.blt_eq] using x
        rw [this] at hc; cases hc
      rcases h with ⟨h, hn⟩ | h
      · rcases List.mem_cons.1 h with rfl | h
        · exact absurd hn hcn
        · exact below_mem (.inl ⟨h, hn⟩)
      · exact below_mem (.inr h)

/-- The keeper minded everything for a while; back to what it minded before. -/
theorem Tran.back {C C' : Cx} {S S' : St} {w w' : World} (hS : StR C S w) (h : Tran C S.enter w C' S' w') : Tran C S w C' (S.back S') w' where
  ext := h.ext
  st := h.st.rebound _ _
  bound := rfl
  log := fun b hb => below_mem (.inr hb)
  next := h.next
  size := h.size
  frame := fun blk hb hn => h.frame blk hb (fun b o hbo hm => hn b o hbo (by
    have hlt := hS.fresh b (hS.live b o hbo).1
    rcases hm with hm | hm
    · rcases Nat.lt_or_ge b S.bound with hlb | hlb
      · exact .inl (below_mem (.inl ⟨hm, hlb⟩))
      · exact .inr hlb
    · have : S.next ≤ b := hm
      omega))
  kept := fun b hd hm => h.kept b hd (fun x => hm (by
    have hlt := hS.fresh b hd
    rcases x with x | x
    · rcases Nat.lt_or_ge b S.bound with hlb | hlb
      · exact .inl (below_mem (.inl ⟨x, hlb⟩))
      · exact .inr hlb
    · have : S.next ≤ b := x
      omega))
  dnew := h.dnew
  own := fun b o hb => (h.own b o hb).imp id (Or.imp id fun ⟨b0, o0, h0, hm, e⟩ => ⟨b0, o0, h0, by
    have hlt := hS.fresh b0 (hS.live b0 o0 h0).1
    rcases hm with hm | hm
    · rcases Nat.lt_or_ge b0 S.bound with hlb | hlb
      · exact .inl (below_mem (.inl ⟨hm, hlb⟩))
      · exact .inr hlb
    · have : S.next ≤ b0 := hm
      omega, e⟩)
  mnew := fun blk ms hm' => (h.mnew blk ms hm').imp id (Or.imp id fun ⟨b0, o0, h0, hm, e⟩ => ⟨b0, o0, h0, by
    have hlt := hS.fresh b0 (hS.live b0 o0 h0).1
    rcases hm with hm | hm
    · rcases Nat.lt_or_ge b0 S.bound with hlb | hlb
      · exact .inl (below_mem (.inl ⟨hm, hlb⟩))
      · exact .inr hlb
    · have : S.next ≤ b0 := hm
      omega, e⟩)
  misc := h.misc

theorem lt_of_get {w : World} {blk : Nat} {x : Obj} (h : w.heap[blk]? = some x) : blk < w.heap.size := by
  rcases Nat.lt_or_ge blk w.heap.size with h' | h'
  · exact h'
  · rw [Array.getElem?_eq_none h'] at h; cases h

/-- The context, knowing more of memory that nobody writes. -/
def Cx.withM (C C' : Cx) : Cx := { C with M := C'.M, X := C'.X }

/-- Nothing that was there has been written: what is new is forgotten. -/
theorem Tran.forget {C C' : Cx} {S S' : St} {w w' : World} (hS : StR C S w) (h : Tran C S.enter w C' S' w') (hl : S'.log = []) : Tran C S w (C.withM C') S w' := by
  have hno : ∀ b o, S.heap.get b = some o → ¬ Mind S.enter S'.log b := by
    intro b o hb hm
    have hlt := hS.fresh b (hS.live b o hb).1
    rcases hm with hm | hm
    · rw [hl] at hm; cases hm
    · have : S.next ≤ b := hm
      omega
  have hun : ∀ blk, blk < w.heap.size → w'.heap[blk]? = w.heap[blk]? := fun blk hb => h.frame blk hb (fun b o hbo hm => absurd hm (hno b o hbo))
  have e : Ext C (C.withM C') := ⟨fun _ h => h, fun _ _ => rfl, h.ext.M, fun _ _ h => h, fun _ _ _ => rfl, h.ext.X⟩
  refine ⟨e, ?_, rfl, fun _ h => h, Nat.le_refl _, h.size, fun blk hb _ => hun blk hb, fun _ _ _ => ⟨rfl, fun _ h => h⟩, fun _ h => .inl h, fun b o hb => .inl ⟨(hS.live b o hb).1, o, hb⟩, ?_, h.misc⟩
  · refine ⟨?_, hS.inj, hS.fresh, h.st.imm, ?_, hS.stamps, h.st.there, fun b hd => h.ext.X _ (hS.knownD b hd), h.st.knownM⟩
    · intro b o hb
      obtain ⟨hd, x, hx, hr⟩ := hS.live b o hb
      exact ⟨hd, x, by rw [← hx]; exact hun _ (lt_of_get hx), hr.mono e hd (fun _ h => h)⟩
    · intro b o hb
      obtain ⟨hd, x, hx, hr⟩ := hS.live b o hb
      cases hm : C'.M (C.pl b).blk with
      | none => exact hm
      | some ms =>
        exfalso
        rcases h.mnew _ _ hm with h1 | h1 | ⟨b0, o0, h0, hl0, _⟩
        · rw [hS.apart b o hb] at h1; cases h1
        · have := lt_of_get hx; omega
        · exact hno b0 o0 h0 hl0
  · intro blk ms hm
    rcases h.mnew blk ms hm with h1 | h1 | ⟨b0, o0, h0, hl0, _⟩
    · exact .inl h1
    · exact .inr (.inl h1)
    · exact absurd hl0 (hno b0 o0 h0)
end Am

/- The abstract machine: what the model's small programs do to memory that stands for the machine's heap. -/
namespace Am
open Go

theorem add_none (blk off n : Nat) : (⟨blk, off, none⟩ : Addr).add n = ⟨blk, off + n, none⟩ := by
  unfold Addr.add
  split
  · next h => subst h; rfl
  · rfl

/-- The program's tables, as the machine has them. -/
structure EnvOk (E : Env) (P : Program) : Prop where
  ty : ∀ t i, E.tys.get t = some i → P.info? t = some i
  fn : ∀ f fn, E.fns.get f = some fn → P.funcs[f]? = some fn
  /-- Structs are not those of packages that the model stands in for. -/
  flat : ∀ t, E.plain t = true → P.stoodInHeld t = false
  /-- No function asks how many goroutines there are. -/
  lone : ∀ f fn, E.fns.get f = some fn → (fn.name == "runtime.NumGoroutine") = false
  /-- What is not carried out has a body all the same. -/
  prim : ∀ f g, E.prim f = some g → ∃ fn b, P.funcs[f]? = some fn ∧ fn.body = some b ∧ (fn.name == "runtime.NumGoroutine") = false

theorem und_ok {E : Env} {P : Program} (h : EnvOk E P) {t : TypeId} {d : TypeDesc} (e : und E t = some d) : P.underlying t = some d := by
  unfold und at e
  cases hi : E.tys.get t with
  | none => rw [hi] at e; cases e
  | some i =>
    rw [hi] at e
    have hp := h.ty t i hi
    unfold Program.underlying
    rw [hp]
    simp only at e
    unfold namedDesc at e
    split at e
    · next n u hd =>
      cases hu : E.tys.get u with
      | none => rw [hu] at e; cases e
      | some j =>
        rw [hu] at e
        have := h.ty u j hu
        obtain ⟨d1, d2, d3, d4, d5, d6, d7, d8, d9, d10⟩ := i
        simp only at hd; subst hd
        simp only [this, Option.map_some]
        exact e
    · next hd =>
      obtain ⟨d1, d2, d3, d4, d5, d6, d7, d8, d9, d10⟩ := i
      cases d1 <;> first | exact e | exact absurd rfl (hd _ _)

theorem run_und {E : Env} {P : Program} (h : EnvOk E P) {t : TypeId} {d : TypeDesc} (e : und E t = some d) (w : World) : (underlying t).run P w = .ok d w :=
  run_underlying (und_ok h e) w

theorem run_tyInfo {E : Env} {P : Program} (h : EnvOk E P) {t : TypeId} {i : TypeInfo} (e : E.tys.get t = some i) (w : World) : (typeInfo t).run P w = .ok i w := by
  simp [typeInfo, h.ty t i e]

theorem run_size {E : Env} {P : Program} (h : EnvOk E P) {t : TypeId} {n : Nat} (e : sizeOf E t = some n) (w : World) : (Go.sizeOf t).run P w = .ok n w := by
  unfold sizeOf at e
  cases hi : E.tys.get t with
  | none => rw [hi] at e; cases e
  | some i => rw [hi] at e; simp [Go.sizeOf, run_tyInfo h hi, Option.some.inj e]

theorem run_bytes {E : Env} {P : Program} (h : EnvOk E P) {t : TypeId} {n : Nat} (e : bytesOf E t = some n) (w : World) :
    ∃ i, (typeInfo t).run P w = .ok i w ∧ i.bytes = n := by
  unfold bytesOf at e
  cases hi : E.tys.get t with
  | none => rw [hi] at e; cases e
  | some i => rw [hi] at e; exact ⟨i, run_tyInfo h hi w, Option.some.inj e⟩

theorem run_agg {E : Env} {P : Program} (h : EnvOk E P) {t : TypeId} {b : Bool} (e : isAgg E t = some b) (w : World) : (Go.isAgg t).run P w = .ok b w := by
  unfold isAgg at e
  split at e
  · next fs hd => cases e; simp [Go.isAgg, run_und h hd]
  · next n x hd => cases e; simp [Go.isAgg, run_und h hd]
  · next d h1 h2 hd =>
    cases e
    simp only [Go.isAgg, Sem.run_bind, run_und h hd, Result.andThen_ok]
    cases d <;> first | rfl | exact absurd rfl (h1 _) | exact absurd rfl (h2 _ _)
  · cases e

/-! ### Constants -/

theorem ofVal1_ok {C : Cx} {v : Value} {x : AV} (h : ofVal1 v = some x) : VR C x v ∧ x.isCell = true := by
  unfold ofVal1 at h
  split at h <;> first | cases h | skip
  · exact ⟨.bool _, rfl⟩
  · exact ⟨.int _ _, rfl⟩
  · exact ⟨.str rfl, rfl⟩
  · exact ⟨.nilptr, rfl⟩
  · exact ⟨.nilslice _ .none, rfl⟩
  · exact ⟨.nilmap, rfl⟩
  · exact ⟨.nilfunc, rfl⟩
  · exact ⟨.niliface, rfl⟩

theorem ofVals_ok {C : Cx} : ∀ {l : List Value} {r : List AV}, mapO ofVal1 l = some r → VRs C r l ∧ Cells r
  | [], r, h => by
    obtain rfl : [] = r := Option.some.inj h
    exact ⟨.nil, fun _ h => by cases h⟩
  | a :: l, r, h => by
    obtain ⟨b, bs, hb, hbs, rfl⟩ := mapO_cons h
    have h1 := ofVal1_ok (C := C) hb
    have h2 := ofVals_ok (C := C) hbs
    exact ⟨.cons h1.1 h2.1, fun v hv => by
      rcases List.mem_cons.1 hv with rfl | hv
      · exact h1.2
      · exact h2.2 v hv⟩

theorem ofVal_ok {C : Cx} {v : Value} {x : AV} (h : ofVal v = some x) : VR C x v := by
  unfold ofVal at h
  split at h
  · next cs =>
    cases hm : mapO ofVal1 cs.toList with
    | none => rw [hm] at h; cases h
    | some l => rw [hm] at h; cases h; exact .agg (ofVals_ok hm).1 (ofVals_ok (C := C) hm).2
  · next cs =>
    cases hm : mapO ofVal1 cs.toList with
    | none => rw [hm] at h; cases h
    | some l => rw [hm] at h; cases h; exact .tuple (ofVals_ok hm).1
  · exact (ofVal1_ok h).1

theorem noTuple_some {o : Option AV} {z : AV} (h : noTuple o = some z) : o = some z ∧ z.isTuple = false := by
  unfold noTuple at h
  split at h
  · cases h
  · next hn =>
    refine ⟨h, ?_⟩
    cases z with
    | tuple vs => exact absurd h (hn vs)
    | _ => rfl

theorem run_zero {E : Env} {P : Program} (h : EnvOk E P) {t : TypeId} {z : AV} (e : zeroOf E t = some z) (w : World) :
    ∃ x, (zeroValue t).run P w = .ok x w ∧ (∀ C, VR C z x) ∧ ∀ i, P.info? t = some i → i.zero = some x := by
  unfold zeroOf at e
  cases hi : E.tys.get t with
  | none => rw [hi] at e; cases e
  | some i =>
    rw [hi] at e
    simp only at e
    cases hz : i.zero with
    | none => rw [hz] at e; cases e
    | some x =>
      rw [hz] at e
      exact ⟨x, by simp [zeroValue, run_tyInfo h hi, hz], fun C => ofVal_ok (noTuple_some e).1, fun j hj => by
        rw [h.ty t i hi] at hj; cases hj; exact hz⟩

theorem zero_noTuple {E : Env} {t : TypeId} {z : AV} (e : zeroOf E t = some z) : z.isTuple = false := by
  unfold zeroOf at e
  cases hi : E.tys.get t with
  | none => rw [hi] at e; cases e
  | some i =>
    rw [hi] at e
    simp only at e
    cases hz : i.zero with
    | none => rw [hz] at e; cases e
    | some x => rw [hz] at e; exact (noTuple_some e).2

/-! ### Cells of values -/

theorem VR.cells {C : Cx} {v : AV} {x : Value} (h : VR C v x) : VRs C v.cells x.cells.toList := by
  cases h <;> first | exact .one (by constructor <;> assumption) | skip
  all_goals first
    | assumption
    | (next h => rw [h.1]; exact .one (.any _ h))
    | (exact .one (.agg ‹_› ‹_›))
    | (exact .one (.tuple ‹_›))
    | (refine .one ?_; first | exact .ptr ‹_› | exact .iptr ‹_› ‹_› ‹_› ‹_› | exact .slice ‹_› ‹_› ‹_› | exact .islice ‹_› ‹_› ‹_› ‹_› ‹_› ‹_› ‹_› | exact .islice0 _ ‹_› ‹_› | exact .func ‹_› ‹_› ‹_›)

theorem VR.cells_cell {C : Cx} {v : AV} {x : Value} (h : VR C v x) (ht : v.isTuple = false) : Cells v.cells := by
  cases h <;> first
    | assumption
    | (intro u hu; simp only [AV.cells, List.mem_singleton] at hu; subst hu; first | rfl | (simp [AV.isTuple] at ht))

/-- A cell of the model's is one: neither a struct nor several values. -/
theorem VR.oneCell {C : Cx} {v : AV} {x : Value} (h : VR C v x) (hc : v.isCell = true) : x.oneCell' = true := by
  cases h <;> first | rfl | (next h => exact h.2) | (simp [AV.isCell] at hc)

/-! ### Reading -/

theorem StR.lt {C : Cx} {S : St} {w : World} (h : StR C S w) {b : Nat} {o : AObj} (hb : S.heap.get b = some o) : (C.pl b).blk < w.heap.size := by
  obtain ⟨_, x, hx, _⟩ := h.live b o hb
  rcases Nat.lt_or_ge (C.pl b).blk w.heap.size with h | h
  · exact h
  · rw [Array.getElem?_eq_none h] at hx; cases hx

theorem cellsOf?_some {o : Option AObj} {cs : List AV} (h : cellsOf? o = some cs) : ∃ t part, o = some (.cells cs t part) := by
  unfold cellsOf? at h
  split at h
  · cases h; exact ⟨_, _, rfl⟩
  · cases h

theorem mapOf?_some {o : Option AObj} {es : List Ent} (h : mapOf? o = some es) : ∃ cl, o = some (.map es cl) := by
  unfold mapOf? at h
  split at h
  · cases h; exact ⟨_, rfl⟩
  · cases h

/-- The cells of a block of the machine's, in memory. -/
theorem StR.cells {C : Cx} {S : St} {w : World} (h : StR C S w) {b : Nat} {cs : List AV} (hb : cellsOf? (S.heap.get b) = some cs) :
    C.D b ∧ ∃ c e fr vs, w.heap[(C.pl b).blk]? = some (.cells c e fr) ∧ VRs C cs vs ∧ IsAt c.toList (C.pl b).base vs ∧ c.size = (C.pl b).size ∧ Cells cs ∧ (c.size ≤ fr.1 ∨ fr.2 ≤ fr.1) := by
  obtain ⟨t, part, hs⟩ := cellsOf?_some hb
  obtain ⟨hd, x, hx, hr⟩ := h.live b _ hs
  cases hr with
  | cells hv ha hsz hcs hf hp => exact ⟨hd, _, _, _, _, hx, hv, ha, hsz, hcs, hf⟩

theorem cell_of {w : World} {blk : Nat} {c : Array Value} {e : TypeId} {fr : Nat × Nat} (h : w.heap[blk]? = some (.cells c e fr)) (off : Nat) :
    w.cell? ⟨blk, off, none⟩ = c[off]? := by simp [World.cell?, h]

/-- Cells that lie at an address. -/
def Here (w : World) (a : Addr) (vs : List Value) : Prop := ∀ j v, vs[j]? = some v → w.cell? (a.add j) = some v

theorem here_of {w : World} {blk off : Nat} {c : Array Value} {e : TypeId} {fr : Nat × Nat} {vs : List Value} (h : w.heap[blk]? = some (.cells c e fr)) (ha : IsAt c.toList off vs) :
    Here w ⟨blk, off, none⟩ vs := by
  intro j v hj
  rw [add_none, cell_of h]
  have hlt : j < vs.length := by
    rcases Nat.lt_or_ge j vs.length with h | h
    · exact h
    · rw [List.getElem?_eq_none h] at hj; cases hj
  have := ha.get j hlt
  rw [← hj, ← this]
  simp

theorem IsAt.sub {α : Type} {ms : List α} {off : Nat} {vs a b c : List α} (h : IsAt ms off vs) (e : vs = a ++ b ++ c) : IsAt ms (off + a.length) b := by
  subst e; exact h.mid

theorem Cells.sub {a b : List AV} (h : Cells (a ++ b)) : Cells a ∧ Cells b :=
  ⟨fun v hv => h v (List.mem_append_left _ hv), fun v hv => h v (List.mem_append_right _ hv)⟩
theorem Cells.append {a b : List AV} (h : Cells a) (g : Cells b) : Cells (a ++ b) := fun v hv => (List.mem_append.1 hv).elim (h v) (g v)

/-- What 'readAt' reads lies at the address. -/
theorem readAt_ok {C : Cx} {S : St} {w : World} (h : StR C S w) {n : Nat} {v : AV} {x : Value} (hv : VR C v x) {l : List AV} (e : readAt S n v = some l) :
    ∃ a vs, x = .pointer (some a) ∧ VRs C l vs ∧ Here w a vs ∧ Cells l ∧ l.length = n := by
  cases hv with
  | ptr hd =>
    simp only [readAt] at e
    obtain ⟨cs, hcs, e1⟩ := Option.bind_eq_some_iff.1 e
    obtain ⟨q, hq, e2⟩ := Option.bind_eq_some_iff.1 e1
    obtain ⟨pre, rfl, hp⟩ := dropN_some hq
    obtain ⟨post, rfl, hl⟩ := takeN_some e2
    obtain ⟨_, c, ty, fr, vs, hx, hvs, ha, hsz, hc, _⟩ := h.cells hcs
    obtain ⟨y, z, rfl, h1, h2⟩ := VRs.split hvs
    obtain ⟨z1, z2, rfl, h3, h4⟩ := VRs.split h2
    refine ⟨_, z1, rfl, h3, here_of hx ?_, (hc.sub.2).sub.1, hl⟩
    have := ha.sub (a := y) (b := z1) (c := z2) (by simp)
    rw [h1.length, hp] at this
    exact this
  | iptr hm ha hvs hc =>
    simp only [readAt] at e
    obtain ⟨post, rfl, hl⟩ := takeN_some e
    obtain ⟨z1, z2, rfl, h3, h4⟩ := VRs.split hvs
    obtain ⟨c, ty, fr, hx, rfl⟩ := h.imm _ _ hm
    exact ⟨_, z1, rfl, h3, here_of hx ha.left, hc.sub.1, hl⟩
  | _ => simp [readAt] at e

theorem run_cells {P : Program} {w : World} {a : Addr} {vs : List Value} (h : Here w a vs) (n : Nat) (hn : vs.length = n) :
    (loadCells a n).run P w = .ok vs.toArray w := by
  subst hn; exact run_loadCells_list w a vs h

theorem run_one {P : Program} {w : World} {a : Addr} {v : Value} (h : Here w a [v]) : (load a).run P w = .ok v w := by
  have := h 0 v rfl
  have ha : a.add 0 = a := by simp [Addr.add]
  rw [ha] at this
  simp [this]

/-- A variable's reading. -/
theorem loadC_ok {E : Env} {P : Program} (he : EnvOk E P) {C : Cx} {S : St} {w : World} (h : StR C S w) {t : TypeId} {v r : AV} {x : Value} (hv : VR C v x)
    (e : loadC E t S v = some r) : ∃ a y, x = .pointer (some a) ∧ (Go.loadVar t a).run P w = .ok y w ∧ VR C r y := by
  unfold loadC at e
  cases h1 : isAgg E t with
  | none => rw [h1] at e; simp at e
  | some b =>
  cases h2 : Am.sizeOf E t with
  | none => rw [h1, h2] at e; cases b <;> simp at e
  | some n =>
  rw [h1, h2] at e
  cases b with
  | true =>
    simp only [loadAgg] at e
    obtain ⟨l, hl, e1⟩ := Option.bind_eq_some_iff.1 e
    cases e1
    obtain ⟨a, vs, rfl, h3, h4, h5, h6⟩ := readAt_ok h hv hl
    refine ⟨a, .agg vs.toArray, rfl, ?_, .agg h3 h5⟩
    simp [Go.loadVar, run_agg he h1, run_size he h2, run_cells h4 n (h3.length.trans h6)]
  | false =>
    simp only [loadOne] at e
    obtain ⟨l, hl, e1⟩ := Option.bind_eq_some_iff.1 e
    obtain ⟨a, vs, rfl, h3, h4, h5, h6⟩ := readAt_ok h hv hl
    unfold oneV at e1
    split at e1
    · next u =>
      cases e1
      cases h3 with
      | cons h7 h8 =>
        cases h8
        exact ⟨a, _, rfl, by simp only [Go.loadVar, Sem.run_bind, run_agg he h1, Result.andThen_ok, Bool.false_eq_true, if_false]; exact run_one h4, h7⟩
    · cases e1

/-! ### Making blocks -/

/-- The context with a new block. -/
def Cx.withBlock (C : Cx) (b : Nat) (p : Pl) : Cx := { C with pl := fun k => if k = b then p else C.pl k, D := fun k => C.D k ∨ k = b, X := fun k => C.X k ∨ k = p.blk }

theorem Ext.withBlock {C : Cx} {b : Nat} {p : Pl} (h : ¬ C.D b) : Ext C (C.withBlock b p) :=
  ⟨fun _ h => .inl h, fun k hk => by
    have : k ≠ b := fun e => h (e ▸ hk)
    simp [Cx.withBlock, this], fun _ _ h => h, fun _ _ h => h, fun _ _ _ => rfl, fun _ h => .inl h⟩

theorem push_get {w : World} {o : Obj} {blk : Nat} {x : Obj} (h : w.heap[blk]? = some x) : (w.heap.push o)[blk]? = some x := by
  have := lt_of_get h
  rw [Array.getElem?_push_lt this, ← h]
  simp [this]

def World.pushed (w : World) (o : Obj) : World := { w with heap := w.heap.push o }

theorem logged_mem (b : Nat) (l : List Nat) : b ∈ logged b l ∧ ∀ k ∈ l, k ∈ logged b l := by
  cases l with
  | nil => simp [logged]
  | cons c l =>
    simp only [logged]
    cases hc : Nat.beq b c with
    | true =>
      have : b = c := Nat.eq_of_beq_eq_true hc
      subst this; simp
    | false => exact ⟨List.mem_cons_self .., fun k hk => List.mem_cons_of_mem _ hk⟩

theorem put_log (S : St) (b : Nat) (o : Option AObj) : Mind S (S.put b o).log b ∧ ∀ k ∈ S.log, k ∈ (S.put b o).log := by
  unfold St.put Mind
  cases hb : Nat.blt b S.bound with
  | true => exact ⟨.inl (logged_mem b _).1, (logged_mem b _).2⟩
  | false => exact ⟨.inr (by
      rcases Nat.lt_or_ge b S.bound with h | h
      · have : Nat.blt b S.bound = true := by simpa [Nat.blt_eq] using h
        rw [this] at hb; cases hb
      · exact h), fun k hk => hk⟩

theorem put_get (S : St) (b k : Nat) (o : Option AObj) : (S.put b o).heap.get k = if k = b then o else S.heap.get k := get_set _ _ _ _
theorem alloc_get (S : St) (k : Nat) (o : AObj) : (S.alloc o).heap.get k = if k = S.next then some o else S.heap.get k := get_set _ _ _ _

/-- A block is made: the machine's is the model's last one. -/
theorem Tran.alloc {C : Cx} {S : St} {w : World} (h : StR C S w) (o : AObj) (x : Obj) (sz : Nat) (hx : OR (C.withBlock S.next ⟨w.heap.size, 0, sz⟩) S.next o x) :
    Tran C S w (C.withBlock S.next ⟨w.heap.size, 0, sz⟩) (S.alloc o) (World.pushed w x) := by
  have hnd : ¬ C.D S.next := fun hd => Nat.lt_irrefl _ (h.fresh _ hd)
  have e := Ext.withBlock (C := C) (p := ⟨w.heap.size, 0, sz⟩) hnd
  have hge := fun k => alloc_get S k o
  refine ⟨e, ⟨?_, ?_, ?_, ?_, ?_, ?_, ?_, ?_, fun blk ms hm => .inl (h.knownM blk ms hm)⟩, rfl, fun _ h => h, Nat.le_succ _, by simp [World.pushed], ?_, ?_, ?_, ?_, fun _ _ h => .inl h, ⟨rfl, rfl, rfl⟩⟩
  · intro b ob hb
    rw [hge] at hb
    split at hb
    · next hbn =>
      subst hbn; cases hb
      refine ⟨.inr rfl, x, ?_, hx⟩
      simp only [Cx.withBlock, if_true, World.pushed]
      exact Array.getElem?_push_size
    · next hbn =>
      obtain ⟨hd, y, hy, hr⟩ := h.live b ob hb
      refine ⟨.inl hd, y, ?_, hr.mono e hd (fun _ h => h)⟩
      simp only [Cx.withBlock, hbn, if_false, World.pushed]; exact push_get hy
  · intro b b' ob ob' hb hb' heq
    rw [hge] at hb hb'
    split at hb
    · next h1 =>
      split at hb'
      · next h2 => rw [h1, h2]
      · next h2 =>
        exfalso
        subst h1
        simp only [Cx.withBlock, if_true, h2, if_false] at heq
        have := h.lt hb'; omega
    · next h1 =>
      split at hb'
      · next h2 =>
        exfalso
        subst h2
        simp only [Cx.withBlock, if_true, h1, if_false] at heq
        have := h.lt hb; omega
      · next h2 =>
        simp only [Cx.withBlock, h1, h2, if_false] at heq
        exact h.inj b b' ob ob' hb hb' heq
  · rintro b (hd | rfl)
    · exact Nat.lt_succ_of_lt (h.fresh b hd)
    · exact Nat.lt_succ_self _
  · intro blk ms hm
    obtain ⟨c, ty, fr, hc, e⟩ := h.imm blk ms hm
    exact ⟨c, ty, fr, push_get hc, e⟩
  · intro b ob hb
    rw [hge] at hb
    split at hb
    · next hbn =>
      subst hbn
      cases hm : C.M w.heap.size with
      | none => simpa [Cx.withBlock] using hm
      | some ms =>
        obtain ⟨c, ty, fr, hc, _⟩ := h.imm _ ms hm
        simp at hc
    · next hbn => simpa [Cx.withBlock, hbn] using h.apart b ob hb
  · exact fun b n hg => .inl (h.stamps b n hg)
  · rintro k (hk | rfl)
    · exact Nat.lt_of_lt_of_le (h.there k hk) (by simp [World.pushed])
    · simp [World.pushed]
  · rintro b (hd | rfl)
    · have : b ≠ S.next := by rintro rfl; exact hnd hd
      exact .inl (by simpa [Cx.withBlock, this] using h.knownD b hd)
    · exact .inr (by simp [Cx.withBlock])
  · intro blk hb _
    show (w.heap.push x)[blk]? = _
    rw [Array.getElem?_push_lt hb]; simp [hb]
  · intro b hd _
    have hne : b ≠ S.next := by rintro rfl; exact hnd hd
    exact ⟨by rw [hge, if_neg hne], fun _ h => h⟩
  · rintro b (hd | rfl)
    · exact .inl hd
    · exact .inr (Nat.le_refl _)
  · intro b ob hb
    rw [hge] at hb
    split at hb
    · next hbn => subst hbn; exact .inr (.inl (by simp [Cx.withBlock]))
    · next hbn => exact .inl ⟨(h.live b ob hb).1, ob, hb⟩

theorem Cx.pl_new (C : Cx) (b : Nat) (p : Pl) : (C.withBlock b p).pl b = p := by simp [Cx.withBlock]
theorem Cx.D_new (C : Cx) (b : Nat) (p : Pl) : (C.withBlock b p).D b := .inr rfl

/-- The world has changed, but nothing that is known of it. -/
theorem Tran.still {C : Cx} {S : St} {w w' : World} (h : StR C S w) (hs : w.heap.size ≤ w'.heap.size) (hk : ∀ blk, blk < w.heap.size → w'.heap[blk]? = w.heap[blk]?)
    (hm : w'.tape = w.tape ∧ w'.os = w.os ∧ w'.output = w.output) : Tran C S w C S w' := by
  refine ⟨.refl C, ⟨?_, h.inj, h.fresh, ?_, h.apart, h.stamps, fun k hk => Nat.lt_of_lt_of_le (h.there k hk) hs, h.knownD, h.knownM⟩, rfl, fun _ h => h, Nat.le_refl _, hs, fun blk hb _ => hk blk hb, fun _ _ _ => ⟨rfl, fun _ h => h⟩, fun _ h => .inl h,
    fun b o hb => .inl ⟨(h.live b o hb).1, o, hb⟩, fun _ _ h => .inl h, hm⟩
  · intro b o hb
    obtain ⟨hd, y, hy, hr⟩ := h.live b o hb
    exact ⟨hd, y, by rw [hk _ (lt_of_get hy)]; exact hy, hr⟩
  · intro blk ms hm
    obtain ⟨c, ty, fr, hc, e⟩ := h.imm blk ms hm
    exact ⟨c, ty, fr, by rw [hk _ (lt_of_get hc)]; exact hc, e⟩

/-- Memory that the machine does not look at is made. -/
theorem Tran.waste {C : Cx} {S : St} {w : World} (h : StR C S w) (x : Obj) : Tran C S w C S (World.pushed w x) :=
  Tran.still h (by simp [World.pushed]) (fun blk hb => by
    show (w.heap.push x)[blk]? = _
    rw [Array.getElem?_push_lt hb]; simp [hb]) ⟨rfl, rfl, rfl⟩

/-- The context in which one block more is there. -/
def Cx.withX (C : Cx) (b : Nat) : Cx := { C with X := fun k => C.X k ∨ k = b }

theorem Ext.withX {C : Cx} {b : Nat} : Ext C (C.withX b) := ⟨fun _ h => h, fun _ _ => rfl, fun _ _ h => h, fun _ _ h => h, fun _ _ _ => rfl, fun _ h => .inl h⟩

theorem Tran.known {C : Cx} {S : St} {w : World} (h : StR C S w) {b : Nat} (hb : b < w.heap.size) : Tran C S w (C.withX b) S w := by
  refine ⟨.withX, ⟨fun k o hk => ?_, h.inj, h.fresh, h.imm, h.apart, h.stamps, fun k hk => hk.elim (h.there k) (fun e => e ▸ hb), fun k hk => .inl (h.knownD k hk), fun k ms hk => .inl (h.knownM k ms hk)⟩, rfl, fun _ h => h, Nat.le_refl _, Nat.le_refl _, fun _ _ _ => rfl, fun _ _ _ => ⟨rfl, fun _ h => h⟩, fun _ h => .inl h,
    fun b o hb => .inl ⟨(h.live b o hb).1, o, hb⟩, fun _ _ h => .inl h, ⟨rfl, rfl, rfl⟩⟩
  obtain ⟨hd, y, hy, hr⟩ := h.live k o hk
  exact ⟨hd, y, hy, hr.mono .withX hd (fun _ h => h)⟩

/-- Memory that the machine does not look at is made, and known to be there. -/
theorem Tran.wasteX {C : Cx} {S : St} {w : World} (h : StR C S w) (x : Obj) : Tran C S w (C.withX w.heap.size) S (World.pushed w x) :=
  (Tran.waste h x).trans (Tran.known (Tran.waste h x).st (by simp [World.pushed]))

/-- The tape alone has moved. -/
theorem Tran.drew {C : Cx} {S : St} {w : World} (h : StR C S w) (n : Nat) : Tran C S w C S { w with drawn := n } :=
  Tran.still h (Nat.le_refl _) (fun _ _ => rfl) ⟨rfl, rfl, rfl⟩

/-! ### Writing blocks -/

def World.setBlk (w : World) (blk : Nat) (o : Obj) : World := { w with heap := w.heap.setIfInBounds blk o }

theorem setBlk_get {w : World} {blk : Nat} {o : Obj} (k : Nat) : (World.setBlk w blk o).heap[k]? = if k = blk then (if blk < w.heap.size then some o else none) else w.heap[k]? := by
  simp only [World.setBlk, Array.getElem?_setIfInBounds]
  split
  · next h => subst h; simp
  · next h => rw [if_neg (fun e => h e.symm)]

/-- A block is written; new stamps may be known of it. -/
theorem Tran.writeG {C C' : Cx} {S : St} {w : World} (h : StR C S w) {b : Nat} {o0 : AObj} (hb0 : S.heap.get b = some o0) (e : Ext C C') (hD : ∀ k, C'.D k → C.D k)
    (hM : C'.M = C.M) (hX : C'.X = C.X) (hG : ∀ k n, C'.G k n → C.G k n ∨ k = b) (o : AObj) (x : Obj) (hx : OR C' b o x) :
    Tran C S w C' (S.put b (some o)) (World.setBlk w (C.pl b).blk x) := by
  have hge := fun k => put_get S b k (some o)
  have hlt := h.lt hb0
  have hd0 := (h.live b o0 hb0).1
  have hG' : ∀ k, k ≠ b → ∀ n, C'.G k n → C.G k n := fun k hk n hg => (hG k n hg).resolve_right hk
  have f : ∀ j oj, (if j = b then some o else S.heap.get j) = some oj → ∃ q, S.heap.get j = some q := by
    intro j oj hj
    split at hj
    · next e => subst e; exact ⟨o0, hb0⟩
    · exact ⟨oj, hj⟩
  refine ⟨e, ⟨?_, ?_, ?_, ?_, ?_, ?_, fun k hk => by simpa [World.setBlk] using h.there k (hX ▸ hk), fun k hk => by rw [e.pl _ (hD k hk), hX]; exact h.knownD k (hD k hk), fun blk ms hm => by rw [hX]; exact h.knownM blk ms (hM ▸ hm)⟩, rfl, (put_log S b _).2, Nat.le_refl _, by simp [World.setBlk], ?_, ?_, fun k hk => .inl (hD k hk), ?_, fun _ _ hm => .inl (hM ▸ hm), ⟨rfl, rfl, rfl⟩⟩
  · intro k ok hk
    rw [hge] at hk
    split at hk
    · next e' => subst e'; cases hk; exact ⟨e.D _ hd0, x, by rw [e.pl _ hd0, setBlk_get]; simp [hlt], hx⟩
    · next e' =>
      obtain ⟨hd, y, hy, hr⟩ := h.live k ok hk
      refine ⟨e.D _ hd, y, ?_, hr.mono e hd (hG' k e')⟩
      rw [e.pl _ hd, setBlk_get, if_neg (fun e'' => e' (h.inj k b ok o0 hk hb0 e''))]; exact hy
  · intro k k' ok ok' hk hk' heq
    rw [hge] at hk hk'
    obtain ⟨q, hq⟩ := f k ok hk
    obtain ⟨q', hq'⟩ := f k' ok' hk'
    rw [e.pl _ (h.live k q hq).1, e.pl _ (h.live k' q' hq').1] at heq
    exact h.inj k k' q q' hq hq' heq
  · exact fun k hk => h.fresh k (hD k hk)
  · intro blk ms hm
    rw [hM] at hm
    obtain ⟨c, ty, fr, hc, e⟩ := h.imm blk ms hm
    refine ⟨c, ty, fr, ?_, e⟩
    rw [setBlk_get, if_neg]; · exact hc
    intro e'
    have := h.apart b o0 hb0
    rw [← e', hm] at this; cases this
  · intro k ok hk
    rw [hge] at hk
    obtain ⟨q, hq⟩ := f k ok hk
    rw [hM, e.pl _ (h.live k q hq).1]; exact h.apart k q hq
  · intro k n hg
    rcases hG k n hg with hg | rfl
    · exact e.D _ (h.stamps k n hg)
    · exact e.D _ hd0
  · intro blk _ hn
    rw [setBlk_get, if_neg]
    intro e
    exact hn b o0 hb0 (put_log S b _).1 e.symm
  · intro k hd hm
    have hk : k ≠ b := by rintro rfl; exact hm (put_log S k _).1
    exact ⟨by rw [hge, if_neg hk], hG' k hk⟩
  · intro k ok hk
    rw [hge] at hk
    obtain ⟨q, hq⟩ := f k ok hk
    exact .inl ⟨(h.live k q hq).1, q, hq⟩

theorem Tran.write {C : Cx} {S : St} {w : World} (h : StR C S w) {b : Nat} {o0 : AObj} (hb0 : S.heap.get b = some o0) (o : AObj) (x : Obj) (hx : OR C b o x) :
    Tran C S w C (S.put b (some o)) (World.setBlk w (C.pl b).blk x) :=
  Tran.writeG h hb0 (.refl C) (fun _ h => h) rfl rfl (fun _ _ h => .inl h) o x hx

/-- A block is given up. -/
theorem Tran.kill {C : Cx} {S : St} {w : World} (h : StR C S w) (b : Nat) : Tran C S w C (S.put b none) w := by
  have hge := fun k => put_get S b k none
  have f : ∀ j oj, (S.put b none).heap.get j = some oj → S.heap.get j = some oj := by
    intro j oj hj
    rw [hge] at hj
    split at hj
    · cases hj
    · exact hj
  exact ⟨.refl C, ⟨fun k ok hk => h.live k ok (f k ok hk), fun k k' ok ok' hk hk' => h.inj k k' ok ok' (f k ok hk) (f k' ok' hk'), h.fresh, h.imm,
    fun k ok hk => h.apart k ok (f k ok hk), h.stamps, h.there, h.knownD, h.knownM⟩, rfl, (put_log S b _).2, Nat.le_refl _, Nat.le_refl _, fun _ _ _ => rfl,
    fun k _ hm => ⟨by
      have hne : k ≠ b := by rintro rfl; exact hm (put_log S k _).1
      rw [hge, if_neg hne], fun _ h => h⟩, fun _ h => .inl h,
    fun k ok hk => .inl ⟨(h.live k ok (f k ok hk)).1, ok, f k ok hk⟩, fun _ _ h => .inl h, ⟨rfl, rfl, rfl⟩⟩
end Am

/- The abstract machine: stores, and what append does. -/
namespace Am
open Go

def putAt (c : Array Value) (k : Nat) : List Value → Array Value
  | [] => c
  | v :: vs => putAt (c.setIfInBounds k v) (k + 1) vs

theorem putAt_size (c : Array Value) (k : Nat) (vs : List Value) : (putAt c k vs).size = c.size := by
  induction vs generalizing c k with
  | nil => rfl
  | cons v vs ih => simp [putAt, ih]

theorem putAt_list : ∀ (vs : List Value) (c : Array Value) (k : Nat) (pre mid post : List Value), c.toList = pre ++ mid ++ post → pre.length = k → mid.length = vs.length →
    (putAt c k vs).toList = pre ++ vs ++ post
  | [], c, k, pre, mid, post, h, _, hm => by
    have : mid = [] := List.eq_nil_of_length_eq_zero hm
    subst this; simpa [putAt] using h
  | v :: vs, c, k, pre, [], post, _, _, hm => by simp at hm
  | v :: vs, c, k, pre, m :: mid, post, h, hk, hm => by
    have ih := putAt_list vs (c.setIfInBounds k v) (k + 1) (pre ++ [v]) mid post (by
      rw [Array.toList_setIfInBounds, h]
      subst hk
      simp) (by simp [hk]) (by simpa using hm)
    simpa [putAt] using ih

theorem modify_eq {w : World} {blk : Nat} {x : Obj} (h : w.heap[blk]? = some x) (f : Obj → Obj) : w.heap.modify blk f = w.heap.setIfInBounds blk (f x) := by
  apply Array.ext_getElem?
  intro i
  rw [Array.getElem?_modify, Array.getElem?_setIfInBounds]
  split
  · next e => subst e; rw [h]; simp; rcases Nat.lt_or_ge blk w.heap.size with h' | h'
              · exact h'
              · rw [Array.getElem?_eq_none h'] at h; cases h
  · rfl

theorem setCell_eq {w : World} {blk off : Nat} {c : Array Value} {e : TypeId} {fr : Nat × Nat} (h : w.heap[blk]? = some (.cells c e fr)) (v : Value) :
    w.setCell ⟨blk, off, none⟩ v = World.setBlk w blk (.cells (c.setIfInBounds off v) e fr) := by
  unfold World.setCell World.setBlk
  rw [modify_eq h]; rfl

theorem setBlk_setBlk (w : World) (blk : Nat) (a b : Obj) : World.setBlk (World.setBlk w blk a) blk b = World.setBlk w blk b := by
  unfold World.setBlk; simp

theorem frozen_no {w : World} {blk off : Nat} {c : Array Value} {e : TypeId} {fr : Nat × Nat} (h : w.heap[blk]? = some (.cells c e fr)) (hf : c.size ≤ fr.1 ∨ fr.2 ≤ fr.1) (ho : off < c.size) :
    w.frozen? ⟨blk, off, none⟩ = false := by
  unfold World.frozen?
  simp only [h]
  obtain ⟨lo, hi⟩ := fr
  simp at hf ⊢
  omega

theorem run_storeCells {P : Program} : ∀ (vs : List Value) {w : World} {blk off i : Nat} {c : Array Value} {e : TypeId} {fr : Nat × Nat}, w.heap[blk]? = some (.cells c e fr) →
    (c.size ≤ fr.1 ∨ fr.2 ≤ fr.1) → off + i + vs.length ≤ c.size → (∀ v ∈ vs, v.oneCell' = true) →
    (storeCells ⟨blk, off, none⟩ vs i).run P w = .ok () (World.setBlk w blk (.cells (putAt c (off + i) vs) e fr))
  | [], w, blk, off, i, c, e, fr, h, _, _, _ => by
    have : World.setBlk w blk (.cells c e fr) = w := by
      unfold World.setBlk
      have : w.heap.setIfInBounds blk (.cells c e fr) = w.heap := by
        apply Array.ext_getElem?
        intro k
        rw [Array.getElem?_setIfInBounds]
        split
        · next e => subst e; rw [h]; simp; rcases Nat.lt_or_ge blk w.heap.size with h' | h'
                    · exact h'
                    · rw [Array.getElem?_eq_none h'] at h; cases h
        · rfl
      rw [this]
    simp [storeCells, putAt, this]
  | v :: vs, w, blk, off, i, c, e, fr, h, hf, hl, ho => by
    have hlt : off + i < c.size := by simp at hl; omega
    have h1 : (store (⟨blk, off + i, none⟩ : Addr) v).run P w = .ok () (World.setBlk w blk (.cells (c.setIfInBounds (off + i) v) e fr)) := by
      rw [run_store P w _ v _ (ho v (List.mem_cons_self ..)), cell_of h]
      simp only [Array.getElem?_eq_getElem hlt, frozen_no h hf hlt]
      rw [setCell_eq h]; rfl
    have hblk : blk < w.heap.size := by
      rcases Nat.lt_or_ge blk w.heap.size with h' | h'
      · exact h'
      · rw [Array.getElem?_eq_none h'] at h; cases h
    have h2 := run_storeCells (P := P) vs (w := World.setBlk w blk (.cells (c.setIfInBounds (off + i) v) e fr)) (blk := blk) (off := off) (i := i + 1) (c := c.setIfInBounds (off + i) v) (e := e) (fr := fr)
      (by rw [setBlk_get]; simp [hblk]) (by simpa using hf) (by simp at hl ⊢; omega) (fun u hu => ho u (List.mem_cons_of_mem _ hu))
    unfold storeCells
    rw [add_none]
    simp only [Sem.run_bind, h1, Result.andThen_ok, h2, setBlk_setBlk]
    rfl

/-- Cells are written into a block of the machine's. -/
theorem write_ok {P : Program} {C : Cx} {S S' : St} {w : World} (h : StR C S w) {b off : Nat} {vs : List AV} {xs : List Value} (hv : VRs C vs xs) (hc : Cells vs)
    (e : writeAt S b off vs = some S') : ∃ w', (storeCells ⟨(C.pl b).blk, (C.pl b).base + off, none⟩ xs).run P w = .ok () w' ∧ Tran C S w C S' w' ∧ C.D b := by
  unfold writeAt at e
  cases hb : S.heap.get b with
  | none => rw [hb] at e; simp [writeIn] at e
  | some ob =>
    rw [hb] at e
    unfold writeIn at e
    split at e
    · next cs t part heq =>
      cases heq
      unfold putCells at e
      split at e
      · next cs' hov =>
        cases e
        obtain ⟨pre, mid, post, rfl, hp, hm, rfl⟩ := over_some hov
        obtain ⟨hd, x, hx, hr⟩ := h.live b _ hb
        cases hr with
        | cells hys ha hsz hcs hf hpt =>
        rename_i c fr ys
        obtain ⟨y, z3, rfl, h1, h4⟩ := VRs.split hys
        obtain ⟨y1, z2, rfl, h2, h3⟩ := VRs.split h1
        obtain ⟨p0, q0, hcl, hp0⟩ := ha
        have hle : (C.pl b).base + off + xs.length ≤ c.size := by
          have := congrArg List.length hcl
          simp at this
          have e1 := h2.length; have e2 := h3.length; have e3 := hv.length
          omega
        have hone : ∀ u ∈ xs, u.oneCell' = true := by
          intro u hu
          obtain ⟨i, hi⟩ := List.getElem?_of_mem hu
          have hil : i < vs.length := by
            have := hv.length
            rcases Nat.lt_or_ge i xs.length with h' | h'
            · omega
            · rw [List.getElem?_eq_none h'] at hi; cases hi
          obtain ⟨y', hy', hr⟩ := hv.get (List.getElem?_eq_getElem hil)
          rw [hi] at hy'; cases hy'
          exact hr.oneCell (hc _ (List.getElem_mem hil))
        refine ⟨_, by simpa using run_storeCells (P := P) xs (i := 0) hx hf (by simpa using hle) hone, ?_, hd⟩
        have hput : (putAt c ((C.pl b).base + off) xs).toList = (p0 ++ y1) ++ xs ++ (z3 ++ q0) := by
          refine putAt_list xs c _ (p0 ++ y1) z2 (z3 ++ q0) (by rw [hcl]; simp) ?_ ?_
          · simp [hp0, h2.length, hp]
          · rw [h3.length, hv.length, hm]
        refine Tran.write h hb _ _ (.cells (vs := y1 ++ xs ++ z3) ?_ ⟨p0, q0, by rw [hput]; simp, hp0⟩ (by rw [putAt_size]; exact hsz) ?_ (by rw [putAt_size]; exact hf) ?_)
        · exact (h2.append hv).append h4
        · exact (hcs.sub.1.sub.1.append hc).append hcs.sub.2
        · intro hpf
          obtain ⟨a1, a2, a3⟩ := hpt hpf
          refine ⟨a1, ?_, a3⟩
          rw [putAt_size, ← a2]
          simp [hm]
      · cases e
    · cases e

/-- A variable is written. -/
theorem storeN_ok {E : Env} {P : Program} (he : EnvOk E P) {C : Cx} {S S' : St} {w : World} (h : StR C S w) {t : TypeId} {n : Nat} (hn : sizeOf E t = some n) {v p : AV} {x px : Value}
    (hv : VR C v x) (hp : VR C p px) (e : storeN n S v p = some S') : ∃ a w', px = .pointer (some a) ∧ (Go.storeVar t a x).run P w = .ok () w' ∧ Tran C S w C S' w' := by
  unfold storeN at e
  split at e
  · next b off =>
    cases hb : (Nat.beq (len' v.cells) n && !v.isTuple) with
    | false => rw [hb] at e; cases e
    | true =>
      rw [hb] at e
      simp only [Bool.and_eq_true, Bool.not_eq_true'] at hb
      have hlen : v.cells.length = n := by have := Nat.eq_of_beq_eq_true hb.1; simpa using this
      cases hp with
      | ptr hd =>
        obtain ⟨w', hw, ht, _⟩ := write_ok (P := P) h hv.cells (hv.cells_cell hb.2) e
        refine ⟨_, w', rfl, ?_, ht⟩
        have : x.cells.size = n := by
          have := hv.cells.length
          simpa [hlen] using this
        simp [Go.storeVar, run_size he hn, this]
        exact hw
  · cases e

/-- A block takes over memory of another one, which is given up. -/
theorem Tran.takeover {C : Cx} {S : St} {w : World} (h : StR C S w) {b : Nat} {o0 : AObj} (hb0 : S.heap.get b = some o0) (o : AObj) (x : Obj) (base sz : Nat)
    (hx : OR (C.withBlock S.next ⟨(C.pl b).blk, base, sz⟩) S.next o x) :
    Tran C S w (C.withBlock S.next ⟨(C.pl b).blk, base, sz⟩) ((S.put b none).alloc o) (World.setBlk w (C.pl b).blk x) := by
  have hnd : ¬ C.D S.next := fun hd => Nat.lt_irrefl _ (h.fresh _ hd)
  have hd0 := (h.live b o0 hb0).1
  have hbn : b ≠ S.next := fun e => hnd (e ▸ hd0)
  have e := Ext.withBlock (C := C) (p := ⟨(C.pl b).blk, base, sz⟩) hnd
  have hlt := h.lt hb0
  have hge : ∀ k, ((S.put b none).alloc o).heap.get k = if k = S.next then some o else if k = b then none else S.heap.get k := by
    intro k
    rw [alloc_get]
    show (if k = S.next then _ else _) = _
    split
    · rfl
    · exact put_get _ _ _ _
  have hold : ∀ k ok, k ≠ S.next → ((S.put b none).alloc o).heap.get k = some ok → k ≠ b ∧ S.heap.get k = some ok := by
    intro k ok hk hg
    rw [hge, if_neg hk] at hg
    split at hg
    · cases hg
    · next h' => exact ⟨h', hg⟩
  have hmind : Mind S ((S.put b none).alloc o).log b := (put_log S b none).1
  refine ⟨e, ⟨?_, ?_, ?_, ?_, ?_, ?_, ?_, ?_, fun blk ms hm => .inl (h.knownM blk ms hm)⟩, rfl, (put_log S b none).2, Nat.le_succ _, by simp [World.setBlk], ?_, ?_, ?_, ?_, fun _ _ h => .inl h, ⟨rfl, rfl, rfl⟩⟩
  · intro k ok hk
    by_cases hkn : k = S.next
    · subst hkn
      rw [hge, if_pos rfl] at hk; cases hk
      exact ⟨.inr rfl, x, by rw [setBlk_get]; simp [Cx.withBlock, hlt], hx⟩
    · obtain ⟨hkb, hg⟩ := hold k ok hkn hk
      obtain ⟨hd, y, hy, hr⟩ := h.live k ok hg
      refine ⟨.inl hd, y, ?_, hr.mono e hd (fun _ h => h)⟩
      simp only [Cx.withBlock, hkn, if_false]
      rw [setBlk_get, if_neg (fun e' => hkb (h.inj k b ok o0 hg hb0 e'))]; exact hy
  · intro k k' ok ok' hk hk' heq
    by_cases h1 : k = S.next
    · by_cases h2 : k' = S.next
      · rw [h1, h2]
      · exfalso
        obtain ⟨hkb, hg⟩ := hold k' ok' h2 hk'
        subst h1
        simp only [Cx.withBlock, if_true, h2, if_false] at heq
        exact hkb (h.inj k' b ok' o0 hg hb0 heq.symm)
    · obtain ⟨hkb, hg⟩ := hold k ok h1 hk
      by_cases h2 : k' = S.next
      · exfalso
        subst h2
        simp only [Cx.withBlock, if_true, h1, if_false] at heq
        exact hkb (h.inj k b ok o0 hg hb0 heq)
      · obtain ⟨_, hg'⟩ := hold k' ok' h2 hk'
        simp only [Cx.withBlock, h1, h2, if_false] at heq
        exact h.inj k k' ok ok' hg hg' heq
  · rintro k (hd | rfl)
    · exact Nat.lt_succ_of_lt (h.fresh k hd)
    · exact Nat.lt_succ_self _
  · intro blk ms hm
    obtain ⟨c, ty, fr, hc, e'⟩ := h.imm blk ms hm
    refine ⟨c, ty, fr, ?_, e'⟩
    rw [setBlk_get, if_neg]; · exact hc
    intro e''
    have hmm : C.M blk = some ms := hm
    have := h.apart b o0 hb0
    rw [← e'', hmm] at this; cases this
  · intro k ok hk
    by_cases hkn : k = S.next
    · subst hkn
      simpa [Cx.withBlock] using h.apart b o0 hb0
    · obtain ⟨_, hg⟩ := hold k ok hkn hk
      simpa [Cx.withBlock, hkn] using h.apart k ok hg
  · exact fun b n hg => .inl (h.stamps b n hg)
  · rintro k (hk | rfl)
    · simpa [World.setBlk] using h.there k hk
    · simpa [World.setBlk] using hlt
  · rintro k (hd | rfl)
    · have : k ≠ S.next := fun e' => Nat.lt_irrefl _ (e' ▸ h.fresh k hd)
      exact .inl (by simpa [Cx.withBlock, this] using h.knownD k hd)
    · exact .inr (by simp [Cx.withBlock])
  · intro blk _ hn
    rw [setBlk_get, if_neg]
    intro e'
    exact hn b o0 hb0 hmind e'.symm
  · intro k hd hm
    have hkn : k ≠ S.next := by rintro rfl; exact hnd hd
    have hkb : k ≠ b := by rintro rfl; exact hm hmind
    exact ⟨by rw [hge, if_neg hkn, if_neg hkb], fun _ h => h⟩
  · rintro k (hd | rfl)
    · exact .inl hd
    · exact .inr (Nat.le_refl _)
  · intro k ok hk
    by_cases hkn : k = S.next
    · subst hkn
      exact .inr (.inr ⟨b, o0, hb0, hmind, by simp [Cx.withBlock]⟩)
    · obtain ⟨_, hg⟩ := hold k ok hkn hk
      exact .inl ⟨(h.live k ok hg).1, ok, hg⟩
end Am
