/- The abstract machine, and what it means that a state of it is a state of the model. -/
import GoSem.Step
import Derived.AtR
import Derived.Laws.Cells
namespace Am
theorem U {α:Sort _} {a:α}:a=a:=rfl
theorem Qa {α:Type _} {β:Type _} {b:β} {o:Option α} {f:α→Option β}:o.bind f=some b↔∃a,o=some a∧f a=some b:=Option.bind_eq_some_iff
theorem Qb {n m:Nat} (h:Nat.beq n m=true):n=m:=Nat.eq_of_beq_eq_true h
theorem Qc {n m:Nat} (h:Nat.ble n m=true):n≤m:=Nat.le_of_ble_eq_true h
theorem Qd {n m:Nat} (h:n≤m):Nat.ble n m=true:=Nat.ble_eq_true_of_le h
theorem Qe {α:Type _} {β:Type _} (a:α) (f:α→Option β):(some a).bind f=f a:=rfl
theorem Qf (a b:Bool):((a&&b)=true)=(a=true∧b=true):=Bool.and_eq_true a b
theorem Qg {α:Type _} (y:α) {a:α} {l:List α} (h:a∈l):a∈y::l:=List.mem_cons_of_mem y h
theorem Qh {α:Type _} {a:α} {l:List α}:a∈a::l:=List.mem_cons_self
theorem Qi {α:Type _} {l:List α} {i:Nat} (h:i<l.length):l[i]?=some l[i]:=List.getElem?_eq_getElem h
theorem Qj (n:Nat):n≤n:=Nat.le_refl n
theorem Qk {α:Type _} {b:α} {l:List α} {a:α}:a∈b::l↔a=b∨a∈l:=List.mem_cons
theorem Ql {α:Type _} {l:List α} {n:Nat} (h:n<l.length):l[n]∈l:=List.getElem_mem h
theorem Qm {α:Type _} {as bs:List α}:(as++bs).length=as.length+bs.length:=List.length_append
theorem Qn {α:Type _} {β:Type _} {as:List α} (f:α→β):(as.map f).length=as.length:=List.length_map f
theorem Qo (n:Nat):0≤n:=Nat.zero_le n
theorem Qp {α:Type _} {a b:α}:a∈[b]↔a=b:=List.mem_singleton
end Am
set_option linter.unusedSectionVars false
set_option linter.unusedVariables false
set_option linter.unusedSimpArgs false
namespace Am
open Go
inductive AV where
 |bool (b:Bool)
 |int (k:IntKind) (n:Int)
 |str (s:List UInt8)
 |CJ
 |ptr (b off:Nat)
 |WO (cs:List AV)
 |Ca
 |slice (b off len sz:Nat) (cap:Option Nat)
 |Cd (cs:List AV) (len sz:Nat) (cl:Bool)
 |VU
 |map (b:Nat)
 |YS (b n:Nat)
 |ab
 |func (fn:Fn) (first captured:List AV)
 |Cu
 |iface (t:TypeId) (v:AV)
 |C8
 |agg (cs:List AV)
 |tuple (vs:List AV)
 deriving Inhabited
inductive Path where
 |here
 |kk (p:Path)
 |km (p:Path)
def eG:Nat→Nat→Path
 |0,_=> .here
 |n+1,k=>bif Nat.beq k 0 then .here else bif Nat.beq (k % 2) 1 then .kk (eG n (k/2))else .km (eG n (k/2-1))
def pathOf (k:Nat):Path:=eG k k
inductive Tr (α:Type) where
 |nil
 |node (l:Tr α) (v:Option α) (r:Tr α)
 deriving Inhabited
noncomputable section core
def Tr.dC {α:Type} (p:Path):Tr α→Option α:=
 Path.rec (fun t=>Tr.rec none (fun _ v _ _ _=>v) t) (fun _ ih t=>Tr.rec none (fun l _ _ _ _=>ih l) t) (fun _ ih t=>Tr.rec none (fun _ _ r _ _=>ih r) t) p
def Tr.bS {α:Type} (x:Option α) (p:Path):Tr α→Tr α:=
 Path.rec (fun t=>Tr.rec (.node .nil x .nil) (fun l _ r _ _=> .node l x r) t)
  (fun _ ih t=>Tr.rec (.node (ih .nil) none .nil) (fun l v r _ _=> .node (ih l) v r) t)
  (fun _ ih t=>Tr.rec (.node .nil none (ih .nil)) (fun l v r _ _=> .node l v (ih r)) t) p
def bL {α:Type} (a:α) (l:Option (List α)):Option (List α):=Option.rec none (fun r=>some (a::r)) l
def takeN {α:Type} (n:Nat):List α→Option (List α):=
 Nat.rec (fun _=>some []) (fun _ ih l=>List.rec none (fun a l _=>bL a (ih l)) l) n
def WM {α:Type} (n:Nat):List α→Option (List α):=
 Nat.rec (fun l=>some l) (fun _ ih l=>List.rec none (fun _ l _=>ih l) l) n
def aI {α:Type} (vs:List α):List α→Option (List α):=
 List.rec (fun l=>some l) (fun v _ ih l=>List.rec none (fun _ l _=>bL v (ih l)) l) vs
def over {α:Type} (vs:List α) (k:Nat):List α→Option (List α):=
 Nat.rec (fun l=>aI vs l) (fun _ ih l=>List.rec none (fun a l _=>bL a (ih l)) l) k
def nth {α:Type} (l:List α):Nat→Option α:=
 List.rec (fun _=>none) (fun a _ ih n=>Nat.rec (some a) (fun n _=>ih n) n) l
def W6 {α:Type} (l:List α):Nat:=List.rec 0 (fun _ _ ih=>ih+1) l
def qe {α:Type}:Option α→Option (List α)→Option (List α)
 |some b,some bs=>some (b::bs)
 |_,_=>none
def jl {α β:Type} (f:α→Option β) (l:List α):Option (List β):=
 List.rec (some []) (fun a _ ih=>qe (f a) ih) l
end core
noncomputable section
def Zg {α:Type}:List α→List α
 | []=>[]
 |a::l=>match l with
  | []=>[a]
  |_::l=>a::Zg l
def ie {α:Type}:Nat→List α→Tr α
 |0,_=> .nil
 |n+1,l=>match l with
  | []=> .nil
  |a::l=> .node (ie n (Zg l)) (some a) (ie n (Zg l.tail))
def Tr.get {α:Type} (t:Tr α) (k:Nat):Option α:=Tr.dC (pathOf k) t
def Tr.set {α:Type} (t:Tr α) (k:Nat) (x:Option α):Tr α:=Tr.bS x (pathOf k) t
structure nW where
 state:LoopState
 pending:Option Code
 fn:FuncId
 nt:Nat
 tmps:Tr AV
 params:List Nat
 assign:Code
 body:Code
inductive CB where
 |cells (cs:List AV) (e:TypeId) (part:Bool)
 |map (es:List (AV×AV×Nat)) (clock:Nat)
 |X5 (s:List UInt8) (pos:Nat)
 |Zt (m:Option Nat) (since:Nat) (seen:List Nat) (WC:Nat)
 |loop (l:nW)
 |defs (open_:Bool)
structure St where
 next:Nat
 bound:Nat
 log:List Nat
 heap:Tr CB
inductive vw where
 |fn (fn:Fn) (captured:List AV)
 |collected (r:Nat)
structure dX where
 target:vw
 args:List AV
structure Fr where
 nt:Nat
 defers:List dX
 WD:Option AV
 round:Option Nat
inductive Ex where
 |normal
 |exit (id:Nat)
 |ret
 |panic (v:AV)
structure Z2 where
 ex:Ex
 fr:Fr
 T:Tr AV
 st:St
inductive Out where
 |stuck
 |one (r:Z2)
 |many (l:List Z2)
def Out.ah (k:Z2→Out):List Z2→Option (List Z2)
 | []=>some []
 |r::l=>match k r with
  | .stuck=>none
  | .one x=>match Out.ah k l with|some y=>some (x::y)|none=>none
  | .many xs=>match Out.ah k l with|some y=>some (xs++y)|none=>none
def Out.ofList:Option (List Z2)→Out
 |some y=> .many y
 |none=> .stuck
def Out.then (o:Out) (k:Z2→Out):Out:=
 match o with
 | .stuck=> .stuck
 | .one r=>k r
 | .many l=>Out.ofList (Out.ah k l)
inductive CR where
 |same (v:AV)
 |val (v:AV) (st:St)
 |WD (v:AV) (st:St)
structure Env where
 tys:Tr TypeInfo
 fns:Tr Func
 nX:FuncId→Nat
 Cs:FuncId→List AV→Option AV
 kn:Nat→Option (List AV)
 merge:Bool
 ext:Bool
 plain:TypeId→Bool
inductive Mk where
 |val (v:AV)
 |obj (o:CB) (v:Nat→AV)
inductive ZY where
 |bad
 |make (f:Tr AV→Option Mk)
 |pure (f:Tr AV→Option AV)
 |read (x:Tr AV→Option AV) (f:Tr AV→St→Option AV)
 |look (f:Tr AV→St→Option AV)
 |act (only:Bool) (x:Tr AV→Option AV) (f:Tr AV→St→Option (AV×St))
 |pick (f:Tr AV→Option (List AV))
 |j6 (f:Tr AV→St→Option (List (AV×St)))
 |call (f:Tr AV→St→Option (FuncId×List AV))
 |ZB (f:Tr AV→Option AV) (args:Tr AV→Option (List AV))
 |defer (f:Tr AV→Option dX)
 |panic (f:Tr AV→Option AV)
 |recover
section ops
variable (E : Env)
def AV.ck:AV→Bool
 | .agg _=>false
 | .tuple _=>false
 |_=>true
def AV.isTuple:AV→Bool
 | .tuple _=>true
 |_=>false
def AV.cells:AV→List AV
 | .agg cs=>cs
 |v=>[v]
def cm:Value→Option AV
 | .bool b=>some (.bool b)
 | .int k n=>some (.int k n)
 | .string s=>some (.str s.data.toList)
 | .pointer none=>some .CJ
 | .slice none 0 0=>some .Ca
 | .map none=>some .VU
 | .nilFunc=>some .Cu
 | .nilIface=>some .C8
 |_=>none
def j7:Value→Option AV
 | .agg cs=>match jl cm cs.toList with|some l=>some (.agg l)|none=>none
 | .tuple cs=>match jl cm cs.toList with|some l=>some (.tuple l)|none=>none
 |v=>cm v
def j8 (T:Tr TypeInfo):TypeDesc→Option TypeDesc
 | .named _ u=>match T.get u with|some i=>some i.desc|none=>none
 |d=>some d
def C7 (t:TypeId):Option TypeDesc:=match E.tys.get t with
 |some i=>j8 E.tys i.desc
 |none=>none
def sizeOf (t:TypeId):Option Nat:=match E.tys.get t with|some i=>some i.size|none=>none
def bytesOf (t:TypeId):Option Nat:=match E.tys.get t with|some i=>some i.bytes|none=>none
def isAgg (t:TypeId):Option Bool:=match C7 E t with
 |some (.struct _)=>some true
 |some (.array _ _)=>some true
 |some _=>some false
 |none=>none
def ko:Option AV→Option AV
 |some (.tuple _)=>none
 |o=>o
def zeroOf (t:TypeId):Option AV:=match E.tys.get t with
 |some i=>match i.zero with|some v=>ko (j7 v)|none=>none
 |none=>none
abbrev Tm:=Tr AV
abbrev TO:=Tm→Option AV
def oQ (v:AV):TO:=fun _=>some v
def nothing:TO:=fun _=>none
def qf:Option AV→TO
 |some v=>oQ v
 |none=>nothing
def Cc:Operand→TO
 | .tmp t=>Tr.dC (pathOf t)
 | .const v=>qf (j7 v)
 | .global g=>match E.kn g with|some cs=>oQ (.WO cs)|none=>nothing
 | .func f=>oQ (.func (.func f) [] [])
def St.alloc (s:St) (o:CB):St:= {s with next:=s.next+1,heap:=s.heap.set s.next (some o)}
def Xt (b:Nat):List Nat→List Nat
 | []=>[b]
 |c::l=>bif Nat.beq b c then c::l else b::c::l
def St.put (s:St) (b:Nat) (o:Option CB):St:= {s with log:=bif Nat.blt b s.bound then Xt b s.log else s.log,heap:=s.heap.set b o}
def VZ:Option CB→Option (List AV)
 |some (.cells cs _ _)=>some cs
 |_=>none
def kq:Option CB→Option (List (AV×AV×Nat))
 |some (.map es _)=>some es
 |_=>none
def Yk (s:St) (n:Nat):AV→Option (List AV)
 | .WO cs=>takeN n cs
 | .ptr b off=>(VZ (s.heap.get b)).bind fun cs=>(WM off cs).bind fun l=>takeN n l
 |_=>none
def eH (s:St) (b:Nat) (e:TypeId) (sl:Bool):Option (List AV)→Option St
 |some cs=>some (s.put b (some (.cells cs e sl)))
 |none=>none
def cZ (s:St) (b off:Nat) (vs:List AV):Option CB→Option St
 |some (.cells cs e sl)=>eH s b e sl (over vs off cs)
 |_=>none
def Z3 (s:St) (b off:Nat) (vs:List AV):Option St:=cZ s b off vs (s.heap.get b)
def oneV:List AV→Option AV
 | [v]=>some v
 |_=>none
def gW (n:Nat) (s:St) (a:AV):Option AV:=(Yk s n a).bind fun l=>some (.agg l)
def kt (s:St) (a:AV):Option AV:=(Yk s 1 a).bind oneV
def Wu (t:TypeId):St→AV→Option AV:=
 match isAgg E t,sizeOf E t with
 |some true,some n=>gW n
 |some false,some _=>kt
 |_,_=>fun _ _=>none
def cn (n:Nat) (s:St) (v:AV):AV→Option St
 | .ptr b off=>bif Nat.beq (W6 v.cells) n&& !v.isTuple then Z3 s b off v.cells else none
 |_=>none
def ai:Option St→Option (AV×St)
 |some s=>some (.tuple [],s)
 |none=>none
def ZC (place:Nat→Option (Nat×Nat)):List (Nat×AV)→List AV→Option (List AV)
 | [],cells=>some cells
 |p::rest,cells=>(place p.1).bind fun q=>bif Nat.beq (W6 p.2.cells) q.2&& !p.2.isTuple then(over p.2.cells q.1 cells).bind fun cs=>ZC place rest cs else none
def WQ (zero:List AV):Nat→List AV
 |0=>[]
 |n+1=>zero++WQ zero n
def ZD:List (Nat×Operand)→Tm→Option (List (Nat×AV))
 | []=>fun _=>some []
 |p::l=>fun T=>(Cc E p.2 T).bind fun v=>(ZD l T).bind fun r=>some ((p.1,v)::r)
def CO:List Operand→Tm→Option (List AV)
 | []=>fun _=>some []
 |x::l=>fun T=>(Cc E x T).bind fun v=>(CO l T).bind fun r=>some (v::r)
def WI:Option Operand→Tm→Option (Option AV)
 |none=>fun _=>some none
 |some x=>fun T=>(Cc E x T).bind fun v=>some (some v)
def aj:List Field→Option (List (Nat×Nat))
 | []=>some []
 |f::l=>(sizeOf E f.type).bind fun n=>(aj l).bind fun r=>some ((f.offset,n)::r)
def Ct (t:TypeId):Option (List AV×(Nat→Option (Nat×Nat))):=
 (zeroOf E t).bind fun z=>match C7 E t with
  |some (.struct fields)=>(aj E fields.toList).bind fun ps=>some (z.cells,nth ps)
  |some (.array _ elem)=>(sizeOf E elem).bind fun size=>some (z.cells,fun i=>some (i*size,size))
  |_=>none
def qg:Option (List AV)→Option AV
 |some cs=>some (.agg cs)
 |none=>none
def ig (t:TypeId) (parts:List (Nat×Operand)):ZY:=
 match Ct E t with
 |some pl=> .pure fun T=>(ZD E parts T).bind fun ps=>qg (ZC pl.2 ps pl.1)
 |none=> .bad
def YW (off n:Nat):AV→Option AV
 | .agg cs=>(WM off cs).bind fun l=>qg (takeN n l)
 |_=>none
def Z8 (off:Nat):AV→Option AV
 | .agg cs=>nth cs off
 |_=>none
def Cf (t:TypeId) (i:Nat):Option (Nat×Nat×Bool):=
 match C7 E t with
 |some (.struct fields)=>(nth fields.toList i).bind fun f=>(sizeOf E f.type).bind fun n=>(isAgg E f.type).bind fun a=>some (f.offset,n,a)
 |_=>none
def ng (t:TypeId) (x:Operand) (i:Nat):ZY:=
 match Cf E t i with
 |some (off,n,true)=> .pure fun T=>(Cc E x T).bind (YW off n)
 |some (off,_,false)=> .pure fun T=>(Cc E x T).bind (Z8 off)
 |none=> .bad
def XE (n:Nat):AV→Option AV
 | .ptr b off=>some (.ptr b (off+n))
 | .WO cs=>(WM n cs).bind fun l=>some (.WO l)
 |_=>none
def Yv (t:TypeId) (x:Operand) (i:Nat):ZY:=
 match Cf E t i with
 |some (off,n+1,_)=> .pure fun T=>(Cc E x T).bind (XE off)
 |_=> .bad
def VW:AV→Option Nat
 | .int _ (.ofNat n)=>some n
 |_=>none
def j9:List AV→Option AV
 | []=>none
 |c::l=>some (.WO (c::l))
def CQ (sz k:Nat):AV→Option AV
 | .slice b off len _ _=>bif Nat.blt k len then some (.ptr b (off+k*sz))else none
 | .Cd cs len _ _=>bif Nat.blt k len then(WM (k*sz) cs).bind j9 else none
 |_=>none
def Wy (t:TypeId) (x i:Operand):ZY:=
 match C7 E t with
 |some (.array n elem)=>match sizeOf E elem with
  |some (sz+1)=> .pure fun T=>(Cc E i T).bind fun iv=>(VW iv).bind fun k=>bif Nat.blt k n then(Cc E x T).bind (XE (k*(sz+1)))else none
  |_=> .bad
 |some (.slice elem)=>match sizeOf E elem with
  |some (sz+1)=> .pure fun T=>(Cc E i T).bind fun iv=>(VW iv).bind fun k=>(Cc E x T).bind (CQ (sz+1) k)
  |_=> .bad
 |_=> .bad
def ku (sz k:Nat):AV→Option AV
 | .agg cs=>(WM (k*sz) cs).bind fun l=>qg (takeN sz l)
 |_=>none
def eI (sz k:Nat):AV→Option AV
 | .agg cs=>nth cs (k*sz)
 |_=>none
def eJ (k:Nat):AV→Option AV
 | .str s=>(nth s k).bind fun b=>some (.int .u8 b.toNat)
 |_=>none
def dY (t:TypeId) (x i:Operand):ZY:=
 match C7 E t with
 |some (.array n elem)=>match isAgg E elem,sizeOf E elem with
  |some true,some sz=> .pure fun T=>(Cc E i T).bind fun iv=>(VW iv).bind fun k=>bif Nat.blt k n then(Cc E x T).bind (ku sz k)else none
  |some false,some sz=> .pure fun T=>(Cc E i T).bind fun iv=>(VW iv).bind fun k=>bif Nat.blt k n then(Cc E x T).bind (eI sz k)else none
  |_,_=> .bad
 |some .string=> .pure fun T=>(Cc E i T).bind fun iv=>(VW iv).bind fun k=>(Cc E x T).bind (eJ k)
 |_=> .bad
def Y4 (k:IntKind) (n:Int):AV:= .int k (k.wrap n)
def bl:List UInt8→List UInt8→Bool
 |_,[]=>false
 | [],_::_=>true
 |a::x,b::y=>bif Nat.blt a.toNat b.toNat then true else bif Nat.beq a.toNat b.toNat then bl x y else false
def Wo:List UInt8→List UInt8→Bool
 | [],[]=>true
 |a::x,b::y=>bif Nat.beq a.toNat b.toNat then Wo x y else false
 |_,_=>false
def lR (f:(n:Nat)→BitVec n→BitVec n→BitVec n) (k:IntKind) (a b:Int):AV:=
 Y4 k (f k.bits (BitVec.ofInt k.bits a) (BitVec.ofInt k.bits b)).toNat
def oR (k:IntKind) (a b:Int):Option AV:=if b=0 then none else some (Y4 k (a.tdiv b))
def oS (k:IntKind) (a b:Int):Option AV:=if b=0 then none else some (.int k (a.tmod b))
def zt (k:IntKind) (x y:Int):Option AV:=if y<0 then none else some (Y4 k (x*2^(min y.toNat k.bits)))
def oU (k:IntKind) (x y:Int):Option AV:=if y<0 then none else some (.int k (x.fdiv (2^(min y.toNat k.bits))))
def lS:BinOp→Option (IntKind→Int→Int→Option AV)
 | .add=>some fun k a b=>some (Y4 k (a+b))
 | .sub=>some fun k a b=>some (Y4 k (a-b))
 | .mul=>some fun k a b=>some (Y4 k (a*b))
 | .quo=>some oR
 | .rem=>some oS
 | .eql=>some fun _ a b=>some (.bool (decide (a=b)))
 | .neq=>some fun _ a b=>some (.bool (!decide (a=b)))
 | .lss=>some fun _ a b=>some (.bool (decide (a<b)))
 | .leq=>some fun _ a b=>some (.bool (decide (a≤b)))
 | .gtr=>some fun _ a b=>some (.bool (decide (b<a)))
 | .geq=>some fun _ a b=>some (.bool (decide (b≤a)))
 | .and=>some fun k a b=>some (lR (fun _ x y=>x&&&y) k a b)
 | .or=>some fun k a b=>some (lR (fun _ x y=>x|||y) k a b)
 | .xor=>some fun k a b=>some (lR (fun _ x y=>x^^^y) k a b)
 | .andNot=>some fun k a b=>some (lR (fun _ x y=>x&&& ~~~y) k a b)
 |_=>none
def qh:BinOp→Option (List UInt8→List UInt8→Option AV)
 | .add=>some fun a b=>bif Nat.ble (W6 a+W6 b) 4294967296 then some (.str (a++b))else none
 | .eql=>some fun a b=>some (.bool (Wo a b))
 | .neq=>some fun a b=>some (.bool (!Wo a b))
 | .lss=>some fun a b=>some (.bool (bl a b))
 | .leq=>some fun a b=>some (.bool (bl a b||Wo a b))
 | .gtr=>some fun a b=>some (.bool (!(bl a b||Wo a b)))
 | .geq=>some fun a b=>some (.bool (!bl a b))
 |_=>none
def lU (f:IntKind→Int→Int→Option AV):AV→AV→Option AV
 | .int k a,.int k' b=>if k=k' then f k a b else none
 |_,_=>none
def gr (f:IntKind→Int→Int→Option AV):AV→AV→Option AV
 | .int k a,.int _ b=>f k a b
 |_,_=>none
def nh (f:List UInt8→List UInt8→Option AV):AV→AV→Option AV
 | .str a,.str b=>f a b
 |_,_=>none
def eq1:AV→AV→Option Bool
 | .bool a,.bool b=>some (bif a then b else !b)
 | .int j a,.int k b=>if j=k then some (decide (a=b))else none
 | .str a,.str b=>some (Wo a b)
 |_,_=>none
def nY:List AV→List AV→Option Bool
 | [],[]=>some true
 |a::x,b::y=>(eq1 a b).bind fun r=>bif r then nY x y else some false
 |_,_=>none
def Ze:TypeDesc→Bool
 | .bool=>true
 | .int _=>true
 | .string=>true
 |_=>false
inductive Kd where
 |one (d:TypeDesc)
 |flat (l:List TypeDesc)
def Ys (t:TypeId):Option TypeDesc:=match C7 E t with
 |some d=>bif Ze d then some d else none
 |none=>none
def dZ:List Field→Nat→Option (List TypeDesc)
 | [],_=>some []
 |f::l,i=>bif Nat.beq f.offset i&& !(f.name== "_")then(Ys E f.type).bind fun d=>(dZ l (i+1)).bind fun r=>some (d::r)else none
def rep {α:Type} (a:α):Nat→List α
 |0=>[]
 |n+1=>a::rep a n
def Y9 (t:TypeId):Option Kd:=match C7 E t with
 |some (.struct fs)=>bif E.plain t then(dZ E fs.toList 0).bind fun l=>some (.flat l)else none
 |some (.array n e)=>match Ys E e,sizeOf E e with
  |some d,some 1=>some (.flat (rep d n))
  |_,_=>none
 |some d=>bif Ze d then some (.one d)else none
 |none=>none
def oV:TypeDesc→AV→AV→Option Bool
 | .bool,.bool a,.bool b=>some (bif a then b else !b)
 | .int _,.int j a,.int k b=>if j=k then some (decide (a=b))else none
 | .string,.str a,.str b=>some (Wo a b)
 |_,_,_=>none
def YT:List TypeDesc→List AV→List AV→Option Bool
 | [],[],[]=>some true
 |d::l,a::x,b::y=>(oV d a b).bind fun r=>bif r then YT l x y else some false
 |_,_,_=>none
def ZE:Kd→AV→AV→Option Bool
 | .one d,a,b=>oV d a b
 | .flat l,.agg a,.agg b=>YT l a b
 |_,_,_=>none
def okD:TypeDesc→AV→Bool
 | .bool,.bool _=>true
 | .int _,.int _ _=>true
 | .string,.str _=>true
 |_,_=>false
def jA:List TypeDesc→List AV→Bool
 | [],[]=>true
 |d::l,a::x=>okD d a&&jA l x
 |_,_=>false
def bU:Kd→AV→Bool
 | .one d,v=>okD d v
 | .flat l,.agg cs=>jA l cs
 |_,_=>false
def jB:AV→AV→Option Bool
 | .CJ,.CJ=>some true
 | .CJ,.ptr _ _=>some false
 | .CJ,.WO _=>some false
 | .ptr _ _,.CJ=>some false
 | .WO _,.CJ=>some false
 |_,_=>none
def isVar:Option CB→Bool
 |some (.cells _ _ part)=> !part
 |_=>false
def cp (s:St):AV→AV→Option Bool
 | .ptr a i,.ptr b j=>bif Nat.beq a b then some (Nat.beq i j)else bif isVar (s.heap.get a)&&isVar (s.heap.get b)then some false else none
 |a,b=>jB a b
def nj:AV→AV→Option Bool
 | .Cu,.Cu=>some true
 | .Cu,.func _ _ _=>some false
 | .func _ _ _,.Cu=>some false
 |_,_=>none
def qj:AV→AV→Option Bool
 | .VU,.VU=>some true
 | .VU,.map _=>some false
 | .map _,.VU=>some false
 |_,_=>none
def cq (t:TypeId):Bool:=match E.tys.get t with|some i=>i.comparable|none=>false
def eK (lit:Bool):AV→AV→Option Bool
 | .C8,.C8=>bif lit then some true else none
 | .C8,.iface _ _=>some false
 | .iface _ _,.C8=>some false
 | .iface t x,.iface u y=>bif Nat.beq t u then(bif cq E t then(Ys E t).bind fun d=>oV d x y else none)else some false
 |_,_=>none
def isConst:Operand→Bool
 | .const _=>true
 |_=>false
def vy:AV→Option (List Bool)
 | .slice _ _ _ _ _=>some [false]
 | .Cd (_::_) _ _ _=>some [false]
 | .Cd [] _ _ _=>some [true,false]
 | .Ca=>some [true,false]
 |_=>none
def zu:AV→Bool
 | .Ca=>true
 |_=>false
def ky (neg:Bool):List Bool→List AV
 | []=>[]
 |b::l=> .bool (bif neg then !b else b)::ky neg l
def WE (neg:Bool):Option Bool→Option AV
 |some b=>some (.bool (bif neg then !b else b))
 |none=>none
def XT (f:AV→AV→Option AV) (x y:Operand):ZY:= .pure fun T=>(Cc E x T).bind fun a=>(Cc E y T).bind fun b=>f a b
def nZ (neg:Bool) (kd:Option Kd) (x y:Operand):ZY:=
 match kd with
 |some kd=>XT E (fun a b=>WE neg (ZE kd a b)) x y
 |none=> .bad
def y4 (neg:Bool) (t:TypeId) (x y:Operand):ZY:=
 match C7 E t with
 |some .bool=>XT E (fun a b=>WE neg (oV .bool a b)) x y
 |some (.pointer e)=>match sizeOf E e with
  |some (_+1)=> .look fun T s=>(Cc E x T).bind fun a=>(Cc E y T).bind fun b=>WE neg (cp s a b)
  |_=>XT E (fun a b=>WE neg (jB a b)) x y
 |some (.interface _)=>XT E (fun a b=>WE neg (eK E (isConst x||isConst y) a b)) x y
 |some (.func _ _ _)=>XT E (fun a b=>WE neg (nj a b)) x y
 |some (.map _ _)=>XT E (fun a b=>WE neg (qj a b)) x y
 |some (.array _ _)=>nZ E neg (Y9 E t) x y
 |some (.struct _)=>nZ E neg (Y9 E t) x y
 |some (.slice _)=>match y with
  | .const (.slice none 0 0)=> .pick fun T=>(Cc E x T).bind fun a=>(vy a).bind fun l=>some (ky neg l)
  |_=> .bad
 |_=> .bad
def eL (op:BinOp) (t:TypeId) (x y:Operand):ZY:=
 match C7 E t with
 |some (.int _)=>match op with
  | .shl=>XT E (gr zt) x y
  | .shr=>XT E (gr oU) x y
  |_=>match lS op with|some f=>XT E (lU f) x y|none=> .bad
 |some .string=>match qh op with|some f=>XT E (nh f) x y|none=> .bad
 |_=>match op with
  | .eql=>y4 E false t x y
  | .neq=>y4 E true t x y
  |_=> .bad
def qk:UnOp→AV→Option AV
 | .neg,.int k n=>some (Y4 k (0-n))
 | .not,.bool b=>some (.bool (!b))
 | .xor,.int k n=>some (lR (fun _ x y=>x^^^y) k (if k.signed then-1 else k.max) n)
 |_,_=>none
def WR:List AV→Option (List UInt8)
 | []=>some []
 | .int .u8 n::l=>(WR l).bind fun r=>some (UInt8.ofNat n.toNat::r)
 |_=>none
def byteCells:List UInt8→List AV
 | []=>[]
 |c::l=> .int .u8 c.toNat::byteCells l
def Xa (s:St) (sz:Nat):AV→Option (List AV×Nat)
 | .Ca=>some ([],0)
 | .Cd cs len Yp _=>bif Nat.beq Yp sz then(takeN (len*sz) cs).bind fun l=>some (l,len)else none
 | .slice b off len Yp _=>bif Nat.beq Yp sz then(VZ (s.heap.get b)).bind fun cs=>(WM off cs).bind fun l=>(takeN (len*sz) l).bind fun l=>some (l,len)else none
 |_=>none
def isByte (e:TypeId):Bool:=match C7 E e with
 |some (.int .u8)=>true
 |_=>false
def ij (k:IntKind):AV→Option AV
 | .int _ n=>some (Y4 k n)
 |_=>none
def nk:AV→Option AV
 | .str b=>some (.str b)
 |_=>none
def eM (e:TypeId):AV→Option Mk
 | .str b=>some (.obj (.cells (byteCells b) e true) fun i=> .slice i 0 (W6 b) 1 none)
 |_=>none
def ct (s:St) (x:AV):Option AV:=
 (Xa s 1 x).bind fun l=>(WR l.1).bind fun r=>some (.str r)
def aJ (s:St):AV→Option AV
 | .CJ=>some .CJ
 | .ptr b off=>(VZ (s.heap.get b)).bind fun cs=>bif Nat.blt off (W6 cs)then some (.ptr b off)else none
 |_=>none
def da (u off:Nat):List Field→Bool
 | []=>false
 |f::l=>(Nat.beq f.offset off&&Nat.beq f.type u)||da u off l
def kz (e u off:Nat):Bool:=(Nat.beq e u&&Nat.beq off 0)||(E.plain e&&match C7 E e with
 |some (.struct fs)=>da u off fs.toList
 |_=>false)
def bm (u b off:Nat):Option CB→Option AV
 |some (.cells cs e false)=>(sizeOf E e).bind fun n=>bif kz E e u off&&Nat.ble n (W6 cs)&&Nat.blt off n then some (.ptr b off)else none
 |_=>none
def YX (s:St) (u:TypeId):AV→Option AV
 | .CJ=>some .CJ
 | .ptr b off=>bm E u b off (s.heap.get b)
 |_=>none
def cu (src dst:TypeId) (x:Operand):ZY:=
 match C7 E src,C7 E dst with
 |some (.int _),some (.int k)=> .pure fun T=>(Cc E x T).bind (ij k)
 |some (.pointer t),some .unsafePointer=>match sizeOf E t with
  |some (_+1)=> .read (Cc E x) fun T s=>(Cc E x T).bind (aJ s)
  |_=> .bad
 |some .unsafePointer,some (.pointer u)=>match sizeOf E u with
  |some (_+1)=> .read (Cc E x) fun T s=>(Cc E x T).bind (YX E s u)
  |_=> .bad
 |some .string,some .string=> .pure fun T=>(Cc E x T).bind nk
 |some .string,some (.slice e)=>bif isByte E e then .make fun T=>(Cc E x T).bind (eM e)else .bad
 |some (.slice e),some .string=>bif isByte E e then .read (Cc E x) fun T s=>(Cc E x T).bind (ct s)else .bad
 |_,_=> .bad
def CM (vz Y7:Nat):Option AV→Option Nat
 |none=>some vz
 |some v=>(VW v).bind fun n=>bif Nat.ble n Y7 then some n else none
def eN (Y7:Nat):Option AV→Option Nat
 |none=>none
 |some v=>CM 0 Y7 (some v)
def cut {α:Type} (l:List α) (lo n:Nat):Option (List α):=(WM lo l).bind fun r=>takeN n r
def aK (lo hi:Option AV):AV→Option AV
 | .str b=>(CM (W6 b) (W6 b) hi).bind fun h=>(CM 0 h lo).bind fun l=>(cut b l (h-l)).bind fun q=>some (.str q)
 |_=>none
def capSub:Option Nat→Nat→Option Nat
 |some c,l=>some (c-l)
 |none,_=>none
def ZF (sz off len:Nat) (cap:Option Nat) (cs:List AV):Nat:=
 match cap with
 |some c=>c
 |none=>bif Nat.beq sz 0 then len else(W6 cs-off)/sz
def sliceFrom (sz b off len:Nat) (cap:Option Nat) (Y7 l:Nat):Option AV:=
 match cap with
 |some c=>some (bif Nat.beq c l then(bif Nat.beq c 0 then .slice b off 0 sz (some 0)else .Ca)else .slice b (off+l*sz) len sz (some (c-l)))
 |none=>bif Nat.blt l Y7 then some (.slice b (off+l*sz) len sz none)else bif Nat.beq len 0 then some (.slice b (off+l*sz) 0 sz (some 0))else none
def bn (sz:Nat) (lo hi mx:Option AV) (b off len:Nat) (cap:Option Nat) (Y7:Nat):Option AV:=
 match mx with
 |none=>(CM len Y7 hi).bind fun h=>(CM 0 h lo).bind fun l=>sliceFrom sz b off (h-l) cap Y7 l
 |some m=>(CM 0 Y7 (some m)).bind fun m=>(eN m hi).bind fun h=>(CM 0 h lo).bind fun l=>
  bif Nat.beq m l then some .Ca else some (.slice b (off+l*sz) (h-l) sz (some (m-l)))
def db (sz:Nat) (lo hi:Option AV) (cs:List AV) (len:Nat) (cl:Bool) (Y7:Nat):Option AV:=
 (CM len Y7 hi).bind fun h=>(CM 0 h lo).bind fun l=>(cut cs (l*sz) ((h-l)*sz)).bind fun q=>some (.Cd q (h-l) sz cl)
def aL (sz:Nat) (lo hi mx:Option AV) (cs:List AV) (len:Nat) (cl:Bool):Option AV:=
 match mx with
 |none=>db sz lo hi cs len cl len
 |some m=>(CM 0 len (some m)).bind fun m=>(eN m hi).bind fun h=>(CM 0 h lo).bind fun l=>
  bif Nat.beq m l then(match cs with| []=>some (.Cd [] 0 sz cl)|_::_=>some .Ca)else(cut cs (l*sz) ((h-l)*sz)).bind fun q=>some (.Cd q (h-l) sz cl)
def ql (lo hi:Option AV):Option AV→Option AV
 |none=>(CM 0 0 hi).bind fun _=>(CM 0 0 lo).bind fun _=>some .Ca
 |some m=>(CM 0 0 (some m)).bind fun _=>(eN 0 hi).bind fun _=>(CM 0 0 lo).bind fun _=>some .Ca
def W7 (s:St) (sz:Nat) (lo hi mx:Option AV):AV→Option AV
 | .Ca=>ql lo hi mx
 | .Cd cs len Yp cl=>bif Nat.beq Yp sz then aL sz lo hi mx cs len cl else none
 | .slice b off len Yp cap=>bif Nat.beq Yp sz then(VZ (s.heap.get b)).bind fun cs=>bn sz lo hi mx b off len cap (ZF sz off len cap cs)else none
 |_=>none
def aM (sz n:Nat) (lo hi:Option AV):AV→Option AV
 | .ptr b off=>(CM n n hi).bind fun h=>(CM 0 h lo).bind fun l=>bif Nat.beq n l then some .Ca else some (.slice b (off+l*sz) (h-l) sz (some (n-l)))
 | .WO cs=>db sz lo hi cs n false n
 |_=>none
def bo (t:TypeId) (x:Operand) (lo hi mx:Option Operand):ZY:=
 match C7 E t with
 |some .string=>match mx with
  |none=> .pure fun T=>(Cc E x T).bind fun a=>(WI E lo T).bind fun l=>(WI E hi T).bind fun h=>aK l h a
  |some _=> .bad
 |some (.slice e)=>match sizeOf E e with
  |some sz=> .read (Cc E x) fun T s=>(Cc E x T).bind fun a=>(WI E lo T).bind fun l=>(WI E hi T).bind fun h=>(WI E mx T).bind fun m=>W7 s sz l h m a
  |none=> .bad
 |some (.array n e)=>match sizeOf E e,mx with
  |some sz,none=> .pure fun T=>(Cc E x T).bind fun a=>(WI E lo T).bind fun l=>(WI E hi T).bind fun h=>aM sz n l h a
  |_,_=> .bad
 |_=> .bad
def ak:AV→Bool
 | .int _ _=>true
 | .str _=>true
 | .bool _=>true
 |_=>false
def eO:AV→Bool
 | .int _ _=>true
 | .str _=>true
 | .bool _=>true
 | .agg cs=>cs.all ak
 |_=>false
def keyEq:AV→AV→Option Bool
 | .agg a,.agg b=>nY a b
 |a,b=>eq1 a b
abbrev WV:=AV×AV×Nat
def findA (k:AV):List WV→Option (Option WV)
 | []=>some none
 |e::es=>(keyEq k e.1).bind fun r=>bif r then some (some e)else findA k es
def ZG (kd:Kd) (k:AV):List WV→Option (Option WV)
 | []=>some none
 |e::es=>(ZE kd k e.1).bind fun r=>(ZG kd k es).bind fun q=>some (bif r then some e else q)
def isEq (kd:Kd) (k:AV) (e:WV):Bool:=match ZE kd k e.1 with
 |some b=>b
 |none=>false
def kA (kd:Kd) (k v:AV):List WV→List WV
 | []=>[]
 |e::es=>bif isEq kd k e then(k,v,e.2.2)::es else e::kA kd k v es
def nn (kd:Kd) (k:AV):List WV→List WV
 | []=>[]
 |e::es=>bif isEq kd k e then es else e::nn kd k es
def im (s:St):AV→Option (List WV)
 | .VU=>some []
 | .map b=>kq (s.heap.get b)
 |_=>none
def iq (ok:Bool) (z:AV):Option WV→AV
 |some e=>bif ok then .tuple [e.2.1,.bool true]else e.2.1
 |none=>bif ok then .tuple [z,.bool false]else z
def eP (kd:Kd) (s:St) (ok:Bool) (z x k:AV):Option AV:=
 bif bU kd k then(im s x).bind fun es=>(ZG kd k es).bind fun r=>some (iq ok z r)else none
def eQ (t:TypeId) (x k:Operand) (ok:Bool):ZY:=
 match C7 E t with
 |some (.map key elem)=>match zeroOf E elem,Y9 E key with
  |some z,some kd=> .read (Cc E x) fun T s=>(Cc E x T).bind fun a=>(Cc E k T).bind fun b=>eP kd s ok z a b
  |_,_=> .bad
 |_=> .bad
def eR (kd:Kd) (s:St) (b:Nat) (k v:AV):Option CB→Option St
 |some (.map es clock)=>(ZG kd k es).bind fun r=>match r with
  |some _=>some (s.put b (some (.map (kA kd k v es) clock)))
  |none=>some (s.put b (some (.map (es++[(k,v,clock)]) (clock+1))))
 |_=>none
def de (kd:Kd) (s:St) (k v:AV):AV→Option St
 | .map b=>bif bU kd k then eR kd s b k v (s.heap.get b)else none
 |_=>none
def dh (t:TypeId) (m k v:Operand):ZY:=
 match C7 E t with
 |some (.map key _)=>match Y9 E key with
  |some kd=> .act true (Cc E m) fun T s=>(Cc E m T).bind fun a=>(Cc E k T).bind fun b=>(Cc E v T).bind fun c=>ai (de kd s b c a)
  |none=> .bad
 |_=> .bad
def ir (kd:Kd) (s:St) (b:Nat) (z k:AV):Option CB→Option (AV×St)
 |some (.map es clock)=>(ZG kd k es).bind fun r=>match r with
  |some e=>some (.tuple [e.2.1,.YS b e.2.2],s)
  |none=>some (.tuple [z,.YS b clock],s.put b (some (.map (es++[(k,z,clock)]) (clock+1))))
 |_=>none
def fL (kd:Kd) (s:St) (z k:AV):AV→Option (AV×St)
 | .map b=>bif bU kd k then ir kd s b z k (s.heap.get b)else none
 |_=>none
def fM (t:TypeId) (m k:Operand):ZY:=
 match C7 E t with
 |some (.map key elem)=>match zeroOf E elem,Y9 E key with
  |some z,some kd=> .act true (Cc E m) fun T s=>(Cc E m T).bind fun a=>(Cc E k T).bind fun b=>fL kd s z b a
  |_,_=> .bad
 |_=> .bad
def cw (n:Nat) (v:AV):List WV→Option (List WV)
 | []=>none
 |e::es=>bif Nat.beq e.2.2 n then some ((e.1,v,e.2.2)::es)else(cw n v es).bind fun r=>some (e::r)
def eS (s:St) (b n:Nat) (v:AV):Option CB→Option St
 |some (.map es clock)=>(cw n v es).bind fun gu=>some (s.put b (some (.map gu clock)))
 |_=>none
def cy (s:St) (v:AV):AV→AV→Option St
 | .map b,.YS c n=>bif Nat.beq b c then eS s b n v (s.heap.get b)else none
 |_,_=>none
def small (n WJ:Nat):Bool:=Nat.ble (n*WJ) 1099511627776&&Nat.ble n 1099511627776&& !(Nat.beq WJ 0)&&Nat.ble WJ 1048576
def eT (sz len n:Nat) (cap:Option Nat) (l:List AV):Bool:=
 match cap with
 |some c=>Nat.ble (len+n) c
 |none=>Nat.ble ((len+n)*sz) (W6 l)
def kB {α:Type}:Option α→Bool
 |some _=>true
 |none=>false
def bM:Option Nat→Bool
 |none=>true
 |some 0=>true
 |some (_+1)=>false
def Xx (s:St) (b:Nat) (cap:Option Nat):St:=bif bM cap then s.put b none else s
def ZH (s:St) (e:TypeId) (sz:Nat) (new:List AV) (n b off len:Nat) (cap:Option Nat) (cs:List AV) (e0:TypeId) (sl:Bool):Option (AV×St):=
 (WM off cs).bind fun l=>
  bif eT sz len n cap l then(over new (off+len*sz) cs).bind fun XS=>some (.slice b off (len+n) sz cap,s.put b (some (.cells XS e0 sl)))
  else bif Nat.beq e e0|| !(bM cap)then(takeN (len*sz) l).bind fun jC=>some (.slice s.next 0 (len+n) sz none,(Xx s b cap).alloc (.cells (jC++new) e true))else none
def YA (s:St) (e:TypeId) (sz:Nat) (new:List AV) (n b off len:Nat) (cap:Option Nat):Option CB→Option (AV×St)
 |some (.cells cs e0 sl)=>ZH s e sz new n b off len cap cs e0 sl
 |_=>none
def CA (s:St) (e:TypeId) (sz WJ:Nat) (new:List AV) (n:Nat):AV→Option (AV×St)
 | .Ca=>bif Nat.beq n 0 then some (.Ca,s)else bif small n WJ then some (.slice s.next 0 n sz none,s.alloc (.cells new e true))else none
 | .Cd cs len Yp cl=>bif Nat.beq n 0 then some (.Cd cs len Yp cl,s)else none
 | .slice b off len Yp cap=>bif Nat.beq n 0 then some (.slice b off len Yp cap,s)
  else bif Nat.beq Yp sz&&small (len+n) WJ then YA s e sz new n b off len cap (s.heap.get b)else none
 |_=>none
def WG (s:St) (sz:Nat):AV→Option (List AV×Nat)
 | .str b=>bif Nat.beq sz 1 then some (byteCells b,W6 b)else none
 |y=>Xa s sz y
def zw (z:List AV) (y:AV):Option (List AV×Nat):=
 (VW y).bind fun n=>bif Nat.ble n 1048576 then some (WQ z n,n)else none
def XU:Option TypeId→Bool
 |some t=>match C7 E t with
  |some (.int _)=>true
  |_=>false
 |none=>false
def ec:Option TypeId→Bool
 |some t=>kB (C7 E t)
 |none=>true
def bp (sT:TypeId) (xT:Option TypeId) (x y:Operand):ZY:=
 match C7 E sT with
 |some (.slice e)=>match sizeOf E e,bytesOf E e,zeroOf E e with
  |some sz,some WJ,some z=>
   bif !(Nat.beq (W6 z.cells) sz)||Nat.beq sz 0|| !(ec E xT)then .bad else
   bif XU E xT then .act true (Cc E x) fun T s=>(Cc E x T).bind fun a=>(Cc E y T).bind fun b=>(zw z.cells b).bind fun p=>CA s e sz WJ p.1 p.2 a
   else .act false (Cc E x) fun T s=>(Cc E x T).bind fun a=>(Cc E y T).bind fun b=>(WG s sz b).bind fun p=>CA s e sz WJ p.1 p.2 a
  |_,_,_=> .bad
 |_=> .bad
def copyV (s:St) (sz:Nat) (src:List AV×Nat):AV→Option (AV×St)
 | .slice b off len Yp _=>bif Nat.beq Yp sz then(takeN (Nat.min src.2 len*sz) src.1).bind fun l=>(Z3 s b off l).bind fun s'=>some (.int .i64 (Nat.min src.2 len:Nat),s')else none
 | .Ca=>some (.int .i64 0,s)
 |_=>none
def lV (t:TypeId) (x y:Operand):ZY:=
 match C7 E t with
 |some (.slice e)=>match sizeOf E e with
  |some sz=> .act false (Cc E x) fun T s=>(Cc E x T).bind fun a=>(Cc E y T).bind fun b=>(WG s sz b).bind fun p=>copyV s sz p a
  |none=> .bad
 |_=> .bad
def kC:AV→Option AV
 | .str b=>some (.int .i64 (W6 b))
 |_=>none
def ao:AV→Option AV
 | .Ca=>some (.int .i64 0)
 | .Cd _ n _ _=>some (.int .i64 n)
 | .slice _ _ n _ _=>some (.int .i64 n)
 |_=>none
def qn (s:St) (x:AV):Option AV:=(im s x).bind fun es=>some (.int .i64 (W6 es))
def fN (t:TypeId) (x:Operand):ZY:=
 match C7 E t with
 |some .string=> .pure fun T=>(Cc E x T).bind kC
 |some (.slice _)=> .pure fun T=>(Cc E x T).bind ao
 |some (.array n _)=> .pure fun T=>(Cc E x T).bind fun _=>some (.int .i64 n)
 |some (.map _ _)=> .read (Cc E x) fun T s=>(Cc E x T).bind (qn s)
 |some (.pointer a)=>match C7 E a with
  |some (.array n _)=> .pure fun T=>(Cc E x T).bind fun _=>some (.int .i64 n)
  |_=> .bad
 |_=> .bad
def oW:AV→Option AV
 | .Ca=>some (.int .i64 0)
 | .slice _ _ _ _ (some (c+1))=>some (.int .i64 ((c+1:Nat):Int))
 |_=>none
def qo (t:TypeId) (x:Operand):ZY:=
 match C7 E t with
 |some (.slice _)=> .pure fun T=>(Cc E x T).bind oW
 |_=> .bad
def y5 (kd:Kd) (s:St) (b:Nat) (k:AV):Option CB→Option St
 |some (.map es clock)=>(ZG kd k es).bind fun r=>match r with
  |some _=>some (s.put b (some (.map (nn kd k es) clock)))
  |none=>some s
 |_=>none
def vA (kd:Kd) (s:St) (k:AV):AV→Option St
 | .map b=>bif bU kd k then y5 kd s b k (s.heap.get b)else none
 | .VU=>bif bU kd k then some s else none
 |_=>none
def zy (t:TypeId) (m k:Operand):ZY:=
 match C7 E t with
 |some (.map key _)=>match Y9 E key with
  |some kd=> .act true (Cc E m) fun T s=>(Cc E m T).bind fun a=>(Cc E k T).bind fun b=>ai (vA kd s b a)
  |none=> .bad
 |_=> .bad
def np (s:St) (sz:Nat) (z:List AV):AV→Option St
 | .slice b off len Yp _=>bif Nat.beq Yp sz then(bif Nat.beq len 0 then some s else Z3 s b off (WQ z len))else none
 | .Ca=>some s
 |_=>none
def iu (s:St) (b:Nat):Option CB→Option St
 |some (.map _ clock)=>some (s.put b (some (.map [] clock)))
 |_=>none
def iw (s:St):AV→Option St
 | .map b=>iu s b (s.heap.get b)
 | .VU=>some s
 |_=>none
def nq (t:TypeId) (x:Operand):ZY:=
 match C7 E t with
 |some (.slice e)=>match sizeOf E e,zeroOf E e with
  |some sz,some z=>bif Nat.beq (W6 z.cells) sz&& !z.isTuple then .act true (Cc E x) fun T s=>(Cc E x T).bind fun a=>ai (np s sz z.cells a)else .bad
  |_,_=> .bad
 |some (.map _ _)=> .act true (Cc E x) fun T s=>(Cc E x T).bind fun a=>ai (iw s a)
 |_=> .bad
def aN (c:Nat):List UInt8→Nat
 | []=>0
 |b::l=>bif Nat.beq b.toNat c then aN c l+1 else aN c l
def jm (c:Nat):List UInt8→Option Nat
 | []=>none
 |b::l=>bif Nat.beq b.toNat c then some 0 else(jm c l).bind fun n=>some (n+1)
def ix:AV→AV→Option AV
 | .str l,.int .u8 (.ofNat c)=>bif Nat.blt c 256 then some (.int .i64 (aN c l))else none
 |_,_=>none
def ZI:AV→AV→Option AV
 | .str l,.int .u8 (.ofNat c)=>bif Nat.blt c 256 then(match jm c l with
  |some n=>some (.int .i64 n)
  |none=>some (.int .i64 (-1)))else none
 |_,_=>none
def og:AV→AV→Option AV
 | .int k x,.int _ y=>some (.int k (if y>x then y else x))
 |_,_=>none
def lW:AV→AV→Option AV
 | .int k x,.int _ y=>some (.int k (if y<x then y else x))
 |_,_=>none
def lX (f:AV→AV→Option AV):List AV→AV→Option AV
 | [],x=>some x
 |y::l,x=>(f x y).bind fun z=>lX f l z
def vB (f:AV→AV→Option AV) (xs:List Operand):ZY:=
 match xs with
 |x::l=> .pure fun T=>(Cc E x T).bind fun a=>(CO E l T).bind fun r=>lX f r a
 | []=> .bad
def Yw (e:TypeId) (sz WJ:Nat) (z:List AV) (l c:Nat):Option Mk:=
 bif Nat.ble l c&&(Nat.beq c 0||small c WJ)then
  bif Nat.beq c 0 then some (.val .Ca)else some (.obj (.cells (WQ z c) e false) fun b=> .slice b 0 l sz (some c))
 else none
def ZJ (t:TypeId) (l c:Operand):ZY:=
 match C7 E t with
 |some (.slice e)=>match sizeOf E e,bytesOf E e,zeroOf E e with
  |some sz,some WJ,some z=>bif Nat.beq (W6 z.cells) sz then .make fun T=>(Cc E l T).bind fun a=>(Cc E c T).bind fun b=>(VW a).bind fun n=>(VW b).bind fun m=>Yw e sz WJ z.cells n m else .bad
  |_,_,_=> .bad
 |_=> .bad
def Zh (e:TypeId) (sz len:Nat):Option (List AV)→Option Mk
 |some cs=>bif Nat.beq len 0 then some (.val .Ca)else some (.obj (.cells cs e false) fun b=> .slice b 0 len sz (some len))
 |none=>none
def XZ (t:TypeId) (len:Nat) (parts:List (Nat×Operand)):ZY:=
 match C7 E t with
 |some (.slice e)=>match sizeOf E e,zeroOf E e with
  |some sz,some z=>bif Nat.beq (W6 z.cells) sz&&Nat.ble (len*sz) 16777216&& !(Nat.beq sz 0)then
   .make fun T=>(ZD E parts T).bind fun ps=>Zh e sz len (ZC (fun i=>some (i*sz,sz)) ps (WQ z.cells len))else .bad
  |_,_=> .bad
 |_=> .bad
def lY:AV→Option Mk
 | .str b=>some (.obj (.X5 b 0) fun i=> .ptr i 0)
 |_=>none
def rangeMap (s:St):AV→Option (AV×St)
 | .VU=>some (.ptr s.next 0,s.alloc (.Zt none 0 [] 0))
 | .map m=>match s.heap.get m with
  |some (.map _ clock)=>some (.ptr s.next 0,s.alloc (.Zt (some m) clock [] clock))
  |_=>none
 |_=>none
def iy (t:TypeId) (x:Operand):ZY:=
 match C7 E t with
 |some .string=> .make fun T=>(Cc E x T).bind lY
 |some (.map _ _)=> .act false nothing fun T s=>(Cc E x T).bind (rangeMap s)
 |_=> .bad
def oh (s:St) (r:Nat) (b:List UInt8) (pos:Nat) (d:Nat×Nat):Option (AV×St):=
 some (.tuple [.bool true,.int .i64 pos,.int .i32 d.1],s.put r (some (.X5 b (pos+d.2))))
def aO (s:St) (r:Nat):Option CB→Option (AV×St)
 |some (.X5 b pos)=>(WM pos b).bind fun l=>match l with
  |c::_=>bif Nat.blt c.toNat 128 then some (.tuple [.bool true,.int .i64 pos,.int .i32 c.toNat],s.put r (some (.X5 b (pos+1))))else oh s r b pos (Utf8.decode ⟨b.toArray⟩ pos)
  | []=>some (.tuple [.bool false],s)
 |_=>none
def bq (s:St):AV→Option (AV×St)
 | .ptr r 0=>aO s r (s.heap.get r)
 |_=>none
def jD (n:Nat):List Nat→Bool
 | []=>false
 |k::l=>bif Nat.beq k n then true else jD n l
def eU (seen:List Nat):List WV→List WV
 | []=>[]
 |e::l=>bif jD e.2.2 seen then eU seen l else e::eU seen l
def kD (s:St) (r m since clock:Nat) (seen:List Nat):List WV→List (AV×St)
 | []=>[]
 |e::l=>(.tuple [.bool true,e.1,e.2.1],s.put r (some (.Zt (some m) since (seen++[e.2.2]) clock)))::kD s r m since clock seen l
def jE (s:St) (r m since WC:Nat) (seen:List Nat):Option CB→Option (List (AV×St))
 |some (.map es clock)=>bif Nat.beq clock WC&&Nat.beq clock since then
  match eU seen es with
  | []=>some [(.tuple [.bool false],s)]
  |e::l=>some (kD s r m since clock seen (e::l))
  else none
 |_=>none
def fO (s:St) (r:Nat):Option CB→Option (List (AV×St))
 |some (.Zt none _ _ _)=>some [(.tuple [.bool false],s)]
 |some (.Zt (some m) since seen WC)=>jE s r m since WC seen (s.heap.get m)
 |_=>none
def gX (s:St):AV→Option (List (AV×St))
 | .ptr r 0=>fO s r (s.heap.get r)
 |_=>none
def qp:List Nat→Option Nat
 | []=>none
 |a::l=>match l with
  | []=>some a
  |_::_=>qp l
def eV (n:Nat):List WV→Option WV
 | []=>none
 |e::es=>bif Nat.beq e.2.2 n then some e else eV n es
def oi (WC n:Nat):Option CB→Option AV
 |some (.map es clock)=>bif Nat.beq clock WC then(eV n es).bind fun e=>some (.tuple [e.1,e.2.1])else none
 |_=>none
def kF (s:St):Option CB→Option AV
 |some (.Zt (some m) _ seen WC)=>(qp seen).bind fun n=>oi WC n (s.heap.get m)
 |_=>none
def kG (s:St):AV→Option AV
 | .ptr r 0=>kF s (s.heap.get r)
 |_=>none
def kH (ok:Bool) (v:AV):Option AV:=some (bif ok then .tuple [v,.bool true]else v)
def fP (ok:Bool) (z:AV):Option AV:=bif ok then some (.tuple [z,.bool false])else none
def iz (want:Array (String×TypeId)) (t:TypeId):Option Bool:=
 match E.tys.get t with
 |some i=>match Instr.missingMethod want i.methods with
  |none=>some true
  |some _=>some false
 |none=>none
def kI (want:Array (String×TypeId)) (ok:Bool) (z:AV):AV→Option AV
 | .iface t v=>(iz E want t).bind fun h=>bif h then kH ok (.iface t v)else fP ok z
 | .C8=>fP ok z
 |_=>none
def eW (t:TypeId) (ok:Bool) (z:AV):AV→Option AV
 | .iface u v=>bif Nat.beq u t then kH ok v else fP ok z
 | .C8=>fP ok z
 |_=>none
def eX (x:Operand) (t:TypeId) (ok:Bool):ZY:=
 match C7 E t,zeroOf E t with
 |some (.interface want),some z=> .pure fun T=>(Cc E x T).bind (kI E want ok z)
 |some _,some z=> .pure fun T=>(Cc E x T).bind (eW t ok z)
 |_,_=> .bad
inductive Recv where
 |mk (off:Option Nat) (load:Option TypeId)
 |part (off n:Nat) (agg:Bool)
def br (off:Option Nat) (f:FuncId) (t:TypeId):Bool→Option (FuncId×Recv)
 |true=>match C7 E t,off with
  |some (.pointer _),none=>some (f,.mk none none)
  |some (.pointer _),some n=>some (f,.mk (some n) (some t))
  |some _,some n=>some (f,.mk (some n) none)
  |_,_=>none
 |false=>match C7 E t,off with
  |some (.pointer e),none=>some (f,.mk none (some e))
  |some (.pointer _),some _=>none
  |some _,none=>some (f,.mk none none)
  |some _,some n=>some (f,.mk (some n) (some t))
  |_,_=>none
def iC (t:TypeId):Bool:=match C7 E t with
 |some (.pointer _)=>true
 |_=>false
def stepOf (st:FieldStep):Option (Nat×TypeId):=
 bif st.deref then match C7 E st.struct with
  |some (.struct fields)=>(nth fields.toList st.index).bind fun f=>match sizeOf E f.type with
   |some (_+1)=>some (f.offset,f.type)
   |_=>none
  |_=>none
 else none
def methodOf (t:TypeId) (name:String):Option (FuncId×Recv):=
 (E.tys.get t).bind fun i=>(i.methods.toList.find? (·.name==name)).bind fun m=>match m.path.toList,m.func with
  | [],some (f,p)=>br E none f t p
  | [st],some (f,p)=>bif st.deref then(stepOf E st).bind fun q=>br E (some q.1) f q.2 p
   else match C7 E st.struct,p with
    |some (.struct fields),false=>(nth fields.toList st.index).bind fun x=>bif iC E x.type then none else
     (sizeOf E x.type).bind fun n=>(isAgg E x.type).bind fun a=>some (f,.part x.offset n a)
    |_,_=>none
  |_,_=>none
def CI (f:FuncId):Bool:=match E.fns.get f with
 |some fn=>match fn.body with
  |some _=>true
  |none=>false
 |none=>false
def nr (v:AV):Option Nat→Option AV
 |none=>some v
 |some n=>XE n v
def aq (s:St) (v:AV):Recv→Option AV
 | .mk off load=>(nr v off).bind fun p=>match load with
  |none=>some p
  |some e=>Wu E e s p
 | .part off n true=>YW off n v
 | .part off _ false=>Z8 off v
def Z4 (s:St) (name:String) (args:List AV):AV→Option (FuncId×List AV)
 | .iface t v=>(methodOf E t name).bind fun m=>bif CI E m.1 then(aq E s v m.2).bind fun r=>some (m.1,r::args)else none
 |_=>none
def qt:AV→Option AV
 | .slice b off (_+1) _ _=>some (.ptr b off)
 | .slice _ _ 0 _ _=>some .ab
 | .Ca=>some .ab
 |_=>none
def jF (v:AV):Option Mk:=match qt v with
 |some r=>some (.val r)
 |none=>none
def oo (ty:TypeId) (x:Operand):ZY:=
 match C7 E ty with
 |some (.pointer _)=> .make fun T=>(Cc E x T).bind jF
 |_=> .bad
def cz (s:St) (E:Env) (e' b off n:Nat):Option CB→Option (AV×St)
 |some (.cells cs e _)=>bif Nat.beq e e'&&isByte E e then(cut cs off n).bind fun l=>(WR l).bind fun r=>some (.str r,s.put b none)else none
 |_=>none
def dj (s:St) (E:Env) (e' n:Nat):AV→Option (AV×St)
 | .ptr b off=>bif Nat.beq n 0 then some (.str [],s)else cz s E e' b off n (s.heap.get b)
 | .ab=>bif Nat.beq n 0 then some (.str [],s)else none
 | .CJ=>bif Nat.beq n 0 then some (.str [],s)else none
 |_=>none
def gY (t:TypeId) (x y:Operand):ZY:=
 match C7 E t with
 |some (.pointer e)=>bif isByte E e&&Nat.beq ((sizeOf E e).getD 0) 1 then .act false (Cc E x) fun T s=>(Cc E x T).bind fun a=>(Cc E y T).bind fun b=>(VW b).bind fun n=>bif Nat.ble n 1099511627776 then dj s E e n a else none else .bad
 |_=> .bad
def gZ (e:TypeId):AV→Option Mk
 | .int .i64 (.ofNat n)=>bif Nat.blt 0 n&&Nat.ble n 1099511627776 then some (.obj (.cells [] e true) fun i=> .slice i 0 n 1 none)else none
 |_=>none
def qu:Option Func→Option TypeId
 |some fn=>match fn.resultTypes.toList with
  | [t]=>match C7 E t with
   |some (.slice e)=>bif isByte E e then some e else none
   |_=>none
  |_=>none
 |none=>none
def eY (f:FuncId) (name:String) (args:List Operand):ZY:=
 match args with
 | [x]=>bif name== "internal/abi.NoEscape" then .pure (Cc E x)
  else bif name== "internal/bytealg.MakeNoZero" then(match qu E (E.fns.get f)with
   |some e=> .make fun T=>(Cc E x T).bind (gZ e)
   |none=> .bad)else .bad
 | [x,y]=>bif name== "internal/bytealg.CountString" then XT E ix x y
  else bif name== "internal/bytealg.IndexByteString" then XT E ZI x y else .bad
 |_=> .bad
def nameOf (f:FuncId):String:=match E.fns.get f with
 |some fn=>fn.name
 |none=> ""
def eZ (ty:TypeId) (b:Builtin) (ts:List TypeId) (args:List Operand):ZY:=
 match b,ts,args with
 | .append,t::ts',[x,y]=>bp E t ts'.head? x y
 | .len,t::_,[x]=>fN E t x
 | .cap,t::_,[x]=>qo E t x
 | .copy,t::_,[x,y]=>lV E t x y
 | .delete,t::_,[m,k]=>zy E t m k
 | .clear,t::_,[x]=>nq E t x
 | .unsafeSliceData,_,[x]=>bif E.ext then oo E ty x else .bad
 | .unsafeString,t::_,[x,y]=>bif E.ext then gY E t x y else .bad
 | .max,_,xs=>vB E og xs
 | .min,_,xs=>vB E lW xs
 | .recover,_,_=> .recover
 |_,_,_=> .bad
def VV (ty:TypeId) (c:Call):ZY:=
 match c.callee with
 | .builtin b=>eZ E ty b c.argTypes.toList c.args.toList
 | .value (.func f)=>bif CI E f then .call fun T _=>(CO E c.args.toList T).bind fun args=>some (f,args)else(bif E.ext then eY E f (nameOf E f) c.args.toList else .bad)
 | .value x=> .ZB (Cc E x) (CO E c.args.toList)
 | .invoke r name=> .call fun T s=>(CO E c.args.toList T).bind fun args=>(Cc E r T).bind (Z4 E s name args)
def dk:Fn→Bool
 | .yield _=>true
 |_=>false
def fQ (args:List AV):AV→Option dX
 | .func fn first captured=>bif dk fn then none else some {target:= .fn fn captured,args:=first++args}
 |_=>none
def ed (c:Call):ZY:=
 match c.callee with
 | .value x=> .defer fun T=>(Cc E x T).bind fun f=>(CO E c.args.toList T).bind fun args=>fQ args f
 |_=> .bad
def kJ:AV→Bool
 | .ptr _ _=>true
 | .WO _=>true
 |_=>false
def ZK (v:AV):Option (FuncId×Recv)→Bool
 |some (_,.mk none none)=>true
 |some (_,.mk _ _)=>kJ v
 |some (_,.part off n true)=>kB (YW off n v)
 |some (_,.part off _ false)=>kB (Z8 off v)
 |none=>false
def iD (name:String):List AV→Bool
 | [.iface t v]=>ZK v (methodOf E t name)
 |_=>false
def lZ:AV→Option AV
 | .ptr b o=>some (.ptr b o)
 | .WO cs=>some (.WO cs)
 | .func (.func f) a b=>some (.func (.func f) a b)
 | .func (.yield f) a b=>some (.func (.yield f) a b)
 | .func (.method name) a b=>bif iD E name a then some (.func (.method name) a b)else none
 | .iface t v=>some (.iface t v)
 |_=>none
def iE (a b:TO) (T:Tm):AV→Option AV
 | .bool t=>bif t then a T else b T
 |_=>none
def CC (t:TypeId):Option Bool:=match C7 E t with
 |some (.interface _)=>some true
 |some _=>some false
 |none=>none
def ZL (t:TypeId) (x:Operand):ZY:=
 match CC E t with
 |some false=> .pure fun T=>(Cc E x T).bind fun v=>some (.iface t v)
 |_=> .bad
def fR (fn:Fn) (first captured:List Operand):ZY:=
 bif dk fn then .bad else .pure fun T=>(CO E first T).bind fun a=>(CO E captured T).bind fun b=>some (.func fn a b)
def cA (t:TypeId) (r:Option Operand):ZY:=
 match C7 E t,r with
 |some (.map _ _),none=> .make fun _=>some (.obj (.map [] 0) .map)
 |some (.map _ _),some x=> .make fun T=>(Cc E x T).bind fun v=>(VW v).bind fun _=>some (.obj (.map [] 0) .map)
 |_,_=> .bad
def aP (i:Nat):AV→Option AV
 | .tuple vs=>nth vs i
 |_=>none
def kK:AV→Option AV
 | .iface t v=>some (.iface t v)
 |_=>none
def ee (t:TypeId) (a x:Operand):ZY:=
 match sizeOf E t with
 |some n=> .act true (Cc E a) fun T s=>(Cc E a T).bind fun p=>(Cc E x T).bind fun v=>ai (cn n s v p)
 |none=> .bad
def iF (t:TypeId):ZY:=
 match zeroOf E t with
 |some z=>bif z.isTuple then .bad else .make fun _=>some (.obj (.cells z.cells t false) fun b=> .ptr b 0)
 |none=> .bad
def Xg (ty:TypeId) (o:Op):ZY:=
 match o with
 | .move x=> .pure (Cc E x)
 | .assign x=> .pure (Cc E x)
 | .pick c a b=> .pure fun T=>(Cc E c T).bind (iE (Cc E a) (Cc E b) T)
 | .alloc t=>iF E t
 | .box t x=> .make fun T=>(Cc E x T).bind fun v=>bif v.isTuple then none else some (.obj (.cells v.cells t false) fun b=> .ptr b 0)
 | .build t parts=>ig E t parts.toList
 | .buildSlice t len parts=>XZ E t len parts.toList
 | .load t a=> .read (Cc E a) fun T s=>(Cc E a T).bind (Wu E t s)
 | .store t a x=>ee E t a x
 | .nilCheck x=> .pure fun T=>(Cc E x T).bind (lZ E)
 | .binOp op t x y _=>eL E op t x y
 | .unOp op _ x=> .pure fun T=>(Cc E x T).bind (qk op)
 | .convert src dst x=>cu E src dst x
 | .makeInterface t x=>ZL E t x
 | .makeFunc fn first captured=>fR E fn first.toList captured.toList
 | .makeMap t r=>cA E t r
 | .makeSlice t l c=>ZJ E t l c
 | .slice t x lo hi mx=>bo E t x lo hi mx
 | .fieldAddr t x f=>Yv E t x f
 | .field t x f=>ng E t x f
 | .indexAddr t x i=>Wy E t x i
 | .index t x i=>dY E t x i
 | .lookup t x i ok=>eQ E t x i ok
 | .mapUpdate t m k v=>dh E t m k v
 | .insert t m k v=>dh E t m k v
 | .mapEntry t m k=>fM E t m k
 | .entryStore _ m st v=> .act true (Cc E m) fun T s=>(Cc E m T).bind fun a=>(Cc E st T).bind fun b=>(Cc E v T).bind fun c=>ai (cy s c a b)
 | .range t x=>iy E t x
 | .next it isString=>bif isString then .act true (Cc E it) fun T s=>(Cc E it T).bind (bq s)else .j6 fun T s=>(Cc E it T).bind (gX s)
 | .entry it=> .look fun T s=>(Cc E it T).bind (kG s)
 | .typeAssert x _ a ok=>eX E x a ok
 | .extract t i=> .pure fun T=>(Cc E t T).bind (aP i)
 | .call c=>VV E ty c
 | .defer c=>ed E c
 | .panic x=> .panic fun T=>(Cc E x T).bind kK
 |_=> .bad
def Cr:Nat→AV→Bool
 |0,_=>false
 |n+1,v=>match v with
  | .ptr _ _=>false
  | .slice _ _ _ _ _=>false
  | .map _=>false
  | .YS _ _=>false
  | .agg cs=>cs.all (Cr n)
  | .tuple cs=>cs.all (Cr n)
  | .Cd _ _ _ cl=>cl
  | .WO cs=>cs.all (Cr n)
  | .func (.yield _) _ _=>false
  | .func _ a b=>a.all (Cr n)&&b.all (Cr n)
  | .iface _ v=>Cr n v
  |_=>true
def Cz (m:Nat):Nat→AV→Bool
 |0,_=>false
 |n+1,v=>match v with
  | .ptr b _=>Nat.blt b m
  | .slice b _ _ _ _=>Nat.blt b m
  | .map b=>Nat.blt b m
  | .YS b _=>Nat.blt b m
  | .agg cs=>cs.all (Cz m n)
  | .tuple cs=>cs.all (Cz m n)
  | .Cd cs _ _ cl=>cl||cs.all (Cz m n)
  | .WO cs=>cs.all (Cz m n)
  | .func (.yield l) _ _=>Nat.blt l m
  | .func _ a b=>a.all (Cz m n)&&b.all (Cz m n)
  | .iface _ v=>Cz m n v
  |_=>true
def cB (m:Nat):Option CB→Bool
 |some (.cells cs _ _)=>cs.all (Cz m 40)
 |some (.map es _)=>es.all fun e=>Cz m 40 e.1&&Cz m 40 e.2.1
 |none=>true
 |_=>false
def CH (s:St) (from_:Nat):Nat→AV→List Nat→Option (AV×List Nat)
 |0,_,_=>none
 |n+1,v,ks=>match v with
  | .slice b off len sz cap=>bif Nat.blt b from_ then some (.slice b off len sz cap,ks)else(VZ (s.heap.get b)).bind fun cs=>(cut cs off (len*sz)).bind fun l=>
   (many (CH s from_ n) l ks).bind fun p=>some (.Cd p.1 len sz (p.1.all (Cr 40)),b::p.2)
  | .agg cs=>(many (CH s from_ n) cs ks).bind fun p=>some (.agg p.1,p.2)
  | .tuple cs=>(many (CH s from_ n) cs ks).bind fun p=>some (.tuple p.1,p.2)
  | .Cd cs len sz cl=>bif cl then some (.Cd cs len sz cl,ks)else(many (CH s from_ n) cs ks).bind fun p=>some (.Cd p.1 len sz (p.1.all (Cr 40)),p.2)
  | .iface t v=>(CH s from_ n v ks).bind fun p=>some (.iface t p.1,p.2)
  |v=>some (v,ks)
where
 many (f:AV→List Nat→Option (AV×List Nat)):List AV→List Nat→Option (List AV×List Nat)
  | [],ks=>some ([],ks)
  |v::l,ks=>(f v ks).bind fun p=>(many f l p.2).bind fun q=>some (p.1::q.1,q.2)
def kill (s:St):List Nat→St
 | []=>s
 |b::l=>kill (s.put b none) l
end ops
section run
variable (E : Env)
def XV:Nat→List AV→Tr AV→Tr AV
 |_,[],t=>t
 |i,v::l,t=>XV (i+1) l (t.set i (some v))
def aQ (nt:Nat):List Nat→List AV→Tr AV→Option (Tr AV)
 | [],[],t=>some t
 |p::ps,v::vs,t=>bif Nat.blt p nt then aQ nt ps vs (t.set p (some v))else none
 |_,_,_=>none
def XL (s:St) (T:Tr AV):List ResultVar→Option (List AV)
 | []=>some []
 | .tmp t::l=>(T.get t).bind fun v=>(XL s T l).bind fun r=>some (v::r)
 | .cell a t::l=>(T.get a).bind fun p=>(Wu E t s p).bind fun v=>(XL s T l).bind fun r=>some (v::r)
def ZM:List AV→AV
 | [v]=>v
 |l=> .tuple l
def Wb (n:Nat) (v:AV) (s:St):Option (AV×St):=(CH s n 40 v []).bind fun p=>some (p.1,kill s p.2)
def frozen (f:FuncId) (s0:St) (v:AV) (s:St):Option (AV×St):=
 match E.nX f with
 |0=>some (v,s)
 |1=>match s.log with
  | []=>Wb s0.next v s
  |_::_=>some (v,s)
 |_=>Wb 0 v s
def below (n:Nat):List Nat→List Nat→List Nat
 | [],l=>l
 |b::r,l=>bif Nat.blt b n then b::below n r l else below n r l
def St.back (s0 s:St):St:= {s with bound:=s0.bound,log:=below s0.bound s.log s0.log}
def Yx (s0:St) (v:AV) (s:St):List Nat→CR
 | []=>bif Cz s0.next 40 v then .same v else .val v (s0.back s)
 |_::_=> .val v (s0.back s)
def leave (f:FuncId) (s0:St) (v:AV) (s:St):Option CR:=
 (frozen E f s0 v s).bind fun p=>some (Yx s0 p.1 p.2 p.2.log)
def St.enter (s:St):St:= {s with bound:=s.next,log:=[]}
def St.whole (s:St):St:= {s with bound:=s.next,log:=[]}
abbrev qw:=Fr→Tr AV→St→Out
abbrev Ev:=Code→qw
def y6 (a b:Option Nat):Bool:=
 match a,b with
 |none,none=>true
 |some x,some y=>Nat.beq x y
 |_,_=>false
def fb:AV→AV→Bool
 | .bool a,.bool b=>bif a then b else !b
 | .int j a,.int k b=>if j=k then decide (a=b)else false
 | .str a,.str b=>Wo a b
 | .CJ,.CJ=>true
 | .ptr a b,.ptr c d=>Nat.beq a c&&Nat.beq b d
 | .Ca,.Ca=>true
 | .slice a b c d e,.slice f g h i j=>Nat.beq a f&&Nat.beq b g&&Nat.beq c h&&Nat.beq d i&&y6 e j
 | .VU,.VU=>true
 | .map a,.map b=>Nat.beq a b
 |_,_=>false
def cC:List AV→List AV→Bool
 | [],[]=>true
 |a::l,b::r=>fb a b&&cC l r
 |_,_=>false
def Zu:AV→Option AV→Bool
 | .agg a,some (.agg b)=>cC a b
 | .tuple a,some (.tuple b)=>cC a b
 |a,some b=>fb a b
 |_,none=>false
def y7:AV→AV→Option AV
 | .Ca,.Ca=>some .Ca
 | .Ca,.Cd [] 0 sz _=>some (.Cd [] 0 sz true)
 | .Cd [] 0 sz _,.Ca=>some (.Cd [] 0 sz true)
 | .Cd [] 0 sz _,.Cd [] 0 _ _=>some (.Cd [] 0 sz true)
 | .Cd cs len sz cl,.Cd XS W6 Yp _=>bif cl&&Nat.beq len W6&&Nat.beq sz Yp&&cC cs XS then some (.Cd cs len sz cl)else none
 |a,b=>bif fb a b then some a else none
def y8:List AV→List AV→Option (List AV)
 | [],[]=>some []
 |a::l,b::r=>(y7 a b).bind fun c=>(y8 l r).bind fun q=>some (c::q)
 |_,_=>none
def joinV:AV→AV→Option AV
 | .tuple a,.tuple b=>(y8 a b).bind fun l=>some (.tuple l)
 |a,b=>y7 a b
def frame (nt:Nat) (args:List AV) (WD:Option AV):Fr:= {nt:=Nat.max nt (W6 args),defers:=[],WD,round:=none}
def recovered:Option AV→Option AV→Bool
 |some _,none=>true
 |_,_=>false
def fc (m:Option AV):Out→Option (Bool×St)
 | .one ⟨.normal,fr,_,st⟩=>match fr.defers with| []=>some (recovered m fr.WD,st)|_=>none
 | .one ⟨.ret,fr,_,st⟩=>match fr.defers with| []=>some (recovered m fr.WD,st)|_=>none
 |_=>none
def kL (ev:Ev) (f:FuncId) (args:List AV) (m:Option AV) (s:St):Option (Bool×St):=
 (E.fns.get f).bind fun fn=>fn.body.bind fun c=>match fn.results.toList with
  | []=>fc m (ev c (frame fn.ntmps args m) (XV 0 args .nil) s)
  |_::_=>none
def fe (ev:Ev) (m:Option AV) (s:St) (d:dX):Option (Option AV×St):=
 match d.target with
 | .collected r=>match s.heap.get r with
  |some (.defs true)=>some (m,s.put r (some (.defs false)))
  |_=>none
 | .fn (.func f) captured=>(kL E ev f (d.args++captured) m s).bind fun p=>some (bif p.1 then none else m,p.2)
 |_=>none
def unwind (ev:Ev):List dX→Option AV→St→Option (Option AV×St)
 | [],m,s=>some (m,s)
 |d::ds,m,s=>(fe E ev m s d).bind fun p=>unwind ev ds p.1 p.2
def cD:Ex→Option (Option AV)
 | .normal=>some none
 | .ret=>some none
 | .panic v=>some (some v)
 | .exit _=>none
def endWith (f:FuncId) (fn:Func) (s:St) (T:Tr AV):Option AV→St→Option CR
 |none,s'=>(XL E s' T fn.results.toList).bind fun vs=>leave E f s (ZM vs) s'
 |some v,s'=>some (.WD v (s.back s'))
def YY (ev:Ev) (f:FuncId) (fn:Func) (s:St) (r:Z2):Option CR:=
 (cD r.ex).bind fun m=>(unwind E ev r.fr.defers m r.st).bind fun p=>endWith E f fn s r.T p.1 p.2
def pull (k:AV):List WV→Option (WV×List WV)
 | []=>none
 |e::es=>bif Zu k (some e.1)then some (e,es)else(pull k es).bind fun p=>some (p.1,e::p.2)
def fS (n a b:Nat):Bool:=Nat.beq a b||(Nat.ble n a&&Nat.ble n b)
def X6 (n:Nat):List WV→List WV→Bool
 | [],[]=>true
 | [],_::_=>false
 |e::r,l=>match pull e.1 l with
  |some p=>Zu e.2.1 (some p.1.2.1)&&fS n e.2.2 p.1.2.2&&X6 n r p.2
  |none=>false
def hB (s:Nat):List WV→Bool
 | []=>true
 |e::l=> !(Nat.beq s e.2.2)&&hB s l
def Xo (n:Nat):List WV→Bool
 | []=>true
 |e::l=>Nat.blt e.2.2 n&&hB e.2.2 l&&Xo n l
def au (m:Nat) (o a b:Option CB):Bool:=
 match o,a,b with
 |some (.map _ n0),some (.map es n),some (.map gu n')=>Nat.beq n n'&&X6 n0 es gu&&Xo n es&&cB m (some (.map es n))
 |some (.cells _ _ _),some (.cells a t p),some (.cells b t' p')=>cC a b&&Nat.beq t t'&&(bif p then p' else !p')&&cB m (some (.cells a t p))
 |_,_,_=>false
def outcome (s0:St):Option CR→Option (AV×St)
 |some (.same v)=>some (v,s0)
 |some (.val v s)=>some (v,s)
 |_=>none
def ff (ev:Ev) (f:FuncId) (fn:Func) (s0:St):List Z2→Option (List (AV×St))
 | []=>some []
 |r::l=>(outcome s0.whole (YY E ev f fn s0.whole r)).bind fun o=>(ff ev f fn s0 l).bind fun os=>some (o::os)
def YZ:List (AV×St)→List Nat→List Nat
 | [],l=>l
 |o::os,l=>YZ os (fT o.2.log l)
where fT:List Nat→List Nat→List Nat
 | [],l=>l
 |b::r,l=>fT r (Xt b l)
def iG (s0 a b:St):List Nat→Bool
 | []=>true
 |n::l=>Nat.blt n s0.next&&au s0.next (s0.heap.get n) (a.heap.get n) (b.heap.get n)&&iG s0 a b l
def XW (s1:St):List Nat→St→St
 | [],s=>s
 |b::l,s=>XW s1 l (s.put b (s1.heap.get b))
mutual
def Za:AV→AV→Bool
 | .bool a,.bool b=>bif a then b else !b
 | .int j a,.int k b=>if j=k then decide (a=b)else false
 | .str a,.str b=>Wo a b
 | .CJ,.CJ=>true
 | .Ca,.Ca=>true
 | .VU,.VU=>true
 | .Cu,.Cu=>true
 | .C8,.C8=>true
 | .WO a,.WO b=>cI a b
 | .Cd a l s c,.Cd b m t d=>Nat.beq l m&&Nat.beq s t&&(bif c then d else !d)&&cI a b
 | .iface t a,.iface u b=>Nat.beq t u&&Za a b
 | .agg a,.agg b=>cI a b
 | .tuple a,.tuple b=>cI a b
 |_,_=>false
def cI:List AV→List AV→Bool
 | [],[]=>true
 |a::l,b::r=>Za a b&&cI l r
 |_,_=>false
end
def kM:Option CR→Option AV
 |some (.same v)=>some v
 |_=>none
def fg (ev:Ev) (f:FuncId) (fn:Func) (s0:St) (v:AV):List Z2→Bool
 | []=>true
 |r::l=>match kM (YY E ev f fn s0.whole r)with
  |some u=>Za u v&&fg ev f fn s0 v l
  |none=>false
def many1 (ev:Ev) (f:FuncId) (fn:Func) (s0:St) (r:Z2) (l:List Z2):Option CR:=
 (kM (YY E ev f fn s0.whole r)).bind fun v=>bif fg E ev f fn s0 v l then some (.same v)else none
def dm (m:Nat) (s0:St) (o:AV×St) (L:List Nat):List (AV×St)→Bool
 | []=>true
 |q::l=>((Zu o.1 (some q.1)&&Cz m 40 o.1)||(Za o.1 q.1&&Cr 40 o.1))&&iG s0 o.2 q.2 L&&dm m s0 o L l
def hE (s0:St) (o:AV×St) (os:List (AV×St)) (L:List Nat):Option CR:=
 bif dm s0.next s0 o L (o::os)then some (.val o.1 (XW o.2 L s0))else none
def aR (n:Nat) (o:AV×St):Option (List WV×Nat):=
 match o.1,o.2.log with
 | .map b,[]=>bif Nat.ble n b then(match o.2.heap.get b with
  |some (.map es c)=>some (es,c)
  |_=>none)else none
 |_,_=>none
def oq (es:List WV) (c:Nat):Option (List WV×Nat)→Bool
 |some p=>Nat.beq p.2 c&&X6 0 es p.1&&cB 0 (some (.map p.1 p.2))
 |none=>false
def aS (n:Nat) (es:List WV) (c:Nat):List (AV×St)→Bool
 | []=>true
 |q::l=>oq es c (aR n q)&&aS n es c l
def dp (s0:St) (o:AV×St) (os:List (AV×St)):Option CR:=
 (aR s0.next o).bind fun p=>bif aS s0.next p.1 p.2 (o::os)&&Xo p.2 p.1 then some (.val (.map s0.next) (s0.alloc (.map p.1 p.2)))else none
def zz (b:Option CR):Option CR→Option CR
 |some c=>some c
 |none=>b
def kN (ev:Ev) (f:FuncId) (fn:Func) (s0:St) (r:Z2) (l:List Z2):Option CR:=
 (outcome s0.whole (YY E ev f fn s0.whole r)).bind fun o=>(ff E ev f fn s0 l).bind fun os=>zz (dp s0 o os) (hE s0 o os (YZ (o::os) []))
def kO (ev:Ev) (f:FuncId) (fn:Func) (s0:St) (r:Z2) (l:List Z2):Option CR→Option CR
 |some c=>some c
 |none=>bif E.merge then kN E ev f fn s0 r l else none
def kP (ev:Ev) (f:FuncId) (fn:Func) (s:St):Out→Option CR
 | .one r=>YY E ev f fn s r
 | .many (r::l)=>kO E ev f fn s r l (many1 E ev f fn s r l)
 |_=>none
def We (ev:Ev) (f:FuncId) (args:List AV) (s:St):Option CR:=
 match E.Cs f args with
 |some v=>some (.same v)
 |none=>(E.fns.get f).bind fun fn=>fn.body.bind fun c=>kP E ev f fn s (ev c (frame fn.ntmps args none) (XV 0 args .nil) s.enter)
def cJ (l:Nat) (st:St) (lp:nW) (jump:Option Code) (go:Bool):Option CR:=
 some (.val (.bool go) (st.put l (some (.loop {lp with state:=bif go then .ready else .done,pending:=jump}))))
def jG (l:Nat) (ex:Ex) (st:St):Option CB→Option CR
 |some (.loop lp)=>match ex with
  | .normal=>cJ l st lp none true
  | .ret=>cJ l st lp (some .ret) false
  | .exit id=>cJ l st lp (some (.exit id)) false
  | .panic v=>some (.WD v st)
 |_=>none
def ma (l:Nat):Out→Option CR
 | .one r=>match r.fr.defers with
  | []=>jG l r.ex r.st (r.st.heap.get l)
  |_=>none
 |_=>none
def jH (ev:Ev) (l:Nat) (body:Code) (fr:Fr) (T:Tr AV) (s:St):Option CB→Option CR
 |some (.loop lp)=>match lp.state with
  | .ready=>ma l (ev body fr T (s.put l (some (.loop {lp with state:= .busy}))))
  |_=>none
 |_=>none
def dJ (ev:Ev) (l:Nat) (body:Code):Out→Option CR
 | .one ⟨.normal,fr,T,s⟩=>jH ev l body fr T s (s.heap.get l)
 |_=>none
def ot (ev:Ev) (l:Nat) (args:List AV) (s:St):Option CB→Option CR
 |some (.loop lp)=>(aQ lp.nt lp.params args lp.tmps).bind fun T=>
  dJ ev l lp.body (ev lp.assign {nt:=lp.nt,defers:=[],WD:=none,round:=some l} T s)
 |_=>none
def nu (ev:Ev) (l:Nat) (args:List AV) (s:St):Option CR:=ot ev l args s (s.heap.get l)
def Ya (ev:Ev) (args:List AV) (s:St):AV→Option CR
 | .func (.func f) first captured=>bif CI E f then We E ev f (first++args++captured) s else none
 | .func (.yield l) [] []=>nu ev l args s
 | .func (.method name) first []=>match first++args with
  |r::args=>(Z4 E s name args r).bind fun p=>We E ev p.1 p.2 s
  | []=>none
 |_=>none
def vC:Option Nat→Nat→AV→Tr AV→Option (Tr AV)
 |some d,nt,v,T=>bif Nat.blt d nt then some (Tr.bS (some v) (pathOf d) T)else none
 |none,_,_,T=>some T
def thenT (k:Tr AV→Out):Option (Tr AV)→Out
 |some T=>k T
 |none=> .stuck
def Xh (k:AV→Out):Option AV→Out
 |some v=>k v
 |none=> .stuck
def kQ (k:AV→St→Out):Option (AV×St)→Out
 |some p=>k p.1 p.2
 |none=> .stuck
def jI (s:St) (k:AV→St→Out):Option Mk→Out
 |some (.val v)=>k v s
 |some (.obj o g)=>k (g s.next) (s.alloc o)
 |none=> .stuck
def Xy (fr:Fr) (T:Tr AV) (s:St) (k:AV→St→Out):Option CR→Out
 |some (.same v)=>k v s
 |some (.val v s)=>k v s
 |some (.WD v s)=> .one ⟨.panic v,fr,T,s⟩
 |none=> .stuck
def Out.app:Out→Out→Out
 | .one r,.one r'=> .many [r,r']
 | .one r,.many l'=> .many (r::l')
 | .many r,.one r'=> .many (r++[r'])
 | .many r,.many l'=> .many (r++l')
 |_,_=> .stuck
def XF (k:AV→St→Out):List (AV×St)→Out
 | []=> .stuck
 |p::l=>match l with
  | []=>k p.1 p.2
  |_::_=>Out.app (k p.1 p.2) (XF k l)
def mb (s:St):List AV→List (AV×St)
 | []=>[]
 |v::l=>(v,s)::mb s l
def Zi (k:AV→St→Out):Option (List (AV×St))→Out
 |some l=>XF k l
 |none=> .stuck
def iH (fr:Fr) (k:Fr→AV→Out):Out:=
 match fr.round with
 |some _=> .stuck
 |none=>match fr.WD with
  |some v=>k {fr with WD:=none} v
  |none=>k fr .C8
def fh (fr:Fr) (k:Fr→AV→Out):Option dX→Out
 |some d=>match fr.round with
  |none=>k {fr with defers:=d::fr.defers} (.tuple [])
  |some _=> .stuck
 |none=> .stuck
structure Cl where
 run:Ev→qw
abbrev K:=Ev→Fr→Tr AV→AV→St→Out
structure mT where
 run:K
def Y5 (dst:Option Nat) (k:Cl):mT:=
 match dst with
 |some d=>⟨fun ev fr T v s=>bif Nat.blt d fr.nt then k.run ev fr (Tr.bS (some v) (pathOf d) T) s else .stuck⟩
 |none=>⟨fun ev fr T _ s=>k.run ev fr T s⟩
def WW (so:ZY) (k:mT):Cl:=
 match so with
 | .bad=>⟨fun _ _ _ _=> .stuck⟩
 | .make f=>⟨fun ev fr T s=>jI s (k.run ev fr T) (f T)⟩
 | .pure f=>⟨fun ev fr T s=>Xh (fun v=>k.run ev fr T v s) (f T)⟩
 | .read _ f=>⟨fun ev fr T s=>Xh (fun v=>k.run ev fr T v s) (f T s)⟩
 | .look f=>⟨fun ev fr T s=>Xh (fun v=>k.run ev fr T v s) (f T s)⟩
 | .act _ _ f=>⟨fun ev fr T s=>kQ (k.run ev fr T) (f T s)⟩
 | .pick f=>⟨fun ev fr T s=>Zi (k.run ev fr T) ((f T).bind fun l=>some (mb s l))⟩
 | .j6 f=>⟨fun ev fr T s=>Zi (k.run ev fr T) (f T s)⟩
 | .call f=>⟨fun ev fr T s=>Xy fr T s (k.run ev fr T) ((f T s).bind fun p=>We E ev p.1 p.2 s)⟩
 | .ZB f a=>⟨fun ev fr T s=>Xy fr T s (k.run ev fr T) ((f T).bind fun g=>(a T).bind fun args=>Ya E ev args s g)⟩
 | .defer f=>⟨fun ev fr T s=>fh fr (fun fr v=>k.run ev fr T v s) (f T)⟩
 | .panic f=>⟨fun _ fr T s=>Xh (fun v=> .one ⟨.panic v,fr,T,s⟩) (f T)⟩
 | .recover=>⟨fun ev fr T s=>iH fr fun fr v=>k.run ev fr T v s⟩
def ZN (ops:List Oper) (j:Nat):Option Path:=
 (nth ops j).bind fun o=>o.dst.bind fun d=>some (pathOf d)
def bt (want:Bool):Option AV→Option Bool
 |some (.bool b)=>some (bif want then b else !b)
 |some _=>some false
 |none=>none
def W4 (ops:List Oper) (g:Nat×Bool):Tr AV→Option Bool:=
 match ZN ops g.1 with
 |some p=>fun T=>bt g.2 (Tr.dC p T)
 |none=>fun _=>some false
def aT (a b:Unit→Out):Option Bool→Out
 |some t=>bif t then a ()else b ()
 |none=> .stuck
def guarded (ops:List Oper) (g:Option (Nat×Bool)) (step:Cl) (k:mT):Cl:=
 match g with
 |none=>step
 |some g=>⟨fun ev fr T s=>aT (fun _=>step.run ev fr T s) (fun _=>k.run ev fr T (.tuple []) s) (W4 ops g T)⟩
def YL (ops:List Oper) (o:Oper) (k:mT):Cl:=guarded ops o.guard (WW E (Xg E o.type o.op) k) k
def ou:Cl:=⟨fun _ fr T s=> .one ⟨.normal,fr,T,s⟩⟩
def Zo (ops:List Oper):List Oper→Cl
 | []=>ou
 |o::rest=>YL E ops o (Y5 o.dst (Zo ops rest))
abbrev W8:=List (Nat×Nat)
inductive Touch where
 |nothing
 |block (b:Nat)
 |all
abbrev Zp:=List (Nat×Touch×(Nat→Option CB→Bool))
structure fJ where
 o:Oper
 so:ZY
 i:Nat
 CS:Nat
 tmps:List Nat
structure Zv where
 T:Tr AV
 st:St
 news:W8
 looked:Zp
def Z5:Option AV→Option Nat
 |some (.ptr b _)=>some b
 |some (.slice b _ _ _ _)=>some b
 |some (.map b)=>some b
 |_=>none
def ef:Option Nat→Touch
 |some b=> .block b
 |none=> .nothing
def Wh (so:ZY) (T:Tr AV):Touch:=
 match so with
 | .pure _=> .nothing
 | .pick _=> .nothing
 | .make _=> .nothing
 | .read x _=>ef (Z5 (x T))
 | .act true x _=>ef (Z5 (x T))
 |_=> .all
def WH:ZY→Bool
 | .defer _=>false
 | .recover=>false
 |_=>true
def dD (b:Nat):Touch→Bool
 | .nothing=>false
 | .block c=>Nat.beq b c
 | .all=>true
def X4 (CS b:Nat):W8→Bool
 | []=>false
 |p::l=>bif Nat.beq p.2 b&& !(Nat.testBit CS p.1)then true else X4 CS b l
def bu (CS:Nat):W8→Tr CB→Tr CB
 | [],h=>h
 |p::l,h=>bu CS l (bif Nat.testBit CS p.1 then h else h.set p.2 none)
def VP (CS:Nat) (news:W8) (h:Tr CB):Touch→Tr CB
 | .nothing=> .nil
 | .block b=>bif X4 CS b news then .nil else Tr.set .nil b (h.get b)
 | .all=>bu CS news h
def Xb (T:Tr AV):List Nat→Tr AV→Tr AV
 | [],t=>t
 |i::l,t=>Xb T l (t.set i (T.get i))
def ZO (v:AV):Tr AV:= .node .nil (some v) .nil
def K0:mT:=⟨fun _ fr _ v s=> .one ⟨.normal,fr,ZO v,s⟩⟩
def Ye (bV:Touch):Out→Option (Touch×AV×St)
 | .one ⟨.normal,_,.node .nil (some v) .nil,s⟩=>some (bV,v,s)
 |_=>none
def St.sub (s:St) (h:Tr CB):St:= {next:=s.next,bound:=s.next,log:=[],heap:=h}
def WS (ev:Ev) (fr:Fr) (d:fJ) (q:Zv) (T:Tr AV):Option (Touch×AV×St):=
 bif WH d.so then Ye (Wh d.so T) ((WW E d.so K0).run ev fr T (q.st.sub (VP d.CS q.news q.st.heap (Wh d.so T))))else none
def Wx (ops:List Oper) (ev:Ev) (fr:Fr) (d:fJ) (q:Zv):Option (Touch×AV×St):=
 match d.o.guard with
 |none=>WS E ev fr d q (Xb q.T d.tmps .nil)
 |some g=>(W4 ops g q.T).bind fun t=>bif t then WS E ev fr d q (Xb q.T d.tmps .nil)else some (.nothing,.tuple [],q.st.sub .nil)
def Yb (b:Nat):Nat→List Nat
 |0=>[]
 |n+1=>b::Yb (b+1) n
def W5 (h':Tr CB):List Nat→Tr CB→Tr CB
 | [],h=>h
 |b::l,h=>W5 h' l (h.set b (h'.get b))
def Xi (i:Nat) (news:W8):List Nat→W8
 | []=>news
 |b::l=>(i,b)::Xi i news l
def YB (CS b n:Nat) (o:Option CB):Zp→Bool
 | []=>true
 |p::l=>bif Nat.testBit CS p.1 then YB CS b n o l else bif dD b p.2.1 then p.2.2 n o&&YB CS b n o l else YB CS b n o l
def Wp (CS next n:Nat) (h:Tr CB) (q:Zv):List Nat→Bool
 | []=>true
 |b::l=>Nat.blt b next&& !(X4 CS b q.news)&&YB CS b n (h.get b) q.looked&&Wp CS next n h q l
def eqU (a b:AV):Bool:=Za a b||Zu a (some b)
def kR (v:AV):Option AV→Bool
 |some u=>eqU u v
 |none=>false
def aU (d:fJ) (q:Zv) (r:Touch×AV×St):Nat→Option CB→Bool:=
 match d.so,r.1 with
 | .read _ f,.block b=>fun n o=>kR r.2.1 (f (Xb q.T d.tmps .nil) {next:=n,bound:=n,log:=[],heap:=Tr.set .nil b o})&&Cz q.st.next 40 r.2.1
 |_,_=>fun _ _=>false
def VF (nt:Nat) (d:fJ) (q:Zv) (r:Touch×AV×St):Option Zv:=
 bif Nat.ble q.st.next r.2.2.next&&Wp d.CS q.st.next r.2.2.next r.2.2.heap q r.2.2.log then
  (vC d.o.dst nt r.2.1 q.T).bind fun T=>
   some {T,st:= {next:=r.2.2.next,bound:=q.st.bound,log:=below q.st.bound r.2.2.log q.st.log,heap:=W5 r.2.2.heap (Yb q.st.next (r.2.2.next-q.st.next)) (W5 r.2.2.heap r.2.2.log q.st.heap)},news:=Xi d.i (Xi d.i q.news (Yb q.st.next (r.2.2.next-q.st.next))) r.2.2.log,looked:=(d.i,r.1,aU d q r)::q.looked}
 else none
def dq (ops:List Oper) (ev:Ev) (fr:Fr):List fJ→Zv→Option Zv
 | [],q=>some q
 |d::l,q=>(Wx E ops ev fr d q).bind fun r=>(VF fr.nt d q r).bind fun q'=>dq ops ev fr l q'
def drawOut (fr:Fr):Option Zv→Out
 |some q=> .one ⟨.normal,fr,q.T,q.st⟩
 |none=> .stuck
def bw:Out→Option (AV×St)
 | .one ⟨.panic v,_,_,s⟩=>some (v,s)
 |_=>none
def jJ (ev:Ev) (fr:Fr) (d:fJ) (q:Zv) (T:Tr AV):Option (AV×St):=
 match d.so with
 | .call _=>bw ((WW E d.so K0).run ev fr T (q.st.sub (VP d.CS q.news q.st.heap .all)))
 | .ZB _ _=>bw ((WW E d.so K0).run ev fr T (q.st.sub (VP d.CS q.news q.st.heap .all)))
 |_=>none
def bx (ops:List Oper) (ev:Ev) (fr:Fr) (d:fJ) (q:Zv):Option (AV×St):=
 match d.o.guard with
 |none=>jJ E ev fr d q (Xb q.T d.tmps .nil)
 |some g=>(W4 ops g q.T).bind fun t=>bif t then jJ E ev fr d q (Xb q.T d.tmps .nil)else none
def nv:List Nat→Bool
 | []=>true
 |_::_=>false
def Zf (ops:List Oper) (ev:Ev) (fr:Fr) (p:Nat):List fJ→Zv→Option Zv
 | [],q=>some q
 |d::l,q=>bif Nat.testBit d.CS p then(VF fr.nt d q (.nothing,.tuple [],q.st.sub .nil)).bind fun q'=>Zf ops ev fr p l q'
  else(Wx E ops ev fr d q).bind fun r=>bif Nat.beq r.2.2.next q.st.next&&nv r.2.2.log then(VF fr.nt d q r).bind fun q'=>Zf ops ev fr p l q' else none
def b6 (CS:Nat):W8→Bool
 | []=>true
 |p::l=>Nat.testBit CS p.1&&b6 CS l
def Yy:List Oper→Tr AV→Tr AV
 | [],T=>T
 |o::l,T=>match o.dst with
  |some d=>Yy l (Tr.bS none (pathOf d) T)
  |none=>Yy l T
def qx (fr:Fr) (T:Tr AV) (v:AV):Option Zv→Out
 |some q=> .one ⟨.panic v,fr,T,q.st⟩
 |none=> .stuck
def iI (ops:List Oper) (ev:Ev) (fr:Fr) (T0:Tr AV) (d:fJ) (l:List fJ) (q:Zv):Option (AV×St)→Out
 |some p=>bif b6 d.CS q.news then qx fr (Yy ops T0) p.1 ((VF fr.nt d q (.all,.tuple [],p.2)).bind (Zf E ops ev fr d.i l))else .stuck
 |none=> .stuck
def YC (ops:List Oper) (ev:Ev) (fr:Fr) (T0:Tr AV):List fJ→Zv→Out
 | [],q=> .one ⟨.normal,fr,q.T,q.st⟩
 |d::l,q=>match Wx E ops ev fr d q with
  |some r=>match VF fr.nt d q r with
   |some q'=>YC ops ev fr T0 l q'
   |none=> .stuck
  |none=>iI E ops ev fr T0 d l q (bx E ops ev fr d q)
def VL (ops:List Oper):List Nat:=(Region.before ops.toArray).toList
def tmpsOf:List Operand→List Nat
 | []=>[]
 | .tmp t::l=>t::tmpsOf l
 |_::l=>tmpsOf l
def XM (bs:List Nat):List Oper→Nat→List fJ
 | [],_=>[]
 |o::l,i=> {o,so:=Xg E o.type o.op,i,CS:=(nth bs i).getD 0,tmps:=tmpsOf o.op.operands.toList}::XM bs l (i+1)
def gv (t:Nat) (o:Oper):Bool:=match o.dst with
 |some d=>Nat.beq d t
 |none=>false
def fU (bs:List Nat) (i CS t:Nat):List Oper→Nat→Bool
 | [],_=>true
 |o::l,j=>(Nat.beq i j|| !(gv t o)||Nat.testBit CS j||Nat.testBit ((nth bs j).getD 0) i)&&fU bs i CS t l (j+1)
def hO (ops:List Oper) (bs:List Nat) (i CS:Nat):List Nat→Bool
 | []=>true
 |t::l=>fU bs i CS t ops 0&&hO ops bs i CS l
def jK (d:Nat):List Oper→Bool
 | []=>true
 |o::l=> !(gv d o)&&jK d l
def Z9 (i:Nat):List Edge→Bool
 | []=>true
 |e::l=>(match e.ground with| .gcOnly _=>true|_=>Nat.blt e.on i)&&Z9 i l
def eg:List Edge→Bool
 | []=>false
 |e::l=>match e.ground with| .gcOnly _=>true|_=>eg l
def iJ:List Oper→Bool
 | []=>false
 |o::l=>bif eg o.after.toList then true else iJ l
def jL (i:Nat):List Nat→Nat
 | []=>0
 |a::l=>bif Nat.beq a i then 0 else jL i l+1
def fi (n:Nat) (fV:List Nat) (i:Nat):List Edge→Bool
 | []=>true
 |e::l=>(!(Region.binds .gc e)||(Nat.blt e.on n&&Nat.blt (jL e.on fV) (jL i fV)))&&fi n fV i l
def mc (n:Nat) (fV:List Nat):List Oper→Nat→Bool
 | [],_=>true
 |o::l,i=>fi n fV i o.after.toList&&mc n fV l (i+1)
def ny (ops:List Oper) (bs:List Nat) (i:Nat) (o:Oper) (rest:List Oper):Bool:=
 let CS:=(nth bs i).getD 0
 hO ops bs i CS (tmpsOf o.op.operands.toList)&&Z9 i o.after.toList&&
 (match o.dst with|some d=>jK d rest|none=>true)&&(match o.guard with|some (j,_)=>Nat.testBit CS j|none=>true)
def cK (ops:List Oper) (bs:List Nat):List Oper→Nat→Bool
 | [],_=>true
 |o::l,i=>ny ops bs i o l&&cK ops bs l (i+1)
def WK (ops:List Oper):Bool:=
 cK ops (VL ops) ops 0&&bif iJ ops then mc (W6 ops) (Region.linearise .gc ops.toArray 0) ops 0 else true
def kS (ops:List Oper) (ds:List fJ):Cl:=
 bif WK ops then⟨fun ev fr T s=>YC E ops ev fr T ds {T,st:=s,news:=[],looked:=[]}⟩else⟨fun _ _ _ _=> .stuck⟩
def hQ (ops:List Oper) (draw:Bool):Cl:=
 bif draw then kS E ops (XM E (VL ops) ops 0)else Zo E ops ops
def dr (a b:qw) (fr:Fr) (T:Tr AV) (s:St):Option AV→Out
 |some (.bool t)=>bif t then a fr T s else b fr T s
 |_=> .stuck
def jn (k:qw) (r:Z2):Out:=
 match r.ex with
 | .normal=>k r.fr r.T r.st
 |_=> .one r
def cL (id:Nat) (r:Z2):Out:=
 match r.ex with
 | .exit i=>bif Nat.beq i id then .one ⟨.normal,r.fr,r.T,r.st⟩else .one r
 |_=> .one r
def jM (fr:Fr) (T:Tr AV) (s:St):Option Code→Out
 |none=> .one ⟨.normal,fr,T,s⟩
 |some .ret=> .one ⟨.ret,fr,T,s⟩
 |some (.exit id)=> .one ⟨.exit id,fr,T,s⟩
 |some _=> .stuck
def dt (l:Nat) (fr:Fr) (T:Tr AV) (s:St):Option CB→Out
 |some (.loop lp)=>match lp.state with
  | .busy=> .stuck
  |_=>jM fr T (s.put l (some (.loop {lp with state:= .exhausted}))) lp.pending
 |_=> .stuck
def jN (ev:Ev) (params:List Nat) (assign body:Code) (fr:Fr) (T:Tr AV) (s:St):AV→Out
 | .func (.func g) first captured=>match fr.round with
  |none=>
   let s1:=s.alloc (.defs true)
   let s2:=s1.alloc (.loop {state:= .ready,pending:=none,fn:=0,nt:=fr.nt,tmps:=T,params,assign,body})
   let Xz:Fr:= {fr with defers:= {target:= .collected s.next,args:=[]}::fr.defers}
   bif CI E g then Xy Xz T s2 (fun _ s3=>dt s1.next Xz T s3 (s3.heap.get s1.next)) (We E ev g (first++[.func (.yield s1.next) [] []]++captured) s2)else .stuck
  |some _=> .stuck
 |_=> .stuck
def fj (ev:Ev) (params:List Nat) (assign body:Code) (fr:Fr) (T:Tr AV) (s:St):Option AV→Out
 |some v=>jN E ev params assign body fr T s v
 |none=> .stuck
def XC:Code→Cl
 | .skip=>ou
 | .label _=>ou
 | .region _ ops draw=>hQ E ops.toList draw
 | .seq a b=>let ka:=XC a;let kb:=XC b
  ⟨fun ev fr T s=>(ka.run ev fr T s).then (jn (kb.run ev))⟩
 | .cond x a b=>let ka:=XC a;let kb:=XC b
  ⟨fun ev fr T s=>dr (ka.run ev) (kb.run ev) fr T s (Cc E x T)⟩
 | .block id body=>let k:=XC body
  ⟨fun ev fr T s=>(k.run ev fr T s).then (cL id)⟩
 | .loop body=>let k:=XC body
  ⟨fun ev fr T s=>(k.run ev fr T s).then (jn (ev (.loop body)))⟩
 | .scope body=>XC body
 | .exit id=>⟨fun _ fr T s=> .one ⟨.exit id,fr,T,s⟩⟩
 | .ret=>⟨fun _ fr T s=> .one ⟨.ret,fr,T,s⟩⟩
 | .rangeFunc f params assign body=>⟨fun ev fr T s=>fj E ev params.toList assign body fr T s (Cc E f T)⟩
 | .goto _=>⟨fun _ _ _ _=> .stuck⟩
 | .refuse _=>⟨fun _ _ _ _=> .stuck⟩
def ev (n:Nat):Ev:=Nat.rec (fun _ _ _ _=> .stuck) (fun _ ih c=>(XC E c).run ih) n
def call (n:Nat) (f:FuncId) (args:List AV) (s:St):Option CR:=We E (ev E n) f args s
end run
end
def Path.dec:Path→Nat
 | .here=>0
 | .kk p=>2*p.dec+1
 | .km p=>2*p.dec+2
theorem It:∀(n k:Nat),k≤n→(eG n k).dec=k
 |0,k,h=>by
  have:k=0:=by omega
  subst this;rfl
 |n+1,k,h=>by
  unfold eG;cases hk:Nat.beq k 0 with
  |true=>
   have:=Qb hk;subst this;rfl
  |false=>
   have Xl:k≠0:=Nat.ne_of_beq_eq_false hk;simp only[cond_false];cases ho:Nat.beq (k % 2) 1 with
   |true=>
    have:=Qb ho;simp only[cond_true,Path.dec,It n (k/2) (by omega)];omega
   |false=>
    have:=Nat.ne_of_beq_eq_false ho;simp only[cond_false,Path.dec,It n (k/2-1) (by omega)];omega
theorem RW {a b:Nat} (h:pathOf a=pathOf b):a=b:=by
 have ha:=It a a (Qj a);have hb:=It b b (Qj b);unfold pathOf at h;rw[←ha,h,hb]
section tree
variable {α : Type}
@[simp] theorem qy (p:Path):Tr.dC p (.nil:Tr α)=none:=by cases p<;>rfl
@[simp] theorem getP_here (l r:Tr α) (v:Option α):Tr.dC .here (.node l v r)=v:=rfl
@[simp] theorem qz (p:Path) (l r:Tr α) (v:Option α):Tr.dC (.kk p) (.node l v r)=Tr.dC p l:=rfl
@[simp] theorem q7 (p:Path) (l r:Tr α) (v:Option α):Tr.dC (.km p) (.node l v r)=Tr.dC p r:=rfl
@[simp] theorem ve (x:Option α):Tr.bS x .here (.nil:Tr α)= .node .nil x .nil:=rfl
@[simp] theorem setP_here (x v:Option α) (l r:Tr α):Tr.bS x .here (.node l v r)= .node l x r:=rfl
@[simp] theorem vD (x:Option α) (p:Path):Tr.bS x (.kk p) (.nil:Tr α)= .node (Tr.bS x p .nil) none .nil:=rfl
@[simp] theorem setP_lft (x v:Option α) (p:Path) (l r:Tr α):Tr.bS x (.kk p) (.node l v r)= .node (Tr.bS x p l) v r:=rfl
@[simp] theorem vE (x:Option α) (p:Path):Tr.bS x (.km p) (.nil:Tr α)= .node .nil none (Tr.bS x p .nil):=rfl
@[simp] theorem setP_rgt (x v:Option α) (p:Path) (l r:Tr α):Tr.bS x (.km p) (.node l v r)= .node l v (Tr.bS x p r):=rfl
theorem D7 (x:Option α):∀(p:Path) (t:Tr α),Tr.dC p (Tr.bS x p t)=x
 | .here,.nil=>rfl
 | .here,.node _ _ _=>rfl
 | .kk p,.nil=>D7 x p .nil
 | .kk p,.node l _ _=>D7 x p l
 | .km p,.nil=>D7 x p .nil
 | .km p,.node _ _ r=>D7 x p r
theorem E0 (x:Option α):∀(p q:Path) (t:Tr α),p≠q→Tr.dC p (Tr.bS x q t)=Tr.dC p t
 | .here,.here,_,h=>absurd rfl h
 | .here,.kk _,.nil,_=>rfl
 | .here,.kk _,.node _ _ _,_=>rfl
 | .here,.km _,.nil,_=>rfl
 | .here,.km _,.node _ _ _,_=>rfl
 | .kk p,.here,.nil,_=>by simp
 | .kk _,.here,.node _ _ _,_=>rfl
 | .kk p,.kk q,.nil,h=>by simpa using E0 x p q .nil (fun e=>h (e▸rfl))
 | .kk p,.kk q,.node l _ _,h=>E0 x p q l (fun e=>h (e▸rfl))
 | .kk p,.km q,.nil,_=>by simp
 | .kk _,.km _,.node _ _ _,_=>rfl
 | .km p,.here,.nil,_=>by simp
 | .km _,.here,.node _ _ _,_=>rfl
 | .km p,.kk q,.nil,_=>by simp
 | .km _,.kk _,.node _ _ _,_=>rfl
 | .km p,.km q,.nil,h=>by simpa using E0 x p q .nil (fun e=>h (e▸rfl))
 | .km p,.km q,.node _ _ r,h=>E0 x p q r (fun e=>h (e▸rfl))
theorem Oe (t:Tr α) (k:Nat) (x:Option α):(t.set k x).get k=x:=D7 x _ t
theorem Sy (t:Tr α) (j k:Nat) (x:Option α) (h:j≠k):(t.set k x).get j=t.get j:=
 E0 x _ _ t (fun e=>h (RW e))
theorem AF (t:Tr α) (j k:Nat) (x:Option α):(t.set k x).get j=if j=k then x else t.get j:=by
 split
 ·next h=>subst h;exact Oe t j x
 ·next h=>exact Sy t j k x h
@[simp] theorem get_nil (k:Nat):(.nil:Tr α).get k=none:=qy _
end tree
section lists
variable {α β : Type}
@[simp] theorem D1 (l:List α):W6 l=l.length:=by
 induction l with
 |nil=>rfl
 |cons a l ih=>show W6 l+1=_;rw[ih];rfl
theorem II {a:α} {o:Option (List α)} {r:List α} (h:bL a o=some r):∃l,o=some l∧r=a::l:=by
 cases o with
 |none=>cases h
 |some l=>exact⟨l,rfl,(Option.some.inj h).symm⟩
theorem DH:∀ {n:Nat} {l r:List α},takeN n l=some r→∃post,l=r++post∧r.length=n
 |0,l,r,h=>by
  obtain rfl: []=r:=Option.some.inj h;exact⟨l,rfl,rfl⟩
 |n+1,[],r,h=>by cases h
 |n+1,a::l,r,h=>by
  obtain⟨q,hq,rfl⟩:=II (show bL a (takeN n l)=some r from h);obtain⟨post,rfl,hl⟩:=DH hq;exact⟨post,rfl,by simp[hl]⟩
theorem Gv:∀(r post:List α),takeN r.length (r++post)=some r
 | [],_=>rfl
 |a::r,post=>by
  show bL a (takeN r.length (r++post))=_;rw[Gv r post];rfl
theorem Dz:∀ {n:Nat} {l r:List α},WM n l=some r→∃pre,l=pre++r∧pre.length=n
 |0,l,r,h=>⟨[],by simpa using Option.some.inj h,rfl⟩
 |n+1,[],r,h=>by cases h
 |n+1,a::l,r,h=>by
  obtain⟨pre,rfl,hl⟩:=Dz (show WM n l=some r from h);exact⟨a::pre,rfl,by simp[hl]⟩
theorem Fy:∀(pre r:List α),WM pre.length (pre++r)=some r
 | [],_=>rfl
 |_::pre,r=>Fy pre r
theorem HS:∀ {vs l r:List α},aI vs l=some r→∃b7 post,l=b7++post∧b7.length=vs.length∧r=vs++post
 | [],l,r,h=>⟨[],l,rfl,rfl,(Option.some.inj h).symm⟩
 |v::vs,[],r,h=>by cases h
 |v::vs,a::l,r,h=>by
  obtain⟨q,hq,rfl⟩:=II (show bL v (aI vs l)=some r from h);obtain⟨b7,post,rfl,hl,rfl⟩:=HS hq;exact⟨a::b7,post,rfl,by simp[hl],rfl⟩
theorem JO:∀ {k:Nat} {vs l r:List α},over vs k l=some r→
 ∃pre b7 post,l=pre++b7++post∧pre.length=k∧b7.length=vs.length∧r=pre++vs++post
 |0,vs,l,r,h=>by
  obtain⟨b7,post,rfl,hl,rfl⟩:=HS (show aI vs l=some r from h);exact⟨[],b7,post,by simp,rfl,hl,by simp⟩
 |k+1,vs,[],r,h=>by cases h
 |k+1,vs,a::l,r,h=>by
  obtain⟨q,hq,rfl⟩:=II (show bL a (over vs k l)=some r from h);obtain⟨pre,b7,post,rfl,hp,hm,rfl⟩:=JO hq;exact⟨a::pre,b7,post,by simp,by simp[hp],hm,by simp⟩
theorem EP:∀(l:List α) (n:Nat),nth l n=l[n]?
 | [],n=>by simp[nth]
 |a::l,0=>rfl
 |a::l,n+1=>by
  rw[List.getElem?_cons_succ];exact EP l n
theorem He {l r:List α} {lo n:Nat} (h:cut l lo n=some r):∃pre post,l=pre++r++post∧pre.length=lo∧r.length=n:=by
 unfold cut at h;obtain⟨q,hq,ht⟩:=Qa.1 h;obtain⟨pre,rfl,hp⟩:=Dz hq;obtain⟨post,rfl,hr⟩:=DH ht;exact⟨pre,post,by simp,hp,hr⟩
theorem Us {f:α→Option β} {a:α} {l:List α} {r:List β} (h:jl f (a::l)=some r):
 ∃b bs,f a=some b∧jl f l=some bs∧r=b::bs:=by
 have h':qe (f a) (jl f l)=some r:=h;cases ha:f a with
 |none=>rw[ha]at h';cases hb:jl f l<;>rw[hb]at h'<;>cases h'
 |some b=>
  rw[ha]at h';cases hb:jl f l with
  |none=>rw[hb]at h';cases h'
  |some bs=>rw[hb]at h';exact⟨b,bs,rfl,rfl,(Option.some.inj h').symm⟩
end lists
section tables
variable {α : Type}
theorem Ku:∀(l:List α) (k:Nat),(Zg l)[k]?=l[2*k]?
 | [],k=>by simp[Zg]
 | [a],k=>by cases k with
  |zero=>rfl
  |succ k=>simp[Zg]
 |a::b::l,0=>rfl
 |a::b::l,k+1=>by
  show(a::Zg l)[k+1]?=_;have h2:2*(k+1)=2*k+1+1:=by omega
  rw[h2];simpa using Ku l k
theorem GD (l:List α):(Zg l).length=(l.length+1)/2:=by
 match l with
 | []=>simp[Zg]
 | [a]=>simp[Zg]
 |a::b::l=>
  show(Zg l).length+1=_;rw[GD l];simp;omega
theorem q8:∀(n:Nat) (l:List α) (k:Nat),l.length≤n→Tr.dC (eG k k) (ie n l)=l[k]?:=by
 have key:∀(n:Nat) (l:List α) (m k:Nat),l.length≤n→k≤m→Tr.dC (eG m k) (ie n l)=l[k]?:=by
  intro n;induction n with
  |zero=>
   intro l m k hl _;have:l=[]:=List.eq_nil_of_length_eq_zero (by omega);subst this;simp[ie]
  |succ n ih=>
   intro l m k hl hk;cases l with
   |nil=>simp[ie]
   |cons a l=>
    have gK:l.length≤n:=by simpa using hl
    have h1:(Zg l).length≤n:=by rw[GD];omega
    have h2:(Zg l.tail).length≤n:=by rw[GD];simp;omega
    cases m with
    |zero=>
     have:k=0:=by omega
     subst this;rfl
    |succ m=>
     show Tr.dC (eG (m+1) k) (.node (ie n (Zg l)) (some a) (ie n (Zg l.tail)))=_;unfold eG;cases z5:Nat.beq k 0 with
     |true=>
      have:=Qb z5;subst this;rfl
     |false=>
      have Xl:k≠0:=Nat.ne_of_beq_eq_false z5;simp only[cond_false];cases ho:Nat.beq (k % 2) 1 with
      |true=>
       have:=Qb ho;simp only[cond_true,qz];rw[ih (Zg l) m (k/2) h1 (by omega),Ku];have:k=2*(k/2)+1:=by omega
       conv=>rhs;rw[this]
       simp
      |false=>
       have:=Nat.ne_of_beq_eq_false ho;simp only[cond_false,q7];rw[ih (Zg l.tail) m (k/2-1) h2 (by omega),Ku];have:k=2*(k/2-1)+1+1:=by omega
       conv=>rhs;rw[this]
       cases l<;>simp
 exact fun n l k hl=>key n l k k hl (Qj k)
theorem EL (n:Nat) (l:List α) (k:Nat) (hl:l.length≤n):(ie n l).get k=l[k]?:=q8 n l k hl
end tables
structure Pl where
 Cn:Nat
 base:Nat
 size:Nat
structure Cx where
 pl:Nat→Pl
 M:Nat→Option (List Value)
 D:Nat→Prop
 gh:Nat→Nat→Nat
 G:Nat→Nat→Prop
 X:Nat→Prop
def oX (C:Cx) (a:Option Addr):Prop:=∀ad,a=some ad→C.X ad.block
def Cx.bare (C:Cx):Cx:= {C with D:=fun _=>False,G:=fun _ _=>False}
def Yf {α:Type} (ms:List α) (off:Nat) (vs:List α):Prop:=∃pre post,ms=pre++vs++post∧pre.length=off
def mf (C:Cx) (b off sz:Nat):Option Nat→Nat→Prop
 |some n,c=>c=n∧0<n
 |none,c=>(C.pl b).base+off+c*sz=(C.pl b).size∧0<sz
def Cells (cs:List AV):Prop:=∀v∈cs,v.ck=true
mutual
inductive VR:Cx→AV→Value→Prop where
 |bool {C:Cx} (b:Bool):VR C (.bool b) (.bool b)
 |int {C:Cx} (k:IntKind) (n:Int):VR C (.int k n) (.int k n)
 |str {C:Cx} {l:List UInt8} {s:ByteArray} (h:s.data.toList=l):VR C (.str l) (.string s)
 |CJ {C:Cx}:VR C .CJ (.pointer none)
 |ptr {C:Cx} {b off:Nat} (h:C.D b):VR C (.ptr b off) (.pointer (some ⟨(C.pl b).Cn,(C.pl b).base+off,none⟩))
 |WO {C:Cx} {Cn off:Nat} {cs:List AV} {ms vs:List Value} (hm:C.M Cn=some ms) (ha:Yf ms off vs) (hv:VS C cs vs) (VX:Cells cs):
  VR C (.WO cs) (.pointer (some ⟨Cn,off,none⟩))
 |Ca {C:Cx} (a:Option Addr) (hx:oX C a):VR C .Ca (.slice a 0 0)
 |slice {C:Cx} {b off len sz:Nat} {cap:Option Nat} {c:Nat} (h:C.D b) (hc:mf C b off sz cap c) (Yl:len≤c):
  VR C (.slice b off len sz cap) (.slice (some ⟨(C.pl b).Cn,(C.pl b).base+off,none⟩) len c)
 |Xj {C:Cx} {b off sz:Nat} {a:Addr} {c:Nat} (hx:C.X a.block) (h:C.D b) (hc:c=0∨(a=⟨(C.pl b).Cn,(C.pl b).base+off,none⟩∧(C.pl b).base+off+c*sz=(C.pl b).size∧0<sz)):
  VR C (.slice b off 0 sz (some 0)) (.slice (some a) 0 c)
 |VT {C:Cx} {sz:Nat} {cl:Bool} {len c:Nat} (a:Option Addr) (h:len*sz=0) (Yl:len≤c):VR C (.Cd [] len sz cl) (.slice a len c)
 |Cd {C:Cx} {Cn off len sz c:Nat} {cl:Bool} {cs:List AV} {ms vs:List Value} (hl:cs.length=len*sz) (hm:C.M Cn=some ms) (ha:Yf ms off vs)
  (hv:VS C cs vs) (hc:cl=true→VS C.bare cs vs) (VX:Cells cs) (Yl:len≤c):VR C (.Cd cs len sz cl) (.slice (some ⟨Cn,off,none⟩) len c)
 |VU {C:Cx}:VR C .VU (.map none)
 |map {C:Cx} {b:Nat} (h:C.D b):VR C (.map b) (.map (some (C.pl b).Cn))
 |YS {C:Cx} {b n:Nat} (h:C.G b n):VR C (.YS b n) (.int .i64 (C.gh b n))
 |ab {C:Cx} (p:Option Addr):VR C .ab (.pointer p)
 |func {C:Cx} {fn:Fn} {a b:List AV} {x y:Array Value} (hf:∀l,fn≠ .yield l) (ha:VS C a x.toList) (hb:VS C b y.toList):VR C (.func fn a b) (.func fn x y)
 |yield {C:Cx} {l:Nat} (h:C.D l):VR C (.func (.yield l) [] []) (.func (.yield (C.pl l).Cn) #[] #[])
 |Cu {C:Cx}:VR C .Cu .nilFunc
 |iface {C:Cx} {t:TypeId} {v:AV} {x:Value} (h:VR C v x):VR C (.iface t v) (.iface t x)
 |C8 {C:Cx}:VR C .C8 .nilIface
 |agg {C:Cx} {cs:List AV} {x:Array Value} (h:VS C cs x.toList) (VX:Cells cs):VR C (.agg cs) (.agg x)
 |tuple {C:Cx} {cs:List AV} {x:Array Value} (h:VS C cs x.toList):VR C (.tuple cs) (.tuple x)
inductive VS:Cx→List AV→List Value→Prop where
 |nil {C:Cx}:VS C [] []
 |cons {C:Cx} {v:AV} {x:Value} {vs:List AV} {xs:List Value} (h:VR C v x) (t:VS C vs xs):VS C (v::vs) (x::xs)
end
structure Ext (C C':Cx):Prop where
 D:∀b,C.D b→C'.D b
 pl:∀b,C.D b→C'.pl b=C.pl b
 M:∀b ms,C.M b=some ms→C'.M b=some ms
 G:∀b n,C.G b n→C'.G b n
 gh:∀b n,C.G b n→C'.gh b n=C.gh b n
 X:∀b,C.X b→C'.X b
theorem Ext.refl (C:Cx):Ext C C:=⟨fun _ h=>h,fun _ _=>rfl,fun _ _ h=>h,fun _ _ h=>h,fun _ _ _=>rfl,fun _ h=>h⟩
theorem Ext.trans {A B C:Cx} (h:Ext A B) (g:Ext B C):Ext A C:=
 ⟨fun b x=>g.D b (h.D b x),fun b x=>(g.pl b (h.D b x)).trans (h.pl b x),fun b ms x=>g.M b ms (h.M b ms x),fun b n x=>g.G b n (h.G b n x),
  fun b n x=>(g.gh b n (h.G b n x)).trans (h.gh b n x),fun b x=>g.X b (h.X b x)⟩
theorem Ext.bare {C C':Cx} (h:Ext C C'):Ext C.bare C'.bare:=⟨fun _ x=>x.elim,fun _ x=>x.elim,h.M,fun _ _ x=>x.elim,fun _ _ x=>x.elim,h.X⟩
theorem Ext.ov (C:Cx):Ext C.bare C:=⟨fun _ x=>x.elim,fun _ x=>x.elim,fun _ _ h=>h,fun _ _ x=>x.elim,fun _ _ x=>x.elim,fun _ h=>h⟩
theorem oX.mono {C C':Cx} (e:Ext C C') {a:Option Addr} (h:oX C a):oX C' a:=fun ad x=>e.X _ (h ad x)
theorem oX.none {C:Cx}:oX C none:=fun _ x=>by cases x
theorem oX.some {C:Cx} {a:Addr} (h:C.X a.block):oX C (some a):=fun _ x=>by cases x;exact h
mutual
theorem VR.mono {C C':Cx} (e:Ext C C'):∀ {v:AV} {x:Value},VR C v x→VR C' v x
 |_,_,.bool b=> .bool b
 |_,_,.int k n=> .int k n
 |_,_,.str h=> .str h
 |_,_,.CJ=> .CJ
 |_,_,.ptr (b:=b) (off:=off) h=>by rw[←e.pl b h];exact .ptr (e.D _ h)
 |_,_,.WO hm ha hv VX=> .WO (e.M _ _ hm) ha (VS.mono e hv) VX
 |_,_,.Ca a hx=> .Ca a (hx.mono e)
 |_,_,.slice (b:=b) (cap:=cap) h hc Yl=>by
  rw[←e.pl b h];refine .slice (e.D _ h) ?_ Yl;cases cap with
  |some n=>exact hc
  |none=>simpa[mf,e.pl b h]using hc
 |_,_,.Xj (b:=b) hx h hc=> .Xj (e.X _ hx) (e.D _ h) (by rw[e.pl b h];exact hc)
 |_,_,.VT a h Yl=> .VT a h Yl
 |_,_,.Cd hl hm ha hv hc VX Yl=> .Cd hl (e.M _ _ hm) ha (VS.mono e hv) (fun x=>VS.mono e.bare (hc x)) VX Yl
 |_,_,.VU=> .VU
 |_,_,.map (b:=b) h=>by rw[←e.pl b h];exact .map (e.D _ h)
 |_,_,.YS (b:=b) (n:=n) h=>by rw[←e.gh b n h];exact .YS (e.G _ _ h)
 |_,_,.ab p=> .ab p
 |_,_,.func hf ha hb=> .func hf (VS.mono e ha) (VS.mono e hb)
 |_,_,.yield (l:=l) h=>by rw[←e.pl l h];exact .yield (e.D _ h)
 |_,_,.Cu=> .Cu
 |_,_,.iface h=> .iface (VR.mono e h)
 |_,_,.C8=> .C8
 |_,_,.agg h VX=> .agg (VS.mono e h) VX
 |_,_,.tuple h=> .tuple (VS.mono e h)
theorem VS.mono {C C':Cx} (e:Ext C C'):∀ {v:List AV} {x:List Value},VS C v x→VS C' v x
 |_,_,.nil=> .nil
 |_,_,.cons h t=> .cons (VR.mono e h) (VS.mono e t)
end
theorem VS.length {C:Cx}:∀ {v:List AV} {x:List Value},VS C v x→x.length=v.length
 |_,_,.nil=>rfl
 |_,_,.cons _ t=>by simp[VS.length t]
theorem VS.append {C:Cx}:∀ {a:List AV} {x:List Value} {b:List AV} {y:List Value},VS C a x→VS C b y→VS C (a++b) (x++y)
 |_,_,_,_,.nil,g=>g
 |_,_,_,_,.cons h t,g=> .cons h (VS.append t g)
theorem AY {C:Cx}:∀ {a b:List AV} {x:List Value},VS C (a++b) x→∃y z,x=y++z∧VS C a y∧VS C b z
 | [],_,x,h=>⟨[],x,rfl,.nil,h⟩
 |_::_,_,_,.cons h t=>by
  obtain⟨y,z,rfl,h1,h2⟩:=AY t;exact⟨_::y,z,rfl,.cons h h1,h2⟩
theorem VS.get {C:Cx}:∀ {a:List AV} {x:List Value} {i:Nat} {v:AV},VS C a x→a[i]?=some v→∃y,x[i]?=some y∧VR C v y
 |_,_,i,_,.nil,h=>by simp at h
 |_,_,0,_,.cons h _,e=>by
  simp at e;subst e;exact⟨_,rfl,h⟩
 |_,_,i+1,_,.cons _ t,e=>by
  obtain⟨y,hy,h⟩:=VS.get t (by simpa using e);exact⟨y,by simpa using hy,h⟩
theorem VS.one {C:Cx} {v:AV} {x:Value} (h:VR C v x):VS C [v] [x]:= .cons h .nil
theorem Yf.b7 {α:Type} {ms:List α} {off:Nat} {a b c:List α} (h:Yf ms off (a++b++c)):Yf ms (off+a.length) b:=by
 obtain⟨pre,post,rfl,rfl⟩:=h;exact⟨pre++a,c++post,by simp,by simp⟩
theorem Yf.left {α:Type} {ms:List α} {off:Nat} {a b:List α} (h:Yf ms off (a++b)):Yf ms off a:=by
 obtain⟨pre,post,rfl,rfl⟩:=h;exact⟨pre,b++post,by simp,rfl⟩
theorem Yf.right {α:Type} {ms:List α} {off:Nat} {a b:List α} (h:Yf ms off (a++b)):Yf ms (off+a.length) b:=by
 obtain⟨pre,post,rfl,rfl⟩:=h;exact⟨pre++a,post,by simp,by simp⟩
theorem Yf.get {α:Type} {ms:List α} {off:Nat} {vs:List α} (h:Yf ms off vs) (i:Nat) (hi:i<vs.length):ms[off+i]?=vs[i]?:=by
 obtain⟨pre,post,rfl,rfl⟩:=h;rw[List.append_assoc,List.getElem?_append_right (by omega),List.getElem?_append_left (by omega)]
 congr 1;omega
theorem Yf.le {α:Type} {ms:List α} {off:Nat} {vs:List α} (h:Yf ms off vs):off+vs.length≤ms.length:=by
 obtain⟨pre,post,rfl,rfl⟩:=h;simp
theorem Yf.whole {α:Type} (vs:List α):Yf vs 0 vs:=⟨[],[],by simp,rfl⟩
theorem Ek:∀(n:Nat) {C:Cx} {v:AV} {x:Value},VR C v x→Cr n v=true→VR C.bare v x:=by
 intro n;induction n with
 |zero=>intro C v x _ h;simp[Cr]at h
 |succ n ih=>
  have many:∀ {C:Cx} {l:List AV} {xs:List Value},VS C l xs→l.all (Cr n)=true→VS C.bare l xs:=by
   intro C l;induction l with
   |nil=>intro xs h _;cases h;exact .nil
   |cons a l il=>
    intro xs h hc;cases h with
    |cons h t=>
     simp only[List.all_cons,Qf]at hc;exact .cons (ih h hc.1) (il t hc.2)
  intro C v x h hc;cases h with
  |bool b=>exact .bool b
  |int k m=>exact .int k m
  |str h=>exact .str h
  |CJ=>exact .CJ
  |ptr h=>simp[Cr]at hc
  |WO hm ha hv VX=>exact .WO hm ha (many hv (by simpa[Cr]using hc)) VX
  |Ca a hx=>exact .Ca a hx
  |slice h YM Yl=>simp[Cr]at hc
  |Xj hx h YM=>simp[Cr]at hc
  |VT a h Yl=>exact .VT a h Yl
  |Cd hl hm ha hv XK VX Yl=>
   have:_=true:=(by simpa[Cr]using hc)
   exact .Cd hl hm ha (XK this) (fun _=>XK this) VX Yl
  |VU=>exact .VU
  |map h=>simp[Cr]at hc
  |YS h=>simp[Cr]at hc
  |ab p=>exact .ab p
  |func hf ha hb=>
   rename_i fn a b x y
   cases fn with
   |yield l=>exact absurd rfl (hf l)
   |func f=>simp only[Cr,Qf]at hc;exact .func hf (many ha hc.1) (many hb hc.2)
   |method m=>simp only[Cr,Qf]at hc;exact .func hf (many ha hc.1) (many hb hc.2)
   |methodOf t m=>simp only[Cr,Qf]at hc;exact .func hf (many ha hc.1) (many hb hc.2)
   |via t p f q=>simp only[Cr,Qf]at hc;exact .func hf (many ha hc.1) (many hb hc.2)
  |yield h=>simp[Cr]at hc
  |Cu=>exact .Cu
  |iface h=>exact .iface (ih h (by simpa[Cr]using hc))
  |C8=>exact .C8
  |agg h VX=>exact .agg (many h (by simpa[Cr]using hc)) VX
  |tuple h=>exact .tuple (many h (by simpa[Cr]using hc))
theorem B1 (n:Nat) {C:Cx}:∀ {l:List AV} {xs:List Value},VS C l xs→l.all (Cr n)=true→VS C.bare l xs
 |_,_,.nil,_=> .nil
 |_,_,.cons h t,hc=>by
  simp only[List.all_cons,Qf]at hc;exact .cons (Ek n h hc.1) (B1 n t hc.2)
def TR (C:Cx) (nt:Nat) (T:Tr AV) (a:Array Value):Prop:=
 a.size=nt∧∀i v,T.get i=some v→∃x,a[i]?=some x∧VR C v x
inductive Wq (C:Cx) (b:Nat):List WV→List MapEntry→Prop where
 |nil:Wq C b [] []
 |cons {k v:AV} {n:Nat} {e:MapEntry} {l:List WV} {es:List MapEntry} (hk:VR C k e.key) (hv:VR C v e.val) (hg:C.G b n) (hn:e.born=C.gh b n) (t:Wq C b l es):
  Wq C b ((k,v,n)::l) (e::es)
def vF (l:List WV):Prop:=(∀e∈l,eO e.1=true)∧(l.map (·.1)).Nodup
inductive OR (C:Cx) (b:Nat):CB→Obj→Prop where
 |cells {cs:List AV} {t:TypeId} {part:Bool} {c:Array Value} {fr:Nat×Nat} {vs:List Value} (hv:VS C cs vs) (ha:Yf c.toList (C.pl b).base vs) (hs:c.size=(C.pl b).size)
  (VX:Cells cs) (hf:c.size≤fr.1∨fr.2≤fr.1) (hp:part=false→(C.pl b).base=0∧cs.length=c.size∧fr=(0,0)):OR C b (.cells cs t part) (.cells c t fr)
 |map {es:List WV} {clock:Nat} {arr:Array MapEntry} {l:List MapEntry} (hp:l.Perm arr.toList) (h:Wq C b es l) (hk:vF es) (hn:(l.map (·.born)).Nodup)
  (hc:∀n,C.G b n→C.gh b n<clock) (hg:∀n,C.G b n→n<clock) (hi:∀n m,C.G b n→C.G b m→C.gh b n=C.gh b m→n=m):OR C b (.map es clock) (.map arr clock)
 |X5 {l:List UInt8} {s:ByteArray} {pos:Nat} (h:s.data.toList=l) (hb:(C.pl b).base=0):OR C b (.X5 l pos) (.stringIter s pos)
 |kT {since WC:Nat} {seen:List Nat} {arr:Array Nat} (hb:(C.pl b).base=0):OR C b (.Zt none since seen WC) (.mapIter none since arr WC)
 |Zt {m since WC:Nat} {seen:List Nat} {arr:Array Nat} (hd:C.D m) (hg:∀n∈seen,C.G m n) (h:arr.toList=seen.map (C.gh m)) (hb:(C.pl b).base=0):
  OR C b (.Zt (some m) since seen WC) (.mapIter (some (C.pl m).Cn) since arr WC)
 |loop {lp:nW} {L:Loop} (hs:L.state=lp.state) (hp:L.pending=lp.pending) (ht:TR C lp.nt lp.tmps L.tmps) (ow:L.params.toList=lp.params)
  (ha:L.assign=lp.assign) (hb:L.body=lp.body):OR C b (.loop lp) (.loop L)
 |defs:OR C b (.defs true) (.deferred (some []))
 |nz:OR C b (.defs false) (.deferred none)
theorem TR.mono {C C':Cx} (e:Ext C C') {nt:Nat} {T:Tr AV} {a:Array Value} (h:TR C nt T a):TR C' nt T a:=
 ⟨h.1,fun i v hi=>let⟨x,hx,hv⟩:=h.2 i v hi;⟨x,hx,hv.mono e⟩⟩
theorem Wq.mono {C C':Cx} (e:Ext C C') {b:Nat} {l:List WV} {es:List MapEntry} (h:Wq C b l es):Wq C' b l es:=by
 induction h with
 |nil=>exact .nil
 |cons hk hv hg hn _ ih=>exact .cons (hk.mono e) (hv.mono e) (e.G _ _ hg) (hn.trans (e.gh _ _ hg).symm) ih
theorem OR.mono {C C':Cx} (e:Ext C C') {b:Nat} {o:CB} {x:Obj} (hd:C.D b) (hg:∀n,C'.G b n→C.G b n) (h:OR C b o x):OR C' b o x:=by
 have X3:=e.pl b hd;cases h with
 |cells hv ha hs VX hf hp=>exact .cells (hv.mono e) (by rw[X3];exact ha) (by rw[X3];exact hs) VX hf (by rw[X3];exact hp)
 |map hp h hk hn hc hU hi=>exact .map hp (h.mono e) hk hn (fun n hn=>by rw[e.gh _ _ (hg n hn)];exact hc n (hg n hn)) (fun n hn=>hU n (hg n hn)) (fun n m h1 h2 he=>hi n m (hg n h1) (hg m h2) (by rw[←e.gh _ _ (hg n h1),←e.gh _ _ (hg m h2)];exact he))
 |X5 h hb=>exact .X5 h (by rw[X3];exact hb)
 |kT hb=>exact .kT (by rw[X3];exact hb)
 |Zt hd hg h hb=>
  rw[←e.pl _ hd];refine .Zt (e.D _ hd) (fun n hn=>e.G _ _ (hg n hn)) (h.trans ?_) (by rw[X3];exact hb);exact List.map_congr_left fun n hn=>(e.gh _ _ (hg n hn)).symm
 |loop hs hp ht ow ha hb=>exact .loop hs hp (ht.mono e) ow ha hb
 |defs=>exact .defs
 |nz=>exact .nz
structure Wn (C:Cx) (S:St) (w:World):Prop where
 live:∀b o,S.heap.get b=some o→C.D b∧∃x,w.heap[(C.pl b).Cn]?=some x∧OR C b o x
 inj:∀b b' o o',S.heap.get b=some o→S.heap.get b'=some o'→(C.pl b).Cn=(C.pl b').Cn→b=b'
 fresh:∀b,C.D b→b<S.next
 iK:∀Cn ms,C.M Cn=some ms→∃c e fr,w.heap[Cn]?=some (.cells c e fr)∧c.toList=ms
 apart:∀b o,S.heap.get b=some o→C.M (C.pl b).Cn=none
 stamps:∀b n,C.G b n→C.D b
 there:∀k,C.X k→k<w.heap.size
 Ww:∀b,C.D b→C.X (C.pl b).Cn
 Xu:∀Cn ms,C.M Cn=some ms→C.X Cn
def Z6 (S:St) (log:List Nat) (b:Nat):Prop:=b∈log∨S.bound≤b
structure Cv (C:Cx) (S:St) (w:World) (C':Cx) (S':St) (w':World):Prop where
 ext:Ext C C'
 st:Wn C' S' w'
 bound:S'.bound=S.bound
 log:∀b∈S.log,b∈S'.log
 next:S.next≤S'.next
 size:w.heap.size≤w'.heap.size
 frame:∀Cn,Cn<w.heap.size→(∀b o,S.heap.get b=some o→Z6 S S'.log b→(C.pl b).Cn≠Cn)→w'.heap[Cn]?=w.heap[Cn]?
 kept:∀b,C.D b→¬Z6 S S'.log b→S'.heap.get b=S.heap.get b∧∀n,C'.G b n→C.G b n
 fW:∀b,C'.D b→C.D b∨S.next≤b
 own:∀b o,S'.heap.get b=some o→(C.D b∧∃o0,S.heap.get b=some o0)∨w.heap.size≤(C'.pl b).Cn∨
  ∃b0 o0,S.heap.get b0=some o0∧Z6 S S'.log b0∧(C.pl b0).Cn=(C'.pl b).Cn
 aV:∀Cn ms,C'.M Cn=some ms→C.M Cn=some ms∨w.heap.size≤Cn∨∃b0 o0,S.heap.get b0=some o0∧Z6 S S'.log b0∧(C.pl b0).Cn=Cn
 Yz:w'.tape=w.tape∧w'.os=w.os∧w'.output=w.output
theorem Cv.refl {C:Cx} {S:St} {w:World} (h:Wn C S w):Cv C S w C S w where
 ext:= .refl C
 st:=h
 bound:=rfl
 log:=fun _ h=>h
 next:=Qj _
 size:=Qj _
 frame:=fun _ _ _=>rfl
 kept:=fun _ _ _=>⟨rfl,fun _ h=>h⟩
 fW:=fun _ h=> .inl h
 own:=fun b o hb=> .inl ⟨(h.live b o hb).1,o,hb⟩
 aV:=fun _ _ h=> .inl h
 Yz:=⟨rfl,rfl,rfl⟩
theorem Z6.mono {S:St} {l l':List Nat} {b:Nat} (h:Z6 S l b) (hl:∀b∈l,b∈l'):Z6 S l' b:=h.imp (hl b) id
theorem Cv.trans {C C₁ C₂:Cx} {S S₁ S₂:St} {w w₁ w₂:World} (h:Cv C S w C₁ S₁ w₁) (g:Cv C₁ S₁ w₁ C₂ S₂ w₂):Cv C S w C₂ S₂ w₂ where
 ext:=h.ext.trans g.ext
 st:=g.st
 bound:=g.bound.trans h.bound
 log:=fun b hb=>g.log b (h.log b hb)
 next:=Nat.le_trans h.next g.next
 size:=Nat.le_trans h.size g.size
 frame:=by
  intro Cn n3 hn;have h1:=h.frame Cn n3 (fun b o hb hl=>hn b o hb (hl.mono g.log));rw[←h1];refine g.frame Cn (Nat.lt_of_lt_of_le n3 h.size) ?_;intro b o hb hl e;have gK:Z6 S S₂.log b:=hl.imp id (fun x=>by rw[h.bound]at x;exact x);rcases h.own b o hb with⟨hd,o0,h0⟩|hs|⟨b0,o0,h0,X9,e0⟩
  ·exact hn b o0 h0 gK (by rw[←h.ext.pl b hd];exact e)
  ·omega
  ·exact hn b0 o0 h0 (X9.mono g.log) (e0.trans e)
 kept:=by
  intro b hd hm;have h1:=h.kept b hd (fun x=>hm (x.mono g.log));have h2:=g.kept b (h.ext.D b hd) (fun x=>hm (x.imp id (fun y=>by rw[h.bound]at y;exact y)));exact⟨h2.1.trans h1.1,fun n hn=>h1.2 n (h2.2 n hn)⟩
 fW:=by
  intro b hb;rcases g.fW b hb with h1|h1
  ·exact h.fW b h1
  ·exact .inr (Nat.le_trans h.next h1)
 own:=by
  intro b o hb;rcases g.own b o hb with⟨hd,o1,h1⟩|hs|⟨b1,o1,h1,aB,e1⟩
  ·rcases h.own b o1 h1 with⟨q9,o0,h0⟩|hs|⟨b0,o0,h0,X9,e0⟩
   ·exact .inl ⟨q9,o0,h0⟩
   ·exact .inr (.inl (by rw[g.ext.pl b hd];exact hs))
   ·exact .inr (.inr ⟨b0,o0,h0,X9.mono g.log,by rw[g.ext.pl b hd];exact e0⟩)
  ·exact .inr (.inl (Nat.le_trans h.size hs))
  ·have z6:Z6 S S₂.log b1:=aB.imp id (fun x=>by rw[h.bound]at x;exact x);rcases h.own b1 o1 h1 with⟨q9,o0,h0⟩|hs|⟨b0,o0,h0,X9,e0⟩
   ·exact .inr (.inr ⟨b1,o0,h0,z6,by rw[←e1,h.ext.pl b1 q9]⟩)
   ·exact .inr (.inl (by rw[←e1];exact hs))
   ·exact .inr (.inr ⟨b0,o0,h0,X9.mono g.log,e0.trans e1⟩)
 aV:=by
  intro Cn ms hm;rcases g.aV Cn ms hm with h1|hs|⟨b1,o1,h1,aB,e1⟩
  ·rcases h.aV Cn ms h1 with h0|hs|⟨b0,o0,h0,X9,e0⟩
   ·exact .inl h0
   ·exact .inr (.inl hs)
   ·exact .inr (.inr ⟨b0,o0,h0,X9.mono g.log,e0⟩)
  ·exact .inr (.inl (Nat.le_trans h.size hs))
  ·have z6:Z6 S S₂.log b1:=aB.imp id (fun x=>by rw[h.bound]at x;exact x);rcases h.own b1 o1 h1 with⟨q9,o0,h0⟩|hs|⟨b0,o0,h0,X9,e0⟩
   ·exact .inr (.inr ⟨b1,o0,h0,z6,by rw[←e1,h.ext.pl b1 q9]⟩)
   ·exact .inr (.inl (by rw[←e1];exact hs))
   ·exact .inr (.inr ⟨b0,o0,h0,X9.mono g.log,e0.trans e1⟩)
 Yz:=⟨g.Yz.1.trans h.Yz.1,g.Yz.2.1.trans h.Yz.2.1,g.Yz.2.2.trans h.Yz.2.2⟩
theorem Wn.fk {C:Cx} {S:St} {w:World} (h:Wn C S w) (n:Nat) (l:List Nat):Wn C {S with bound:=n,log:=l} w:=
 ⟨h.live,h.inj,h.fresh,h.iK,h.apart,h.stamps,h.there,h.Ww,h.Xu⟩
theorem Dt {n:Nat}:∀ {a l:List Nat} {b:Nat},(b∈a∧b<n)∨b∈l→b∈below n a l
 | [],l,b,h=>by
  rcases h with⟨h,_⟩|h
  ·cases h
  ·exact h
 |c::a,l,b,h=>by
  unfold below;cases hc:Nat.blt c n with
  |true=>
   rcases h with⟨h,hn⟩|h
   ·rcases Qk.1 h with rfl|h
    ·exact Qh ..
    ·exact Qg _ (Dt (.inl ⟨h,hn⟩))
   ·exact Qg _ (Dt (.inr h))
  |false=>
   have iL:¬c<n:=fun x=>by
    have:Nat.blt c n=true:=by simpa[Nat.blt_eq]using x
    rw[this]at hc;cases hc
   rcases h with⟨h,hn⟩|h
   ·rcases Qk.1 h with rfl|h
    ·exact absurd hn iL
    ·exact Dt (.inl ⟨h,hn⟩)
   ·exact Dt (.inr h)
theorem Cv.back {C C':Cx} {S S':St} {w w':World} (hS:Wn C S w) (h:Cv C S.enter w C' S' w'):Cv C S w C' (S.back S') w' where
 ext:=h.ext
 st:=h.st.fk _ _
 bound:=rfl
 log:=fun b hb=>Dt (.inr hb)
 next:=h.next
 size:=h.size
 frame:=fun Cn hb hn=>h.frame Cn hb (fun b o hbo hm=>hn b o hbo (by
  have C6:=hS.fresh b (hS.live b o hbo).1;rcases hm with hm|hm
  ·rcases Nat.lt_or_ge b S.bound with lF|lF
   ·exact .inl (Dt (.inl ⟨hm,lF⟩))
   ·exact .inr lF
  ·have:S.next≤b:=hm;omega))
 kept:=fun b hd hm=>h.kept b hd (fun x=>hm (by
  have C6:=hS.fresh b hd;rcases x with x|x
  ·rcases Nat.lt_or_ge b S.bound with lF|lF
   ·exact .inl (Dt (.inl ⟨x,lF⟩))
   ·exact .inr lF
  ·have:S.next≤b:=x;omega))
 fW:=h.fW
 own:=fun b o hb=>(h.own b o hb).imp id (Or.imp id fun⟨b0,o0,h0,hm,e⟩=>⟨b0,o0,h0,by
  have C6:=hS.fresh b0 (hS.live b0 o0 h0).1;rcases hm with hm|hm
  ·rcases Nat.lt_or_ge b0 S.bound with lF|lF
   ·exact .inl (Dt (.inl ⟨hm,lF⟩))
   ·exact .inr lF
  ·have:S.next≤b0:=hm;omega,e⟩)
 aV:=fun Cn ms jf=>(h.aV Cn ms jf).imp id (Or.imp id fun⟨b0,o0,h0,hm,e⟩=>⟨b0,o0,h0,by
  have C6:=hS.fresh b0 (hS.live b0 o0 h0).1;rcases hm with hm|hm
  ·rcases Nat.lt_or_ge b0 S.bound with lF|lF
   ·exact .inl (Dt (.inl ⟨hm,lF⟩))
   ·exact .inr lF
  ·have:S.next≤b0:=hm;omega,e⟩)
 Yz:=h.Yz
theorem BM {w:World} {Cn:Nat} {x:Obj} (h:w.heap[Cn]?=some x):Cn<w.heap.size:=by
 rcases Nat.lt_or_ge Cn w.heap.size with h'|h'
 ·exact h'
 ·rw[Array.getElem?_eq_none h']at h;cases h
def Cx.Yi (C C':Cx):Cx:= {C with M:=C'.M,X:=C'.X}
theorem Cv.forget {C C':Cx} {S S':St} {w w':World} (hS:Wn C S w) (h:Cv C S.enter w C' S' w') (hl:S'.log=[]):Cv C S w (C.Yi C') S w':=by
 have XG:∀b o,S.heap.get b=some o→¬Z6 S.enter S'.log b:=by
  intro b o hb hm;have C6:=hS.fresh b (hS.live b o hb).1;rcases hm with hm|hm
  ·rw[hl]at hm;cases hm
  ·have:S.next≤b:=hm;omega
 have qA:∀Cn,Cn<w.heap.size→w'.heap[Cn]?=w.heap[Cn]?:=fun Cn hb=>h.frame Cn hb (fun b o hbo hm=>absurd hm (XG b o hbo));have e:Ext C (C.Yi C'):=⟨fun _ h=>h,fun _ _=>rfl,h.ext.M,fun _ _ h=>h,fun _ _ _=>rfl,h.ext.X⟩
 refine⟨e,?_,rfl,fun _ h=>h,Qj _,h.size,fun Cn hb _=>qA Cn hb,fun _ _ _=>⟨rfl,fun _ h=>h⟩,fun _ h=> .inl h,fun b o hb=> .inl ⟨(hS.live b o hb).1,o,hb⟩,?_,h.Yz⟩
 ·refine⟨?_,hS.inj,hS.fresh,h.st.iK,?_,hS.stamps,h.st.there,fun b hd=>h.ext.X _ (hS.Ww b hd),h.st.Xu⟩
  ·intro b o hb;obtain⟨hd,x,hx,hr⟩:=hS.live b o hb;exact⟨hd,x,by rw[←hx];exact qA _ (BM hx),hr.mono e hd (fun _ h=>h)⟩
  ·intro b o hb;obtain⟨hd,x,hx,hr⟩:=hS.live b o hb;cases hm:C'.M (C.pl b).Cn with
   |none=>exact hm
   |some ms=>
    exfalso;rcases h.aV _ _ hm with h1|h1|⟨b0,o0,h0,X9,_⟩
    ·rw[hS.apart b o hb]at h1;cases h1
    ·have:=BM hx;omega
    ·exact XG b0 o0 h0 X9
 ·intro Cn ms hm;rcases h.aV Cn ms hm with h1|h1|⟨b0,o0,h0,X9,_⟩
  ·exact .inl h1
  ·exact .inr (.inl h1)
  ·exact absurd X9 (XG b0 o0 h0)
theorem B7 (Cn off n:Nat):(⟨Cn,off,none⟩:Addr).add n=⟨Cn,off+n,none⟩:=by
 unfold Addr.add;split
 ·next h=>subst h;rfl
 ·rfl
structure CN (E:Env) (P:Program):Prop where
 ty:∀t i,E.tys.get t=some i→P.info? t=some i
 fn:∀f fn,E.fns.get f=some fn→P.funcs[f]?=some fn
 flat:∀t,E.plain t=true→P.stoodInHeld t=false
 lone:∀f fn,E.fns.get f=some fn→(fn.name== "runtime.NumGoroutine")=false
theorem Ed {E:Env} {P:Program} (h:CN E P) {t:TypeId} {d:TypeDesc} (e:C7 E t=some d):P.underlying t=some d:=by
 unfold C7 at e;cases hi:E.tys.get t with
 |none=>rw[hi]at e;cases e
 |some i=>
  rw[hi]at e;have hp:=h.ty t i hi;unfold Program.underlying;rw[hp];simp only at e;unfold j8 at e;split at e
  ·next n u hd=>
   cases hu:E.tys.get u with
   |none=>rw[hu]at e;cases e
   |some j=>
    rw[hu]at e;have:=h.ty u j hu;obtain⟨d1,d2,d3,d4,d5,d6,d7,d8,d9,d10⟩:=i;simp only at hd;subst hd;simp only[this,Option.map_some];exact e
  ·next hd=>
   obtain⟨d1,d2,d3,d4,d5,d6,d7,d8,d9,d10⟩:=i;cases d1<;>first|exact e|exact absurd rfl (hd _ _)
theorem Ak {E:Env} {P:Program} (h:CN E P) {t:TypeId} {d:TypeDesc} (e:C7 E t=some d) (w:World):(underlying t).run P w= .ok d w:=
 run_underlying (Ed h e) w
theorem BL {E:Env} {P:Program} (h:CN E P) {t:TypeId} {i:TypeInfo} (e:E.tys.get t=some i) (w:World):(typeInfo t).run P w= .ok i w:=by
 simp[typeInfo,h.ty t i e]
theorem AM {E:Env} {P:Program} (h:CN E P) {t:TypeId} {n:Nat} (e:sizeOf E t=some n) (w:World):(Go.sizeOf t).run P w= .ok n w:=by
 unfold sizeOf at e;cases hi:E.tys.get t with
 |none=>rw[hi]at e;cases e
 |some i=>rw[hi]at e;simp[Go.sizeOf,BL h hi,Option.some.inj e]
theorem Nv {E:Env} {P:Program} (h:CN E P) {t:TypeId} {n:Nat} (e:bytesOf E t=some n) (w:World):
 ∃i,(typeInfo t).run P w= .ok i w∧i.bytes=n:=by
 unfold bytesOf at e;cases hi:E.tys.get t with
 |none=>rw[hi]at e;cases e
 |some i=>rw[hi]at e;exact⟨i,BL h hi w,Option.some.inj e⟩
theorem Mh {E:Env} {P:Program} (h:CN E P) {t:TypeId} {b:Bool} (e:isAgg E t=some b) (w:World):(Go.isAgg t).run P w= .ok b w:=by
 unfold isAgg at e;split at e
 ·next fs hd=>cases e;simp[Go.isAgg,Ak h hd]
 ·next n x hd=>cases e;simp[Go.isAgg,Ak h hd]
 ·next d h1 h2 hd=>
  cases e;simp only[Go.isAgg,Sem.run_bind,Ak h hd,Result.andThen_ok];cases d<;>first|rfl|exact absurd rfl (h1 _)|exact absurd rfl (h2 _ _)
 ·cases e
theorem NC {C:Cx} {v:Value} {x:AV} (h:cm v=some x):VR C x v∧x.ck=true:=by
 unfold cm at h;split at h<;>first|cases h|skip
 ·exact⟨.bool _,rfl⟩
 ·exact⟨.int _ _,rfl⟩
 ·exact⟨.str U,rfl⟩
 ·exact⟨.CJ,rfl⟩
 ·exact⟨.Ca _ .none,rfl⟩
 ·exact⟨.VU,rfl⟩
 ·exact⟨.Cu,rfl⟩
 ·exact⟨.C8,rfl⟩
theorem HT {C:Cx}:∀ {l:List Value} {r:List AV},jl cm l=some r→VS C r l∧Cells r
 | [],r,h=>by
  obtain rfl: []=r:=Option.some.inj h;exact⟨.nil,fun _ h=>by cases h⟩
 |a::l,r,h=>by
  obtain⟨b,bs,hb,hbs,rfl⟩:=Us h;have h1:=NC (C:=C) hb;have h2:=HT (C:=C) hbs;exact⟨.cons h1.1 h2.1,fun v hv=>by
   rcases Qk.1 hv with rfl|hv
   ·exact h1.2
   ·exact h2.2 v hv⟩
theorem Mr {C:Cx} {v:Value} {x:AV} (h:j7 v=some x):VR C x v:=by
 unfold j7 at h;split at h
 ·next cs=>
  cases hm:jl cm cs.toList with
  |none=>rw[hm]at h;cases h
  |some l=>rw[hm]at h;cases h;exact .agg (HT hm).1 (HT (C:=C) hm).2
 ·next cs=>
  cases hm:jl cm cs.toList with
  |none=>rw[hm]at h;cases h
  |some l=>rw[hm]at h;cases h;exact .tuple (HT hm).1
 ·exact(NC h).1
theorem G2 {o:Option AV} {z:AV} (h:ko o=some z):o=some z∧z.isTuple=false:=by
 unfold ko at h;split at h
 ·cases h
 ·next hn=>
  refine⟨h,?_⟩;cases z with
  |tuple vs=>exact absurd h (hn vs)
  |_=>rfl
theorem HN {E:Env} {P:Program} (h:CN E P) {t:TypeId} {z:AV} (e:zeroOf E t=some z) (w:World):
 ∃x,(zeroValue t).run P w= .ok x w∧(∀C,VR C z x)∧∀i,P.info? t=some i→i.zero=some x:=by
 unfold zeroOf at e;cases hi:E.tys.get t with
 |none=>rw[hi]at e;cases e
 |some i=>
  rw[hi]at e;simp only at e;cases hz:i.zero with
  |none=>rw[hz]at e;cases e
  |some x=>
   rw[hz]at e;exact⟨x,by simp[zeroValue,BL h hi,hz],fun C=>Mr (G2 e).1,fun j hj=>by
    rw[h.ty t i hi]at hj;cases hj;exact hz⟩
theorem Et {E:Env} {t:TypeId} {z:AV} (e:zeroOf E t=some z):z.isTuple=false:=by
 unfold zeroOf at e;cases hi:E.tys.get t with
 |none=>rw[hi]at e;cases e
 |some i=>
  rw[hi]at e;simp only at e;cases hz:i.zero with
  |none=>rw[hz]at e;cases e
  |some x=>rw[hz]at e;exact(G2 e).2
theorem VR.cells {C:Cx} {v:AV} {x:Value} (h:VR C v x):VS C v.cells x.cells.toList:=by
 cases h<;>first|exact .one (by constructor<;>assumption)|skip
 all_goals first
  |assumption
  |(exact .one (.agg ‹_› ‹_›))
  |(exact .one (.tuple ‹_›))
  |(refine .one ?_;first|exact .ptr ‹_›|exact .WO ‹_› ‹_› ‹_› ‹_›|exact .slice ‹_› ‹_› ‹_›|exact .Cd ‹_› ‹_› ‹_› ‹_› ‹_› ‹_› ‹_›|exact .VT _ ‹_› ‹_›|exact .func ‹_› ‹_› ‹_›)
theorem VR.XH {C:Cx} {v:AV} {x:Value} (h:VR C v x) (ht:v.isTuple=false):Cells v.cells:=by
 cases h<;>first
  |assumption
  |(intro u hu;simp only[AV.cells,Qp]at hu;subst hu;first|rfl|(simp[AV.isTuple]at ht))
theorem VR.ox {C:Cx} {v:AV} {x:Value} (h:VR C v x) (hc:v.ck=true):x.oneCell'=true:=by
 cases h<;>first|rfl|(simp[AV.ck]at hc)
theorem Wn.lt {C:Cx} {S:St} {w:World} (h:Wn C S w) {b:Nat} {o:CB} (hb:S.heap.get b=some o):(C.pl b).Cn<w.heap.size:=by
 obtain⟨_,x,hx,_⟩:=h.live b o hb;rcases Nat.lt_or_ge (C.pl b).Cn w.heap.size with h|h
 ·exact h
 ·rw[Array.getElem?_eq_none h]at hx;cases hx
theorem Ix {o:Option CB} {cs:List AV} (h:VZ o=some cs):∃t part,o=some (.cells cs t part):=by
 unfold VZ at h;split at h
 ·cases h;exact⟨_,_,rfl⟩
 ·cases h
theorem Ka {o:Option CB} {es:List WV} (h:kq o=some es):∃cl,o=some (.map es cl):=by
 unfold kq at h;split at h
 ·cases h;exact⟨_,rfl⟩
 ·cases h
theorem Wn.cells {C:Cx} {S:St} {w:World} (h:Wn C S w) {b:Nat} {cs:List AV} (hb:VZ (S.heap.get b)=some cs):
 C.D b∧∃c e fr vs,w.heap[(C.pl b).Cn]?=some (.cells c e fr)∧VS C cs vs∧Yf c.toList (C.pl b).base vs∧c.size=(C.pl b).size∧Cells cs∧(c.size≤fr.1∨fr.2≤fr.1):=by
 obtain⟨t,part,hs⟩:=Ix hb;obtain⟨hd,x,hx,hr⟩:=h.live b _ hs;cases hr with
 |cells hv ha XA VX hf hp=>exact⟨hd,_,_,_,_,hx,hv,ha,XA,VX,hf⟩
theorem Vp {w:World} {Cn:Nat} {c:Array Value} {e:TypeId} {fr:Nat×Nat} (h:w.heap[Cn]?=some (.cells c e fr)) (off:Nat):
 w.cell? ⟨Cn,off,none⟩=c[off]?:=by simp[World.cell?,h]
def jo (w:World) (a:Addr) (vs:List Value):Prop:=∀j v,vs[j]?=some v→w.cell? (a.add j)=some v
theorem Kl {w:World} {Cn off:Nat} {c:Array Value} {e:TypeId} {fr:Nat×Nat} {vs:List Value} (h:w.heap[Cn]?=some (.cells c e fr)) (ha:Yf c.toList off vs):
 jo w ⟨Cn,off,none⟩ vs:=by
 intro j v hj;rw[B7,Vp h];have C6:j<vs.length:=by
  rcases Nat.lt_or_ge j vs.length with h|h
  ·exact h
  ·rw[List.getElem?_eq_none h]at hj;cases hj
 have:=ha.get j C6;rw[←hj,←this];simp
theorem Yf.sub {α:Type} {ms:List α} {off:Nat} {vs a b c:List α} (h:Yf ms off vs) (e:vs=a++b++c):Yf ms (off+a.length) b:=by
 subst e;exact h.b7
theorem Cells.sub {a b:List AV} (h:Cells (a++b)):Cells a∧Cells b:=
 ⟨fun v hv=>h v (List.mem_append_left _ hv),fun v hv=>h v (List.mem_append_right _ hv)⟩
theorem Cells.append {a b:List AV} (h:Cells a) (g:Cells b):Cells (a++b):=fun v hv=>(List.mem_append.1 hv).elim (h v) (g v)
theorem Nx {C:Cx} {S:St} {w:World} (h:Wn C S w) {n:Nat} {v:AV} {x:Value} (hv:VR C v x) {l:List AV} (e:Yk S n v=some l):
 ∃a vs,x= .pointer (some a)∧VS C l vs∧jo w a vs∧Cells l∧l.length=n:=by
 cases hv with
 |ptr hd=>
  simp only[Yk]at e;obtain⟨cs,VX,e1⟩:=Qa.1 e;obtain⟨q,hq,e2⟩:=Qa.1 e1;obtain⟨pre,rfl,hp⟩:=Dz hq;obtain⟨post,rfl,hl⟩:=DH e2;obtain⟨_,c,ty,fr,vs,hx,Wk,ha,XA,hc,_⟩:=h.cells VX;obtain⟨y,z,rfl,h1,h2⟩:=AY Wk;obtain⟨z1,z2,rfl,h3,h4⟩:=AY h2;refine⟨_,z1,rfl,h3,Kl hx ?_,(hc.sub.2).sub.1,hl⟩;have:=ha.sub (a:=y) (b:=z1) (c:=z2) (by simp);rw[h1.length,hp]at this;exact this
 |WO hm ha Wk hc=>
  simp only[Yk]at e;obtain⟨post,rfl,hl⟩:=DH e;obtain⟨z1,z2,rfl,h3,h4⟩:=AY Wk;obtain⟨c,ty,fr,hx,rfl⟩:=h.iK _ _ hm;exact⟨_,z1,rfl,h3,Kl hx ha.left,hc.sub.1,hl⟩
 |_=>simp[Yk]at e
theorem HO {P:Program} {w:World} {a:Addr} {vs:List Value} (h:jo w a vs) (n:Nat) (hn:vs.length=n):
 (loadCells a n).run P w= .ok vs.toArray w:=by
 subst hn;exact run_loadCells_list w a vs h
theorem vG {P:Program} {w:World} {a:Addr} {v:Value} (h:jo w a [v]):(load a).run P w= .ok v w:=by
 have:=h 0 v rfl;have ha:a.add 0=a:=by simp[Addr.add]
 rw[ha]at this;simp[this]
theorem HZ {E:Env} {P:Program} (he:CN E P) {C:Cx} {S:St} {w:World} (h:Wn C S w) {t:TypeId} {v r:AV} {x:Value} (hv:VR C v x)
 (e:Wu E t S v=some r):∃a y,x= .pointer (some a)∧(Go.loadVar t a).run P w= .ok y w∧VR C r y:=by
 unfold Wu at e;cases h1:isAgg E t with
 |none=>rw[h1]at e;simp at e
 |some b=>
 cases h2:Am.sizeOf E t with
 |none=>rw[h1,h2]at e;cases b<;>simp at e
 |some n=>
 rw[h1,h2]at e;cases b with
 |true=>
  simp only[gW]at e;obtain⟨l,hl,e1⟩:=Qa.1 e;cases e1;obtain⟨a,vs,rfl,h3,h4,h5,h6⟩:=Nx h hv hl;refine⟨a,.agg vs.toArray,rfl,?_,.agg h3 h5⟩;simp[Go.loadVar,Mh he h1,AM he h2,HO h4 n (h3.length.trans h6)]
 |false=>
  simp only[kt]at e;obtain⟨l,hl,e1⟩:=Qa.1 e;obtain⟨a,vs,rfl,h3,h4,h5,h6⟩:=Nx h hv hl;unfold oneV at e1;split at e1
  ·next u=>
   cases e1;cases h3 with
   |cons h7 h8=>
    cases h8;exact⟨a,_,rfl,by simp only[Go.loadVar,Sem.run_bind,Mh he h1,Result.andThen_ok,Bool.false_eq_true,if_false];exact vG h4,h7⟩
  ·cases e1
def Cx.Cw (C:Cx) (b:Nat) (p:Pl):Cx:= {C with pl:=fun k=>if k=b then p else C.pl k,D:=fun k=>C.D k∨k=b,X:=fun k=>C.X k∨k=p.Cn}
theorem Ext.Cw {C:Cx} {b:Nat} {p:Pl} (h:¬C.D b):Ext C (C.Cw b p):=
 ⟨fun _ h=> .inl h,fun k hk=>by
  have:k≠b:=fun e=>h (e▸hk);simp[Cx.Cw,this],fun _ _ h=>h,fun _ _ h=>h,fun _ _ _=>rfl,fun _ h=> .inl h⟩
theorem QB {w:World} {o:Obj} {Cn:Nat} {x:Obj} (h:w.heap[Cn]?=some x):(w.heap.push o)[Cn]?=some x:=by
 have:=BM h;rw[Array.getElem?_push_lt this,←h];simp[this]
def World.VN (w:World) (o:Obj):World:= {w with heap:=w.heap.push o}
theorem GW (b:Nat) (l:List Nat):b∈Xt b l∧∀k∈l,k∈Xt b l:=by
 cases l with
 |nil=>simp[Xt]
 |cons c l=>
  simp only[Xt];cases hc:Nat.beq b c with
  |true=>
   have:b=c:=Qb hc;subst this;simp
  |false=>exact⟨Qh ..,fun k hk=>Qg _ hk⟩
theorem EO (S:St) (b:Nat) (o:Option CB):Z6 S (S.put b o).log b∧∀k∈S.log,k∈(S.put b o).log:=by
 unfold St.put Z6;cases hb:Nat.blt b S.bound with
 |true=>exact⟨.inl (GW b _).1,(GW b _).2⟩
 |false=>exact⟨.inr (by
  rcases Nat.lt_or_ge b S.bound with h|h
  ·have:Nat.blt b S.bound=true:=by simpa[Nat.blt_eq]using h
   rw[this]at hb;cases hb
  ·exact h),fun k hk=>hk⟩
theorem JM (S:St) (b k:Nat) (o:Option CB):(S.put b o).heap.get k=if k=b then o else S.heap.get k:=AF _ _ _ _
theorem KG (S:St) (k:Nat) (o:CB):(S.alloc o).heap.get k=if k=S.next then some o else S.heap.get k:=AF _ _ _ _
theorem Cv.alloc {C:Cx} {S:St} {w:World} (h:Wn C S w) (o:CB) (x:Obj) (sz:Nat) (hx:OR (C.Cw S.next ⟨w.heap.size,0,sz⟩) S.next o x):
 Cv C S w (C.Cw S.next ⟨w.heap.size,0,sz⟩) (S.alloc o) (World.VN w x):=by
 have ZA:¬C.D S.next:=fun hd=>Nat.lt_irrefl _ (h.fresh _ hd);have e:=Ext.Cw (C:=C) (p:=⟨w.heap.size,0,sz⟩) ZA;have aG:=fun k=>KG S k o;refine⟨e,⟨?_,?_,?_,?_,?_,?_,?_,?_,fun Cn ms hm=> .inl (h.Xu Cn ms hm)⟩,rfl,fun _ h=>h,Nat.le_succ _,by simp[World.VN],?_,?_,?_,?_,fun _ _ h=> .inl h,⟨rfl,rfl,rfl⟩⟩
 ·intro b ob hb;rw[aG]at hb;split at hb
  ·next hY=>
   subst hY;cases hb;refine⟨.inr U,x,?_,hx⟩;simp only[Cx.Cw,if_true,World.VN];exact Array.getElem?_push_size
  ·next hY=>
   obtain⟨hd,y,hy,hr⟩:=h.live b ob hb;refine⟨.inl hd,y,?_,hr.mono e hd (fun _ h=>h)⟩;simp only[Cx.Cw,hY,if_false,World.VN];exact QB hy
 ·intro b b' ob ob' hb YN heq;rw[aG]at hb YN;split at hb
  ·next h1=>
   split at YN
   ·next h2=>rw[h1,h2]
   ·next h2=>
    exfalso;subst h1;simp only[Cx.Cw,if_true,h2,if_false]at heq;have:=h.lt YN;omega
  ·next h1=>
   split at YN
   ·next h2=>
    exfalso;subst h2;simp only[Cx.Cw,if_true,h1,if_false]at heq;have:=h.lt hb;omega
   ·next h2=>
    simp only[Cx.Cw,h1,h2,if_false]at heq;exact h.inj b b' ob ob' hb YN heq
 ·rintro b (hd|rfl)
  ·exact Nat.lt_succ_of_lt (h.fresh b hd)
  ·exact Nat.lt_succ_self _
 ·intro Cn ms hm;obtain⟨c,ty,fr,hc,e⟩:=h.iK Cn ms hm;exact⟨c,ty,fr,QB hc,e⟩
 ·intro b ob hb;rw[aG]at hb;split at hb
  ·next hY=>
   subst hY;cases hm:C.M w.heap.size with
   |none=>simpa[Cx.Cw]using hm
   |some ms=>
    obtain⟨c,ty,fr,hc,_⟩:=h.iK _ ms hm;simp at hc
  ·next hY=>simpa[Cx.Cw,hY]using h.apart b ob hb
 ·exact fun b n hg=> .inl (h.stamps b n hg)
 ·rintro k (hk|rfl)
  ·exact Nat.lt_of_lt_of_le (h.there k hk) (by simp[World.VN])
  ·simp[World.VN]
 ·rintro b (hd|rfl)
  ·have:b≠S.next:=by rintro rfl;exact ZA hd
   exact .inl (by simpa[Cx.Cw,this]using h.Ww b hd)
  ·exact .inr (by simp[Cx.Cw])
 ·intro Cn hb _;show(w.heap.push x)[Cn]?=_;rw[Array.getElem?_push_lt hb];simp[hb]
 ·intro b hd _;have Xl:b≠S.next:=by rintro rfl;exact ZA hd
  exact⟨by rw[aG,if_neg Xl],fun _ h=>h⟩
 ·rintro b (hd|rfl)
  ·exact .inl hd
  ·exact .inr (Qj _)
 ·intro b ob hb;rw[aG]at hb;split at hb
  ·next hY=>subst hY;exact .inr (.inl (by simp[Cx.Cw]))
  ·next hY=>exact .inl ⟨(h.live b ob hb).1,ob,hb⟩
theorem Bx (C:Cx) (b:Nat) (p:Pl):(C.Cw b p).pl b=p:=by simp[Cx.Cw]
theorem Jz (C:Cx) (b:Nat) (p:Pl):(C.Cw b p).D b:= .inr rfl
theorem LR {C:Cx} {S:St} {w w':World} (h:Wn C S w) (hs:w.heap.size≤w'.heap.size) (hk:∀Cn,Cn<w.heap.size→w'.heap[Cn]?=w.heap[Cn]?)
 (hm:w'.tape=w.tape∧w'.os=w.os∧w'.output=w.output):Cv C S w C S w':=by
 refine⟨.refl C,⟨?_,h.inj,h.fresh,?_,h.apart,h.stamps,fun k hk=>Nat.lt_of_lt_of_le (h.there k hk) hs,h.Ww,h.Xu⟩,rfl,fun _ h=>h,Qj _,hs,fun Cn hb _=>hk Cn hb,fun _ _ _=>⟨rfl,fun _ h=>h⟩,fun _ h=> .inl h,
  fun b o hb=> .inl ⟨(h.live b o hb).1,o,hb⟩,fun _ _ h=> .inl h,hm⟩
 ·intro b o hb;obtain⟨hd,y,hy,hr⟩:=h.live b o hb;exact⟨hd,y,by rw[hk _ (BM hy)];exact hy,hr⟩
 ·intro Cn ms hm;obtain⟨c,ty,fr,hc,e⟩:=h.iK Cn ms hm;exact⟨c,ty,fr,by rw[hk _ (BM hc)];exact hc,e⟩
theorem IN {C:Cx} {S:St} {w:World} (h:Wn C S w) (x:Obj):Cv C S w C S (World.VN w x):=
 LR h (by simp[World.VN]) (fun Cn hb=>by
  show(w.heap.push x)[Cn]?=_;rw[Array.getElem?_push_lt hb];simp[hb]) ⟨rfl,rfl,rfl⟩
def Cx.jO (C:Cx) (b:Nat):Cx:= {C with X:=fun k=>C.X k∨k=b}
theorem Ext.jO {C:Cx} {b:Nat}:Ext C (C.jO b):=⟨fun _ h=>h,fun _ _=>rfl,fun _ _ h=>h,fun _ _ h=>h,fun _ _ _=>rfl,fun _ h=> .inl h⟩
theorem Cv.known {C:Cx} {S:St} {w:World} (h:Wn C S w) {b:Nat} (hb:b<w.heap.size):Cv C S w (C.jO b) S w:=by
 refine⟨.jO,⟨fun k o hk=>?_,h.inj,h.fresh,h.iK,h.apart,h.stamps,fun k hk=>hk.elim (h.there k) (fun e=>e▸hb),fun k hk=> .inl (h.Ww k hk),fun k ms hk=> .inl (h.Xu k ms hk)⟩,rfl,fun _ h=>h,Qj _,Qj _,fun _ _ _=>rfl,fun _ _ _=>⟨rfl,fun _ h=>h⟩,fun _ h=> .inl h,
  fun b o hb=> .inl ⟨(h.live b o hb).1,o,hb⟩,fun _ _ h=> .inl h,⟨rfl,rfl,rfl⟩⟩
 obtain⟨hd,y,hy,hr⟩:=h.live k o hk;exact⟨hd,y,hy,hr.mono .jO hd (fun _ h=>h)⟩
theorem KM {C:Cx} {S:St} {w:World} (h:Wn C S w) (x:Obj):Cv C S w (C.jO w.heap.size) S (World.VN w x):=
 (IN h x).trans (Cv.known (IN h x).st (by simp[World.VN]))
theorem Cv.drew {C:Cx} {S:St} {w:World} (h:Wn C S w) (n:Nat):Cv C S w C S {w with drawn:=n}:=
 LR h (Qj _) (fun _ _=>rfl) ⟨rfl,rfl,rfl⟩
def World.CP (w:World) (Cn:Nat) (o:Obj):World:= {w with heap:=w.heap.setIfInBounds Cn o}
theorem BC {w:World} {Cn:Nat} {o:Obj} (k:Nat):(World.CP w Cn o).heap[k]?=if k=Cn then(if Cn<w.heap.size then some o else none)else w.heap[k]?:=by
 simp only[World.CP,Array.getElem?_setIfInBounds];split
 ·next h=>subst h;simp
 ·next h=>rw[if_neg (fun e=>h e.symm)]
theorem KL {C C':Cx} {S:St} {w:World} (h:Wn C S w) {b:Nat} {o0:CB} (du:S.heap.get b=some o0) (e:Ext C C') (hD:∀k,C'.D k→C.D k)
 (hM:C'.M=C.M) (hX:C'.X=C.X) (hG:∀k n,C'.G k n→C.G k n∨k=b) (o:CB) (x:Obj) (hx:OR C' b o x):
 Cv C S w C' (S.put b (some o)) (World.CP w (C.pl b).Cn x):=by
 have aG:=fun k=>JM S b k (some o);have C6:=h.lt du;have q9:=(h.live b o0 du).1;have hG':∀k,k≠b→∀n,C'.G k n→C.G k n:=fun k hk n hg=>(hG k n hg).resolve_right hk;have f:∀j oj,(if j=b then some o else S.heap.get j)=some oj→∃q,S.heap.get j=some q:=by
  intro j oj hj;split at hj
  ·next e=>subst e;exact⟨o0,du⟩
  ·exact⟨oj,hj⟩
 refine⟨e,⟨?_,?_,?_,?_,?_,?_,fun k hk=>by simpa[World.CP]using h.there k (hX▸hk),fun k hk=>by rw[e.pl _ (hD k hk),hX];exact h.Ww k (hD k hk),fun Cn ms hm=>by rw[hX];exact h.Xu Cn ms (hM▸hm)⟩,rfl,(EO S b _).2,Qj _,by simp[World.CP],?_,?_,fun k hk=> .inl (hD k hk),?_,fun _ _ hm=> .inl (hM▸hm),⟨rfl,rfl,rfl⟩⟩
 ·intro k ok hk;rw[aG]at hk;split at hk
  ·next e'=>subst e';cases hk;exact⟨e.D _ q9,x,by rw[e.pl _ q9,BC];simp[C6],hx⟩
  ·next e'=>
   obtain⟨hd,y,hy,hr⟩:=h.live k ok hk;refine⟨e.D _ hd,y,?_,hr.mono e hd (hG' k e')⟩;rw[e.pl _ hd,BC,if_neg (fun e''=>e' (h.inj k b ok o0 hk du e''))];exact hy
 ·intro k k' ok oy hk gL heq;rw[aG]at hk gL;obtain⟨q,hq⟩:=f k ok hk;obtain⟨q',hq'⟩:=f k' oy gL;rw[e.pl _ (h.live k q hq).1,e.pl _ (h.live k' q' hq').1]at heq;exact h.inj k k' q q' hq hq' heq
 ·exact fun k hk=>h.fresh k (hD k hk)
 ·intro Cn ms hm;rw[hM]at hm;obtain⟨c,ty,fr,hc,e⟩:=h.iK Cn ms hm;refine⟨c,ty,fr,?_,e⟩;rw[BC,if_neg];· exact hc
  intro e';have:=h.apart b o0 du;rw[←e',hm]at this;cases this
 ·intro k ok hk;rw[aG]at hk;obtain⟨q,hq⟩:=f k ok hk;rw[hM,e.pl _ (h.live k q hq).1];exact h.apart k q hq
 ·intro k n hg;rcases hG k n hg with hg|rfl
  ·exact e.D _ (h.stamps k n hg)
  ·exact e.D _ q9
 ·intro Cn _ hn;rw[BC,if_neg];intro e;exact hn b o0 du (EO S b _).1 e.symm
 ·intro k hd hm;have hk:k≠b:=by rintro rfl;exact hm (EO S k _).1
  exact⟨by rw[aG,if_neg hk],hG' k hk⟩
 ·intro k ok hk;rw[aG]at hk;obtain⟨q,hq⟩:=f k ok hk;exact .inl ⟨(h.live k q hq).1,q,hq⟩
theorem EJ {C:Cx} {S:St} {w:World} (h:Wn C S w) {b:Nat} {o0:CB} (du:S.heap.get b=some o0) (o:CB) (x:Obj) (hx:OR C b o x):
 Cv C S w C (S.put b (some o)) (World.CP w (C.pl b).Cn x):=
 KL h du (.refl C) (fun _ h=>h) rfl rfl (fun _ _ h=> .inl h) o x hx
theorem Cv.kill {C:Cx} {S:St} {w:World} (h:Wn C S w) (b:Nat):Cv C S w C (S.put b none) w:=by
 have aG:=fun k=>JM S b k none;have f:∀j oj,(S.put b none).heap.get j=some oj→S.heap.get j=some oj:=by
  intro j oj hj;rw[aG]at hj;split at hj
  ·cases hj
  ·exact hj
 exact⟨.refl C,⟨fun k ok hk=>h.live k ok (f k ok hk),fun k k' ok oy hk gL=>h.inj k k' ok oy (f k ok hk) (f k' oy gL),h.fresh,h.iK,
  fun k ok hk=>h.apart k ok (f k ok hk),h.stamps,h.there,h.Ww,h.Xu⟩,rfl,(EO S b _).2,Qj _,Qj _,fun _ _ _=>rfl,
  fun k _ hm=>⟨by
   have Xl:k≠b:=by rintro rfl;exact hm (EO S k _).1
   rw[aG,if_neg Xl],fun _ h=>h⟩,fun _ h=> .inl h,
  fun k ok hk=> .inl ⟨(h.live k ok (f k ok hk)).1,ok,f k ok hk⟩,fun _ _ h=> .inl h,⟨rfl,rfl,rfl⟩⟩
def putAt (c:Array Value) (k:Nat):List Value→Array Value
 | []=>c
 |v::vs=>putAt (c.setIfInBounds k v) (k+1) vs
theorem EH (c:Array Value) (k:Nat) (vs:List Value):(putAt c k vs).size=c.size:=by
 induction vs generalizing c k with
 |nil=>rfl
 |cons v vs ih=>simp[putAt,ih]
theorem GO:∀(vs:List Value) (c:Array Value) (k:Nat) (pre b7 post:List Value),c.toList=pre++b7++post→pre.length=k→b7.length=vs.length→
 (putAt c k vs).toList=pre++vs++post
 | [],c,k,pre,b7,post,h,_,hm=>by
  have:b7=[]:=List.eq_nil_of_length_eq_zero hm;subst this;simpa[putAt]using h
 |v::vs,c,k,pre,[],post,_,_,hm=>by simp at hm
 |v::vs,c,k,pre,m::b7,post,h,hk,hm=>by
  have ih:=GO vs (c.setIfInBounds k v) (k+1) (pre++[v]) b7 post (by
   rw[Array.toList_setIfInBounds,h];subst hk;simp) (by simp[hk]) (by simpa using hm)
  simpa[putAt]using ih
theorem NK {w : World} {Cn : Nat} {x : Obj} (h : w.heap[Cn]? = some x) (f : Obj → Obj) : w.heap.modify Cn f = w.heap.setIfInBounds Cn (f x) := by
  apply Array.ext_getElem?;intro i;rw [Array.getElem?_modify, Array.getElem?_setIfInBounds];split
  · next e => subst e; rw [h]; simp; rcases Nat.lt_or_ge Cn w.heap.size with h' | h'
              · exact h'
              · rw [Array.getElem?_eq_none h'] at h; cases h
  · rfl
theorem RK {w:World} {Cn off:Nat} {c:Array Value} {e:TypeId} {fr:Nat×Nat} (h:w.heap[Cn]?=some (.cells c e fr)) (v:Value):
 w.setCell ⟨Cn,off,none⟩ v=World.CP w Cn (.cells (c.setIfInBounds off v) e fr):=by
 unfold World.setCell World.CP;rw[NK h];rfl
theorem Mc (w:World) (Cn:Nat) (a b:Obj):World.CP (World.CP w Cn a) Cn b=World.CP w Cn b:=by
 unfold World.CP;simp
theorem US {w:World} {Cn off:Nat} {c:Array Value} {e:TypeId} {fr:Nat×Nat} (h:w.heap[Cn]?=some (.cells c e fr)) (hf:c.size≤fr.1∨fr.2≤fr.1) (ho:off<c.size):
 w.frozen? ⟨Cn,off,none⟩=false:=by
 unfold World.frozen?;simp only[h];obtain⟨lo,hi⟩:=fr;simp at hf⊢;omega
theorem F3 {P : Program} : ∀ (vs : List Value) {w : World} {Cn off i : Nat} {c : Array Value} {e : TypeId} {fr : Nat × Nat}, w.heap[Cn]? = some (.cells c e fr) →
    (c.size ≤ fr.1 ∨ fr.2 ≤ fr.1) → off + i + vs.length ≤ c.size → (∀ v ∈ vs, v.oneCell' = true) →
    (storeCells ⟨Cn, off, none⟩ vs i).run P w = .ok () (World.CP w Cn (.cells (putAt c (off + i) vs) e fr))
  | [], w, Cn, off, i, c, e, fr, h, _, _, _ => by
    have : World.CP w Cn (.cells c e fr) = w := by
      unfold World.CP;have : w.heap.setIfInBounds Cn (.cells c e fr) = w.heap := by
        apply Array.ext_getElem?;intro k;rw [Array.getElem?_setIfInBounds];split
        · next e => subst e; rw [h]; simp; rcases Nat.lt_or_ge Cn w.heap.size with h' | h'
                    · exact h'
                    · rw [Array.getElem?_eq_none h'] at h; cases h
        · rfl
      rw [this]
    simp [storeCells, putAt, this]
  | v :: vs, w, Cn, off, i, c, e, fr, h, hf, hl, ho => by
    have C6 : off + i < c.size := by simp at hl; omega
    have h1 : (store (⟨Cn, off + i, none⟩ : Addr) v).run P w = .ok () (World.CP w Cn (.cells (c.setIfInBounds (off + i) v) e fr)) := by
      rw [run_store P w _ v _ (ho v (Qh ..)), Vp h];simp only [Array.getElem?_eq_getElem C6, US h hf C6];rw [RK h]; rfl
    have n3 : Cn < w.heap.size := by
      rcases Nat.lt_or_ge Cn w.heap.size with h' | h'
      · exact h'
      · rw [Array.getElem?_eq_none h'] at h; cases h
    have h2 := F3 (P := P) vs (w := World.CP w Cn (.cells (c.setIfInBounds (off + i) v) e fr)) (Cn := Cn) (off := off) (i := i + 1) (c := c.setIfInBounds (off + i) v) (e := e) (fr := fr)
      (by rw [BC]; simp [n3]) (by simpa using hf) (by simp at hl ⊢; omega) (fun u hu => ho u (Qg _ hu))
    unfold storeCells;rw [B7];simp only [Sem.run_bind, h1, Result.andThen_ok, h2, Mc];rfl
theorem LW {P:Program} {C:Cx} {S S':St} {w:World} (h:Wn C S w) {b off:Nat} {vs:List AV} {xs:List Value} (hv:VS C vs xs) (hc:Cells vs)
 (e:Z3 S b off vs=some S'):∃w',(storeCells ⟨(C.pl b).Cn,(C.pl b).base+off,none⟩ xs).run P w= .ok () w'∧Cv C S w C S' w'∧C.D b:=by
 unfold Z3 at e;cases hb:S.heap.get b with
 |none=>rw[hb]at e;simp[cZ]at e
 |some ob=>
  rw[hb]at e;unfold cZ at e;split at e
  ·next cs t part heq=>
   cases heq;unfold eH at e;split at e
   ·next XS fo=>
    cases e;obtain⟨pre,b7,post,rfl,hp,hm,rfl⟩:=JO fo;obtain⟨hd,x,hx,hr⟩:=h.live b _ hb;cases hr with
    |cells mg ha XA VX hf gw=>
    rename_i c fr ys
    obtain⟨y,z3,rfl,h1,h4⟩:=AY mg;obtain⟨y1,z2,rfl,h2,h3⟩:=AY h1;obtain⟨p0,q0,XK,gM⟩:=ha;have hle:(C.pl b).base+off+xs.length≤c.size:=by
     have:=congrArg List.length XK;simp at this;have e1:=h2.length;have e2:=h3.length;have e3:=hv.length;omega
    have z7:∀u∈xs,u.oneCell'=true:=by
     intro u hu;obtain⟨i,hi⟩:=List.getElem?_of_mem hu;have vg:i<vs.length:=by
      have:=hv.length;rcases Nat.lt_or_ge i xs.length with h'|h'
      ·omega
      ·rw[List.getElem?_eq_none h']at hi;cases hi
     obtain⟨y',mh,hr⟩:=hv.get (Qi vg);rw[hi]at mh;cases mh;exact hr.ox (hc _ (Ql vg))
    refine⟨_,by simpa using F3 (P:=P) xs (i:=0) hx hf (by simpa using hle) z7,?_,hd⟩;have ae:(putAt c ((C.pl b).base+off) xs).toList=(p0++y1)++xs++(z3++q0):=by
     refine GO xs c _ (p0++y1) z2 (z3++q0) (by rw[XK];simp) ?_ ?_
     ·simp[gM,h2.length,hp]
     ·rw[h3.length,hv.length,hm]
    refine EJ h hb _ _ (.cells (vs:=y1++xs++z3) ?_ ⟨p0,q0,by rw[ae];simp,gM⟩ (by rw[EH];exact XA) ?_ (by rw[EH];exact hf) ?_)
    ·exact(h2.append hv).append h4
    ·exact(VX.sub.1.sub.1.append hc).append VX.sub.2
    ·intro hpf;obtain⟨a1,a2,a3⟩:=gw hpf;refine⟨a1,?_,a3⟩;rw[EH,←a2];simp[hm]
   ·cases e
  ·cases e
theorem Tg {E:Env} {P:Program} (he:CN E P) {C:Cx} {S S':St} {w:World} (h:Wn C S w) {t:TypeId} {n:Nat} (hn:sizeOf E t=some n) {v p:AV} {x px:Value}
 (hv:VR C v x) (hp:VR C p px) (e:cn n S v p=some S'):∃a w',px= .pointer (some a)∧(Go.storeVar t a x).run P w= .ok () w'∧Cv C S w C S' w':=by
 unfold cn at e;split at e
 ·next b off=>
  cases hb:(Nat.beq (W6 v.cells) n&& !v.isTuple)with
  |false=>rw[hb]at e;cases e
  |true=>
   rw[hb]at e;simp only[Qf,Bool.not_eq_true']at hb;have hlen:v.cells.length=n:=by have:=Qb hb.1;simpa using this
   cases hp with
   |ptr hd=>
    obtain⟨w',hw,ht,_⟩:=LW (P:=P) h hv.cells (hv.XH hb.2) e;refine⟨_,w',rfl,?_,ht⟩;have:x.cells.size=n:=by
     have:=hv.cells.length;simpa[hlen]using this
    simp[Go.storeVar,AM he hn,this];exact hw
 ·cases e
theorem MV {C:Cx} {S:St} {w:World} (h:Wn C S w) {b:Nat} {o0:CB} (du:S.heap.get b=some o0) (o:CB) (x:Obj) (base sz:Nat)
 (hx:OR (C.Cw S.next ⟨(C.pl b).Cn,base,sz⟩) S.next o x):
 Cv C S w (C.Cw S.next ⟨(C.pl b).Cn,base,sz⟩) ((S.put b none).alloc o) (World.CP w (C.pl b).Cn x):=by
 have ZA:¬C.D S.next:=fun hd=>Nat.lt_irrefl _ (h.fresh _ hd);have q9:=(h.live b o0 du).1;have hY:b≠S.next:=fun e=>ZA (e▸q9);have e:=Ext.Cw (C:=C) (p:=⟨(C.pl b).Cn,base,sz⟩) ZA;have C6:=h.lt du;have aG:∀k,((S.put b none).alloc o).heap.get k=if k=S.next then some o else if k=b then none else S.heap.get k:=by
  intro k;rw[KG];show(if k=S.next then _ else _)=_;split
  ·rfl
  ·exact JM _ _ _ _
 have hold:∀k ok,k≠S.next→((S.put b none).alloc o).heap.get k=some ok→k≠b∧S.heap.get k=some ok:=by
  intro k ok hk hg;rw[aG,if_neg hk]at hg;split at hg
  ·cases hg
  ·next h'=>exact⟨h',hg⟩
 have ZP:Z6 S ((S.put b none).alloc o).log b:=(EO S b none).1;refine⟨e,⟨?_,?_,?_,?_,?_,?_,?_,?_,fun Cn ms hm=> .inl (h.Xu Cn ms hm)⟩,rfl,(EO S b none).2,Nat.le_succ _,by simp[World.CP],?_,?_,?_,?_,fun _ _ h=> .inl h,⟨rfl,rfl,rfl⟩⟩
 ·intro k ok hk;by_cases pO:k=S.next
  ·subst pO;rw[aG,if_pos rfl]at hk;cases hk;exact⟨.inr U,x,by rw[BC];simp[Cx.Cw,C6],hx⟩
  ·obtain⟨z8,hg⟩:=hold k ok pO hk;obtain⟨hd,y,hy,hr⟩:=h.live k ok hg;refine⟨.inl hd,y,?_,hr.mono e hd (fun _ h=>h)⟩;simp only[Cx.Cw,pO,if_false];rw[BC,if_neg (fun e'=>z8 (h.inj k b ok o0 hg du e'))];exact hy
 ·intro k k' ok oy hk gL heq;by_cases h1:k=S.next
  ·by_cases h2:k'=S.next
   ·rw[h1,h2]
   ·exfalso;obtain⟨z8,hg⟩:=hold k' oy h2 gL;subst h1;simp only[Cx.Cw,if_true,h2,if_false]at heq;exact z8 (h.inj k' b oy o0 hg du heq.symm)
  ·obtain⟨z8,hg⟩:=hold k ok h1 hk;by_cases h2:k'=S.next
   ·exfalso;subst h2;simp only[Cx.Cw,if_true,h1,if_false]at heq;exact z8 (h.inj k b ok o0 hg du heq)
   ·obtain⟨_,hU⟩:=hold k' oy h2 gL;simp only[Cx.Cw,h1,h2,if_false]at heq;exact h.inj k k' ok oy hg hU heq
 ·rintro k (hd|rfl)
  ·exact Nat.lt_succ_of_lt (h.fresh k hd)
  ·exact Nat.lt_succ_self _
 ·intro Cn ms hm;obtain⟨c,ty,fr,hc,e'⟩:=h.iK Cn ms hm;refine⟨c,ty,fr,?_,e'⟩;rw[BC,if_neg];· exact hc
  intro e'';have mU:C.M Cn=some ms:=hm;have:=h.apart b o0 du;rw[←e'',mU]at this;cases this
 ·intro k ok hk;by_cases pO:k=S.next
  ·subst pO;simpa[Cx.Cw]using h.apart b o0 du
  ·obtain⟨_,hg⟩:=hold k ok pO hk;simpa[Cx.Cw,pO]using h.apart k ok hg
 ·exact fun b n hg=> .inl (h.stamps b n hg)
 ·rintro k (hk|rfl)
  ·simpa[World.CP]using h.there k hk
  ·simpa[World.CP]using C6
 ·rintro k (hd|rfl)
  ·have:k≠S.next:=fun e'=>Nat.lt_irrefl _ (e'▸h.fresh k hd);exact .inl (by simpa[Cx.Cw,this]using h.Ww k hd)
  ·exact .inr (by simp[Cx.Cw])
 ·intro Cn _ hn;rw[BC,if_neg];intro e';exact hn b o0 du ZP e'.symm
 ·intro k hd hm;have pO:k≠S.next:=by rintro rfl;exact ZA hd
  have z8:k≠b:=by rintro rfl;exact hm ZP
  exact⟨by rw[aG,if_neg pO,if_neg z8],fun _ h=>h⟩
 ·rintro k (hd|rfl)
  ·exact .inl hd
  ·exact .inr (Qj _)
 ·intro k ok hk;by_cases pO:k=S.next
  ·subst pO;exact .inr (.inr ⟨b,o0,du,ZP,by simp[Cx.Cw]⟩)
  ·obtain⟨_,hg⟩:=hold k ok pO hk;exact .inl ⟨(h.live k ok hg).1,ok,hg⟩
end Am
