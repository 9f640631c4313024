/- The abstract machine, and what it means that a state of it is a state of the model. -/
import GoSem.Step
import Derived.AtR
import Derived.Laws.Cells
namespace Am
theorem U {α:Sort _} {a:α}:a=a:=rfl
theorem Qa {α:Type _} {β:Type _} {b:β} {o:Option α} {f:α->Option β}:o.bind f=some b↔∃a,o=some a/\f a=some b:=Option.bind_eq_some_iff
theorem Qb {n m:Nat} (h:Nat.beq n m=true):n=m:=Nat.eq_of_beq_eq_true h
theorem Qc {n m:Nat} (h:Nat.ble n m=true):n<=m:=Nat.le_of_ble_eq_true h
theorem Qd {n m:Nat} (h:n<=m):Nat.ble n m=true:=Nat.ble_eq_true_of_le h
theorem Qe {α:Type _} {β:Type _} (a:α) (f:α->Option β):(some a).bind f=f a:=rfl
theorem Qf (a b:Bool):((a&&b)=true)=(a=true/\b=true):=Bool.and_eq_true a b
theorem Qg {α:Type _} (y:α) {a:α} {l:List α} (h:a∈l):a∈y::l:=List.mem_cons_of_mem y h
theorem Qh {α:Type _} {a:α} {l:List α}:a∈a::l:=List.mem_cons_self
theorem Qi {α:Type _} {l:List α} {i:Nat} (h:i<l.length):l[i]?=some l[i]:=List.getElem?_eq_getElem h
theorem Qj (n:Nat):n<=n:=Nat.le_refl n
theorem Qk {α:Type _} {b:α} {l:List α} {a:α}:a∈b::l↔a=b\/a∈l:=List.mem_cons
theorem Ql {α:Type _} {as bs:List α}:(as++bs).length=as.length+bs.length:=List.length_append
theorem Qm (n:Nat):0<=n:=Nat.zero_le n
theorem Qn {α:Type _} {a b:α}:a∈[b]↔a=b:=List.mem_singleton
end Am
set_option linter.unusedSectionVars false
set_option linter.unusedVariables false
set_option linter.unusedSimpArgs false
namespace Am
open Go
inductive AV where
 |bool (b:Bool)
 |int (k:IntKind) (n:Int)
 |str (s:List UInt8)
 |CU
 |ptr (b off:Nat)
 |Wl (cs:List AV)
 |Ca
 |slice (b off len sz:Nat) (cap:Option Nat)
 |Cf (cs:List AV) (len sz:Nat) (cl:Bool)
 |WI
 |map (b:Nat)
 |dK (b n:Nat)
 |bE
 |any
 |func (fn:Fn) (first captured:List AV)
 |WE
 |iface (t:TypeId) (v:AV)
 |CP
 |agg (cs:List AV)
 |tuple (vs:List AV)
 deriving Inhabited
inductive Path where
 |here
 |mH (p:Path)
 |mI (p:Path)
def gE:Nat->Nat->Path
 |0,_=> .here
 |n+1,k=>bif Nat.beq k 0 then .here else bif Nat.beq (k % 2) 1 then .mH (gE n (k/2))else .mI (gE n (k/2-1))
def pathOf (k:Nat):Path:=gE k k
inductive Tr (α:Type) where
 |nil
 |node (l:Tr α) (v:Option α) (r:Tr α)
 deriving Inhabited
noncomputable section core
def Tr.ff {α:Type} (p:Path):Tr α->Option α:=
 Path.rec (fun t=>Tr.rec none (fun _ v _ _ _=>v) t) (fun _ ih t=>Tr.rec none (fun l _ _ _ _=>ih l) t) (fun _ ih t=>Tr.rec none (fun _ _ r _ _=>ih r) t) p
def Tr.dz {α:Type} (x:Option α) (p:Path):Tr α->Tr α:=
 Path.rec (fun t=>Tr.rec (.node .nil x .nil) (fun l _ r _ _=> .node l x r) t)
  (fun _ ih t=>Tr.rec (.node (ih .nil) none .nil) (fun l v r _ _=> .node (ih l) v r) t)
  (fun _ ih t=>Tr.rec (.node .nil none (ih .nil)) (fun l v r _ _=> .node l v (ih r)) t) p
def fi {α:Type} (a:α) (l:Option (List α)):Option (List α):=Option.rec none (fun r=>some (a::r)) l
def takeN {α:Type} (n:Nat):List α->Option (List α):=
 Nat.rec (fun _=>some []) (fun _ ih l=>List.rec none (fun a l _=>fi a (ih l)) l) n
def XK {α:Type} (n:Nat):List α->Option (List α):=
 Nat.rec (fun l=>some l) (fun _ ih l=>List.rec none (fun _ l _=>ih l) l) n
def gF {α:Type} (vs:List α):List α->Option (List α):=
 List.rec (fun l=>some l) (fun v _ ih l=>List.rec none (fun _ l _=>fi v (ih l)) l) vs
def over {α:Type} (vs:List α) (k:Nat):List α->Option (List α):=
 Nat.rec (fun l=>gF vs l) (fun _ ih l=>List.rec none (fun a l _=>fi a (ih l)) l) k
def nth {α:Type} (l:List α):Nat->Option α:=
 List.rec (fun _=>none) (fun a _ ih n=>Nat.rec (some a) (fun n _=>ih n) n) l
def WL {α:Type} (l:List α):Nat:=List.rec 0 (fun _ _ ih=>ih+1) l
def tG {α:Type}:Option α->Option (List α)->Option (List α)
 |some b,some bs=>some (b::bs)
 |_,_=>none
def lq {α β:Type} (f:α->Option β) (l:List α):Option (List β):=
 List.rec (some []) (fun a _ ih=>tG (f a) ih) l
end core
noncomputable section
def ZF {α:Type}:List α->List α
 | []=>[]
 |a::l=>match l with
  | []=>[a]
  |_::l=>a::ZF l
def jX {α:Type}:Nat->List α->Tr α
 |0,_=> .nil
 |n+1,l=>match l with
  | []=> .nil
  |a::l=> .node (jX n (ZF l)) (some a) (jX n (ZF l.tail))
def Tr.get {α:Type} (t:Tr α) (k:Nat):Option α:=Tr.ff (pathOf k) t
def Tr.set {α:Type} (t:Tr α) (k:Nat) (x:Option α):Tr α:=Tr.dz x (pathOf k) t
structure aY where
 state:LoopState
 pending:Option Code
 fn:FuncId
 nt:Nat
 tmps:Tr AV
 params:List Nat
 assign:Code
 body:Code
inductive Cw where
 |cells (cs:List AV) (e:TypeId) (part:Bool)
 |map (es:List (AV×AV×Nat)) (clock:Nat)
 |di (s:List UInt8) (pos:Nat)
 |af (m:Option Nat) (since:Nat) (seen:List Nat) (Xa:Nat)
 |loop (l:aY)
 |defs (open_:Bool)
structure St where
 next:Nat
 bound:Nat
 log:List Nat
 heap:Tr Cw
inductive yp where
 |fn (fn:Fn) (captured:List AV)
 |collected (r:Nat)
structure fD where
 target:yp
 args:List AV
structure Fr where
 nt:Nat
 defers:List fD
 WR:Option AV
 round:Option Nat
inductive Ex where
 |normal
 |exit (id:Nat)
 |ret
 |panic (v:AV)
structure bO where
 ex:Ex
 fr:Fr
 T:Tr AV
 st:St
inductive Out where
 |stuck
 |one (r:bO)
 |many (l:List bO)
def Out.aZ (k:bO->Out):List bO->Option (List bO)
 | []=>some []
 |r::l=>match k r with
  | .stuck=>none
  | .one x=>match Out.aZ k l with|some y=>some (x::y)|none=>none
  | .many xs=>match Out.aZ k l with|some y=>some (xs++y)|none=>none
def Out.ofList:Option (List bO)->Out
 |some y=> .many y
 |none=> .stuck
def Out.then (o:Out) (k:bO->Out):Out:=
 match o with
 | .stuck=> .stuck
 | .one r=>k r
 | .many l=>Out.ofList (Out.aZ k l)
inductive CR where
 |same (v:AV)
 |val (v:AV) (st:St)
 |WR (v:AV) (st:St)
structure Env where
 tys:Tr TypeInfo
 fns:Tr Func
 j0:FuncId->Nat
 Y3:FuncId->List AV->Option AV
 pW:Nat->Option (List AV)
 merge:Bool
 ext:Bool
 plain:TypeId->Bool
 gH:FuncId->Option (List AV->St->Option (AV×St))
inductive Mk where
 |val (v:AV)
 |obj (o:Cw) (v:Nat->AV)
inductive bf where
 |bad
 |make (f:Tr AV->Option Mk)
 |pure (f:Tr AV->Option AV)
 |read (x:Tr AV->Option AV) (f:Tr AV->St->Option AV)
 |look (f:Tr AV->St->Option AV)
 |act (only:Bool) (x:Tr AV->Option AV) (f:Tr AV->St->Option (AV×St))
 |pick (f:Tr AV->Option (List AV))
 |lO (f:Tr AV->St->Option (List (AV×St)))
 |call (f:Tr AV->St->Option (FuncId×List AV))
 |ah (f:Tr AV->Option AV) (args:Tr AV->Option (List AV))
 |defer (f:Tr AV->Option fD)
 |panic (f:Tr AV->Option AV)
 |recover
section ops
variable (E : Env)
def AV.dL:AV->Bool
 | .agg _=>false
 | .tuple _=>false
 |_=>true
def AV.isTuple:AV->Bool
 | .tuple _=>true
 |_=>false
def AV.cells:AV->List AV
 | .agg cs=>cs
 |v=>[v]
def dM:Value->Option AV
 | .bool b=>some (.bool b)
 | .int k n=>some (.int k n)
 | .string s=>some (.str s.data.toList)
 | .pointer none=>some .CU
 | .slice none 0 0=>some .Ca
 | .map none=>some .WI
 | .nilFunc=>some .WE
 | .nilIface=>some .CP
 |_=>none
def lQ:Value->Option AV
 | .agg cs=>match lq dM cs.toList with|some l=>some (.agg l)|none=>none
 | .tuple cs=>match lq dM cs.toList with|some l=>some (.tuple l)|none=>none
 |v=>dM v
def lS (T:Tr TypeInfo):TypeDesc->Option TypeDesc
 | .named _ u=>match T.get u with|some i=>some i.desc|none=>none
 |d=>some d
def CN (t:TypeId):Option TypeDesc:=match E.tys.get t with
 |some i=>lS E.tys i.desc
 |none=>none
def sizeOf (t:TypeId):Option Nat:=match E.tys.get t with|some i=>some i.size|none=>none
def bytesOf (t:TypeId):Option Nat:=match E.tys.get t with|some i=>some i.bytes|none=>none
def isAgg (t:TypeId):Option Bool:=match CN E t with
 |some (.struct _)=>some true
 |some (.array _ _)=>some true
 |some _=>some false
 |none=>none
def mJ:Option AV->Option AV
 |some (.tuple _)=>none
 |o=>o
def zeroOf (t:TypeId):Option AV:=match E.tys.get t with
 |some i=>match i.zero with|some v=>mJ (lQ v)|none=>none
 |none=>none
abbrev Tm:=Tr AV
abbrev TO:=Tm->Option AV
def sr (v:AV):TO:=fun _=>some v
def nothing:TO:=fun _=>none
def tH:Option AV->TO
 |some v=>sr v
 |none=>nothing
def Cg:Operand->TO
 | .tmp t=>Tr.ff (pathOf t)
 | .const v=>tH (lQ v)
 | .global g=>match E.pW g with|some cs=>sr (.Wl cs)|none=>nothing
 | .func f=>sr (.func (.func f) [] [])
def St.alloc (s:St) (o:Cw):St:= {s with next:=s.next+1,heap:=s.heap.set s.next (some o)}
def XL (b:Nat):List Nat->List Nat
 | []=>[b]
 |c::l=>bif Nat.beq b c then c::l else b::c::l
def St.put (s:St) (b:Nat) (o:Option Cw):St:= {s with log:=bif Nat.blt b s.bound then XL b s.log else s.log,heap:=s.heap.set b o}
def Wp:Option Cw->Option (List AV)
 |some (.cells cs _ _)=>some cs
 |_=>none
def dN:Option Cw->Option (List (AV×AV×Nat))
 |some (.map es _)=>some es
 |_=>none
def YE (s:St) (n:Nat):AV->Option (List AV)
 | .Wl cs=>takeN n cs
 | .ptr b off=>(Wp (s.heap.get b)).bind fun cs=>(XK off cs).bind fun l=>takeN n l
 |_=>none
def gK (s:St) (b:Nat) (e:TypeId) (sl:Bool):Option (List AV)->Option St
 |some cs=>some (s.put b (some (.cells cs e sl)))
 |none=>none
def eG (s:St) (b off:Nat) (vs:List AV):Option Cw->Option St
 |some (.cells cs e sl)=>gK s b e sl (over vs off cs)
 |_=>none
def bg (s:St) (b off:Nat) (vs:List AV):Option St:=eG s b off vs (s.heap.get b)
def pX:List AV->Option AV
 | [v]=>some v
 |_=>none
def jC (n:Nat) (s:St) (a:AV):Option AV:=(YE s n a).bind fun l=>some (.agg l)
def mK (s:St) (a:AV):Option AV:=(YE s 1 a).bind pX
def Wy (t:TypeId):St->AV->Option AV:=
 match isAgg E t,sizeOf E t with
 |some true,some n=>jC n
 |some false,some _=>mK
 |_,_=>fun _ _=>none
def bG (n:Nat) (s:St) (v:AV):AV->Option St
 | .ptr b off=>bif Nat.beq (WL v.cells) n&& !v.isTuple then bg s b off v.cells else none
 |_=>none
def dO:Option St->Option (AV×St)
 |some s=>some (.tuple [],s)
 |none=>none
def ai (place:Nat->Option (Nat×Nat)):List (Nat×AV)->List AV->Option (List AV)
 | [],cells=>some cells
 |p::rest,cells=>(place p.1).bind fun q=>bif Nat.beq (WL p.2.cells) q.2&& !p.2.isTuple then(over p.2.cells q.1 cells).bind fun cs=>ai place rest cs else none
def Yk (zero:List AV):Nat->List AV
 |0=>[]
 |n+1=>zero++Yk zero n
def aD:List (Nat×Operand)->Tm->Option (List (Nat×AV))
 | []=>fun _=>some []
 |p::l=>fun T=>(Cg E p.2 T).bind fun v=>(aD l T).bind fun r=>some ((p.1,v)::r)
def CO:List Operand->Tm->Option (List AV)
 | []=>fun _=>some []
 |x::l=>fun T=>(Cg E x T).bind fun v=>(CO l T).bind fun r=>some (v::r)
def XC:Option Operand->Tm->Option (Option AV)
 |none=>fun _=>some none
 |some x=>fun T=>(Cg E x T).bind fun v=>some (some v)
def bj:List Field->Option (List (Nat×Nat))
 | []=>some []
 |f::l=>(sizeOf E f.type).bind fun n=>(bj l).bind fun r=>some ((f.offset,n)::r)
def ay (t:TypeId):Option (List AV×(Nat->Option (Nat×Nat))):=
 (zeroOf E t).bind fun z=>match CN E t with
  |some (.struct fields)=>(bj E fields.toList).bind fun ps=>some (z.cells,nth ps)
  |some (.array _ elem)=>(sizeOf E elem).bind fun size=>some (z.cells,fun i=>some (i*size,size))
  |_=>none
def tK:Option (List AV)->Option AV
 |some cs=>some (.agg cs)
 |none=>none
def jY (t:TypeId) (parts:List (Nat×Operand)):bf:=
 match ay E t with
 |some pl=> .pure fun T=>(aD E parts T).bind fun ps=>tK (ai pl.2 ps pl.1)
 |none=> .bad
def bP (off n:Nat):AV->Option AV
 | .agg cs=>(XK off cs).bind fun l=>tK (takeN n l)
 |_=>none
def az (off:Nat):AV->Option AV
 | .agg cs=>nth cs off
 |_=>none
def Zd (t:TypeId) (i:Nat):Option (Nat×Nat×Bool):=
 match CN E t with
 |some (.struct fields)=>(nth fields.toList i).bind fun f=>(sizeOf E f.type).bind fun n=>(isAgg E f.type).bind fun a=>some (f.offset,n,a)
 |_=>none
def jZ (t:TypeId) (x:Operand) (i:Nat):bf:=
 match Zd E t i with
 |some (off,n,true)=> .pure fun T=>(Cg E x T).bind (bP off n)
 |some (off,_,false)=> .pure fun T=>(Cg E x T).bind (az off)
 |none=> .bad
def Ze (n:Nat):AV->Option AV
 | .ptr b off=>some (.ptr b (off+n))
 | .Wl cs=>(XK n cs).bind fun l=>some (.Wl l)
 |_=>none
def YN (t:TypeId) (x:Operand) (i:Nat):bf:=
 match Zd E t i with
 |some (off,n+1,_)=> .pure fun T=>(Cg E x T).bind (Ze off)
 |_=> .bad
def Xi:AV->Option Nat
 | .int _ (.ofNat n)=>some n
 |_=>none
def lT:List AV->Option AV
 | []=>none
 |c::l=>some (.Wl (c::l))
def CC (sz k:Nat):AV->Option AV
 | .slice b off len _ _=>bif Nat.blt k len then some (.ptr b (off+k*sz))else none
 | .Cf cs len _ _=>bif Nat.blt k len then(XK (k*sz) cs).bind lT else none
 |_=>none
def XZ (t:TypeId) (x i:Operand):bf:=
 match CN E t with
 |some (.array n elem)=>match sizeOf E elem with
  |some (sz+1)=> .pure fun T=>(Cg E i T).bind fun iv=>(Xi iv).bind fun k=>bif Nat.blt k n then(Cg E x T).bind (Ze (k*(sz+1)))else none
  |_=> .bad
 |some (.slice elem)=>match sizeOf E elem with
  |some (sz+1)=> .pure fun T=>(Cg E i T).bind fun iv=>(Xi iv).bind fun k=>(Cg E x T).bind (CC (sz+1) k)
  |_=> .bad
 |_=> .bad
def mL (sz k:Nat):AV->Option AV
 | .agg cs=>(XK (k*sz) cs).bind fun l=>tK (takeN sz l)
 |_=>none
def mM (sz k:Nat):AV->Option AV
 | .agg cs=>nth cs (k*sz)
 |_=>none
def gL (k:Nat):AV->Option AV
 | .str s=>(nth s k).bind fun b=>some (.int .u8 b.toNat)
 |_=>none
def ke (t:TypeId) (x i:Operand):bf:=
 match CN E t with
 |some (.array n elem)=>match isAgg E elem,sizeOf E elem with
  |some true,some sz=> .pure fun T=>(Cg E i T).bind fun iv=>(Xi iv).bind fun k=>bif Nat.blt k n then(Cg E x T).bind (mL sz k)else none
  |some false,some sz=> .pure fun T=>(Cg E i T).bind fun iv=>(Xi iv).bind fun k=>bif Nat.blt k n then(Cg E x T).bind (mM sz k)else none
  |_,_=> .bad
 |some .string=> .pure fun T=>(Cg E i T).bind fun iv=>(Xi iv).bind fun k=>(Cg E x T).bind (gL k)
 |_=> .bad
def dj (k:IntKind) (n:Int):AV:= .int k (k.wrap n)
def cJ:List UInt8->List UInt8->Bool
 |_,[]=>false
 | [],_::_=>true
 |a::x,b::y=>bif Nat.blt a.toNat b.toNat then true else bif Nat.beq a.toNat b.toNat then cJ x y else false
def Cp:List UInt8->List UInt8->Bool
 | [],[]=>true
 |a::x,b::y=>bif Nat.beq a.toNat b.toNat then Cp x y else false
 |_,_=>false
def oD (f:(n:Nat)->BitVec n->BitVec n->BitVec n) (k:IntKind) (a b:Int):AV:=
 dj k (f k.bits (BitVec.ofInt k.bits a) (BitVec.ofInt k.bits b)).toNat
def yq (k:IntKind) (a b:Int):Option AV:=if b=0 then none else some (dj k (a.tdiv b))
def remA (k:IntKind) (a b:Int):Option AV:=if b=0 then none else some (.int k (a.tmod b))
def shlA (k:IntKind) (x y:Int):Option AV:=if y<0 then none else some (dj k (x*2^(min y.toNat k.bits)))
def shrA (k:IntKind) (x y:Int):Option AV:=if y<0 then none else some (.int k (x.fdiv (2^(min y.toNat k.bits))))
def mN:BinOp->Option (IntKind->Int->Int->Option AV)
 | .add=>some fun k a b=>some (dj k (a+b))
 | .sub=>some fun k a b=>some (dj k (a-b))
 | .mul=>some fun k a b=>some (dj k (a*b))
 | .quo=>some yq
 | .rem=>some remA
 | .eql=>some fun _ a b=>some (.bool (decide (a=b)))
 | .neq=>some fun _ a b=>some (.bool (!decide (a=b)))
 | .lss=>some fun _ a b=>some (.bool (decide (a<b)))
 | .leq=>some fun _ a b=>some (.bool (decide (a<=b)))
 | .gtr=>some fun _ a b=>some (.bool (decide (b<a)))
 | .geq=>some fun _ a b=>some (.bool (decide (b<=a)))
 | .and=>some fun k a b=>some (oD (fun _ x y=>x&&&y) k a b)
 | .or=>some fun k a b=>some (oD (fun _ x y=>x|||y) k a b)
 | .xor=>some fun k a b=>some (oD (fun _ x y=>x^^^y) k a b)
 | .andNot=>some fun k a b=>some (oD (fun _ x y=>x&&& ~~~y) k a b)
 |_=>none
def tL:BinOp->Option (List UInt8->List UInt8->Option AV)
 | .add=>some fun a b=>bif Nat.ble (WL a+WL b) 4294967296 then some (.str (a++b))else none
 | .eql=>some fun a b=>some (.bool (Cp a b))
 | .neq=>some fun a b=>some (.bool (!Cp a b))
 | .lss=>some fun a b=>some (.bool (cJ a b))
 | .leq=>some fun a b=>some (.bool (cJ a b||Cp a b))
 | .gtr=>some fun a b=>some (.bool (!(cJ a b||Cp a b)))
 | .geq=>some fun a b=>some (.bool (!cJ a b))
 |_=>none
def oE (f:IntKind->Int->Int->Option AV):AV->AV->Option AV
 | .int k a,.int k' b=>if k=k' then f k a b else none
 |_,_=>none
def lU (f:IntKind->Int->Int->Option AV):AV->AV->Option AV
 | .int k a,.int _ b=>f k a b
 |_,_=>none
def pY (f:List UInt8->List UInt8->Option AV):AV->AV->Option AV
 | .str a,.str b=>f a b
 |_,_=>none
def Z8:TypeDesc->Bool
 | .bool=>true
 | .int _=>true
 | .string=>true
 |_=>false
inductive Kd where
 |one (d:TypeDesc)
 |flat (l:List TypeDesc)
def YI (t:TypeId):Option TypeDesc:=match CN E t with
 |some d=>bif Z8 d then some d else none
 |none=>none
def fE:List Field->Nat->Option (List TypeDesc)
 | [],_=>some []
 |f::l,i=>bif Nat.beq f.offset i&& !(f.name== "_")then(YI E f.type).bind fun d=>(fE l (i+1)).bind fun r=>some (d::r)else none
def rep {α:Type} (a:α):Nat->List α
 |0=>[]
 |n+1=>a::rep a n
def bQ (t:TypeId):Option Kd:=match CN E t with
 |some (.struct fs)=>bif E.plain t then(fE E fs.toList 0).bind fun l=>some (.flat l)else none
 |some (.array n e)=>match YI E e,sizeOf E e with
  |some d,some 1=>some (.flat (rep d n))
  |_,_=>none
 |some d=>bif Z8 d then some (.one d)else none
 |none=>none
def ss:TypeDesc->AV->AV->Option Bool
 | .bool,.bool a,.bool b=>some (bif a then b else !b)
 | .int _,.int j a,.int k b=>if j=k then some (decide (a=b))else none
 | .string,.str a,.str b=>some (Cp a b)
 |_,_,_=>none
def Zz:List TypeDesc->List AV->List AV->Option Bool
 | [],[],[]=>some true
 |d::l,a::x,b::y=>(ss d a b).bind fun r=>bif r then Zz l x y else some false
 |_,_,_=>none
def dA:Kd->AV->AV->Option Bool
 | .one d,a,b=>ss d a b
 | .flat l,.agg a,.agg b=>Zz l a b
 |_,_,_=>none
def jD:TypeDesc->AV->Bool
 | .bool,.bool _=>true
 | .int _,.int _ _=>true
 | .string,.str _=>true
 |_,_=>false
def lV:List TypeDesc->List AV->Bool
 | [],[]=>true
 |d::l,a::x=>jD d a&&lV l x
 |_,_=>false
def cK:Kd->AV->Bool
 | .one d,v=>jD d v
 | .flat l,.agg cs=>lV l cs
 |_,_=>false
def lW:AV->AV->Option Bool
 | .CU,.CU=>some true
 | .CU,.ptr _ _=>some false
 | .CU,.Wl _=>some false
 | .ptr _ _,.CU=>some false
 | .Wl _,.CU=>some false
 |_,_=>none
def isVar:Option Cw->Bool
 |some (.cells _ _ part)=> !part
 |_=>false
def dP (s:St):AV->AV->Option Bool
 | .ptr a i,.ptr b j=>bif Nat.beq a b then some (Nat.beq i j)else bif isVar (s.heap.get a)&&isVar (s.heap.get b)then some false else none
 |a,b=>lW a b
def pZ:AV->AV->Option Bool
 | .WE,.WE=>some true
 | .WE,.func _ _ _=>some false
 | .func _ _ _,.WE=>some false
 |_,_=>none
def dQ (t:TypeId):Bool:=match E.tys.get t with|some i=>i.comparable|none=>false
def gM (lit:Bool):AV->AV->Option Bool
 | .CP,.CP=>bif lit then some true else none
 | .CP,.iface _ _=>some false
 | .iface _ _,.CP=>some false
 | .iface t x,.iface u y=>bif Nat.beq t u then(bif dQ E t then(YI E t).bind fun d=>ss d x y else none)else some false
 |_,_=>none
def isConst:Operand->Bool
 | .const _=>true
 |_=>false
def yr:AV->Option (List Bool)
 | .slice _ _ _ _ _=>some [false]
 | .Cf (_::_) _ _ _=>some [false]
 | .Cf [] _ _ _=>some [true,false]
 | .Ca=>some [true,false]
 |_=>none
def mO (neg:Bool):List Bool->List AV
 | []=>[]
 |b::l=> .bool (bif neg then !b else b)::mO neg l
def Zf (neg:Bool):Option Bool->Option AV
 |some b=>some (.bool (bif neg then !b else b))
 |none=>none
def YA (f:AV->AV->Option AV) (x y:Operand):bf:= .pure fun T=>(Cg E x T).bind fun a=>(Cg E y T).bind fun b=>f a b
def qM (neg:Bool) (kd:Option Kd) (x y:Operand):bf:=
 match kd with
 |some kd=>YA E (fun a b=>Zf neg (dA kd a b)) x y
 |none=> .bad
def eqC (neg:Bool) (t:TypeId) (x y:Operand):bf:=
 match CN E t with
 |some .bool=>YA E (fun a b=>Zf neg (ss .bool a b)) x y
 |some (.pointer e)=>match sizeOf E e with
  |some (_+1)=> .look fun T s=>(Cg E x T).bind fun a=>(Cg E y T).bind fun b=>Zf neg (dP s a b)
  |_=>YA E (fun a b=>Zf neg (lW a b)) x y
 |some (.interface _)=>YA E (fun a b=>Zf neg (gM E (isConst x||isConst y) a b)) x y
 |some (.func _ _ _)=>YA E (fun a b=>Zf neg (pZ a b)) x y
 |some (.array _ _)=>qM E neg (bQ E t) x y
 |some (.struct _)=>qM E neg (bQ E t) x y
 |some (.slice _)=>match y with
  | .const (.slice none 0 0)=> .pick fun T=>(Cg E x T).bind fun a=>(yr a).bind fun l=>some (mO neg l)
  |_=> .bad
 |_=> .bad
def kg (op:BinOp) (t:TypeId) (x y:Operand):bf:=
 match CN E t with
 |some (.int _)=>match op with
  | .shl=>YA E (lU shlA) x y
  | .shr=>YA E (lU shrA) x y
  |_=>match mN op with|some f=>YA E (oE f) x y|none=> .bad
 |some .string=>match tL op with|some f=>YA E (pY f) x y|none=> .bad
 |_=>match op with
  | .eql=>eqC E false t x y
  | .neq=>eqC E true t x y
  |_=> .bad
def unV:UnOp->AV->Option AV
 | .neg,.int k n=>some (dj k (0-n))
 | .not,.bool b=>some (.bool (!b))
 | .xor,.int k n=>some (oD (fun _ x y=>x^^^y) k (if k.signed then-1 else k.max) n)
 |_,_=>none
def Xg:List AV->Option (List UInt8)
 | []=>some []
 | .int .u8 n::l=>(Xg l).bind fun r=>some (UInt8.ofNat n.toNat::r)
 |_=>none
def byteCells:List UInt8->List AV
 | []=>[]
 |c::l=> .int .u8 c.toNat::byteCells l
def Xl (s:St) (sz:Nat):AV->Option (List AV×Nat)
 | .Ca=>some ([],0)
 | .Cf cs len Zc _=>bif Nat.beq Zc sz then(takeN (len*sz) cs).bind fun l=>some (l,len)else none
 | .slice b off len Zc _=>bif Nat.beq Zc sz then(Wp (s.heap.get b)).bind fun cs=>(XK off cs).bind fun l=>(takeN (len*sz) l).bind fun l=>some (l,len)else none
 |_=>none
def isByte (e:TypeId):Bool:=match CN E e with
 |some (.int .u8)=>true
 |_=>false
def kh (k:IntKind):AV->Option AV
 | .int _ n=>some (dj k n)
 |_=>none
def qb:AV->Option AV
 | .str b=>some (.str b)
 |_=>none
def bS (e:TypeId):AV->Option Mk
 | .str b=>some (.obj (.cells (byteCells b) e true) fun i=> .slice i 0 (WL b) 1 none)
 |_=>none
def dR (s:St) (x:AV):Option AV:=
 (Xl s 1 x).bind fun l=>(Xg l.1).bind fun r=>some (.str r)
def bU (s:St):AV->Option AV
 | .CU=>some .CU
 | .ptr b off=>(Wp (s.heap.get b)).bind fun cs=>bif Nat.blt off (WL cs)then some (.ptr b off)else none
 |_=>none
def eH (u off:Nat):List Field->Bool
 | []=>false
 |f::l=>(Nat.beq f.offset off&&Nat.beq f.type u)||eH u off l
def mP (e u off:Nat):Bool:=(Nat.beq e u&&Nat.beq off 0)||(E.plain e&&match CN E e with
 |some (.struct fs)=>eH u off fs.toList
 |_=>false)
def cL (u b off:Nat):Option Cw->Option AV
 |some (.cells cs e false)=>(sizeOf E e).bind fun n=>bif mP E e u off&&Nat.ble n (WL cs)&&Nat.blt off n then some (.ptr b off)else none
 |_=>none
def Z2 (s:St) (u:TypeId):AV->Option AV
 | .CU=>some .CU
 | .ptr b off=>cL E u b off (s.heap.get b)
 |_=>none
def bV (src dst:TypeId) (x:Operand):bf:=
 match CN E src,CN E dst with
 |some (.int _),some (.int k)=> .pure fun T=>(Cg E x T).bind (kh k)
 |some (.pointer t),some .unsafePointer=>match sizeOf E t with
  |some (_+1)=> .read (Cg E x) fun T s=>(Cg E x T).bind (bU s)
  |_=> .bad
 |some .unsafePointer,some (.pointer u)=>match sizeOf E u with
  |some (_+1)=> .read (Cg E x) fun T s=>(Cg E x T).bind (Z2 E s u)
  |_=> .bad
 |some .string,some .string=> .pure fun T=>(Cg E x T).bind qb
 |some .string,some (.slice e)=>bif isByte E e then .make fun T=>(Cg E x T).bind (bS e)else .bad
 |some (.slice e),some .string=>bif isByte E e then .read (Cg E x) fun T s=>(Cg E x T).bind (dR s)else .bad
 |_,_=> .bad
def WM (dflt aE:Nat):Option AV->Option Nat
 |none=>some dflt
 |some v=>(Xi v).bind fun n=>bif Nat.ble n aE then some n else none
def cut {α:Type} (l:List α) (lo n:Nat):Option (List α):=(XK lo l).bind fun r=>takeN n r
def bW (lo hi:Option AV):AV->Option AV
 | .str b=>(WM (WL b) (WL b) hi).bind fun h=>(WM 0 h lo).bind fun l=>(cut b l (h-l)).bind fun q=>some (.str q)
 |_=>none
def bH (sz off len:Nat) (cap:Option Nat) (cs:List AV):Nat:=
 match cap with
 |some c=>c
 |none=>bif Nat.beq sz 0 then len else(WL cs-off)/sz
def sliceFrom (sz b off len:Nat) (cap:Option Nat) (aE l:Nat):Option AV:=
 match cap with
 |some c=>some (bif Nat.beq c l then(bif Nat.beq c 0 then .slice b off 0 sz (some 0)else .Ca)else .slice b (off+l*sz) len sz (some (c-l)))
 |none=>bif Nat.blt l aE then some (.slice b (off+l*sz) len sz none)else bif Nat.beq len 0 then some (.slice b (off+l*sz) 0 sz (some 0))else none
def eI (sz:Nat) (lo hi mx:Option AV) (b off len:Nat) (cap:Option Nat) (aE:Nat):Option AV:=
 match mx with
 |none=>(WM len aE hi).bind fun h=>(WM 0 h lo).bind fun l=>sliceFrom sz b off (h-l) cap aE l
 |some _=>none
def jE (sz:Nat) (lo hi:Option AV) (cs:List AV) (len:Nat) (cl:Bool) (aE:Nat):Option AV:=
 (WM len aE hi).bind fun h=>(WM 0 h lo).bind fun l=>(cut cs (l*sz) ((h-l)*sz)).bind fun q=>some (.Cf q (h-l) sz cl)
def cf (sz:Nat) (lo hi mx:Option AV) (cs:List AV) (len:Nat) (cl:Bool):Option AV:=
 match mx with
 |none=>jE sz lo hi cs len cl len
 |some _=>none
def tM (lo hi:Option AV):Option AV->Option AV
 |none=>(WM 0 0 hi).bind fun _=>(WM 0 0 lo).bind fun _=>some .Ca
 |some _=>none
def Xm (s:St) (sz:Nat) (lo hi mx:Option AV):AV->Option AV
 | .Ca=>tM lo hi mx
 | .Cf cs len Zc cl=>bif Nat.beq Zc sz then cf sz lo hi mx cs len cl else none
 | .slice b off len Zc cap=>bif Nat.beq Zc sz then(Wp (s.heap.get b)).bind fun cs=>eI sz lo hi mx b off len cap (bH sz off len cap cs)else none
 |_=>none
def fF (t:TypeId) (x:Operand) (lo hi mx:Option Operand):bf:=
 match CN E t with
 |some .string=>match mx with
  |none=> .pure fun T=>(Cg E x T).bind fun a=>(XC E lo T).bind fun l=>(XC E hi T).bind fun h=>bW l h a
  |some _=> .bad
 |some (.slice e)=>match sizeOf E e with
  |some sz=> .read (Cg E x) fun T s=>(Cg E x T).bind fun a=>(XC E lo T).bind fun l=>(XC E hi T).bind fun h=>(XC E mx T).bind fun m=>Xm s sz l h m a
  |none=> .bad
 |_=> .bad
def bm:AV->Bool
 | .int _ _=>true
 | .str _=>true
 | .bool _=>true
 |_=>false
def gN:AV->Bool
 | .int _ _=>true
 | .str _=>true
 | .bool _=>true
 | .agg cs=>cs.all bm
 |_=>false
abbrev Xk:=AV×AV×Nat
def cg (kd:Kd) (k:AV):List Xk->Option (Option Xk)
 | []=>some none
 |e::es=>(dA kd k e.1).bind fun r=>(cg kd k es).bind fun q=>some (bif r then some e else q)
def isEq (kd:Kd) (k:AV) (e:Xk):Bool:=match dA kd k e.1 with
 |some b=>b
 |none=>false
def kk (kd:Kd) (k v:AV):List Xk->List Xk
 | []=>[]
 |e::es=>bif isEq kd k e then(k,v,e.2.2)::es else e::kk kd k v es
def qc (kd:Kd) (k:AV):List Xk->List Xk
 | []=>[]
 |e::es=>bif isEq kd k e then es else e::qc kd k es
def dS (s:St):AV->Option (List Xk)
 | .WI=>some []
 | .map b=>dN (s.heap.get b)
 |_=>none
def mQ (ok:Bool) (z:AV):Option Xk->AV
 |some e=>bif ok then .tuple [e.2.1,.bool true]else e.2.1
 |none=>bif ok then .tuple [z,.bool false]else z
def bo (kd:Kd) (s:St) (ok:Bool) (z x k:AV):Option AV:=
 bif cK kd k then(dS s x).bind fun es=>(cg kd k es).bind fun r=>some (mQ ok z r)else none
def gO (t:TypeId) (x k:Operand) (ok:Bool):bf:=
 match CN E t with
 |some (.map key elem)=>match zeroOf E elem,bQ E key with
  |some z,some kd=> .read (Cg E x) fun T s=>(Cg E x T).bind fun a=>(Cg E k T).bind fun b=>bo kd s ok z a b
  |_,_=> .bad
 |_=> .bad
def gQ (kd:Kd) (s:St) (b:Nat) (k v:AV):Option Cw->Option St
 |some (.map es clock)=>(cg kd k es).bind fun r=>match r with
  |some _=>some (s.put b (some (.map (kk kd k v es) clock)))
  |none=>some (s.put b (some (.map (es++[(k,v,clock)]) (clock+1))))
 |_=>none
def Z9 (kd:Kd) (s:St) (k v:AV):AV->Option St
 | .map b=>bif cK kd k then gQ kd s b k v (s.heap.get b)else none
 |_=>none
def bp (t:TypeId) (m k v:Operand):bf:=
 match CN E t with
 |some (.map key _)=>match bQ E key with
  |some kd=> .act true (Cg E m) fun T s=>(Cg E m T).bind fun a=>(Cg E k T).bind fun b=>(Cg E v T).bind fun c=>dO (Z9 kd s b c a)
  |none=> .bad
 |_=> .bad
def gR (n:Nat) (v:AV):List Xk->Option (List Xk)
 | []=>none
 |e::es=>bif Nat.beq e.2.2 n then some ((e.1,v,e.2.2)::es)else(gR n v es).bind fun r=>some (e::r)
def small (n VY:Nat):Bool:=Nat.ble (n*VY) 1099511627776&&Nat.ble n 1099511627776&& !(Nat.beq VY 0)&&Nat.ble VY 1048576
def fj (sz len n:Nat) (cap:Option Nat) (l:List AV):Bool:=
 match cap with
 |some c=>Nat.ble (len+n) c
 |none=>Nat.ble ((len+n)*sz) (WL l)
def qN {α:Type}:Option α->Bool
 |some _=>true
 |none=>false
def dk:Option Nat->Bool
 |none=>true
 |some 0=>true
 |some (_+1)=>false
def XE (s:St) (b:Nat) (cap:Option Nat):St:=bif dk cap then s.put b none else s
def ZG (s:St) (e:TypeId) (sz:Nat) (new:List AV) (n b off len:Nat) (cap:Option Nat) (cs:List AV) (e0:TypeId) (sl:Bool):Option (AV×St):=
 (XK off cs).bind fun l=>
  bif fj sz len n cap l then(over new (off+len*sz) cs).bind fun XU=>some (.slice b off (len+n) sz cap,s.put b (some (.cells XU e0 sl)))
  else bif Nat.beq e e0|| !(dk cap)then(takeN (len*sz) l).bind fun eJ=>some (.slice s.next 0 (len+n) sz none,(XE s b cap).alloc (.cells (eJ++new) e true))else none
def YJ (s:St) (e:TypeId) (sz:Nat) (new:List AV) (n b off len:Nat) (cap:Option Nat):Option Cw->Option (AV×St)
 |some (.cells cs e0 sl)=>ZG s e sz new n b off len cap cs e0 sl
 |_=>none
def CA (s:St) (e:TypeId) (sz VY:Nat) (new:List AV) (n:Nat):AV->Option (AV×St)
 | .Ca=>bif Nat.beq n 0 then some (.Ca,s)else bif small n VY then some (.slice s.next 0 n sz none,s.alloc (.cells new e true))else none
 | .Cf cs len Zc cl=>bif Nat.beq n 0 then some (.Cf cs len Zc cl,s)else none
 | .slice b off len Zc cap=>bif Nat.beq n 0 then some (.slice b off len Zc cap,s)
  else bif Nat.beq Zc sz&&small (len+n) VY then YJ s e sz new n b off len cap (s.heap.get b)else none
 |_=>none
def WJ (s:St) (sz:Nat):AV->Option (List AV×Nat)
 | .str b=>bif Nat.beq sz 1 then some (byteCells b,WL b)else none
 |y=>Xl s sz y
def zerosV (z:List AV) (y:AV):Option (List AV×Nat):=
 (Xi y).bind fun n=>bif Nat.ble n 1048576 then some (Yk z n,n)else none
def X5:Option TypeId->Bool
 |some t=>match CN E t with
  |some (.int _)=>true
  |_=>false
 |none=>false
def bK:Option TypeId->Bool
 |some t=>qN (CN E t)
 |none=>true
def cM (sT:TypeId) (xT:Option TypeId) (x y:Operand):bf:=
 match CN E sT with
 |some (.slice e)=>match sizeOf E e,bytesOf E e,zeroOf E e with
  |some sz,some VY,some z=>
   bif !(Nat.beq (WL z.cells) sz)||Nat.beq sz 0|| !(bK E xT)then .bad else
   bif X5 E xT then .act true (Cg E x) fun T s=>(Cg E x T).bind fun a=>(Cg E y T).bind fun b=>(zerosV z.cells b).bind fun p=>CA s e sz VY p.1 p.2 a
   else .act false (Cg E x) fun T s=>(Cg E x T).bind fun a=>(Cg E y T).bind fun b=>(WJ s sz b).bind fun p=>CA s e sz VY p.1 p.2 a
  |_,_,_=> .bad
 |_=> .bad
def copyV (s:St) (sz:Nat) (src:List AV×Nat):AV->Option (AV×St)
 | .slice b off len Zc _=>bif Nat.beq Zc sz then(takeN (Nat.min src.2 len*sz) src.1).bind fun l=>(bg s b off l).bind fun s'=>some (.int .i64 (Nat.min src.2 len:Nat),s')else none
 | .Ca=>some (.int .i64 0,s)
 |_=>none
def oG (t:TypeId) (x y:Operand):bf:=
 match CN E t with
 |some (.slice e)=>match sizeOf E e with
  |some sz=> .act false (Cg E x) fun T s=>(Cg E x T).bind fun a=>(Cg E y T).bind fun b=>(WJ s sz b).bind fun p=>copyV s sz p a
  |none=> .bad
 |_=> .bad
def mR:AV->Option AV
 | .str b=>some (.int .i64 (WL b))
 |_=>none
def dq:AV->Option AV
 | .Ca=>some (.int .i64 0)
 | .Cf _ n _ _=>some (.int .i64 n)
 | .slice _ _ n _ _=>some (.int .i64 n)
 |_=>none
def aF (s:St) (x:AV):Option AV:=(dS s x).bind fun es=>some (.int .i64 (WL es))
def mS (t:TypeId) (x:Operand):bf:=
 match CN E t with
 |some .string=> .pure fun T=>(Cg E x T).bind mR
 |some (.slice _)=> .pure fun T=>(Cg E x T).bind dq
 |some (.array n _)=> .pure fun T=>(Cg E x T).bind fun _=>some (.int .i64 n)
 |some (.map _ _)=> .read (Cg E x) fun T s=>(Cg E x T).bind (aF s)
 |some (.pointer a)=>match CN E a with
  |some (.array n _)=> .pure fun T=>(Cg E x T).bind fun _=>some (.int .i64 n)
  |_=> .bad
 |_=> .bad
def su:AV->Option AV
 | .Ca=>some (.int .i64 0)
 | .slice _ _ _ _ (some (c+1))=>some (.int .i64 ((c+1:Nat):Int))
 |_=>none
def tN (t:TypeId) (x:Operand):bf:=
 match CN E t with
 |some (.slice _)=> .pure fun T=>(Cg E x T).bind su
 |_=> .bad
def delIn (kd:Kd) (s:St) (b:Nat) (k:AV):Option Cw->Option St
 |some (.map es clock)=>(cg kd k es).bind fun r=>match r with
  |some _=>some (s.put b (some (.map (qc kd k es) clock)))
  |none=>some s
 |_=>none
def yu (kd:Kd) (s:St) (k:AV):AV->Option St
 | .map b=>bif cK kd k then delIn kd s b k (s.heap.get b)else none
 | .WI=>bif cK kd k then some s else none
 |_=>none
def delC (t:TypeId) (m k:Operand):bf:=
 match CN E t with
 |some (.map key _)=>match bQ E key with
  |some kd=> .act true (Cg E m) fun T s=>(Cg E m T).bind fun a=>(Cg E k T).bind fun b=>dO (yu kd s b a)
  |none=> .bad
 |_=> .bad
def mT (c:Nat):List UInt8->Nat
 | []=>0
 |b::l=>bif Nat.beq b.toNat c then mT c l+1 else mT c l
def tO (c:Nat):List UInt8->Option Nat
 | []=>none
 |b::l=>bif Nat.beq b.toNat c then some 0 else(tO c l).bind fun n=>some (n+1)
def km:AV->AV->Option AV
 | .str l,.int .u8 (.ofNat c)=>bif Nat.blt c 256 then some (.int .i64 (mT c l))else none
 |_,_=>none
def fG:AV->AV->Option AV
 | .str l,.int .u8 (.ofNat c)=>bif Nat.blt c 256 then(match tO c l with
  |some n=>some (.int .i64 n)
  |none=>some (.int .i64 (-1)))else none
 |_,_=>none
def oH:AV->AV->Option AV
 | .int k x,.int _ y=>some (.int k (if y>x then y else x))
 |_,_=>none
def qO:AV->AV->Option AV
 | .int k x,.int _ y=>some (.int k (if y<x then y else x))
 |_,_=>none
def oI (f:AV->AV->Option AV):List AV->AV->Option AV
 | [],x=>some x
 |y::l,x=>(f x y).bind fun z=>oI f l z
def yv (f:AV->AV->Option AV) (xs:List Operand):bf:=
 match xs with
 |x::l=> .pure fun T=>(Cg E x T).bind fun a=>(CO E l T).bind fun r=>oI f r a
 | []=> .bad
def aH (e:TypeId) (sz VY:Nat) (z:List AV) (l c:Nat):Option Mk:=
 bif Nat.ble l c&&(Nat.beq c 0||small c VY)then
  bif Nat.beq c 0 then some (.val .Ca)else some (.obj (.cells (Yk z c) e false) fun b=> .slice b 0 l sz (some c))
 else none
def fH (t:TypeId) (l c:Operand):bf:=
 match CN E t with
 |some (.slice e)=>match sizeOf E e,bytesOf E e,zeroOf E e with
  |some sz,some VY,some z=>bif Nat.beq (WL z.cells) sz then .make fun T=>(Cg E l T).bind fun a=>(Cg E c T).bind fun b=>(Xi a).bind fun n=>(Xi b).bind fun m=>aH e sz VY z.cells n m else .bad
  |_,_,_=> .bad
 |_=> .bad
def ZH (e:TypeId) (sz len:Nat):Option (List AV)->Option Mk
 |some cs=>bif Nat.beq len 0 then some (.val .Ca)else some (.obj (.cells cs e false) fun b=> .slice b 0 len sz (some len))
 |none=>none
def Ys (t:TypeId) (len:Nat) (parts:List (Nat×Operand)):bf:=
 match CN E t with
 |some (.slice e)=>match sizeOf E e,zeroOf E e with
  |some sz,some z=>bif Nat.beq (WL z.cells) sz&&Nat.ble (len*sz) 16777216&& !(Nat.beq sz 0)then
   .make fun T=>(aD E parts T).bind fun ps=>ZH e sz len (ai (fun i=>some (i*sz,sz)) ps (Yk z.cells len))else .bad
  |_,_=> .bad
 |_=> .bad
def tP:AV->Option Mk
 | .str b=>some (.obj (.di b 0) fun i=> .ptr i 0)
 |_=>none
def rangeMap (s:St):AV->Option (AV×St)
 | .WI=>some (.ptr s.next 0,s.alloc (.af none 0 [] 0))
 | .map m=>match s.heap.get m with
  |some (.map _ clock)=>some (.ptr s.next 0,s.alloc (.af (some m) clock [] clock))
  |_=>none
 |_=>none
def qd (t:TypeId) (x:Operand):bf:=
 match CN E t with
 |some .string=> .make fun T=>(Cg E x T).bind tP
 |some (.map _ _)=> .act false nothing fun T s=>(Cg E x T).bind (rangeMap s)
 |_=> .bad
def qQ (s:St) (r:Nat) (b:List UInt8) (pos:Nat) (d:Nat×Nat):Option (AV×St):=
 some (.tuple [.bool true,.int .i64 pos,.int .i32 d.1],s.put r (some (.di b (pos+d.2))))
def iF (s:St) (r:Nat):Option Cw->Option (AV×St)
 |some (.di b pos)=>(XK pos b).bind fun l=>match l with
  |c::_=>bif Nat.blt c.toNat 128 then some (.tuple [.bool true,.int .i64 pos,.int .i32 c.toNat],s.put r (some (.di b (pos+1))))else qQ s r b pos (Utf8.decode ⟨b.toArray⟩ pos)
  | []=>some (.tuple [.bool false],s)
 |_=>none
def jF (s:St):AV->Option (AV×St)
 | .ptr r 0=>iF s r (s.heap.get r)
 |_=>none
def lY (n:Nat):List Nat->Bool
 | []=>false
 |k::l=>bif Nat.beq k n then true else lY n l
def gT (seen:List Nat):List Xk->List Xk
 | []=>[]
 |e::l=>bif lY e.2.2 seen then gT seen l else e::gT seen l
def mU (s:St) (r m since clock:Nat) (seen:List Nat):List Xk->List (AV×St)
 | []=>[]
 |e::l=>(.tuple [.bool true,e.1,e.2.1],s.put r (some (.af (some m) since (seen++[e.2.2]) clock)))::mU s r m since clock seen l
def ma (s:St) (r m since Xa:Nat) (seen:List Nat):Option Cw->Option (List (AV×St))
 |some (.map es clock)=>bif Nat.beq clock Xa&&Nat.beq clock since then
  match gT seen es with
  | []=>some [(.tuple [.bool false],s)]
  |e::l=>some (mU s r m since clock seen (e::l))
  else none
 |_=>none
def iG (s:St) (r:Nat):Option Cw->Option (List (AV×St))
 |some (.af none _ _ _)=>some [(.tuple [.bool false],s)]
 |some (.af (some m) since seen Xa)=>ma s r m since Xa seen (s.heap.get m)
 |_=>none
def jG (s:St):AV->Option (List (AV×St))
 | .ptr r 0=>iG s r (s.heap.get r)
 |_=>none
def tQ:List Nat->Option Nat
 | []=>none
 |a::l=>match l with
  | []=>some a
  |_::_=>tQ l
def gU (n:Nat):List Xk->Option Xk
 | []=>none
 |e::es=>bif Nat.beq e.2.2 n then some e else gU n es
def qR (Xa n:Nat):Option Cw->Option AV
 |some (.map es clock)=>bif Nat.beq clock Xa then(gU n es).bind fun e=>some (.tuple [e.1,e.2.1])else none
 |_=>none
def mV (s:St):Option Cw->Option AV
 |some (.af (some m) _ seen Xa)=>(tQ seen).bind fun n=>qR Xa n (s.heap.get m)
 |_=>none
def mW (s:St):AV->Option AV
 | .ptr r 0=>mV s (s.heap.get r)
 |_=>none
def qe (ok:Bool) (v:AV):Option AV:=some (bif ok then .tuple [v,.bool true]else v)
def mY (ok:Bool) (z:AV):Option AV:=bif ok then some (.tuple [z,.bool false])else none
def eK (t:TypeId) (ok:Bool) (z:AV):AV->Option AV
 | .iface u v=>bif Nat.beq u t then qe ok v else mY ok z
 | .CP=>mY ok z
 |_=>none
def gV (x:Operand) (t:TypeId) (ok:Bool):bf:=
 match CN E t,zeroOf E t with
 |some (.interface _),some _=> .bad
 |some _,some z=> .pure fun T=>(Cg E x T).bind (eK t ok z)
 |_,_=> .bad
inductive Recv where
 |mk (off:Option Nat) (load:Option TypeId)
 |part (off n:Nat) (agg:Bool)
def iH (off:Option Nat) (f:FuncId) (t:TypeId):Bool->Option (FuncId×Recv)
 |true=>match CN E t,off with
  |some (.pointer _),none=>some (f,.mk none none)
  |some (.pointer _),some n=>some (f,.mk (some n) (some t))
  |some _,some n=>some (f,.mk (some n) none)
  |_,_=>none
 |false=>match CN E t,off with
  |some (.pointer e),none=>some (f,.mk none (some e))
  |some (.pointer _),some _=>none
  |some _,none=>some (f,.mk none none)
  |some _,some n=>some (f,.mk (some n) (some t))
  |_,_=>none
def qf (t:TypeId):Bool:=match CN E t with
 |some (.pointer _)=>true
 |_=>false
def stepOf (st:FieldStep):Option (Nat×TypeId):=
 bif st.deref then match CN E st.struct with
  |some (.struct fields)=>(nth fields.toList st.index).bind fun f=>match sizeOf E f.type with
   |some (_+1)=>some (f.offset,f.type)
   |_=>none
  |_=>none
 else none
def methodOf (t:TypeId) (name:String):Option (FuncId×Recv):=
 (E.tys.get t).bind fun i=>(i.methods.toList.find? (·.name==name)).bind fun m=>match m.path.toList,m.func with
  | [],some (f,p)=>iH E none f t p
  | [st],some (f,p)=>bif st.deref then(stepOf E st).bind fun q=>iH E (some q.1) f q.2 p
   else match CN E st.struct,p with
    |some (.struct fields),false=>(nth fields.toList st.index).bind fun x=>bif qf E x.type then none else
     (sizeOf E x.type).bind fun n=>(isAgg E x.type).bind fun a=>some (f,.part x.offset n a)
    |_,_=>none
  |_,_=>none
def C7 (f:FuncId):Bool:=match E.fns.get f with
 |some fn=>match fn.body with
  |some _=>true
  |none=>false
 |none=>qN (E.gH f)
def qg (v:AV):Option Nat->Option AV
 |none=>some v
 |some n=>Ze n v
def dt (s:St) (v:AV):Recv->Option AV
 | .mk off load=>(qg v off).bind fun p=>match load with
  |none=>some p
  |some e=>Wy E e s p
 | .part off n true=>bP off n v
 | .part off _ false=>az off v
def gW (s:St) (name:String) (args:List AV):AV->Option (FuncId×List AV)
 | .iface t v=>(methodOf E t name).bind fun m=>bif C7 E m.1 then(dt E s v m.2).bind fun r=>some (m.1,r::args)else none
 |_=>none
def tR:AV->Option AV
 | .slice b off (_+1) _ _=>some (.ptr b off)
 | .slice _ _ 0 _ _=>some .bE
 | .Ca=>some .bE
 |_=>none
def mb (v:AV):Option Mk:=match tR v with
 |some r=>some (.val r)
 |none=>none
def qS (ty:TypeId) (x:Operand):bf:=
 match CN E ty with
 |some (.pointer _)=> .make fun T=>(Cg E x T).bind mb
 |_=> .bad
def dU (s:St) (E:Env) (e' b off n:Nat):Option Cw->Option (AV×St)
 |some (.cells cs e _)=>bif Nat.beq e e'&&isByte E e then(cut cs off n).bind fun l=>(Xg l).bind fun r=>some (.str r,s.put b none)else none
 |_=>none
def eL (s:St) (E:Env) (e' n:Nat):AV->Option (AV×St)
 | .ptr b off=>bif Nat.beq n 0 then some (.str [],s)else dU s E e' b off n (s.heap.get b)
 | .bE=>bif Nat.beq n 0 then some (.str [],s)else none
 | .CU=>bif Nat.beq n 0 then some (.str [],s)else none
 |_=>none
def jH (t:TypeId) (x y:Operand):bf:=
 match CN E t with
 |some (.pointer e)=>bif isByte E e&&Nat.beq ((sizeOf E e).getD 0) 1 then .act false (Cg E x) fun T s=>(Cg E x T).bind fun a=>(Cg E y T).bind fun b=>(Xi b).bind fun n=>bif Nat.ble n 1099511627776 then eL s E e n a else none else .bad
 |_=> .bad
def jI (e:TypeId):AV->Option Mk
 | .int .i64 (.ofNat n)=>bif Nat.blt 0 n&&Nat.ble n 1099511627776 then some (.obj (.cells [] e true) fun i=> .slice i 0 n 1 none)else none
 |_=>none
def tT:Option Func->Option TypeId
 |some fn=>match fn.resultTypes.toList with
  | [t]=>match CN E t with
   |some (.slice e)=>bif isByte E e then some e else none
   |_=>none
  |_=>none
 |none=>none
def gY (f:FuncId) (name:String) (args:List Operand):bf:=
 match args with
 | [x]=>bif name== "internal/abi.NoEscape" then .pure (Cg E x)
  else bif name== "internal/bytealg.MakeNoZero" then(match tT E (E.fns.get f)with
   |some e=> .make fun T=>(Cg E x T).bind (jI e)
   |none=> .bad)else .bad
 | [x,y]=>bif name== "internal/bytealg.CountString" then YA E km x y
  else bif name== "internal/bytealg.IndexByteString" then YA E fG x y else .bad
 |_=> .bad
def nameOf (f:FuncId):String:=match E.fns.get f with
 |some fn=>fn.name
 |none=> ""
def gZ (ty:TypeId) (b:Builtin) (ts:List TypeId) (args:List Operand):bf:=
 match b,ts,args with
 | .append,t::ts',[x,y]=>cM E t ts'.head? x y
 | .len,t::_,[x]=>mS E t x
 | .cap,t::_,[x]=>tN E t x
 | .copy,t::_,[x,y]=>oG E t x y
 | .delete,t::_,[m,k]=>delC E t m k
 | .unsafeSliceData,_,[x]=>bif E.ext then qS E ty x else .bad
 | .unsafeString,t::_,[x,y]=>bif E.ext then jH E t x y else .bad
 | .max,_,xs=>yv E oH xs
 | .min,_,xs=>yv E qO xs
 | .recover,_,_=> .recover
 |_,_,_=> .bad
def Wz (ty:TypeId) (c:Call):bf:=
 match c.callee with
 | .builtin b=>gZ E ty b c.argTypes.toList c.args.toList
 | .value (.func f)=>bif C7 E f then .call fun T _=>(CO E c.args.toList T).bind fun args=>some (f,args)else(bif E.ext then gY E f (nameOf E f) c.args.toList else .bad)
 | .value x=> .ah (Cg E x) (CO E c.args.toList)
 | .invoke r name=> .call fun T s=>(CO E c.args.toList T).bind fun args=>(Cg E r T).bind (gW E s name args)
def eM:Fn->Bool
 | .yield _=>true
 |_=>false
def iI (args:List AV):AV->Option fD
 | .func fn first captured=>bif eM fn then none else some {target:= .fn fn captured,args:=first++args}
 |_=>none
def fI (c:Call):bf:=
 match c.callee with
 | .value x=> .defer fun T=>(Cg E x T).bind fun f=>(CO E c.args.toList T).bind fun args=>iI args f
 |_=> .bad
def oJ:AV->Option AV
 | .ptr b o=>some (.ptr b o)
 | .Wl cs=>some (.Wl cs)
 | .func (.func f) a b=>some (.func (.func f) a b)
 | .func (.yield f) a b=>some (.func (.yield f) a b)
 |_=>none
def ko (a b:TO) (T:Tm):AV->Option AV
 | .bool t=>bif t then a T else b T
 |_=>none
def Ye (t:TypeId):Option Bool:=match CN E t with
 |some (.interface _)=>some true
 |some _=>some false
 |none=>none
def aI (t:TypeId) (x:Operand):bf:=
 match Ye E t with
 |some false=> .pure fun T=>(Cg E x T).bind fun v=>some (.iface t v)
 |_=> .bad
def iJ (fn:Fn) (first captured:List Operand):bf:=
 bif eM fn then .bad else .pure fun T=>(CO E first T).bind fun a=>(CO E captured T).bind fun b=>some (.func fn a b)
def dV (t:TypeId) (r:Option Operand):bf:=
 match CN E t,r with
 |some (.map _ _),none=> .make fun _=>some (.obj (.map [] 0) .map)
 |some (.map _ _),some x=> .make fun T=>(Cg E x T).bind fun v=>(Xi v).bind fun _=>some (.obj (.map [] 0) .map)
 |_,_=> .bad
def cj (i:Nat):AV->Option AV
 | .tuple vs=>nth vs i
 |_=>none
def mZ:AV->Option AV
 | .iface t v=>some (.iface t v)
 |_=>none
def fJ (t:TypeId) (a x:Operand):bf:=
 match sizeOf E t with
 |some n=> .act true (Cg E a) fun T s=>(Cg E a T).bind fun p=>(Cg E x T).bind fun v=>dO (bG n s v p)
 |none=> .bad
def kt (t:TypeId):bf:=
 match zeroOf E t with
 |some z=>bif z.isTuple then .bad else .make fun _=>some (.obj (.cells z.cells t false) fun b=> .ptr b 0)
 |none=> .bad
def Xz (ty:TypeId) (o:Op):bf:=
 match o with
 | .move x=> .pure (Cg E x)
 | .assign x=> .pure (Cg E x)
 | .pick c a b=> .pure fun T=>(Cg E c T).bind (ko (Cg E a) (Cg E b) T)
 | .alloc t=>kt E t
 | .box t x=> .make fun T=>(Cg E x T).bind fun v=>bif v.isTuple then none else some (.obj (.cells v.cells t false) fun b=> .ptr b 0)
 | .build t parts=>jY E t parts.toList
 | .buildSlice t len parts=>Ys E t len parts.toList
 | .load t a=> .read (Cg E a) fun T s=>(Cg E a T).bind (Wy E t s)
 | .store t a x=>fJ E t a x
 | .nilCheck x=> .pure fun T=>(Cg E x T).bind oJ
 | .binOp op t x y _=>kg E op t x y
 | .unOp op _ x=> .pure fun T=>(Cg E x T).bind (unV op)
 | .convert src dst x=>bV E src dst x
 | .makeInterface t x=>aI E t x
 | .makeFunc fn first captured=>iJ E fn first.toList captured.toList
 | .makeMap t r=>dV E t r
 | .makeSlice t l c=>fH E t l c
 | .slice t x lo hi mx=>fF E t x lo hi mx
 | .fieldAddr t x f=>YN E t x f
 | .field t x f=>jZ E t x f
 | .indexAddr t x i=>XZ E t x i
 | .index t x i=>ke E t x i
 | .lookup t x i ok=>gO E t x i ok
 | .mapUpdate t m k v=>bp E t m k v
 | .insert t m k v=>bp E t m k v
 | .range t x=>qd E t x
 | .next it isString=>bif isString then .act true (Cg E it) fun T s=>(Cg E it T).bind (jF s)else .lO fun T s=>(Cg E it T).bind (jG s)
 | .entry it=> .look fun T s=>(Cg E it T).bind (mW s)
 | .typeAssert x _ a ok=>gV E x a ok
 | .extract t i=> .pure fun T=>(Cg E t T).bind (cj i)
 | .call c=>Wz E ty c
 | .defer c=>fI E c
 | .panic x=> .panic fun T=>(Cg E x T).bind mZ
 |_=> .bad
def Cj:Nat->AV->Bool
 |0,_=>false
 |n+1,v=>match v with
  | .ptr _ _=>false
  | .slice _ _ _ _ _=>false
  | .map _=>false
  | .dK _ _=>false
  | .agg cs=>cs.all (Cj n)
  | .tuple cs=>cs.all (Cj n)
  | .Cf _ _ _ cl=>cl
  | .Wl cs=>cs.all (Cj n)
  | .func (.yield _) _ _=>false
  | .func _ a b=>a.all (Cj n)&&b.all (Cj n)
  | .iface _ v=>Cj n v
  |_=>true
def Cr (m:Nat):Nat->AV->Bool
 |0,_=>false
 |n+1,v=>match v with
  | .ptr b _=>Nat.blt b m
  | .slice b _ _ _ _=>Nat.blt b m
  | .map b=>Nat.blt b m
  | .dK b _=>Nat.blt b m
  | .agg cs=>cs.all (Cr m n)
  | .tuple cs=>cs.all (Cr m n)
  | .Cf cs _ _ cl=>cl||cs.all (Cr m n)
  | .Wl cs=>cs.all (Cr m n)
  | .func (.yield l) _ _=>Nat.blt l m
  | .func _ a b=>a.all (Cr m n)&&b.all (Cr m n)
  | .iface _ v=>Cr m n v
  |_=>true
def dW (m:Nat):Option Cw->Bool
 |some (.cells cs _ _)=>cs.all (Cr m 40)
 |some (.map es _)=>es.all fun e=>Cr m 40 e.1&&Cr m 40 e.2.1
 |none=>true
 |_=>false
def Cs (s:St) (from_:Nat):Nat->AV->List Nat->Option (AV×List Nat)
 |0,_,_=>none
 |n+1,v,ks=>match v with
  | .slice b off len sz cap=>bif Nat.blt b from_ then some (.slice b off len sz cap,ks)else(Wp (s.heap.get b)).bind fun cs=>(cut cs off (len*sz)).bind fun l=>
   (many (Cs s from_ n) l ks).bind fun p=>some (.Cf p.1 len sz (p.1.all (Cj 40)),b::p.2)
  | .agg cs=>(many (Cs s from_ n) cs ks).bind fun p=>some (.agg p.1,p.2)
  | .tuple cs=>(many (Cs s from_ n) cs ks).bind fun p=>some (.tuple p.1,p.2)
  | .Cf cs len sz cl=>bif cl then some (.Cf cs len sz cl,ks)else(many (Cs s from_ n) cs ks).bind fun p=>some (.Cf p.1 len sz (p.1.all (Cj 40)),p.2)
  | .iface t v=>(Cs s from_ n v ks).bind fun p=>some (.iface t p.1,p.2)
  |v=>some (v,ks)
where
 many (f:AV->List Nat->Option (AV×List Nat)):List AV->List Nat->Option (List AV×List Nat)
  | [],ks=>some ([],ks)
  |v::l,ks=>(f v ks).bind fun p=>(many f l p.2).bind fun q=>some (p.1::q.1,q.2)
def oK (s:St):AV->Option (AV×List Nat)
 | .ptr b 0=>(Wp (s.heap.get b)).bind fun cs=>(Cs.many (Cs s 0 39) cs []).bind fun p=>some (.Wl p.1,b::p.2)
 |v=>Cs s 0 40 v []
def kill (s:St):List Nat->St
 | []=>s
 |b::l=>kill (s.put b none) l
end ops
section run
variable (E : Env)
def Yl:Nat->List AV->Tr AV->Tr AV
 |_,[],t=>t
 |i,v::l,t=>Yl (i+1) l (t.set i (some v))
def a9 (nt:Nat):List Nat->List AV->Tr AV->Option (Tr AV)
 | [],[],t=>some t
 |p::ps,v::vs,t=>bif Nat.blt p nt then a9 nt ps vs (t.set p (some v))else none
 |_,_,_=>none
def Yt (s:St) (T:Tr AV):List ResultVar->Option (List AV)
 | []=>some []
 | .tmp t::l=>(T.get t).bind fun v=>(Yt s T l).bind fun r=>some (v::r)
 | .cell a t::l=>(T.get a).bind fun p=>(Wy E t s p).bind fun v=>(Yt s T l).bind fun r=>some (v::r)
def ck:List AV->AV
 | [v]=>v
 |l=> .tuple l
def Wm (n:Nat) (v:AV) (s:St):Option (AV×St):=(Cs s n 40 v []).bind fun p=>some (p.1,kill s p.2)
def eN (v:AV) (s:St):Option (AV×St):=(oK s v).bind fun p=>some (p.1,kill s p.2)
def frozen (f:FuncId) (s0:St) (v:AV) (s:St):Option (AV×St):=
 match E.j0 f with
 |0=>some (v,s)
 |1=>match s.log with
  | []=>Wm s0.next v s
  |_::_=>some (v,s)
 |3=>eN v s
 |_=>Wm 0 v s
def below (n:Nat):List Nat->List Nat->List Nat
 | [],l=>l
 |b::r,l=>bif Nat.blt b n then b::below n r l else below n r l
def St.back (s0 s:St):St:= {s with bound:=s0.bound,log:=below s0.bound s.log s0.log}
def YF (s0:St) (v:AV) (s:St):List Nat->CR
 | []=>bif Cr s0.next 40 v then .same v else .val v (s0.back s)
 |_::_=> .val v (s0.back s)
def leave (f:FuncId) (s0:St) (v:AV) (s:St):Option CR:=
 (frozen E f s0 v s).bind fun p=>some (YF s0 p.1 p.2 p.2.log)
def St.enter (s:St):St:= {s with bound:=s.next,log:=[]}
def St.whole (s:St):St:= {s with bound:=s.next,log:=[]}
abbrev tU:=Fr->Tr AV->St->Out
abbrev Ev:=Code->tU
def sameO (a b:Option Nat):Bool:=
 match a,b with
 |none,none=>true
 |some x,some y=>Nat.beq x y
 |_,_=>false
def ku:AV->AV->Bool
 | .bool a,.bool b=>bif a then b else !b
 | .int j a,.int k b=>if j=k then decide (a=b)else false
 | .str a,.str b=>Cp a b
 | .CU,.CU=>true
 | .ptr a b,.ptr c d=>Nat.beq a c&&Nat.beq b d
 | .Ca,.Ca=>true
 | .slice a b c d e,.slice f g h i j=>Nat.beq a f&&Nat.beq b g&&Nat.beq c h&&Nat.beq d i&&sameO e j
 | .WI,.WI=>true
 | .map a,.map b=>Nat.beq a b
 |_,_=>false
def fk:List AV->List AV->Bool
 | [],[]=>true
 |a::l,b::r=>ku a b&&fk l r
 |_,_=>false
def aJ:AV->Option AV->Bool
 | .agg a,some (.agg b)=>fk a b
 | .tuple a,some (.tuple b)=>fk a b
 |a,some b=>ku a b
 |_,none=>false
def frame (nt:Nat) (args:List AV) (WR:Option AV):Fr:= {nt:=Nat.max nt (WL args),defers:=[],WR,round:=none}
def recovered:Option AV->Option AV->Bool
 |some _,none=>true
 |_,_=>false
def hI (m:Option AV):Out->Option (Bool×St)
 | .one ⟨.normal,fr,_,st⟩=>match fr.defers with| []=>some (recovered m fr.WR,st)|_=>none
 | .one ⟨.ret,fr,_,st⟩=>match fr.defers with| []=>some (recovered m fr.WR,st)|_=>none
 |_=>none
def na (ev:Ev) (f:FuncId) (args:List AV) (m:Option AV) (s:St):Option (Bool×St):=
 (E.fns.get f).bind fun fn=>fn.body.bind fun c=>match fn.results.toList with
  | []=>hI m (ev c (frame fn.ntmps args m) (Yl 0 args .nil) s)
  |_::_=>none
def hJ (ev:Ev) (m:Option AV) (s:St) (d:fD):Option (Option AV×St):=
 match d.target with
 | .collected r=>match s.heap.get r with
  |some (.defs true)=>some (m,s.put r (some (.defs false)))
  |_=>none
 | .fn (.func f) captured=>(na E ev f (d.args++captured) m s).bind fun p=>some (bif p.1 then none else m,p.2)
 |_=>none
def unwind (ev:Ev):List fD->Option AV->St->Option (Option AV×St)
 | [],m,s=>some (m,s)
 |d::ds,m,s=>(hJ E ev m s d).bind fun p=>unwind ev ds p.1 p.2
def fK:Ex->Option (Option AV)
 | .normal=>some none
 | .ret=>some none
 | .panic v=>some (some v)
 | .exit _=>none
def endWith (f:FuncId) (fn:Func) (s:St) (T:Tr AV):Option AV->St->Option CR
 |none,s'=>(Yt E s' T fn.results.toList).bind fun vs=>leave E f s (ck vs) s'
 |some v,s'=>some (.WR v (s.back s'))
def ZI (ev:Ev) (f:FuncId) (fn:Func) (s:St) (r:bO):Option CR:=
 (fK r.ex).bind fun m=>(unwind E ev r.fr.defers m r.st).bind fun p=>endWith E f fn s r.T p.1 p.2
def pull (k:AV):List Xk->Option (Xk×List Xk)
 | []=>none
 |e::es=>bif aJ k (some e.1)then some (e,es)else(pull k es).bind fun p=>some (p.1,e::p.2)
def iK (n a b:Nat):Bool:=Nat.beq a b||(Nat.ble n a&&Nat.ble n b)
def XM (n:Nat):List Xk->List Xk->Bool
 | [],[]=>true
 | [],_::_=>false
 |e::r,l=>match pull e.1 l with
  |some p=>aJ e.2.1 (some p.1.2.1)&&iK n e.2.2 p.1.2.2&&XM n r p.2
  |none=>false
def jJ (s:Nat):List Xk->Bool
 | []=>true
 |e::l=> !(Nat.beq s e.2.2)&&jJ s l
def X6 (n:Nat):List Xk->Bool
 | []=>true
 |e::l=>Nat.blt e.2.2 n&&jJ e.2.2 l&&X6 n l
def bq (m:Nat) (o a b:Option Cw):Bool:=
 match o,a,b with
 |some (.map _ n0),some (.map es n),some (.map lf n')=>Nat.beq n n'&&XM n0 es lf&&X6 n es&&dW m (some (.map es n))
 |some (.cells _ _ _),some (.cells a t p),some (.cells b t' p')=>fk a b&&Nat.beq t t'&&(bif p then p' else !p')&&dW m (some (.cells a t p))
 |_,_,_=>false
def outcome (s0:St):Option CR->Option (AV×St)
 |some (.same v)=>some (v,s0)
 |some (.val v s)=>some (v,s)
 |_=>none
def hQ (ev:Ev) (f:FuncId) (fn:Func) (s0:St):List bO->Option (List (AV×St))
 | []=>some []
 |r::l=>(outcome s0.whole (ZI E ev f fn s0.whole r)).bind fun o=>(hQ ev f fn s0 l).bind fun os=>some (o::os)
def Z3:List (AV×St)->List Nat->List Nat
 | [],l=>l
 |o::os,l=>Z3 os (iL o.2.log l)
where iL:List Nat->List Nat->List Nat
 | [],l=>l
 |b::r,l=>iL r (XL b l)
def ky (s0 a b:St):List Nat->Bool
 | []=>true
 |n::l=>Nat.blt n s0.next&&bq s0.next (s0.heap.get n) (a.heap.get n) (b.heap.get n)&&ky s0 a b l
def Ym (s1:St):List Nat->St->St
 | [],s=>s
 |b::l,s=>Ym s1 l (s.put b (s1.heap.get b))
mutual
def Zu:AV->AV->Bool
 | .bool a,.bool b=>bif a then b else !b
 | .int j a,.int k b=>if j=k then decide (a=b)else false
 | .str a,.str b=>Cp a b
 | .CU,.CU=>true
 | .Ca,.Ca=>true
 | .WI,.WI=>true
 | .WE,.WE=>true
 | .CP,.CP=>true
 | .Wl a,.Wl b=>dX a b
 | .Cf a l s c,.Cf b m t d=>Nat.beq l m&&Nat.beq s t&&(bif c then d else !d)&&dX a b
 | .iface t a,.iface u b=>Nat.beq t u&&Zu a b
 | .agg a,.agg b=>dX a b
 | .tuple a,.tuple b=>dX a b
 |_,_=>false
def dX:List AV->List AV->Bool
 | [],[]=>true
 |a::l,b::r=>Zu a b&&dX l r
 |_,_=>false
end
def ni:Option CR->Option AV
 |some (.same v)=>some v
 |_=>none
def hU (ev:Ev) (f:FuncId) (fn:Func) (s0:St) (v:AV):List bO->Bool
 | []=>true
 |r::l=>match ni (ZI E ev f fn s0.whole r)with
  |some u=>Zu u v&&hU ev f fn s0 v l
  |none=>false
def many1 (ev:Ev) (f:FuncId) (fn:Func) (s0:St) (r:bO) (l:List bO):Option CR:=
 (ni (ZI E ev f fn s0.whole r)).bind fun v=>bif hU E ev f fn s0 v l then some (.same v)else none
def eO (m:Nat) (s0:St) (o:AV×St) (L:List Nat):List (AV×St)->Bool
 | []=>true
 |q::l=>((aJ o.1 (some q.1)&&Cr m 40 o.1)||(Zu o.1 q.1&&Cj 40 o.1))&&ky s0 o.2 q.2 L&&eO m s0 o L l
def jK (s0:St) (o:AV×St) (os:List (AV×St)) (L:List Nat):Option CR:=
 bif eO s0.next s0 o L (o::os)then some (.val o.1 (Ym o.2 L s0))else none
def cm (n:Nat) (o:AV×St):Option (List Xk×Nat):=
 match o.1,o.2.log with
 | .map b,[]=>bif Nat.ble n b then(match o.2.heap.get b with
  |some (.map es c)=>some (es,c)
  |_=>none)else none
 |_,_=>none
def qT (es:List Xk) (c:Nat):Option (List Xk×Nat)->Bool
 |some p=>Nat.beq p.2 c&&XM 0 es p.1&&dW 0 (some (.map p.1 p.2))
 |none=>false
def cn (n:Nat) (es:List Xk) (c:Nat):List (AV×St)->Bool
 | []=>true
 |q::l=>qT es c (cm n q)&&cn n es c l
def eQ (s0:St) (o:AV×St) (os:List (AV×St)):Option CR:=
 (cm s0.next o).bind fun p=>bif cn s0.next p.1 p.2 (o::os)&&X6 p.2 p.1 then some (.val (.map s0.next) (s0.alloc (.map p.1 p.2)))else none
def orCR (b:Option CR):Option CR->Option CR
 |some c=>some c
 |none=>b
def nj (ev:Ev) (f:FuncId) (fn:Func) (s0:St) (r:bO) (l:List bO):Option CR:=
 (outcome s0.whole (ZI E ev f fn s0.whole r)).bind fun o=>(hQ E ev f fn s0 l).bind fun os=>orCR (eQ s0 o os) (jK s0 o os (Z3 (o::os) []))
def nk (ev:Ev) (f:FuncId) (fn:Func) (s0:St) (r:bO) (l:List bO):Option CR->Option CR
 |some c=>some c
 |none=>bif E.merge then nj E ev f fn s0 r l else none
def nq (ev:Ev) (f:FuncId) (fn:Func) (s:St):Out->Option CR
 | .one r=>ZI E ev f fn s r
 | .many (r::l)=>nk E ev f fn s r l (many1 E ev f fn s r l)
 |_=>none
def tV (f:FuncId) (args:List AV) (s:St):Option CR:=
 match E.gH f with
 |some g=>(g args s).bind fun p=>some (.val p.1 p.2)
 |none=>none
def WA (ev:Ev) (f:FuncId) (args:List AV) (s:St):Option CR:=
 match E.Y3 f args with
 |some v=>some (.same v)
 |none=>match E.fns.get f with
  |some fn=>fn.body.bind fun c=>nq E ev f fn s (ev c (frame fn.ntmps args none) (Yl 0 args .nil) s.enter)
  |none=>tV E f args s
def dY (l:Nat) (st:St) (lp:aY) (jump:Option Code) (go:Bool):Option CR:=
 some (.val (.bool go) (st.put l (some (.loop {lp with state:=bif go then .ready else .done,pending:=jump}))))
def iM (l:Nat) (ex:Ex) (st:St):Option Cw->Option CR
 |some (.loop lp)=>match ex with
  | .normal=>dY l st lp none true
  | .ret=>dY l st lp (some .ret) false
  | .exit id=>dY l st lp (some (.exit id)) false
  | .panic v=>some (.WR v st)
 |_=>none
def kA (l:Nat):Out->Option CR
 | .one r=>match r.fr.defers with
  | []=>iM l r.ex r.st (r.st.heap.get l)
  |_=>none
 |_=>none
def iN (ev:Ev) (l:Nat) (body:Code) (fr:Fr) (T:Tr AV) (s:St):Option Cw->Option CR
 |some (.loop lp)=>match lp.state with
  | .ready=>kA l (ev body fr T (s.put l (some (.loop {lp with state:= .busy}))))
  |_=>none
 |_=>none
def bL (ev:Ev) (l:Nat) (body:Code):Out->Option CR
 | .one ⟨.normal,fr,T,s⟩=>iN ev l body fr T s (s.heap.get l)
 |_=>none
def nr (ev:Ev) (l:Nat) (args:List AV) (s:St):Option Cw->Option CR
 |some (.loop lp)=>(a9 lp.nt lp.params args lp.tmps).bind fun T=>
  bL ev l lp.body (ev lp.assign {nt:=lp.nt,defers:=[],WR:=none,round:=some l} T s)
 |_=>none
def nu (ev:Ev) (l:Nat) (args:List AV) (s:St):Option CR:=nr ev l args s (s.heap.get l)
def Yi (ev:Ev) (args:List AV) (s:St):AV->Option CR
 | .func (.func f) first captured=>bif C7 E f then WA E ev f (first++args++captured) s else none
 | .func (.yield l) [] []=>nu ev l args s
 | .func (.method name) first []=>match first++args with
  |r::args=>(gW E s name args r).bind fun p=>WA E ev p.1 p.2 s
  | []=>none
 |_=>none
def yw:Option Nat->Nat->AV->Tr AV->Option (Tr AV)
 |some d,nt,v,T=>bif Nat.blt d nt then some (Tr.dz (some v) (pathOf d) T)else none
 |none,_,_,T=>some T
def X0 (k:AV->Out):Option AV->Out
 |some v=>k v
 |none=> .stuck
def nv (k:AV->St->Out):Option (AV×St)->Out
 |some p=>k p.1 p.2
 |none=> .stuck
def mc (s:St) (k:AV->St->Out):Option Mk->Out
 |some (.val v)=>k v s
 |some (.obj o g)=>k (g s.next) (s.alloc o)
 |none=> .stuck
def Xy (fr:Fr) (T:Tr AV) (s:St) (k:AV->St->Out):Option CR->Out
 |some (.same v)=>k v s
 |some (.val v s)=>k v s
 |some (.WR v s)=> .one ⟨.panic v,fr,T,s⟩
 |none=> .stuck
def Out.app:Out->Out->Out
 | .one r,.one r'=> .many [r,r']
 | .one r,.many l'=> .many (r::l')
 | .many r,.one r'=> .many (r++[r'])
 | .many r,.many l'=> .many (r++l')
 |_,_=> .stuck
def Ya (k:AV->St->Out):List (AV×St)->Out
 | []=> .stuck
 |p::l=>match l with
  | []=>k p.1 p.2
  |_::_=>Out.app (k p.1 p.2) (Ya k l)
def oL (s:St):List AV->List (AV×St)
 | []=>[]
 |v::l=>(v,s)::oL s l
def ZJ (k:AV->St->Out):Option (List (AV×St))->Out
 |some l=>Ya k l
 |none=> .stuck
def kD (fr:Fr) (k:Fr->AV->Out):Out:=
 match fr.round with
 |some _=> .stuck
 |none=>match fr.WR with
  |some v=>k {fr with WR:=none} v
  |none=>k fr .CP
def hY (fr:Fr) (k:Fr->AV->Out):Option fD->Out
 |some d=>match fr.round with
  |none=>k {fr with defers:=d::fr.defers} (.tuple [])
  |some _=> .stuck
 |none=> .stuck
structure Cl where
 run:Ev->tU
abbrev K:=Ev->Fr->Tr AV->AV->St->Out
structure oM where
 run:K
def YS (dst:Option Nat) (k:Cl):oM:=
 match dst with
 |some d=>⟨fun ev fr T v s=>bif Nat.blt d fr.nt then k.run ev fr (Tr.dz (some v) (pathOf d) T) s else .stuck⟩
 |none=>⟨fun ev fr T _ s=>k.run ev fr T s⟩
def Xd (so:bf) (k:oM):Cl:=
 match so with
 | .bad=>⟨fun _ _ _ _=> .stuck⟩
 | .make f=>⟨fun ev fr T s=>mc s (k.run ev fr T) (f T)⟩
 | .pure f=>⟨fun ev fr T s=>X0 (fun v=>k.run ev fr T v s) (f T)⟩
 | .read _ f=>⟨fun ev fr T s=>X0 (fun v=>k.run ev fr T v s) (f T s)⟩
 | .look f=>⟨fun ev fr T s=>X0 (fun v=>k.run ev fr T v s) (f T s)⟩
 | .act _ _ f=>⟨fun ev fr T s=>nv (k.run ev fr T) (f T s)⟩
 | .pick f=>⟨fun ev fr T s=>ZJ (k.run ev fr T) ((f T).bind fun l=>some (oL s l))⟩
 | .lO f=>⟨fun ev fr T s=>ZJ (k.run ev fr T) (f T s)⟩
 | .call f=>⟨fun ev fr T s=>Xy fr T s (k.run ev fr T) ((f T s).bind fun p=>WA E ev p.1 p.2 s)⟩
 | .ah f a=>⟨fun ev fr T s=>Xy fr T s (k.run ev fr T) ((f T).bind fun g=>(a T).bind fun args=>Yi E ev args s g)⟩
 | .defer f=>⟨fun ev fr T s=>hY fr (fun fr v=>k.run ev fr T v s) (f T)⟩
 | .panic f=>⟨fun _ fr T s=>X0 (fun v=> .one ⟨.panic v,fr,T,s⟩) (f T)⟩
 | .recover=>⟨fun ev fr T s=>kD fr fun fr v=>k.run ev fr T v s⟩
def aK (ops:List Oper) (j:Nat):Option Path:=
 (nth ops j).bind fun o=>o.dst.bind fun d=>some (pathOf d)
def cN (want:Bool):Option AV->Option Bool
 |some (.bool b)=>some (bif want then b else !b)
 |some .any=>none
 |some _=>some false
 |none=>none
def WN (ops:List Oper) (g:Nat×Bool):Tr AV->Option Bool:=
 match aK ops g.1 with
 |some p=>fun T=>cN g.2 (Tr.ff p T)
 |none=>fun _=>some false
def cp (a b:Unit->Out):Option Bool->Out
 |some t=>bif t then a ()else b ()
 |none=> .stuck
def guarded (ops:List Oper) (g:Option (Nat×Bool)) (step:Cl) (k:oM):Cl:=
 match g with
 |none=>step
 |some g=>⟨fun ev fr T s=>cp (fun _=>step.run ev fr T s) (fun _=>k.run ev fr T (.tuple []) s) (WN ops g T)⟩
def Zv (ops:List Oper) (o:Oper) (k:oM):Cl:=guarded ops o.guard (Xd E (Xz E o.type o.op) k) k
def qU:Cl:=⟨fun _ fr T s=> .one ⟨.normal,fr,T,s⟩⟩
def al (ops:List Oper):List Oper->Cl
 | []=>qU
 |o::rest=>Zv E ops o (YS o.dst (al ops rest))
abbrev Wu:=List (Nat×Nat)
inductive Touch where
 |nothing
 |block (b:Nat)
 |all
abbrev ZV:=List (Nat×Touch×(Nat->Option Cw->Bool))
structure jL where
 o:Oper
 so:bf
 i:Nat
 Wf:Nat
 tmps:List Nat
structure aW where
 T:Tr AV
 st:St
 news:Wu
 looked:ZV
def ZA:Option AV->Option Nat
 |some (.ptr b _)=>some b
 |some (.slice b _ _ _ _)=>some b
 |some (.map b)=>some b
 |_=>none
def dZ:Option Nat->Touch
 |some b=> .block b
 |none=> .nothing
def Xh (so:bf) (T:Tr AV):Touch:=
 match so with
 | .pure _=> .nothing
 | .pick _=> .nothing
 | .make _=> .nothing
 | .read x _=>dZ (ZA (x T))
 | .act true x _=>dZ (ZA (x T))
 |_=> .all
def Yb:bf->Bool
 | .defer _=>false
 | .recover=>false
 |_=>true
def fg (b:Nat):Touch->Bool
 | .nothing=>false
 | .block c=>Nat.beq b c
 | .all=>true
def Yn (Wf b:Nat):Wu->Bool
 | []=>false
 |p::l=>bif Nat.beq p.2 b&& !(Nat.testBit Wf p.1)then true else Yn Wf b l
def cO (Wf:Nat):Wu->Tr Cw->Tr Cw
 | [],h=>h
 |p::l,h=>cO Wf l (bif Nat.testBit Wf p.1 then h else h.set p.2 none)
def Wv (Wf:Nat) (news:Wu) (h:Tr Cw):Touch->Tr Cw
 | .nothing=> .nil
 | .block b=>bif Yn Wf b news then .nil else Tr.set .nil b (h.get b)
 | .all=>cO Wf news h
def XF (T:Tr AV):List Nat->Tr AV->Tr AV
 | [],t=>t
 |i::l,t=>XF T l (t.set i (T.get i))
def aL (v:AV):Tr AV:= .node .nil (some v) .nil
def K0:oM:=⟨fun _ fr _ v s=> .one ⟨.normal,fr,aL v,s⟩⟩
def ZB (dH:Touch):Out->Option (Touch×AV×St)
 | .one ⟨.normal,_,.node .nil (some v) .nil,s⟩=>some (dH,v,s)
 |_=>none
def St.sub (s:St) (h:Tr Cw):St:= {next:=s.next,bound:=s.next,log:=[],heap:=h}
def Yj (ev:Ev) (fr:Fr) (d:jL) (q:aW) (T:Tr AV):Option (Touch×AV×St):=
 bif Yb d.so then ZB (Xh d.so T) ((Xd E d.so K0).run ev fr T (q.st.sub (Wv d.Wf q.news q.st.heap (Xh d.so T))))else none
def WO (ops:List Oper) (ev:Ev) (fr:Fr) (d:jL) (q:aW):Option (Touch×AV×St):=
 match d.o.guard with
 |none=>Yj E ev fr d q (XF q.T d.tmps .nil)
 |some g=>(WN ops g q.T).bind fun t=>bif t then Yj E ev fr d q (XF q.T d.tmps .nil)else some (.nothing,.tuple [],q.st.sub .nil)
def YO (b:Nat):Nat->List Nat
 |0=>[]
 |n+1=>b::YO (b+1) n
def W8 (h':Tr Cw):List Nat->Tr Cw->Tr Cw
 | [],h=>h
 |b::l,h=>W8 h' l (h.set b (h'.get b))
def Y4 (i:Nat) (news:Wu):List Nat->Wu
 | []=>news
 |b::l=>(i,b)::Y4 i news l
def aM (Wf b n:Nat) (o:Option Cw):ZV->Bool
 | []=>true
 |p::l=>bif Nat.testBit Wf p.1 then aM Wf b n o l else bif fg b p.2.1 then p.2.2 n o&&aM Wf b n o l else aM Wf b n o l
def XN (Wf next n:Nat) (h:Tr Cw) (q:aW):List Nat->Bool
 | []=>true
 |b::l=>Nat.blt b next&& !(Yn Wf b q.news)&&aM Wf b n (h.get b) q.looked&&XN Wf next n h q l
def eqU (a b:AV):Bool:=Zu a b||aJ a (some b)
def qh (v:AV):Option AV->Bool
 |some u=>eqU u v
 |none=>false
def hZ (d:jL) (q:aW) (r:Touch×AV×St):Nat->Option Cw->Bool:=
 match d.so,r.1 with
 | .read _ f,.block b=>fun n o=>qh r.2.1 (f (XF q.T d.tmps .nil) {next:=n,bound:=n,log:=[],heap:=Tr.set .nil b o})&&Cr q.st.next 40 r.2.1
 |_,_=>fun _ _=>false
def W0 (nt:Nat) (d:jL) (q:aW) (r:Touch×AV×St):Option aW:=
 bif Nat.ble q.st.next r.2.2.next&&XN d.Wf q.st.next r.2.2.next r.2.2.heap q r.2.2.log then
  (yw d.o.dst nt r.2.1 q.T).bind fun T=>
   some {T,st:= {next:=r.2.2.next,bound:=q.st.bound,log:=below q.st.bound r.2.2.log q.st.log,heap:=W8 r.2.2.heap (YO q.st.next (r.2.2.next-q.st.next)) (W8 r.2.2.heap r.2.2.log q.st.heap)},news:=Y4 d.i (Y4 d.i q.news (YO q.st.next (r.2.2.next-q.st.next))) r.2.2.log,looked:=(d.i,r.1,hZ d q r)::q.looked}
 else none
def eR (ops:List Oper) (ev:Ev) (fr:Fr):List jL->aW->Option aW
 | [],q=>some q
 |d::l,q=>(WO E ops ev fr d q).bind fun r=>(W0 fr.nt d q r).bind fun q'=>eR ops ev fr l q'
def cQ:Out->Option (AV×St)
 | .one ⟨.panic v,_,_,s⟩=>some (v,s)
 |_=>none
def mf (ev:Ev) (fr:Fr) (d:jL) (q:aW) (T:Tr AV):Option (AV×St):=
 match d.so with
 | .call _=>cQ ((Xd E d.so K0).run ev fr T (q.st.sub (Wv d.Wf q.news q.st.heap .all)))
 | .ah _ _=>cQ ((Xd E d.so K0).run ev fr T (q.st.sub (Wv d.Wf q.news q.st.heap .all)))
 |_=>none
def cR (ops:List Oper) (ev:Ev) (fr:Fr) (d:jL) (q:aW):Option (AV×St):=
 match d.o.guard with
 |none=>mf E ev fr d q (XF q.T d.tmps .nil)
 |some g=>(WN ops g q.T).bind fun t=>bif t then mf E ev fr d q (XF q.T d.tmps .nil)else none
def tW:List Nat->Bool
 | []=>true
 |_::_=>false
def br (ops:List Oper) (ev:Ev) (fr:Fr) (p:Nat):List jL->aW->Option aW
 | [],q=>some q
 |d::l,q=>bif Nat.testBit d.Wf p then(W0 fr.nt d q (.nothing,.tuple [],q.st.sub .nil)).bind fun q'=>br ops ev fr p l q'
  else(WO E ops ev fr d q).bind fun r=>bif Nat.beq r.2.2.next q.st.next&&tW r.2.2.log then(W0 fr.nt d q r).bind fun q'=>br ops ev fr p l q' else none
def cS (Wf:Nat):Wu->Bool
 | []=>true
 |p::l=>Nat.testBit Wf p.1&&cS Wf l
def YP:List Oper->Tr AV->Tr AV
 | [],T=>T
 |o::l,T=>match o.dst with
  |some d=>YP l (Tr.dz none (pathOf d) T)
  |none=>YP l T
def tX (fr:Fr) (T:Tr AV) (v:AV):Option aW->Out
 |some q=> .one ⟨.panic v,fr,T,q.st⟩
 |none=> .stuck
def kE (ops:List Oper) (ev:Ev) (fr:Fr) (T0:Tr AV) (d:jL) (l:List jL) (q:aW):Option (AV×St)->Out
 |some p=>bif cS d.Wf q.news then tX fr (YP ops T0) p.1 ((W0 fr.nt d q (.all,.tuple [],p.2)).bind (br E ops ev fr d.i l))else .stuck
 |none=> .stuck
def Zg (ops:List Oper) (ev:Ev) (fr:Fr) (T0:Tr AV):List jL->aW->Out
 | [],q=> .one ⟨.normal,fr,q.T,q.st⟩
 |d::l,q=>match WO E ops ev fr d q with
  |some r=>match W0 fr.nt d q r with
   |some q'=>Zg ops ev fr T0 l q'
   |none=> .stuck
  |none=>kE E ops ev fr T0 d l q (cR E ops ev fr d q)
def Wg (ops:List Oper):List Nat:=(Region.before ops.toArray).toList
def tmpsOf:List Operand->List Nat
 | []=>[]
 | .tmp t::l=>t::tmpsOf l
 |_::l=>tmpsOf l
def Yu (bs:List Nat):List Oper->Nat->List jL
 | [],_=>[]
 |o::l,i=> {o,so:=Xz E o.type o.op,i,Wf:=(nth bs i).getD 0,tmps:=tmpsOf o.op.operands.toList}::Yu bs l (i+1)
def jm (t:Nat) (o:Oper):Bool:=match o.dst with
 |some d=>Nat.beq d t
 |none=>false
def iO (bs:List Nat) (i Wf t:Nat):List Oper->Nat->Bool
 | [],_=>true
 |o::l,j=>(Nat.beq i j|| !(jm t o)||Nat.testBit Wf j||Nat.testBit ((nth bs j).getD 0) i)&&iO bs i Wf t l (j+1)
def jM (ops:List Oper) (bs:List Nat) (i Wf:Nat):List Nat->Bool
 | []=>true
 |t::l=>iO bs i Wf t ops 0&&jM ops bs i Wf l
def mg (d:Nat):List Oper->Bool
 | []=>true
 |o::l=> !(jm d o)&&mg d l
def aA (i:Nat):List Edge->Bool
 | []=>true
 |e::l=>(match e.ground with| .gcOnly _=>true|_=>Nat.blt e.on i)&&aA i l
def fL:List Edge->Bool
 | []=>false
 |e::l=>match e.ground with| .gcOnly _=>true|_=>fL l
def kF:List Oper->Bool
 | []=>false
 |o::l=>bif fL o.after.toList then true else kF l
def mh (i:Nat):List Nat->Nat
 | []=>0
 |a::l=>bif Nat.beq a i then 0 else mh i l+1
def ia (n:Nat) (iP:List Nat) (i:Nat):List Edge->Bool
 | []=>true
 |e::l=>(!(Region.binds .gc e)||(Nat.blt e.on n&&Nat.blt (mh e.on iP) (mh i iP)))&&ia n iP i l
def oN (n:Nat) (iP:List Nat):List Oper->Nat->Bool
 | [],_=>true
 |o::l,i=>ia n iP i o.after.toList&&oN n iP l (i+1)
def qj (ops:List Oper) (bs:List Nat) (i:Nat) (o:Oper) (rest:List Oper):Bool:=
 let Wf:=(nth bs i).getD 0
 jM ops bs i Wf (tmpsOf o.op.operands.toList)&&aA i o.after.toList&&
 (match o.dst with|some d=>mg d rest|none=>true)&&(match o.guard with|some (j,_)=>Nat.testBit Wf j|none=>true)
def ec (ops:List Oper) (bs:List Nat):List Oper->Nat->Bool
 | [],_=>true
 |o::l,i=>qj ops bs i o l&&ec ops bs l (i+1)
def Xb (ops:List Oper):Bool:=
 ec ops (Wg ops) ops 0&&bif kF ops then oN (WL ops) (Region.linearise .gc ops.toArray 0) ops 0 else true
def nz (ops:List Oper) (ds:List jL):Cl:=
 bif Xb ops then⟨fun ev fr T s=>Zg E ops ev fr T ds {T,st:=s,news:=[],looked:=[]}⟩else⟨fun _ _ _ _=> .stuck⟩
def n7 (ops:List Oper) (draw:Bool):Cl:=
 bif draw then nz E ops (Yu E (Wg ops) ops 0)else al E ops ops
def eT (a b:tU) (fr:Fr) (T:Tr AV) (s:St):Option AV->Out
 |some (.bool t)=>bif t then a fr T s else b fr T s
 |_=> .stuck
def lu (k:tU) (r:bO):Out:=
 match r.ex with
 | .normal=>k r.fr r.T r.st
 |_=> .one r
def ef (id:Nat) (r:bO):Out:=
 match r.ex with
 | .exit i=>bif Nat.beq i id then .one ⟨.normal,r.fr,r.T,r.st⟩else .one r
 |_=> .one r
def cq (fr:Fr) (T:Tr AV) (s:St):Option Code->Out
 |none=> .one ⟨.normal,fr,T,s⟩
 |some .ret=> .one ⟨.ret,fr,T,s⟩
 |some (.exit id)=> .one ⟨.exit id,fr,T,s⟩
 |some _=> .stuck
def Y5 (l:Nat) (fr:Fr) (T:Tr AV) (s:St):Option Cw->Out
 |some (.loop lp)=>match lp.state with
  | .busy=> .stuck
  |_=>cq fr T (s.put l (some (.loop {lp with state:= .exhausted}))) lp.pending
 |_=> .stuck
def iQ (ev:Ev) (params:List Nat) (assign body:Code) (fr:Fr) (T:Tr AV) (s:St):AV->Out
 | .func (.func g) first captured=>match fr.round with
  |none=>
   let s1:=s.alloc (.defs true)
   let s2:=s1.alloc (.loop {state:= .ready,pending:=none,fn:=0,nt:=fr.nt,tmps:=T,params,assign,body})
   let Yf:Fr:= {fr with defers:= {target:= .collected s.next,args:=[]}::fr.defers}
   bif C7 E g then Xy Yf T s2 (fun _ s3=>Y5 s1.next Yf T s3 (s3.heap.get s1.next)) (WA E ev g (first++[.func (.yield s1.next) [] []]++captured) s2)else .stuck
  |some _=> .stuck
 |_=> .stuck
def ct (ev:Ev) (params:List Nat) (assign body:Code) (fr:Fr) (T:Tr AV) (s:St):Option AV->Out
 |some v=>iQ E ev params assign body fr T s v
 |none=> .stuck
def XO:Code->Cl
 | .skip=>qU
 | .label _=>qU
 | .region _ ops draw=>n7 E ops.toList draw
 | .seq a b=>let ka:=XO a;let kb:=XO b
  ⟨fun ev fr T s=>(ka.run ev fr T s).then (lu (kb.run ev))⟩
 | .cond x a b=>let ka:=XO a;let kb:=XO b
  ⟨fun ev fr T s=>eT (ka.run ev) (kb.run ev) fr T s (Cg E x T)⟩
 | .block id body=>let k:=XO body
  ⟨fun ev fr T s=>(k.run ev fr T s).then (ef id)⟩
 | .loop body=>let k:=XO body
  ⟨fun ev fr T s=>(k.run ev fr T s).then (lu (ev (.loop body)))⟩
 | .scope body=>XO body
 | .exit id=>⟨fun _ fr T s=> .one ⟨.exit id,fr,T,s⟩⟩
 | .ret=>⟨fun _ fr T s=> .one ⟨.ret,fr,T,s⟩⟩
 | .rangeFunc f params assign body=>⟨fun ev fr T s=>ct E ev params.toList assign body fr T s (Cg E f T)⟩
 | .goto _=>⟨fun _ _ _ _=> .stuck⟩
 | .refuse _=>⟨fun _ _ _ _=> .stuck⟩
def ev (n:Nat):Ev:=Nat.rec (fun _ _ _ _=> .stuck) (fun _ ih c=>(XO E c).run ih) n
def call (n:Nat) (f:FuncId) (args:List AV) (s:St):Option CR:=WA E (ev E n) f args s
end run
end
def Path.dec:Path->Nat
 | .here=>0
 | .mH p=>2*p.dec+1
 | .mI p=>2*p.dec+2
theorem He:∀(n k:Nat),k<=n->(gE n k).dec=k
 |0,k,h=>by
  have:k=0:=by omega
  subst this;rfl
 |n+1,k,h=>by
  unfold gE;cases hk:Nat.beq k 0 with
  |true=>
   have:=Qb hk;subst this;rfl
  |false=>
   have YM:k≠0:=Nat.ne_of_beq_eq_false hk;simp only[cond_false];cases ho:Nat.beq (k % 2) 1 with
   |true=>
    have:=Qb ho;simp only[cond_true,Path.dec,He n (k/2) (by omega)];omega
   |false=>
    have:=Nat.ne_of_beq_eq_false ho;simp only[cond_false,Path.dec,He n (k/2-1) (by omega)];omega
theorem RF {a b:Nat} (h:pathOf a=pathOf b):a=b:=by
 have ha:=He a a (Qj a);have hb:=He b b (Qj b);unfold pathOf at h;rw[<-ha,h,hb]
section tree
variable {α : Type}
@[simp] theorem tY (p:Path):Tr.ff p (.nil:Tr α)=none:=by cases p<;>rfl
@[simp] theorem getP_here (l r:Tr α) (v:Option α):Tr.ff .here (.node l v r)=v:=rfl
@[simp] theorem tZ (p:Path) (l r:Tr α) (v:Option α):Tr.ff (.mH p) (.node l v r)=Tr.ff p l:=rfl
@[simp] theorem ua (p:Path) (l r:Tr α) (v:Option α):Tr.ff (.mI p) (.node l v r)=Tr.ff p r:=rfl
@[simp] theorem xX (x:Option α):Tr.dz x .here (.nil:Tr α)= .node .nil x .nil:=rfl
@[simp] theorem setP_here (x v:Option α) (l r:Tr α):Tr.dz x .here (.node l v r)= .node l x r:=rfl
@[simp] theorem yx (x:Option α) (p:Path):Tr.dz x (.mH p) (.nil:Tr α)= .node (Tr.dz x p .nil) none .nil:=rfl
@[simp] theorem setP_lft (x v:Option α) (p:Path) (l r:Tr α):Tr.dz x (.mH p) (.node l v r)= .node (Tr.dz x p l) v r:=rfl
@[simp] theorem yy (x:Option α) (p:Path):Tr.dz x (.mI p) (.nil:Tr α)= .node .nil none (Tr.dz x p .nil):=rfl
@[simp] theorem setP_rgt (x v:Option α) (p:Path) (l r:Tr α):Tr.dz x (.mI p) (.node l v r)= .node l v (Tr.dz x p r):=rfl
theorem BC (x:Option α):∀(p:Path) (t:Tr α),Tr.ff p (Tr.dz x p t)=x
 | .here,.nil=>rfl
 | .here,.node _ _ _=>rfl
 | .mH p,.nil=>BC x p .nil
 | .mH p,.node l _ _=>BC x p l
 | .mI p,.nil=>BC x p .nil
 | .mI p,.node _ _ r=>BC x p r
theorem Dg (x:Option α):∀(p q:Path) (t:Tr α),p≠q->Tr.ff p (Tr.dz x q t)=Tr.ff p t
 | .here,.here,_,h=>absurd rfl h
 | .here,.mH _,.nil,_=>rfl
 | .here,.mH _,.node _ _ _,_=>rfl
 | .here,.mI _,.nil,_=>rfl
 | .here,.mI _,.node _ _ _,_=>rfl
 | .mH p,.here,.nil,_=>by simp
 | .mH _,.here,.node _ _ _,_=>rfl
 | .mH p,.mH q,.nil,h=>by simpa using Dg x p q .nil (fun e=>h (e▸rfl))
 | .mH p,.mH q,.node l _ _,h=>Dg x p q l (fun e=>h (e▸rfl))
 | .mH p,.mI q,.nil,_=>by simp
 | .mH _,.mI _,.node _ _ _,_=>rfl
 | .mI p,.here,.nil,_=>by simp
 | .mI _,.here,.node _ _ _,_=>rfl
 | .mI p,.mH q,.nil,_=>by simp
 | .mI _,.mH _,.node _ _ _,_=>rfl
 | .mI p,.mI q,.nil,h=>by simpa using Dg x p q .nil (fun e=>h (e▸rfl))
 | .mI p,.mI q,.node _ _ r,h=>Dg x p q r (fun e=>h (e▸rfl))
theorem NV (t:Tr α) (k:Nat) (x:Option α):(t.set k x).get k=x:=BC x _ t
theorem Su (t:Tr α) (j k:Nat) (x:Option α) (h:j≠k):(t.set k x).get j=t.get j:=
 Dg x _ _ t (fun e=>h (RF e))
theorem Ay (t:Tr α) (j k:Nat) (x:Option α):(t.set k x).get j=if j=k then x else t.get j:=by
 split
 .next h=>subst h;exact NV t j x
 .next h=>exact Su t j k x h
@[simp] theorem get_nil (k:Nat):(.nil:Tr α).get k=none:=tY _
end tree
section lists
variable {α β : Type}
@[simp] theorem Bl (l:List α):WL l=l.length:=by
 induction l with
 |nil=>rfl
 |cons a l ih=>show WL l+1=_;rw[ih];rfl
theorem HE {a:α} {o:Option (List α)} {r:List α} (h:fi a o=some r):∃l,o=some l/\r=a::l:=by
 cases o with
 |none=>cases h
 |some l=>exact⟨l,rfl,(Option.some.inj h).symm⟩
theorem BK:∀ {n:Nat} {l r:List α},takeN n l=some r->∃post,l=r++post/\r.length=n
 |0,l,r,h=>by
  obtain rfl: []=r:=Option.some.inj h;exact⟨l,U,U⟩
 |n+1,[],r,h=>by cases h
 |n+1,a::l,r,h=>by
  obtain⟨q,hq,rfl⟩:=HE (show fi a (takeN n l)=some r from h);obtain⟨post,rfl,hl⟩:=BK hq;exact⟨post,U,by simp[hl]⟩
theorem HS:∀(r post:List α),takeN r.length (r++post)=some r
 | [],_=>rfl
 |a::r,post=>by
  show fi a (takeN r.length (r++post))=_;rw[HS r post];rfl
theorem B8:∀ {n:Nat} {l r:List α},XK n l=some r->∃pre,l=pre++r/\pre.length=n
 |0,l,r,h=>⟨[],by simpa using Option.some.inj h,rfl⟩
 |n+1,[],r,h=>by cases h
 |n+1,a::l,r,h=>by
  obtain⟨pre,rfl,hl⟩:=B8 (show XK n l=some r from h);exact⟨a::pre,U,by simp[hl]⟩
theorem If:∀(pre r:List α),XK pre.length (pre++r)=some r
 | [],_=>rfl
 |_::pre,r=>If pre r
theorem GA:∀ {vs l r:List α},gF vs l=some r->∃iR post,l=iR++post/\iR.length=vs.length/\r=vs++post
 | [],l,r,h=>⟨[],l,rfl,rfl,(Option.some.inj h).symm⟩
 |v::vs,[],r,h=>by cases h
 |v::vs,a::l,r,h=>by
  obtain⟨q,hq,rfl⟩:=HE (show fi v (gF vs l)=some r from h);obtain⟨iR,post,rfl,hl,rfl⟩:=GA hq;exact⟨a::iR,post,U,by simp[hl],U⟩
theorem IS:∀ {k:Nat} {vs l r:List α},over vs k l=some r->
 ∃pre iR post,l=pre++iR++post/\pre.length=k/\iR.length=vs.length/\r=pre++vs++post
 |0,vs,l,r,h=>by
  obtain⟨iR,post,rfl,hl,rfl⟩:=GA (show gF vs l=some r from h);exact⟨[],iR,post,by simp,U,hl,by simp⟩
 |k+1,vs,[],r,h=>by cases h
 |k+1,vs,a::l,r,h=>by
  obtain⟨q,hq,rfl⟩:=HE (show fi a (over vs k l)=some r from h);obtain⟨pre,iR,post,rfl,hp,hm,rfl⟩:=IS hq;exact⟨a::pre,iR,post,by simp,by simp[hp],hm,by simp⟩
theorem DV:∀(l:List α) (n:Nat),nth l n=l[n]?
 | [],n=>by simp[nth]
 |a::l,0=>rfl
 |a::l,n+1=>by
  rw[List.getElem?_cons_succ];exact DV l n
theorem FJ {l r:List α} {lo n:Nat} (h:cut l lo n=some r):∃pre post,l=pre++r++post/\pre.length=lo/\r.length=n:=by
 unfold cut at h;obtain⟨q,hq,ht⟩:=Qa.1 h;obtain⟨pre,rfl,hp⟩:=B8 hq;obtain⟨post,rfl,hr⟩:=BK ht;exact⟨pre,post,by simp,hp,hr⟩
theorem Uo {f:α->Option β} {a:α} {l:List α} {r:List β} (h:lq f (a::l)=some r):
 ∃b bs,f a=some b/\lq f l=some bs/\r=b::bs:=by
 have h':tG (f a) (lq f l)=some r:=h;cases ha:f a with
 |none=>rw[ha]at h';cases hb:lq f l<;>rw[hb]at h'<;>cases h'
 |some b=>
  rw[ha]at h';cases hb:lq f l with
  |none=>rw[hb]at h';cases h'
  |some bs=>rw[hb]at h';exact⟨b,bs,rfl,rfl,(Option.some.inj h').symm⟩
end lists
section tables
variable {α : Type}
theorem Js:∀(l:List α) (k:Nat),(ZF l)[k]?=l[2*k]?
 | [],k=>by simp[ZF]
 | [a],k=>by cases k with
  |zero=>rfl
  |succ k=>simp[ZF]
 |a::b::l,0=>rfl
 |a::b::l,k+1=>by
  show(a::ZF l)[k+1]?=_;have h2:2*(k+1)=2*k+1+1:=by omega
  rw[h2];simpa using Js l k
theorem Fj (l:List α):(ZF l).length=(l.length+1)/2:=by
 match l with
 | []=>simp[ZF]
 | [a]=>simp[ZF]
 |a::b::l=>
  show(ZF l).length+1=_;rw[Fj l];simp;omega
theorem ub:∀(n:Nat) (l:List α) (k:Nat),l.length<=n->Tr.ff (gE k k) (jX n l)=l[k]?:=by
 have key:∀(n:Nat) (l:List α) (m k:Nat),l.length<=n->k<=m->Tr.ff (gE m k) (jX n l)=l[k]?:=by
  intro n;induction n with
  |zero=>
   intro l m k hl _;have:l=[]:=List.eq_nil_of_length_eq_zero (by omega);subst this;simp[jX]
  |succ n ih=>
   intro l m k hl hk;cases l with
   |nil=>simp[jX]
   |cons a l=>
    have ZC:l.length<=n:=by simpa using hl
    have h1:(ZF l).length<=n:=by rw[Fj];omega
    have h2:(ZF l.tail).length<=n:=by rw[Fj];simp;omega
    cases m with
    |zero=>
     have:k=0:=by omega
     subst this;rfl
    |succ m=>
     show Tr.ff (gE (m+1) k) (.node (jX n (ZF l)) (some a) (jX n (ZF l.tail)))=_;unfold gE;cases xY:Nat.beq k 0 with
     |true=>
      have:=Qb xY;subst this;rfl
     |false=>
      have YM:k≠0:=Nat.ne_of_beq_eq_false xY;simp only[cond_false];cases ho:Nat.beq (k % 2) 1 with
      |true=>
       have:=Qb ho;simp only[cond_true,tZ];rw[ih (ZF l) m (k/2) h1 (by omega),Js];have:k=2*(k/2)+1:=by omega
       conv=>rhs;rw[this]
       simp
      |false=>
       have:=Nat.ne_of_beq_eq_false ho;simp only[cond_false,ua];rw[ih (ZF l.tail) m (k/2-1) h2 (by omega),Js];have:k=2*(k/2-1)+1+1:=by omega
       conv=>rhs;rw[this]
       cases l<;>simp
 exact fun n l k hl=>key n l k k hl (Qj k)
theorem EN (n:Nat) (l:List α) (k:Nat) (hl:l.length<=n):(jX n l).get k=l[k]?:=ub n l k hl
end tables
structure Pl where
 Ci:Nat
 base:Nat
 size:Nat
structure Cx where
 pl:Nat->Pl
 M:Nat->Option (List Value)
 D:Nat->Prop
 gh:Nat->Nat->Nat
 G:Nat->Nat->Prop
 X:Nat->Prop
def tk (C:Cx) (a:Option Addr):Prop:=∀ad,a=some ad->C.X ad.block
def Cx.bare (C:Cx):Cx:= {C with D:=fun _=>False,G:=fun _ _=>False}
def Y6 {α:Type} (ms:List α) (off:Nat) (vs:List α):Prop:=∃pre post,ms=pre++vs++post/\pre.length=off
def oO (C:Cx) (b off sz:Nat):Option Nat->Nat->Prop
 |some n,c=>c=n/\0<n
 |none,c=>(C.pl b).base+off+c*sz=(C.pl b).size/\0<sz
def Cells (cs:List AV):Prop:=∀v∈cs,v.dL=true
mutual
inductive VR:Cx->AV->Value->Prop where
 |bool {C:Cx} (b:Bool):VR C (.bool b) (.bool b)
 |int {C:Cx} (k:IntKind) (n:Int):VR C (.int k n) (.int k n)
 |str {C:Cx} {l:List UInt8} {s:ByteArray} (h:s.data.toList=l):VR C (.str l) (.string s)
 |CU {C:Cx}:VR C .CU (.pointer none)
 |ptr {C:Cx} {b off:Nat} (h:C.D b):VR C (.ptr b off) (.pointer (some ⟨(C.pl b).Ci,(C.pl b).base+off,none⟩))
 |Wl {C:Cx} {Ci off:Nat} {cs:List AV} {ms vs:List Value} (hm:C.M Ci=some ms) (ha:Y6 ms off vs) (hv:Wc C cs vs) (Wt:Cells cs):
  VR C (.Wl cs) (.pointer (some ⟨Ci,off,none⟩))
 |Ca {C:Cx} (a:Option Addr) (hx:tk C a):VR C .Ca (.slice a 0 0)
 |slice {C:Cx} {b off len sz:Nat} {cap:Option Nat} {c:Nat} (h:C.D b) (hc:oO C b off sz cap c) (YK:len<=c):
  VR C (.slice b off len sz cap) (.slice (some ⟨(C.pl b).Ci,(C.pl b).base+off,none⟩) len c)
 |X1 {C:Cx} {b off sz:Nat} {a:Addr} {c:Nat} (hx:C.X a.block) (h:C.D b) (hc:c=0\/(a=⟨(C.pl b).Ci,(C.pl b).base+off,none⟩/\(C.pl b).base+off+c*sz=(C.pl b).size/\0<sz)):
  VR C (.slice b off 0 sz (some 0)) (.slice (some a) 0 c)
 |W1 {C:Cx} {sz:Nat} {cl:Bool} {len c:Nat} (a:Option Addr) (h:len*sz=0) (YK:len<=c):VR C (.Cf [] len sz cl) (.slice a len c)
 |Cf {C:Cx} {Ci off len sz c:Nat} {cl:Bool} {cs:List AV} {ms vs:List Value} (hl:cs.length=len*sz) (hm:C.M Ci=some ms) (ha:Y6 ms off vs)
  (hv:Wc C cs vs) (hc:cl=true->Wc C.bare cs vs) (Wt:Cells cs) (YK:len<=c):VR C (.Cf cs len sz cl) (.slice (some ⟨Ci,off,none⟩) len c)
 |WI {C:Cx}:VR C .WI (.map none)
 |map {C:Cx} {b:Nat} (h:C.D b):VR C (.map b) (.map (some (C.pl b).Ci))
 |dK {C:Cx} {b n:Nat} (h:C.G b n):VR C (.dK b n) (.int .i64 (C.gh b n))
 |bE {C:Cx} (p:Option Addr):VR C .bE (.pointer p)
 |any {C:Cx} (x:Value) (h:x.cells= #[x]/\x.oneCell'=true):VR C .any x
 |func {C:Cx} {fn:Fn} {a b:List AV} {x y:Array Value} (hf:∀l,fn≠ .yield l) (ha:Wc C a x.toList) (hb:Wc C b y.toList):VR C (.func fn a b) (.func fn x y)
 |yield {C:Cx} {l:Nat} (h:C.D l):VR C (.func (.yield l) [] []) (.func (.yield (C.pl l).Ci) #[] #[])
 |WE {C:Cx}:VR C .WE .nilFunc
 |iface {C:Cx} {t:TypeId} {v:AV} {x:Value} (h:VR C v x):VR C (.iface t v) (.iface t x)
 |CP {C:Cx}:VR C .CP .nilIface
 |agg {C:Cx} {cs:List AV} {x:Array Value} (h:Wc C cs x.toList) (Wt:Cells cs):VR C (.agg cs) (.agg x)
 |tuple {C:Cx} {cs:List AV} {x:Array Value} (h:Wc C cs x.toList):VR C (.tuple cs) (.tuple x)
inductive Wc:Cx->List AV->List Value->Prop where
 |nil {C:Cx}:Wc C [] []
 |cons {C:Cx} {v:AV} {x:Value} {vs:List AV} {xs:List Value} (h:VR C v x) (t:Wc C vs xs):Wc C (v::vs) (x::xs)
end
structure Ext (C C':Cx):Prop where
 D:∀b,C.D b->C'.D b
 pl:∀b,C.D b->C'.pl b=C.pl b
 M:∀b ms,C.M b=some ms->C'.M b=some ms
 G:∀b n,C.G b n->C'.G b n
 gh:∀b n,C.G b n->C'.gh b n=C.gh b n
 X:∀b,C.X b->C'.X b
theorem Ext.refl (C:Cx):Ext C C:=⟨fun _ h=>h,fun _ _=>rfl,fun _ _ h=>h,fun _ _ h=>h,fun _ _ _=>rfl,fun _ h=>h⟩
theorem Ext.trans {A B C:Cx} (h:Ext A B) (g:Ext B C):Ext A C:=
 ⟨fun b x=>g.D b (h.D b x),fun b x=>(g.pl b (h.D b x)).trans (h.pl b x),fun b ms x=>g.M b ms (h.M b ms x),fun b n x=>g.G b n (h.G b n x),
  fun b n x=>(g.gh b n (h.G b n x)).trans (h.gh b n x),fun b x=>g.X b (h.X b x)⟩
theorem Ext.bare {C C':Cx} (h:Ext C C'):Ext C.bare C'.bare:=⟨fun _ x=>x.elim,fun _ x=>x.elim,h.M,fun _ _ x=>x.elim,fun _ _ x=>x.elim,h.X⟩
theorem Ext.n8 (C:Cx):Ext C.bare C:=⟨fun _ x=>x.elim,fun _ x=>x.elim,fun _ _ h=>h,fun _ _ x=>x.elim,fun _ _ x=>x.elim,fun _ h=>h⟩
theorem tk.mono {C C':Cx} (e:Ext C C') {a:Option Addr} (h:tk C a):tk C' a:=fun ad x=>e.X _ (h ad x)
theorem tk.none {C:Cx}:tk C none:=fun _ x=>by cases x
theorem tk.some {C:Cx} {a:Addr} (h:C.X a.block):tk C (some a):=fun _ x=>by cases x;exact h
mutual
theorem VR.mono {C C':Cx} (e:Ext C C'):∀ {v:AV} {x:Value},VR C v x->VR C' v x
 |_,_,.bool b=> .bool b
 |_,_,.int k n=> .int k n
 |_,_,.str h=> .str h
 |_,_,.CU=> .CU
 |_,_,.ptr (b:=b) (off:=off) h=>by rw[<-e.pl b h];exact .ptr (e.D _ h)
 |_,_,.Wl hm ha hv Wt=> .Wl (e.M _ _ hm) ha (Wc.mono e hv) Wt
 |_,_,.Ca a hx=> .Ca a (hx.mono e)
 |_,_,.slice (b:=b) (cap:=cap) h hc YK=>by
  rw[<-e.pl b h];refine .slice (e.D _ h) ?_ YK;cases cap with
  |some n=>exact hc
  |none=>simpa[oO,e.pl b h]using hc
 |_,_,.X1 (b:=b) hx h hc=> .X1 (e.X _ hx) (e.D _ h) (by rw[e.pl b h];exact hc)
 |_,_,.W1 a h YK=> .W1 a h YK
 |_,_,.Cf hl hm ha hv hc Wt YK=> .Cf hl (e.M _ _ hm) ha (Wc.mono e hv) (fun x=>Wc.mono e.bare (hc x)) Wt YK
 |_,_,.WI=> .WI
 |_,_,.map (b:=b) h=>by rw[<-e.pl b h];exact .map (e.D _ h)
 |_,_,.dK (b:=b) (n:=n) h=>by rw[<-e.gh b n h];exact .dK (e.G _ _ h)
 |_,_,.bE p=> .bE p
 |_,_,.any x h=> .any x h
 |_,_,.func hf ha hb=> .func hf (Wc.mono e ha) (Wc.mono e hb)
 |_,_,.yield (l:=l) h=>by rw[<-e.pl l h];exact .yield (e.D _ h)
 |_,_,.WE=> .WE
 |_,_,.iface h=> .iface (VR.mono e h)
 |_,_,.CP=> .CP
 |_,_,.agg h Wt=> .agg (Wc.mono e h) Wt
 |_,_,.tuple h=> .tuple (Wc.mono e h)
theorem Wc.mono {C C':Cx} (e:Ext C C'):∀ {v:List AV} {x:List Value},Wc C v x->Wc C' v x
 |_,_,.nil=> .nil
 |_,_,.cons h t=> .cons (VR.mono e h) (Wc.mono e t)
end
theorem Wc.length {C:Cx}:∀ {v:List AV} {x:List Value},Wc C v x->x.length=v.length
 |_,_,.nil=>rfl
 |_,_,.cons _ t=>by simp[Wc.length t]
theorem Wc.append {C:Cx}:∀ {a:List AV} {x:List Value} {b:List AV} {y:List Value},Wc C a x->Wc C b y->Wc C (a++b) (x++y)
 |_,_,_,_,.nil,g=>g
 |_,_,_,_,.cons h t,g=> .cons h (Wc.append t g)
theorem AF {C:Cx}:∀ {a b:List AV} {x:List Value},Wc C (a++b) x->∃y z,x=y++z/\Wc C a y/\Wc C b z
 | [],_,x,h=>⟨[],x,rfl,.nil,h⟩
 |_::_,_,_,.cons h t=>by
  obtain⟨y,z,rfl,h1,h2⟩:=AF t;exact⟨_::y,z,U,.cons h h1,h2⟩
theorem Wc.get {C:Cx}:∀ {a:List AV} {x:List Value} {i:Nat} {v:AV},Wc C a x->a[i]?=some v->∃y,x[i]?=some y/\VR C v y
 |_,_,i,_,.nil,h=>by simp at h
 |_,_,0,_,.cons h _,e=>by grind
 |_,_,i+1,_,.cons _ t,e=>by
  obtain⟨y,hy,h⟩:=Wc.get t (by simpa using e);exact⟨y,by simpa using hy,h⟩
theorem Wc.one {C:Cx} {v:AV} {x:Value} (h:VR C v x):Wc C [v] [x]:= .cons h .nil
theorem Y6.iR {α:Type} {ms:List α} {off:Nat} {a b c:List α} (h:Y6 ms off (a++b++c)):Y6 ms (off+a.length) b:=by
 obtain⟨pre,post,rfl,rfl⟩:=h;exact⟨pre++a,c++post,by simp,by simp⟩
theorem Y6.left {α:Type} {ms:List α} {off:Nat} {a b:List α} (h:Y6 ms off (a++b)):Y6 ms off a:=by
 obtain⟨pre,post,rfl,rfl⟩:=h;exact⟨pre,b++post,by simp,U⟩
theorem Y6.right {α:Type} {ms:List α} {off:Nat} {a b:List α} (h:Y6 ms off (a++b)):Y6 ms (off+a.length) b:=by
 obtain⟨pre,post,rfl,rfl⟩:=h;exact⟨pre++a,post,by simp,by simp⟩
theorem Y6.get {α:Type} {ms:List α} {off:Nat} {vs:List α} (h:Y6 ms off vs) (i:Nat) (hi:i<vs.length):ms[off+i]?=vs[i]?:=by
 obtain⟨pre,post,rfl,rfl⟩:=h;rw[List.append_assoc,List.getElem?_append_right (by omega),List.getElem?_append_left (by omega)]
 congr 1;omega
theorem Y6.le {α:Type} {ms:List α} {off:Nat} {vs:List α} (h:Y6 ms off vs):off+vs.length<=ms.length:=by
 obtain⟨pre,post,rfl,rfl⟩:=h;simp
theorem Y6.whole {α:Type} (vs:List α):Y6 vs 0 vs:=⟨[],[],by simp,rfl⟩
theorem E9:∀(n:Nat) {C:Cx} {v:AV} {x:Value},VR C v x->Cj n v=true->VR C.bare v x:=by
 intro n;induction n with
 |zero=>intro C v x _ h;simp[Cj]at h
 |succ n ih=>
  have many:∀ {C:Cx} {l:List AV} {xs:List Value},Wc C l xs->l.all (Cj n)=true->Wc C.bare l xs:=by
   intro C l;induction l with
   |nil=>intro xs h _;cases h;exact .nil
   |cons a l il=>
    intro xs h hc;cases h with
    |cons h t=>
     simp only[List.all_cons,Qf]at hc;exact .cons (ih h hc.1) (il t hc.2)
  intro C v x h hc;cases h with
  |bool b=>exact .bool b
  |int k m=>exact .int k m
  |str h=>exact .str h
  |CU=>exact .CU
  |ptr h=>simp[Cj]at hc
  |Wl hm ha hv Wt=>exact .Wl hm ha (many hv (by simpa[Cj]using hc)) Wt
  |Ca a hx=>exact .Ca a hx
  |slice h ZK YK=>simp[Cj]at hc
  |X1 hx h ZK=>simp[Cj]at hc
  |W1 a h YK=>exact .W1 a h YK
  |Cf hl hm ha hv X7 Wt YK=>
   have:_=true:=(by simpa[Cj]using hc)
   exact .Cf hl hm ha (X7 this) (fun _=>X7 this) Wt YK
  |WI=>exact .WI
  |map h=>simp[Cj]at hc
  |dK h=>simp[Cj]at hc
  |bE p=>exact .bE p
  |any x h=>exact .any x h
  |func hf ha hb=>
   rename_i fn a b x y
   cases fn with
   |yield l=>exact absurd rfl (hf l)
   |func f=>simp only[Cj,Qf]at hc;exact .func hf (many ha hc.1) (many hb hc.2)
   |method m=>simp only[Cj,Qf]at hc;exact .func hf (many ha hc.1) (many hb hc.2)
   |methodOf t m=>simp only[Cj,Qf]at hc;exact .func hf (many ha hc.1) (many hb hc.2)
   |via t p f q=>simp only[Cj,Qf]at hc;exact .func hf (many ha hc.1) (many hb hc.2)
  |yield h=>simp[Cj]at hc
  |WE=>exact .WE
  |iface h=>exact .iface (ih h (by simpa[Cj]using hc))
  |CP=>exact .CP
  |agg h Wt=>exact .agg (many h (by simpa[Cj]using hc)) Wt
  |tuple h=>exact .tuple (many h (by simpa[Cj]using hc))
theorem B0 (n:Nat) {C:Cx}:∀ {l:List AV} {xs:List Value},Wc C l xs->l.all (Cj n)=true->Wc C.bare l xs
 |_,_,.nil,_=> .nil
 |_,_,.cons h t,hc=>by
  simp only[List.all_cons,Qf]at hc;exact .cons (E9 n h hc.1) (B0 n t hc.2)
def TR (C:Cx) (nt:Nat) (T:Tr AV) (a:Array Value):Prop:=
 a.size=nt/\∀i v,T.get i=some v->∃x,a[i]?=some x/\VR C v x
inductive W9 (C:Cx) (b:Nat):List Xk->List MapEntry->Prop where
 |nil:W9 C b [] []
 |cons {k v:AV} {n:Nat} {e:MapEntry} {l:List Xk} {es:List MapEntry} (hk:VR C k e.key) (hv:VR C v e.val) (hg:C.G b n) (hn:e.born=C.gh b n) (t:W9 C b l es):
  W9 C b ((k,v,n)::l) (e::es)
def yz (l:List Xk):Prop:=(∀e∈l,gN e.1=true)/\(l.map (·.1)).Nodup
inductive OR (C:Cx) (b:Nat):Cw->Obj->Prop where
 |cells {cs:List AV} {t:TypeId} {part:Bool} {c:Array Value} {fr:Nat×Nat} {vs:List Value} (hv:Wc C cs vs) (ha:Y6 c.toList (C.pl b).base vs) (hs:c.size=(C.pl b).size)
  (Wt:Cells cs) (hf:c.size<=fr.1\/fr.2<=fr.1) (hp:part=false->(C.pl b).base=0/\cs.length=c.size/\fr=(0,0)):OR C b (.cells cs t part) (.cells c t fr)
 |map {es:List Xk} {clock:Nat} {arr:Array MapEntry} {l:List MapEntry} (hp:l.Perm arr.toList) (h:W9 C b es l) (hk:yz es) (hn:(l.map (·.born)).Nodup)
  (hc:∀n,C.G b n->C.gh b n<clock) (hg:∀n,C.G b n->n<clock) (hi:∀n m,C.G b n->C.G b m->C.gh b n=C.gh b m->n=m):OR C b (.map es clock) (.map arr clock)
 |di {l:List UInt8} {s:ByteArray} {pos:Nat} (h:s.data.toList=l) (hb:(C.pl b).base=0):OR C b (.di l pos) (.stringIter s pos)
 |n9 {since Xa:Nat} {seen:List Nat} {arr:Array Nat} (hb:(C.pl b).base=0):OR C b (.af none since seen Xa) (.mapIter none since arr Xa)
 |af {m since Xa:Nat} {seen:List Nat} {arr:Array Nat} (hd:C.D m) (hg:∀n∈seen,C.G m n) (h:arr.toList=seen.map (C.gh m)) (hb:(C.pl b).base=0):
  OR C b (.af (some m) since seen Xa) (.mapIter (some (C.pl m).Ci) since arr Xa)
 |loop {lp:aY} {L:Loop} (hs:L.state=lp.state) (hp:L.pending=lp.pending) (ht:TR C lp.nt lp.tmps L.tmps) (nD:L.params.toList=lp.params)
  (ha:L.assign=lp.assign) (hb:L.body=lp.body):OR C b (.loop lp) (.loop L)
 |defs:OR C b (.defs true) (.deferred (some []))
 |qk:OR C b (.defs false) (.deferred none)
theorem TR.mono {C C':Cx} (e:Ext C C') {nt:Nat} {T:Tr AV} {a:Array Value} (h:TR C nt T a):TR C' nt T a:=
 ⟨h.1,fun i v hi=>let⟨x,hx,hv⟩:=h.2 i v hi;⟨x,hx,hv.mono e⟩⟩
theorem W9.mono {C C':Cx} (e:Ext C C') {b:Nat} {l:List Xk} {es:List MapEntry} (h:W9 C b l es):W9 C' b l es:=by
 induction h with
 |nil=>exact .nil
 |cons hk hv hg hn _ ih=>exact .cons (hk.mono e) (hv.mono e) (e.G _ _ hg) (hn.trans (e.gh _ _ hg).symm) ih
theorem OR.mono {C C':Cx} (e:Ext C C') {b:Nat} {o:Cw} {x:Obj} (hd:C.D b) (hg:∀n,C'.G b n->C.G b n) (h:OR C b o x):OR C' b o x:=by
 have XV:=e.pl b hd;cases h with
 |cells hv ha hs Wt hf hp=>exact .cells (hv.mono e) (by rw[XV];exact ha) (by rw[XV];exact hs) Wt hf (by rw[XV];exact hp)
 |map hp h hk hn hc eU hi=>exact .map hp (h.mono e) hk hn (fun n hn=>by rw[e.gh _ _ (hg n hn)];exact hc n (hg n hn)) (fun n hn=>eU n (hg n hn)) (fun n m h1 h2 he=>hi n m (hg n h1) (hg m h2) (by rw[<-e.gh _ _ (hg n h1),<-e.gh _ _ (hg m h2)];exact he))
 |di h hb=>exact .di h (by rw[XV];exact hb)
 |n9 hb=>exact .n9 (by rw[XV];exact hb)
 |af hd hg h hb=>
  rw[<-e.pl _ hd];refine .af (e.D _ hd) (fun n hn=>e.G _ _ (hg n hn)) (h.trans ?_) (by rw[XV];exact hb);exact List.map_congr_left fun n hn=>(e.gh _ _ (hg n hn)).symm
 |loop hs hp ht nD ha hb=>exact .loop hs hp (ht.mono e) nD ha hb
 |defs=>exact .defs
 |qk=>exact .qk
structure W2 (C:Cx) (S:St) (w:World):Prop where
 live:∀b o,S.heap.get b=some o->C.D b/\∃x,w.heap[(C.pl b).Ci]?=some x/\OR C b o x
 inj:∀b b' o o',S.heap.get b=some o->S.heap.get b'=some o'->(C.pl b).Ci=(C.pl b').Ci->b=b'
 fresh:∀b,C.D b->b<S.next
 kG:∀Ci ms,C.M Ci=some ms->∃c e fr,w.heap[Ci]?=some (.cells c e fr)/\c.toList=ms
 apart:∀b o,S.heap.get b=some o->C.M (C.pl b).Ci=none
 stamps:∀b n,C.G b n->C.D b
 there:∀k,C.X k->k<w.heap.size
 WS:∀b,C.D b->C.X (C.pl b).Ci
 XP:∀Ci ms,C.M Ci=some ms->C.X Ci
def aq (S:St) (log:List Nat) (b:Nat):Prop:=b∈log\/S.bound<=b
structure Cu (C:Cx) (S:St) (w:World) (C':Cx) (S':St) (w':World):Prop where
 ext:Ext C C'
 st:W2 C' S' w'
 bound:S'.bound=S.bound
 log:∀b∈S.log,b∈S'.log
 next:S.next<=S'.next
 size:w.heap.size<=w'.heap.size
 frame:∀Ci,Ci<w.heap.size->(∀b o,S.heap.get b=some o->aq S S'.log b->(C.pl b).Ci≠Ci)->w'.heap[Ci]?=w.heap[Ci]?
 kept:∀b,C.D b->¬aq S S'.log b->S'.heap.get b=S.heap.get b/\∀n,C'.G b n->C.G b n
 iS:∀b,C'.D b->C.D b\/S.next<=b
 own:∀b o,S'.heap.get b=some o->(C.D b/\∃o0,S.heap.get b=some o0)\/w.heap.size<=(C'.pl b).Ci\/
  ∃b0 o0,S.heap.get b0=some o0/\aq S S'.log b0/\(C.pl b0).Ci=(C'.pl b).Ci
 cu:∀Ci ms,C'.M Ci=some ms->C.M Ci=some ms\/w.heap.size<=Ci\/∃b0 o0,S.heap.get b0=some o0/\aq S S'.log b0/\(C.pl b0).Ci=Ci
 YQ:w'.tape=w.tape/\w'.os=w.os/\w'.output=w.output
theorem Cu.refl {C:Cx} {S:St} {w:World} (h:W2 C S w):Cu C S w C S w where
 ext:= .refl C
 st:=h
 bound:=rfl
 log:=fun _ h=>h
 next:=Qj _
 size:=Qj _
 frame:=fun _ _ _=>rfl
 kept:=fun _ _ _=>⟨rfl,fun _ h=>h⟩
 iS:=fun _ h=> .inl h
 own:=fun b o hb=> .inl ⟨(h.live b o hb).1,o,hb⟩
 cu:=fun _ _ h=> .inl h
 YQ:=⟨rfl,rfl,rfl⟩
theorem aq.mono {S:St} {l l':List Nat} {b:Nat} (h:aq S l b) (hl:∀b∈l,b∈l'):aq S l' b:=h.imp (hl b) id
theorem Cu.trans {C C₁ C₂:Cx} {S S₁ S₂:St} {w w₁ w₂:World} (h:Cu C S w C₁ S₁ w₁) (g:Cu C₁ S₁ w₁ C₂ S₂ w₂):Cu C S w C₂ S₂ w₂ where
 ext:=h.ext.trans g.ext
 st:=g.st
 bound:=g.bound.trans h.bound
 log:=fun b hb=>g.log b (h.log b hb)
 next:=Nat.le_trans h.next g.next
 size:=Nat.le_trans h.size g.size
 frame:=by
  intro Ci ql hn;have h1:=h.frame Ci ql (fun b o hb hl=>hn b o hb (hl.mono g.log));rw[<-h1];refine g.frame Ci (Nat.lt_of_lt_of_le ql h.size) ?_;intro b o hb hl e;have ZC:aq S S₂.log b:=hl.imp id (fun x=>by rw[h.bound]at x;exact x);rcases h.own b o hb with⟨hd,o0,h0⟩|hs|⟨b0,o0,h0,eV,e0⟩
  .exact hn b o0 h0 ZC (by rw[<-h.ext.pl b hd];exact e)
  .omega
  .exact hn b0 o0 h0 (eV.mono g.log) (e0.trans e)
 kept:=by
  intro b hd hm;have h1:=h.kept b hd (fun x=>hm (x.mono g.log));have h2:=g.kept b (h.ext.D b hd) (fun x=>hm (x.imp id (fun y=>by rw[h.bound]at y;exact y)));exact⟨h2.1.trans h1.1,fun n hn=>h1.2 n (h2.2 n hn)⟩
 iS:=by
  intro b hb;rcases g.iS b hb with h1|h1
  .exact h.iS b h1
  .exact .inr (Nat.le_trans h.next h1)
 own:=by
  intro b o hb;rcases g.own b o hb with⟨hd,o1,h1⟩|hs|⟨b1,o1,h1,mi,e1⟩
  .rcases h.own b o1 h1 with⟨qV,o0,h0⟩|hs|⟨b0,o0,h0,eV,e0⟩
   .exact .inl ⟨qV,o0,h0⟩
   .exact .inr (.inl (by rw[g.ext.pl b hd];exact hs))
   .exact .inr (.inr ⟨b0,o0,h0,eV.mono g.log,by rw[g.ext.pl b hd];exact e0⟩)
  .exact .inr (.inl (Nat.le_trans h.size hs))
  .have hl1':aq S S₂.log b1:=mi.imp id (fun x=>by rw[h.bound]at x;exact x);rcases h.own b1 o1 h1 with⟨qV,o0,h0⟩|hs|⟨b0,o0,h0,eV,e0⟩
   .exact .inr (.inr ⟨b1,o0,h0,hl1',by rw[<-e1,h.ext.pl b1 qV]⟩)
   .grind
   .exact .inr (.inr ⟨b0,o0,h0,eV.mono g.log,e0.trans e1⟩)
 cu:=by
  intro Ci ms hm;rcases g.cu Ci ms hm with h1|hs|⟨b1,o1,h1,mi,e1⟩
  .rcases h.cu Ci ms h1 with h0|hs|⟨b0,o0,h0,eV,e0⟩
   .exact .inl h0
   .exact .inr (.inl hs)
   .exact .inr (.inr ⟨b0,o0,h0,eV.mono g.log,e0⟩)
  .exact .inr (.inl (Nat.le_trans h.size hs))
  .have hl1':aq S S₂.log b1:=mi.imp id (fun x=>by rw[h.bound]at x;exact x);rcases h.own b1 o1 h1 with⟨qV,o0,h0⟩|hs|⟨b0,o0,h0,eV,e0⟩
   .exact .inr (.inr ⟨b1,o0,h0,hl1',by rw[<-e1,h.ext.pl b1 qV]⟩)
   .grind
   .exact .inr (.inr ⟨b0,o0,h0,eV.mono g.log,e0.trans e1⟩)
 YQ:=⟨g.YQ.1.trans h.YQ.1,g.YQ.2.1.trans h.YQ.2.1,g.YQ.2.2.trans h.YQ.2.2⟩
theorem W2.ib {C:Cx} {S:St} {w:World} (h:W2 C S w) (n:Nat) (l:List Nat):W2 C {S with bound:=n,log:=l} w:=
 ⟨h.live,h.inj,h.fresh,h.kG,h.apart,h.stamps,h.there,h.WS,h.XP⟩
theorem B3 {n:Nat}:∀ {a l:List Nat} {b:Nat},(b∈a/\b<n)\/b∈l->b∈below n a l
 | [],l,b,h=>by
  rcases h with⟨h,_⟩|h
  .cases h
  .exact h
 |c::a,l,b,h=>by
  unfold below;cases hc:Nat.blt c n with
  |true=>
   rcases h with⟨h,hn⟩|h
   .rcases Qk.1 h with rfl|h
    .exact Qh ..
    .simp_all [Qg,B3]
   .simp_all [Qg,B3]
  |false=>
   have nE:¬c<n:=fun x=>by grind [Nat.blt_eq]
   rcases h with⟨h,hn⟩|h
   .rcases Qk.1 h with rfl|h
    .exact absurd hn nE
    .exact B3 (.inl ⟨h,hn⟩)
   .exact B3 (.inr h)
theorem Cu.back {C C':Cx} {S S':St} {w w':World} (hS:W2 C S w) (h:Cu C S.enter w C' S' w'):Cu C S w C' (S.back S') w' where
 ext:=h.ext
 st:=h.st.ib _ _
 bound:=rfl
 log:=fun b hb=>B3 (.inr hb)
 next:=h.next
 size:=h.size
 frame:=fun Ci hb hn=>h.frame Ci hb (fun b o hbo hm=>hn b o hbo (by
  have Co:=hS.fresh b (hS.live b o hbo).1;rcases hm with hm|hm
  .rcases Nat.lt_or_ge b S.bound with mj|mj
   .exact .inl (B3 (.inl ⟨hm,mj⟩))
   .exact .inr mj
  .have:S.next<=b:=hm;omega))
 kept:=fun b hd hm=>h.kept b hd (fun x=>hm (by
  have Co:=hS.fresh b hd;rcases x with x|x
  .rcases Nat.lt_or_ge b S.bound with mj|mj
   .exact .inl (B3 (.inl ⟨x,mj⟩))
   .exact .inr mj
  .have:S.next<=b:=x;omega))
 iS:=h.iS
 own:=fun b o hb=>(h.own b o hb).imp id (Or.imp id fun⟨b0,o0,h0,hm,e⟩=>⟨b0,o0,h0,by
  have Co:=hS.fresh b0 (hS.live b0 o0 h0).1;rcases hm with hm|hm
  .rcases Nat.lt_or_ge b0 S.bound with mj|mj
   .exact .inl (B3 (.inl ⟨hm,mj⟩))
   .exact .inr mj
  .have:S.next<=b0:=hm;omega,e⟩)
 cu:=fun Ci ms lh=>(h.cu Ci ms lh).imp id (Or.imp id fun⟨b0,o0,h0,hm,e⟩=>⟨b0,o0,h0,by
  have Co:=hS.fresh b0 (hS.live b0 o0 h0).1;rcases hm with hm|hm
  .rcases Nat.lt_or_ge b0 S.bound with mj|mj
   .exact .inl (B3 (.inl ⟨hm,mj⟩))
   .exact .inr mj
  .have:S.next<=b0:=hm;omega,e⟩)
 YQ:=h.YQ
theorem Bq {w:World} {Ci:Nat} {x:Obj} (h:w.heap[Ci]?=some x):Ci<w.heap.size:=by grind
def Cx.YT (C C':Cx):Cx:= {C with M:=C'.M,X:=C'.X}
theorem Cu.forget {C C':Cx} {S S':St} {w w':World} (hS:W2 C S w) (h:Cu C S.enter w C' S' w') (hl:S'.log=[]):Cu C S w (C.YT C') S w':=by
 have Z4:∀b o,S.heap.get b=some o->¬aq S.enter S'.log b:=by
  intro b o hb hm;have Co:=hS.fresh b (hS.live b o hb).1;rcases hm with hm|hm
  .rw[hl]at hm;cases hm
  .have:S.next<=b:=hm;omega
 have uc:∀Ci,Ci<w.heap.size->w'.heap[Ci]?=w.heap[Ci]?:=fun Ci hb=>h.frame Ci hb (fun b o hbo hm=>absurd hm (Z4 b o hbo));have e:Ext C (C.YT C'):=⟨fun _ h=>h,fun _ _=>rfl,h.ext.M,fun _ _ h=>h,fun _ _ _=>rfl,h.ext.X⟩
 refine⟨e,?_,rfl,fun _ h=>h,Qj _,h.size,fun Ci hb _=>uc Ci hb,fun _ _ _=>⟨rfl,fun _ h=>h⟩,fun _ h=> .inl h,fun b o hb=> .inl ⟨(hS.live b o hb).1,o,hb⟩,?_,h.YQ⟩
 .refine⟨?_,hS.inj,hS.fresh,h.st.kG,?_,hS.stamps,h.st.there,fun b hd=>h.ext.X _ (hS.WS b hd),h.st.XP⟩
  .intro b o hb;obtain⟨hd,x,hx,hr⟩:=hS.live b o hb;exact⟨hd,x,by rw[<-hx];exact uc _ (Bq hx),hr.mono e hd (fun _ h=>h)⟩
  .intro b o hb;obtain⟨hd,x,hx,hr⟩:=hS.live b o hb;cases hm:C'.M (C.pl b).Ci with
   |none=>exact hm
   |some ms=>
    exfalso;rcases h.cu _ _ hm with h1|h1|⟨b0,o0,h0,eV,_⟩
    .rw[hS.apart b o hb]at h1;cases h1
    .have:=Bq hx;omega
    .exact Z4 b0 o0 h0 eV
 .intro Ci ms hm;rcases h.cu Ci ms hm with h1|h1|⟨b0,o0,h0,eV,_⟩
  .exact .inl h1
  .exact .inr (.inl h1)
  .exact absurd eV (Z4 b0 o0 h0)
theorem Bm (Ci off n:Nat):(⟨Ci,off,none⟩:Addr).add n=⟨Ci,off+n,none⟩:=by
 unfold Addr.add;split
 .next h=>subst h;rfl
 .rfl
structure CV (E:Env) (P:Program):Prop where
 ty:∀t i,E.tys.get t=some i->P.info? t=some i
 fn:∀f fn,E.fns.get f=some fn->P.funcs[f]?=some fn
 flat:∀t,E.plain t=true->P.stoodInHeld t=false
 lone:∀f fn,E.fns.get f=some fn->(fn.name== "runtime.NumGoroutine")=false
 gH:∀f g,E.gH f=some g->∃fn b,P.funcs[f]?=some fn/\fn.body=some b/\(fn.name== "runtime.NumGoroutine")=false
theorem BU {E:Env} {P:Program} (h:CV E P) {t:TypeId} {d:TypeDesc} (e:CN E t=some d):P.underlying t=some d:=by
 unfold CN at e;cases hi:E.tys.get t with
 |none=>rw[hi]at e;cases e
 |some i=>
  rw[hi]at e;have hp:=h.ty t i hi;unfold Program.underlying;rw[hp];simp only at e;unfold lS at e;split at e
  .next n u hd=>
   cases hu:E.tys.get u with
   |none=>rw[hu]at e;cases e
   |some j=>
    rw[hu]at e;have:=h.ty u j hu;obtain⟨d1,d2,d3,d4,d5,d6,d7,d8,d9,d10⟩:=i;simp only at hd;subst hd;simp only[this,Option.map_some];exact e
  .grind
theorem Ad {E:Env} {P:Program} (h:CV E P) {t:TypeId} {d:TypeDesc} (e:CN E t=some d) (w:World):(underlying t).run P w= .ok d w:=
 run_underlying (BU h e) w
theorem B6 {E:Env} {P:Program} (h:CV E P) {t:TypeId} {i:TypeInfo} (e:E.tys.get t=some i) (w:World):(typeInfo t).run P w= .ok i w:=by
 simp[typeInfo,h.ty t i e]
theorem A6 {E:Env} {P:Program} (h:CV E P) {t:TypeId} {n:Nat} (e:sizeOf E t=some n) (w:World):(Go.sizeOf t).run P w= .ok n w:=by
 unfold sizeOf at e;cases hi:E.tys.get t with
 |none=>rw[hi]at e;cases e
 |some i=>rw[hi]at e;simp[Go.sizeOf,B6 h hi,Option.some.inj e]
theorem Nt {E:Env} {P:Program} (h:CV E P) {t:TypeId} {n:Nat} (e:bytesOf E t=some n) (w:World):
 ∃i,(typeInfo t).run P w= .ok i w/\i.bytes=n:=by
 unfold bytesOf at e;cases hi:E.tys.get t with
 |none=>rw[hi]at e;cases e
 |some i=>rw[hi]at e;exact⟨i,B6 h hi w,Option.some.inj e⟩
theorem Ma {E:Env} {P:Program} (h:CV E P) {t:TypeId} {b:Bool} (e:isAgg E t=some b) (w:World):(Go.isAgg t).run P w= .ok b w:=by
 unfold isAgg at e;split at e
 .next fs hd=>cases e;simp[Go.isAgg,Ad h hd]
 .next n x hd=>cases e;simp[Go.isAgg,Ad h hd]
 .next d h1 h2 hd=>
  cases e;simp only[Go.isAgg,Sem.run_bind,Ad h hd,Result.andThen_ok];cases d<;>first|rfl|exact absurd rfl (h1 _)|exact absurd rfl (h2 _ _)
 .cases e
theorem NC {C:Cx} {v:Value} {x:AV} (h:dM v=some x):VR C x v/\x.dL=true:=by
 unfold dM at h;split at h<;>first|cases h|skip
 .exact⟨.bool _,U⟩
 .exact⟨.int _ _,U⟩
 .exact⟨.str U,U⟩
 .exact⟨.CU,U⟩
 .exact⟨.Ca _ .none,U⟩
 .exact⟨.WI,U⟩
 .exact⟨.WE,U⟩
 .exact⟨.CP,U⟩
theorem GE {C:Cx}:∀ {l:List Value} {r:List AV},lq dM l=some r->Wc C r l/\Cells r
 | [],r,h=>by
  obtain rfl: []=r:=Option.some.inj h;exact⟨.nil,fun _ h=>by cases h⟩
 |a::l,r,h=>by
  obtain⟨b,bs,hb,jn,rfl⟩:=Uo h;have h1:=NC (C:=C) hb;have h2:=GE (C:=C) jn;exact⟨.cons h1.1 h2.1,fun v hv=>by
   rcases Qk.1 hv with rfl|hv
   .exact h1.2
   .exact h2.2 v hv⟩
theorem Mn {C:Cx} {v:Value} {x:AV} (h:lQ v=some x):VR C x v:=by
 unfold lQ at h;split at h
 .next cs=>
  cases hm:lq dM cs.toList with
  |none=>rw[hm]at h;cases h
  |some l=>rw[hm]at h;cases h;exact .agg (GE hm).1 (GE (C:=C) hm).2
 .next cs=>
  cases hm:lq dM cs.toList with
  |none=>rw[hm]at h;cases h
  |some l=>rw[hm]at h;cases h;exact .tuple (GE hm).1
 .exact(NC h).1
theorem EW {o:Option AV} {z:AV} (h:mJ o=some z):o=some z/\z.isTuple=false:=by
 unfold mJ at h;split at h
 .cases h
 .next hn=>
  refine⟨h,?_⟩;cases z with
  |tuple vs=>exact absurd h (hn vs)
  |_=>rfl
theorem G0 {E:Env} {P:Program} (h:CV E P) {t:TypeId} {z:AV} (e:zeroOf E t=some z) (w:World):
 ∃x,(zeroValue t).run P w= .ok x w/\(∀C,VR C z x)/\∀i,P.info? t=some i->i.zero=some x:=by
 unfold zeroOf at e;cases hi:E.tys.get t with
 |none=>rw[hi]at e;cases e
 |some i=>
  rw[hi]at e;simp only at e;cases hz:i.zero with
  |none=>rw[hz]at e;cases e
  |some x=>
   rw[hz]at e;exact⟨x,by simp[zeroValue,B6 h hi,hz],fun C=>Mn (EW e).1,fun j hj=>by
    rw[h.ty t i hi]at hj;cases hj;exact hz⟩
theorem De {E:Env} {t:TypeId} {z:AV} (e:zeroOf E t=some z):z.isTuple=false:=by
 unfold zeroOf at e;cases hi:E.tys.get t with
 |none=>rw[hi]at e;cases e
 |some i=>grind [EW]
theorem VR.cells {C:Cx} {v:AV} {x:Value} (h:VR C v x):Wc C v.cells x.cells.toList:=by
 cases h<;>first|exact .one (by constructor<;>assumption)|skip
 all_goals first
  |assumption
  |(next h=>rw[h.1];exact .one (.any _ h))
  |(exact .one (.agg ‹_› ‹_›))
  |(exact .one (.tuple ‹_›))
  |(refine .one ?_;first|exact .ptr ‹_›|exact .Wl ‹_› ‹_› ‹_› ‹_›|exact .slice ‹_› ‹_› ‹_›|exact .Cf ‹_› ‹_› ‹_› ‹_› ‹_› ‹_› ‹_›|exact .W1 _ ‹_› ‹_›|exact .func ‹_› ‹_› ‹_›)
theorem VR.Yv {C:Cx} {v:AV} {x:Value} (h:VR C v x) (ht:v.isTuple=false):Cells v.cells:=by
 cases h<;>first
  |assumption
  |(intro u hu;simp only[AV.cells,Qn]at hu;subst hu;first|rfl|(simp[AV.isTuple]at ht))
theorem VR.qW {C:Cx} {v:AV} {x:Value} (h:VR C v x) (hc:v.dL=true):x.oneCell'=true:=by
 cases h<;>first|rfl|(next h=>exact h.2)|(simp[AV.dL]at hc)
theorem W2.lt {C:Cx} {S:St} {w:World} (h:W2 C S w) {b:Nat} {o:Cw} (hb:S.heap.get b=some o):(C.pl b).Ci<w.heap.size:=by
 obtain⟨_,x,hx,_⟩:=h.live b o hb;rcases Nat.lt_or_ge (C.pl b).Ci w.heap.size with h|h
 .exact h
 .grind
theorem EA {o:Option Cw} {cs:List AV} (h:Wp o=some cs):∃t part,o=some (.cells cs t part):=by
 unfold Wp at h;split at h
 .cases h;exact⟨_,_,rfl⟩
 .cases h
theorem Jb {o:Option Cw} {es:List Xk} (h:dN o=some es):∃cl,o=some (.map es cl):=by
 unfold dN at h;split at h
 .cases h;exact⟨_,rfl⟩
 .cases h
theorem W2.cells {C:Cx} {S:St} {w:World} (h:W2 C S w) {b:Nat} {cs:List AV} (hb:Wp (S.heap.get b)=some cs):
 C.D b/\∃c e fr vs,w.heap[(C.pl b).Ci]?=some (.cells c e fr)/\Wc C cs vs/\Y6 c.toList (C.pl b).base vs/\c.size=(C.pl b).size/\Cells cs/\(c.size<=fr.1\/fr.2<=fr.1):=by
 obtain⟨t,part,hs⟩:=EA hb;obtain⟨hd,x,hx,hr⟩:=h.live b _ hs;cases hr with
 |cells hv ha Xn Wt hf hp=>exact⟨hd,_,_,_,_,hx,hv,ha,Xn,Wt,hf⟩
theorem V4 {w:World} {Ci:Nat} {c:Array Value} {e:TypeId} {fr:Nat×Nat} (h:w.heap[Ci]?=some (.cells c e fr)) (off:Nat):
 w.cell? ⟨Ci,off,none⟩=c[off]?:=by simp[World.cell?,h]
def lz (w:World) (a:Addr) (vs:List Value):Prop:=∀j v,vs[j]?=some v->w.cell? (a.add j)=some v
theorem Jo {w:World} {Ci off:Nat} {c:Array Value} {e:TypeId} {fr:Nat×Nat} {vs:List Value} (h:w.heap[Ci]?=some (.cells c e fr)) (ha:Y6 c.toList off vs):
 lz w ⟨Ci,off,none⟩ vs:=by
 intro j v hj;rw[Bm,V4 h];have Co:j<vs.length:=by grind
 have:=ha.get j Co;rw[<-hj,<-this];simp
theorem Y6.sub {α:Type} {ms:List α} {off:Nat} {vs a b c:List α} (h:Y6 ms off vs) (e:vs=a++b++c):Y6 ms (off+a.length) b:=by
 subst e;exact h.iR
theorem Cells.sub {a b:List AV} (h:Cells (a++b)):Cells a/\Cells b:=
 ⟨fun v hv=>h v (List.mem_append_left _ hv),fun v hv=>h v (List.mem_append_right _ hv)⟩
theorem Cells.append {a b:List AV} (h:Cells a) (g:Cells b):Cells (a++b):=fun v hv=>(List.mem_append.1 hv).elim (h v) (g v)
theorem Nx {C:Cx} {S:St} {w:World} (h:W2 C S w) {n:Nat} {v:AV} {x:Value} (hv:VR C v x) {l:List AV} (e:YE S n v=some l):
 ∃a vs,x= .pointer (some a)/\Wc C l vs/\lz w a vs/\Cells l/\l.length=n:=by
 cases hv with
 |ptr hd=>
  simp only[YE]at e;obtain⟨cs,Wt,e1⟩:=Qa.1 e;obtain⟨q,hq,e2⟩:=Qa.1 e1;obtain⟨pre,rfl,hp⟩:=B8 hq;obtain⟨post,rfl,hl⟩:=BK e2;obtain⟨_,c,ty,fr,vs,hx,WQ,ha,Xn,hc,_⟩:=h.cells Wt;obtain⟨y,z,rfl,h1,h2⟩:=AF WQ;obtain⟨z1,z2,rfl,h3,h4⟩:=AF h2;refine⟨_,z1,U,h3,Jo hx ?_,(hc.sub.2).sub.1,hl⟩;have:=ha.sub (a:=y) (b:=z1) (c:=z2) (by simp);rw[h1.length,hp]at this;exact this
 |Wl hm ha WQ hc=>
  simp only[YE]at e;obtain⟨post,rfl,hl⟩:=BK e;obtain⟨z1,z2,rfl,h3,h4⟩:=AF WQ;obtain⟨c,ty,fr,hx,rfl⟩:=h.kG _ _ hm;exact⟨_,z1,U,h3,Jo hx ha.left,hc.sub.1,hl⟩
 |_=>simp[YE]at e
theorem G8 {P:Program} {w:World} {a:Addr} {vs:List Value} (h:lz w a vs) (n:Nat) (hn:vs.length=n):
 (loadCells a n).run P w= .ok vs.toArray w:=by
 subst hn;exact run_loadCells_list w a vs h
theorem y8 {P:Program} {w:World} {a:Addr} {v:Value} (h:lz w a [v]):(load a).run P w= .ok v w:=by
 have:=h 0 v rfl;have ha:a.add 0=a:=by simp[Addr.add]
 rw[ha]at this;simp[this]
theorem GK {E:Env} {P:Program} (he:CV E P) {C:Cx} {S:St} {w:World} (h:W2 C S w) {t:TypeId} {v r:AV} {x:Value} (hv:VR C v x)
 (e:Wy E t S v=some r):∃a y,x= .pointer (some a)/\(Go.loadVar t a).run P w= .ok y w/\VR C r y:=by
 unfold Wy at e;cases h1:isAgg E t with
 |none=>rw[h1]at e;simp at e
 |some b=>
 cases h2:Am.sizeOf E t with
 |none=>rw[h1,h2]at e;cases b<;>simp at e
 |some n=>
 rw[h1,h2]at e;cases b with
 |true=>
  simp only[jC]at e;obtain⟨l,hl,e1⟩:=Qa.1 e;cases e1;obtain⟨a,vs,rfl,h3,h4,h5,h6⟩:=Nx h hv hl;refine⟨a,.agg vs.toArray,U,?_,.agg h3 h5⟩;simp[Go.loadVar,Ma he h1,A6 he h2,G8 h4 n (h3.length.trans h6)]
 |false=>
  simp only[mK]at e;obtain⟨l,hl,e1⟩:=Qa.1 e;obtain⟨a,vs,rfl,h3,h4,h5,h6⟩:=Nx h hv hl;unfold pX at e1;split at e1
  .next u=>
   cases e1;cases h3 with
   |cons h7 h8=>
    cases h8;exact⟨a,_,U,by simp only[Go.loadVar,Sem.run_bind,Ma he h1,Result.andThen_ok,Bool.false_eq_true,if_false];exact y8 h4,h7⟩
  .cases e1
def Cx.Cy (C:Cx) (b:Nat) (p:Pl):Cx:= {C with pl:=fun k=>if k=b then p else C.pl k,D:=fun k=>C.D k\/k=b,X:=fun k=>C.X k\/k=p.Ci}
theorem Ext.Cy {C:Cx} {b:Nat} {p:Pl} (h:¬C.D b):Ext C (C.Cy b p):=
 ⟨fun _ h=> .inl h,fun k hk=>by
  have:k≠b:=fun e=>h (e▸hk);simp[Cx.Cy,this],fun _ _ h=>h,fun _ _ h=>h,fun _ _ _=>rfl,fun _ h=> .inl h⟩
theorem Qu {w:World} {o:Obj} {Ci:Nat} {x:Obj} (h:w.heap[Ci]?=some x):(w.heap.push o)[Ci]?=some x:=by
 have:=Bq h;rw[Array.getElem?_push_lt this,<-h];simp[this]
def World.Wb (w:World) (o:Obj):World:= {w with heap:=w.heap.push o}
theorem FB (b:Nat) (l:List Nat):b∈XL b l/\∀k∈l,k∈XL b l:=by
 cases l with
 |nil=>simp[XL]
 |cons c l=>grind [XL,Qb]
theorem Dt (S:St) (b:Nat) (o:Option Cw):aq S (S.put b o).log b/\∀k∈S.log,k∈(S.put b o).log:=by
 unfold St.put aq;cases hb:Nat.blt b S.bound with
 |true=>exact⟨.inl (FB b _).1,(FB b _).2⟩
 |false=>exact⟨.inr (by
  rcases Nat.lt_or_ge b S.bound with h|h
  .grind [Nat.blt_eq]
  .exact h),fun k hk=>hk⟩
theorem IQ (S:St) (b k:Nat) (o:Option Cw):(S.put b o).heap.get k=if k=b then o else S.heap.get k:=Ay _ _ _ _
theorem JC (S:St) (k:Nat) (o:Cw):(S.alloc o).heap.get k=if k=S.next then some o else S.heap.get k:=Ay _ _ _ _
theorem Cu.alloc {C:Cx} {S:St} {w:World} (h:W2 C S w) (o:Cw) (x:Obj) (sz:Nat) (hx:OR (C.Cy S.next ⟨w.heap.size,0,sz⟩) S.next o x):
 Cu C S w (C.Cy S.next ⟨w.heap.size,0,sz⟩) (S.alloc o) (World.Wb w x):=by
 have aB:¬C.D S.next:=fun hd=>Nat.lt_irrefl _ (h.fresh _ hd);have e:=Ext.Cy (C:=C) (p:=⟨w.heap.size,0,sz⟩) aB;have eg:=fun k=>JC S k o;refine⟨e,⟨?_,?_,?_,?_,?_,?_,?_,?_,fun Ci ms hm=> .inl (h.XP Ci ms hm)⟩,rfl,fun _ h=>h,Nat.le_succ _,by simp[World.Wb],?_,?_,?_,?_,fun _ _ h=> .inl h,⟨rfl,rfl,rfl⟩⟩
 .intro b ob hb;rw[eg]at hb;split at hb
  .next fh=>
   subst fh;cases hb;refine⟨.inr U,x,?_,hx⟩;simp only[Cx.Cy,if_true,World.Wb];exact Array.getElem?_push_size
  .next fh=>
   obtain⟨hd,y,hy,hr⟩:=h.live b ob hb;refine⟨.inl hd,y,?_,hr.mono e hd (fun _ h=>h)⟩;simp only[Cx.Cy,fh,if_false,World.Wb];exact Qu hy
 .intro b b' ob ob' hb ZL heq;rw[eg]at hb ZL;split at hb
  .next h1=>
   split at ZL
   .next h2=>rw[h1,h2]
   .next h2=>
    exfalso;subst h1;simp only[Cx.Cy,if_true,h2,if_false]at heq;have:=h.lt ZL;omega
  .next h1=>
   split at ZL
   .next h2=>
    exfalso;subst h2;simp only[Cx.Cy,if_true,h1,if_false]at heq;have:=h.lt hb;omega
   .next h2=>
    simp only[Cx.Cy,h1,h2,if_false]at heq;exact h.inj b b' ob ob' hb ZL heq
 .rintro b (hd|rfl)
  .exact Nat.lt_succ_of_lt (h.fresh b hd)
  .exact Nat.lt_succ_self _
 .intro Ci ms hm;obtain⟨c,ty,fr,hc,e⟩:=h.kG Ci ms hm;exact⟨c,ty,fr,Qu hc,e⟩
 .intro b ob hb;rw[eg]at hb;split at hb
  .next fh=>
   subst fh;cases hm:C.M w.heap.size with
   |none=>simpa[Cx.Cy]using hm
   |some ms=>
    obtain⟨c,ty,fr,hc,_⟩:=h.kG _ ms hm;simp at hc
  .next fh=>simpa[Cx.Cy,fh]using h.apart b ob hb
 .exact fun b n hg=> .inl (h.stamps b n hg)
 .rintro k (hk|rfl)
  .exact Nat.lt_of_lt_of_le (h.there k hk) (by simp[World.Wb])
  .simp[World.Wb]
 .rintro b (hd|rfl)
  .have:b≠S.next:=by rintro rfl;exact aB hd
   exact .inl (by simpa[Cx.Cy,this]using h.WS b hd)
  .exact .inr (by simp[Cx.Cy])
 .intro Ci hb _;show(w.heap.push x)[Ci]?=_;rw[Array.getElem?_push_lt hb];simp[hb]
 .intro b hd _;have YM:b≠S.next:=by rintro rfl;exact aB hd
  exact⟨by rw[eg,if_neg YM],fun _ h=>h⟩
 .rintro b (hd|rfl)
  .exact .inl hd
  .exact .inr (Qj _)
 .intro b ob hb;rw[eg]at hb;split at hb
  .grind [Cx.Cy]
  .next fh=>exact .inl ⟨(h.live b ob hb).1,ob,hb⟩
theorem AQ (C:Cx) (b:Nat) (p:Pl):(C.Cy b p).pl b=p:=by simp[Cx.Cy]
theorem I3 (C:Cx) (b:Nat) (p:Pl):(C.Cy b p).D b:= .inr rfl
theorem LC {C:Cx} {S:St} {w w':World} (h:W2 C S w) (hs:w.heap.size<=w'.heap.size) (hk:∀Ci,Ci<w.heap.size->w'.heap[Ci]?=w.heap[Ci]?)
 (hm:w'.tape=w.tape/\w'.os=w.os/\w'.output=w.output):Cu C S w C S w':=by
 refine⟨.refl C,⟨?_,h.inj,h.fresh,?_,h.apart,h.stamps,fun k hk=>Nat.lt_of_lt_of_le (h.there k hk) hs,h.WS,h.XP⟩,rfl,fun _ h=>h,Qj _,hs,fun Ci hb _=>hk Ci hb,fun _ _ _=>⟨rfl,fun _ h=>h⟩,fun _ h=> .inl h,
  fun b o hb=> .inl ⟨(h.live b o hb).1,o,hb⟩,fun _ _ h=> .inl h,hm⟩
 .intro b o hb;obtain⟨hd,y,hy,hr⟩:=h.live b o hb;exact⟨hd,y,by rw[hk _ (Bq hy)];exact hy,hr⟩
 .intro Ci ms hm;obtain⟨c,ty,fr,hc,e⟩:=h.kG Ci ms hm;exact⟨c,ty,fr,by rw[hk _ (Bq hc)];exact hc,e⟩
theorem HJ {C:Cx} {S:St} {w:World} (h:W2 C S w) (x:Obj):Cu C S w C S (World.Wb w x):=
 LC h (by simp[World.Wb]) (fun Ci hb=>by
  show(w.heap.push x)[Ci]?=_;rw[Array.getElem?_push_lt hb];simp[hb]) ⟨rfl,rfl,rfl⟩
def Cx.ml (C:Cx) (b:Nat):Cx:= {C with X:=fun k=>C.X k\/k=b}
theorem Ext.ml {C:Cx} {b:Nat}:Ext C (C.ml b):=⟨fun _ h=>h,fun _ _=>rfl,fun _ _ h=>h,fun _ _ h=>h,fun _ _ _=>rfl,fun _ h=> .inl h⟩
theorem Cu.known {C:Cx} {S:St} {w:World} (h:W2 C S w) {b:Nat} (hb:b<w.heap.size):Cu C S w (C.ml b) S w:=by
 refine⟨.ml,⟨fun k o hk=>?_,h.inj,h.fresh,h.kG,h.apart,h.stamps,fun k hk=>hk.elim (h.there k) (fun e=>e▸hb),fun k hk=> .inl (h.WS k hk),fun k ms hk=> .inl (h.XP k ms hk)⟩,rfl,fun _ h=>h,Qj _,Qj _,fun _ _ _=>rfl,fun _ _ _=>⟨rfl,fun _ h=>h⟩,fun _ h=> .inl h,
  fun b o hb=> .inl ⟨(h.live b o hb).1,o,hb⟩,fun _ _ h=> .inl h,⟨rfl,rfl,rfl⟩⟩
 obtain⟨hd,y,hy,hr⟩:=h.live k o hk;exact⟨hd,y,hy,hr.mono .ml hd (fun _ h=>h)⟩
theorem JF {C:Cx} {S:St} {w:World} (h:W2 C S w) (x:Obj):Cu C S w (C.ml w.heap.size) S (World.Wb w x):=
 (HJ h x).trans (Cu.known (HJ h x).st (by simp[World.Wb]))
theorem Cu.drew {C:Cx} {S:St} {w:World} (h:W2 C S w) (n:Nat):Cu C S w C S {w with drawn:=n}:=
 LC h (Qj _) (fun _ _=>rfl) ⟨rfl,rfl,rfl⟩
def World.CW (w:World) (Ci:Nat) (o:Obj):World:= {w with heap:=w.heap.setIfInBounds Ci o}
theorem AU {w:World} {Ci:Nat} {o:Obj} (k:Nat):(World.CW w Ci o).heap[k]?=if k=Ci then(if Ci<w.heap.size then some o else none)else w.heap[k]?:=by grind [World.CW]
theorem JE {C C':Cx} {S:St} {w:World} (h:W2 C S w) {b:Nat} {o0:Cw} (au:S.heap.get b=some o0) (e:Ext C C') (hD:∀k,C'.D k->C.D k)
 (hM:C'.M=C.M) (hX:C'.X=C.X) (hG:∀k n,C'.G k n->C.G k n\/k=b) (o:Cw) (x:Obj) (hx:OR C' b o x):
 Cu C S w C' (S.put b (some o)) (World.CW w (C.pl b).Ci x):=by
 have eg:=fun k=>IQ S b k (some o);have Co:=h.lt au;have qV:=(h.live b o0 au).1;have hG':∀k,k≠b->∀n,C'.G k n->C.G k n:=fun k hk n hg=>(hG k n hg).resolve_right hk;have f:∀j oj,(if j=b then some o else S.heap.get j)=some oj->∃q,S.heap.get j=some q:=by grind
 refine⟨e,⟨?_,?_,?_,?_,?_,?_,fun k hk=>by simpa[World.CW]using h.there k (hX▸hk),fun k hk=>by rw[e.pl _ (hD k hk),hX];exact h.WS k (hD k hk),fun Ci ms hm=>by rw[hX];exact h.XP Ci ms (hM▸hm)⟩,rfl,(Dt S b _).2,Qj _,by simp[World.CW],?_,?_,fun k hk=> .inl (hD k hk),?_,fun _ _ hm=> .inl (hM▸hm),⟨rfl,rfl,rfl⟩⟩
 .intro k ok hk;rw[eg]at hk;split at hk
  .next e'=>subst e';cases hk;exact⟨e.D _ qV,x,by rw[e.pl _ qV,AU];simp[Co],hx⟩
  .next e'=>
   obtain⟨hd,y,hy,hr⟩:=h.live k ok hk;refine⟨e.D _ hd,y,?_,hr.mono e hd (hG' k e')⟩;rw[e.pl _ hd,AU,if_neg (fun e''=>e' (h.inj k b ok o0 hk au e''))];exact hy
 .intro k k' ok qX hk j3 heq;rw[eg]at hk j3;obtain⟨q,hq⟩:=f k ok hk;obtain⟨q',hq'⟩:=f k' qX j3;rw[e.pl _ (h.live k q hq).1,e.pl _ (h.live k' q' hq').1]at heq;exact h.inj k k' q q' hq hq' heq
 .exact fun k hk=>h.fresh k (hD k hk)
 .intro Ci ms hm;rw[hM]at hm;obtain⟨c,ty,fr,hc,e⟩:=h.kG Ci ms hm;refine⟨c,ty,fr,?_,e⟩;rw[AU,if_neg];· exact hc
  intro e';have:=h.apart b o0 au;rw[<-e',hm]at this;cases this
 .intro k ok hk;rw[eg]at hk;obtain⟨q,hq⟩:=f k ok hk;rw[hM,e.pl _ (h.live k q hq).1];exact h.apart k q hq
 .intro k n hg;rcases hG k n hg with hg|rfl
  .exact e.D _ (h.stamps k n hg)
  .exact e.D _ qV
 .intro Ci _ hn;rw[AU,if_neg];intro e;exact hn b o0 au (Dt S b _).1 e.symm
 .intro k hd hm;have hk:k≠b:=by rintro rfl;exact hm (Dt S k _).1
  exact⟨by rw[eg,if_neg hk],hG' k hk⟩
 .intro k ok hk;rw[eg]at hk;obtain⟨q,hq⟩:=f k ok hk;exact .inl ⟨(h.live k q hq).1,q,hq⟩
theorem El {C:Cx} {S:St} {w:World} (h:W2 C S w) {b:Nat} {o0:Cw} (au:S.heap.get b=some o0) (o:Cw) (x:Obj) (hx:OR C b o x):
 Cu C S w C (S.put b (some o)) (World.CW w (C.pl b).Ci x):=
 JE h au (.refl C) (fun _ h=>h) rfl rfl (fun _ _ h=> .inl h) o x hx
theorem Cu.kill {C:Cx} {S:St} {w:World} (h:W2 C S w) (b:Nat):Cu C S w C (S.put b none) w:=by
 have eg:=fun k=>IQ S b k none;have f:∀j oj,(S.put b none).heap.get j=some oj->S.heap.get j=some oj:=by grind
 exact⟨.refl C,⟨fun k ok hk=>h.live k ok (f k ok hk),fun k k' ok qX hk j3=>h.inj k k' ok qX (f k ok hk) (f k' qX j3),h.fresh,h.kG,
  fun k ok hk=>h.apart k ok (f k ok hk),h.stamps,h.there,h.WS,h.XP⟩,rfl,(Dt S b _).2,Qj _,Qj _,fun _ _ _=>rfl,
  fun k _ hm=>⟨by
   have YM:k≠b:=by rintro rfl;exact hm (Dt S k _).1
   rw[eg,if_neg YM],fun _ h=>h⟩,fun _ h=> .inl h,
  fun k ok hk=> .inl ⟨(h.live k ok (f k ok hk)).1,ok,f k ok hk⟩,fun _ _ h=> .inl h,⟨rfl,rfl,rfl⟩⟩
def putAt (c:Array Value) (k:Nat):List Value->Array Value
 | []=>c
 |v::vs=>putAt (c.setIfInBounds k v) (k+1) vs
theorem Do (c:Array Value) (k:Nat) (vs:List Value):(putAt c k vs).size=c.size:=by
 induction vs generalizing c k with
 |nil=>rfl
 |cons v vs ih=>simp[putAt,ih]
theorem F5:∀(vs:List Value) (c:Array Value) (k:Nat) (pre iR post:List Value),c.toList=pre++iR++post->pre.length=k->iR.length=vs.length->
 (putAt c k vs).toList=pre++vs++post
 | [],c,k,pre,iR,post,h,_,hm=>by
  have:iR=[]:=List.eq_nil_of_length_eq_zero hm;subst this;simpa[putAt]using h
 |v::vs,c,k,pre,[],post,_,_,hm=>by simp at hm
 |v::vs,c,k,pre,m::iR,post,h,hk,hm=>by
  have ih:=F5 vs (c.setIfInBounds k v) (k+1) (pre++[v]) iR post (by
   rw[Array.toList_setIfInBounds,h];subst hk;simp) (by simp[hk]) (by simpa using hm)
  simpa[putAt]using ih
theorem NK {w : World} {Ci : Nat} {x : Obj} (h : w.heap[Ci]? = some x) (f : Obj -> Obj) : w.heap.modify Ci f = w.heap.setIfInBounds Ci (f x) := by
  apply Array.ext_getElem?;intro i;rw [Array.getElem?_modify, Array.getElem?_setIfInBounds];split
  . next e => subst e; rw [h]; simp; rcases Nat.lt_or_ge Ci w.heap.size with h' | h'
              . exact h'
              . rw [Array.getElem?_eq_none h'] at h; cases h
  . rfl
theorem R2 {w:World} {Ci off:Nat} {c:Array Value} {e:TypeId} {fr:Nat×Nat} (h:w.heap[Ci]?=some (.cells c e fr)) (v:Value):
 w.setCell ⟨Ci,off,none⟩ v=World.CW w Ci (.cells (c.setIfInBounds off v) e fr):=by
 unfold World.setCell World.CW;rw[NK h];rfl
theorem LU (w:World) (Ci:Nat) (a b:Obj):World.CW (World.CW w Ci a) Ci b=World.CW w Ci b:=by
 unfold World.CW;simp
theorem UO {w:World} {Ci off:Nat} {c:Array Value} {e:TypeId} {fr:Nat×Nat} (h:w.heap[Ci]?=some (.cells c e fr)) (hf:c.size<=fr.1\/fr.2<=fr.1) (ho:off<c.size):
 w.frozen? ⟨Ci,off,none⟩=false:=by
 unfold World.frozen?;simp only[h];obtain⟨lo,hi⟩:=fr;simp at hf|-;omega
theorem DL {P : Program} : ∀ (vs : List Value) {w : World} {Ci off i : Nat} {c : Array Value} {e : TypeId} {fr : Nat × Nat}, w.heap[Ci]? = some (.cells c e fr) ->
    (c.size <= fr.1 \/ fr.2 <= fr.1) -> off + i + vs.length <= c.size -> (∀ v ∈ vs, v.oneCell' = true) ->
    (storeCells ⟨Ci, off, none⟩ vs i).run P w = .ok () (World.CW w Ci (.cells (putAt c (off + i) vs) e fr))
  | [], w, Ci, off, i, c, e, fr, h, _, _, _ => by
    have : World.CW w Ci (.cells c e fr) = w := by
      unfold World.CW;have : w.heap.setIfInBounds Ci (.cells c e fr) = w.heap := by
        apply Array.ext_getElem?;intro k;rw [Array.getElem?_setIfInBounds];split
        . next e => subst e; rw [h]; simp; rcases Nat.lt_or_ge Ci w.heap.size with h' | h'
                    . exact h'
                    . rw [Array.getElem?_eq_none h'] at h; cases h
        . rfl
      rw [this]
    simp [storeCells, putAt, this]
  | v :: vs, w, Ci, off, i, c, e, fr, h, hf, hl, ho => by
    have Co : off + i < c.size := by simp at hl; omega
    have h1 : (store (⟨Ci, off + i, none⟩ : Addr) v).run P w = .ok () (World.CW w Ci (.cells (c.setIfInBounds (off + i) v) e fr)) := by
      rw [run_store P w _ v _ (ho v (Qh ..)), V4 h];simp only [Array.getElem?_eq_getElem Co, UO h hf Co];rw [R2 h]; rfl
    have ql : Ci < w.heap.size := by
      rcases Nat.lt_or_ge Ci w.heap.size with h' | h'
      . exact h'
      . rw [Array.getElem?_eq_none h'] at h; cases h
    have h2 := DL (P := P) vs (w := World.CW w Ci (.cells (c.setIfInBounds (off + i) v) e fr)) (Ci := Ci) (off := off) (i := i + 1) (c := c.setIfInBounds (off + i) v) (e := e) (fr := fr)
      (by rw [AU]; simp [ql]) (by simpa using hf) (by simp at hl |-; omega) (fun u hu => ho u (Qg _ hu))
    unfold storeCells;rw [Bm];simp only [Sem.run_bind, h1, Result.andThen_ok, h2, LU];rfl
theorem LK {P:Program} {C:Cx} {S S':St} {w:World} (h:W2 C S w) {b off:Nat} {vs:List AV} {xs:List Value} (hv:Wc C vs xs) (hc:Cells vs)
 (e:bg S b off vs=some S'):∃w',(storeCells ⟨(C.pl b).Ci,(C.pl b).base+off,none⟩ xs).run P w= .ok () w'/\Cu C S w C S' w'/\C.D b:=by
 unfold bg at e;cases hb:S.heap.get b with
 |none=>rw[hb]at e;simp[eG]at e
 |some ob=>
  rw[hb]at e;unfold eG at e;split at e
  .next cs t part heq=>
   cases heq;unfold gK at e;split at e
   .next XU tm=>
    cases e;obtain⟨pre,iR,post,rfl,hp,hm,rfl⟩:=IS tm;obtain⟨hd,x,hx,hr⟩:=h.live b _ hb;cases hr with
    |cells qn ha Xn Wt hf kH=>
    rename_i c fr ys
    obtain⟨y,z3,rfl,h1,h4⟩:=AF qn;obtain⟨y1,z2,rfl,h2,h3⟩:=AF h1;obtain⟨p0,q0,X7,xZ⟩:=ha;have hle:(C.pl b).base+off+xs.length<=c.size:=by
     have:=congrArg List.length X7;simp at this;have e1:=h2.length;have e2:=h3.length;have e3:=hv.length;omega
    have ud:∀u∈xs,u.oneCell'=true:=by
     intro u hu;obtain⟨i,hi⟩:=List.getElem?_of_mem hu;have eW:i<vs.length:=by
      have:=hv.length;rcases Nat.lt_or_ge i xs.length with h'|h'
      .omega
      .rw[List.getElem?_eq_none h']at hi;cases hi
     obtain⟨y',tn,hr⟩:=hv.get (Qi eW);rw[hi]at tn;cases tn;exact hr.qW (hc _ (List.getElem_mem eW))
    refine⟨_,by simpa using DL (P:=P) xs (i:=0) hx hf (by simpa using hle) ud,?_,hd⟩;have eh:(putAt c ((C.pl b).base+off) xs).toList=(p0++y1)++xs++(z3++q0):=by
     refine F5 xs c _ (p0++y1) z2 (z3++q0) (by rw[X7];simp) ?_ ?_
     .simp[xZ,h2.length,hp]
     .rw[h3.length,hv.length,hm]
    refine El h hb _ _ (.cells (vs:=y1++xs++z3) ?_ ⟨p0,q0,by rw[eh];simp,xZ⟩ (by rw[Do];exact Xn) ?_ (by rw[Do];exact hf) ?_)
    .exact(h2.append hv).append h4
    .exact(Wt.sub.1.sub.1.append hc).append Wt.sub.2
    .intro hpf;obtain⟨a1,a2,a3⟩:=kH hpf;refine⟨a1,?_,a3⟩;rw[Do,<-a2];simp[hm]
   .cases e
  .cases e
theorem To {E:Env} {P:Program} (he:CV E P) {C:Cx} {S S':St} {w:World} (h:W2 C S w) {t:TypeId} {n:Nat} (hn:sizeOf E t=some n) {v p:AV} {x px:Value}
 (hv:VR C v x) (hp:VR C p px) (e:bG n S v p=some S'):∃a w',px= .pointer (some a)/\(Go.storeVar t a x).run P w= .ok () w'/\Cu C S w C S' w':=by
 unfold bG at e;split at e
 .next b off=>
  cases hb:(Nat.beq (WL v.cells) n&& !v.isTuple)with
  |false=>rw[hb]at e;cases e
  |true=>
   rw[hb]at e;simp only[Qf,Bool.not_eq_true']at hb;have hlen:v.cells.length=n:=by have:=Qb hb.1;simpa using this
   cases hp with
   |ptr hd=>
    obtain⟨w',hw,ht,_⟩:=LK (P:=P) h hv.cells (hv.Yv hb.2) e;refine⟨_,w',U,?_,ht⟩;have:x.cells.size=n:=by
     have:=hv.cells.length;simpa[hlen]using this
    simp[Go.storeVar,A6 he hn,this];exact hw
 .cases e
theorem MJ {C:Cx} {S:St} {w:World} (h:W2 C S w) {b:Nat} {o0:Cw} (au:S.heap.get b=some o0) (o:Cw) (x:Obj) (base sz:Nat)
 (hx:OR (C.Cy S.next ⟨(C.pl b).Ci,base,sz⟩) S.next o x):
 Cu C S w (C.Cy S.next ⟨(C.pl b).Ci,base,sz⟩) ((S.put b none).alloc o) (World.CW w (C.pl b).Ci x):=by
 have aB:¬C.D S.next:=fun hd=>Nat.lt_irrefl _ (h.fresh _ hd);have qV:=(h.live b o0 au).1;have fh:b≠S.next:=fun e=>aB (e▸qV);have e:=Ext.Cy (C:=C) (p:=⟨(C.pl b).Ci,base,sz⟩) aB;have Co:=h.lt au;have eg:∀k,((S.put b none).alloc o).heap.get k=if k=S.next then some o else if k=b then none else S.heap.get k:=by
  intro k;rw[JC];show(if k=S.next then _ else _)=_;split
  .rfl
  .exact IQ _ _ _ _
 have hold:∀k ok,k≠S.next->((S.put b none).alloc o).heap.get k=some ok->k≠b/\S.heap.get k=some ok:=by
  intro k ok hk hg;rw[eg,if_neg hk]at hg;split at hg
  .cases hg
  .next h'=>exact⟨h',hg⟩
 have cw:aq S ((S.put b none).alloc o).log b:=(Dt S b none).1;refine⟨e,⟨?_,?_,?_,?_,?_,?_,?_,?_,fun Ci ms hm=> .inl (h.XP Ci ms hm)⟩,rfl,(Dt S b none).2,Nat.le_succ _,by simp[World.CW],?_,?_,?_,?_,fun _ _ h=> .inl h,⟨rfl,rfl,rfl⟩⟩
 .intro k ok hk;by_cases qo:k=S.next
  .subst qo;rw[eg,if_pos rfl]at hk;cases hk;exact⟨.inr U,x,by rw[AU];simp[Cx.Cy,Co],hx⟩
  .obtain⟨hkb,hg⟩:=hold k ok qo hk;obtain⟨hd,y,hy,hr⟩:=h.live k ok hg;refine⟨.inl hd,y,?_,hr.mono e hd (fun _ h=>h)⟩;simp only[Cx.Cy,qo,if_false];rw[AU,if_neg (fun e'=>hkb (h.inj k b ok o0 hg au e'))];exact hy
 .intro k k' ok qX hk j3 heq;by_cases h1:k=S.next
  .by_cases h2:k'=S.next
   .rw[h1,h2]
   .exfalso;obtain⟨hkb,hg⟩:=hold k' qX h2 j3;subst h1;simp only[Cx.Cy,if_true,h2,if_false]at heq;exact hkb (h.inj k' b qX o0 hg au heq.symm)
  .obtain⟨hkb,hg⟩:=hold k ok h1 hk;by_cases h2:k'=S.next
   .exfalso;subst h2;simp only[Cx.Cy,if_true,h1,if_false]at heq;exact hkb (h.inj k b ok o0 hg au heq)
   .obtain⟨_,eU⟩:=hold k' qX h2 j3;simp only[Cx.Cy,h1,h2,if_false]at heq;exact h.inj k k' ok qX hg eU heq
 .rintro k (hd|rfl)
  .exact Nat.lt_succ_of_lt (h.fresh k hd)
  .exact Nat.lt_succ_self _
 .intro Ci ms hm;obtain⟨c,ty,fr,hc,e'⟩:=h.kG Ci ms hm;refine⟨c,ty,fr,?_,e'⟩;rw[AU,if_neg];· exact hc
  intro e'';have y9:C.M Ci=some ms:=hm;have:=h.apart b o0 au;rw[<-e'',y9]at this;cases this
 .intro k ok hk;by_cases qo:k=S.next
  .subst qo;simpa[Cx.Cy]using h.apart b o0 au
  .obtain⟨_,hg⟩:=hold k ok qo hk;simpa[Cx.Cy,qo]using h.apart k ok hg
 .exact fun b n hg=> .inl (h.stamps b n hg)
 .rintro k (hk|rfl)
  .simpa[World.CW]using h.there k hk
  .simpa[World.CW]using Co
 .rintro k (hd|rfl)
  .have:k≠S.next:=fun e'=>Nat.lt_irrefl _ (e'▸h.fresh k hd);exact .inl (by simpa[Cx.Cy,this]using h.WS k hd)
  .exact .inr (by simp[Cx.Cy])
 .intro Ci _ hn;rw[AU,if_neg];intro e';exact hn b o0 au cw e'.symm
 .intro k hd hm;have qo:k≠S.next:=by rintro rfl;exact aB hd
  have hkb:k≠b:=by rintro rfl;exact hm cw
  exact⟨by rw[eg,if_neg qo,if_neg hkb],fun _ h=>h⟩
 .rintro k (hd|rfl)
  .exact .inl hd
  .exact .inr (Qj _)
 .intro k ok hk;by_cases qo:k=S.next
  .subst qo;exact .inr (.inr ⟨b,o0,au,cw,by simp[Cx.Cy]⟩)
  .obtain⟨_,hg⟩:=hold k ok qo hk;exact .inl ⟨(h.live k ok hg).1,ok,hg⟩
end Am
