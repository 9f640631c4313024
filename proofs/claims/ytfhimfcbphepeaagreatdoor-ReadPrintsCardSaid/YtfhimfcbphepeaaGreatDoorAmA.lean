/- The abstract machine, and what it means that a state of it is a state of the model. -/
import GoSem.Step
import Derived.AtR
import Derived.Laws.Cells
namespace Am
theorem U {α:Sort _} {a:α}:a=a:=rfl
theorem Qa {α:Type _} {β:Type _} {b:β} {o:Option α} {f:α->Option β}:o.bind f=some b↔∃a,o=some a/\f a=some b:=Option.bind_eq_some_iff
theorem Qb {n m:Nat} (h:Nat.beq n m=true):n=m:=Nat.eq_of_beq_eq_true h
theorem Qc {n m:Nat} (h:Nat.ble n m=true):n<=m:=Nat.le_of_ble_eq_true h
theorem Qd {n m:Nat} (h:n<=m):Nat.ble n m=true:=Nat.ble_eq_true_of_le h
theorem Qe {α:Type _} {β:Type _} (a:α) (f:α->Option β):(some a).bind f=f a:=rfl
theorem Qf (a b:Bool):((a&&b)=true)=(a=true/\b=true):=Bool.and_eq_true a b
theorem Qg {α:Type _} (y:α) {a:α} {l:List α} (h:a∈l):a∈y::l:=List.mem_cons_of_mem y h
theorem Qh {α:Type _} {a:α} {l:List α}:a∈a::l:=List.mem_cons_self
theorem Qi {α:Type _} {l:List α} {i:Nat} (h:i<l.length):l[i]?=some l[i]:=List.getElem?_eq_getElem h
theorem Qj (n:Nat):n<=n:=Nat.le_refl n
theorem Qk {α:Type _} {b:α} {l:List α} {a:α}:a∈b::l↔a=b\/a∈l:=List.mem_cons
theorem Ql {α:Type _} {l:List α} {n:Nat} (h:n<l.length):l[n]∈l:=List.getElem_mem h
theorem Qm {α:Type _} {as bs:List α}:(as++bs).length=as.length+bs.length:=List.length_append
theorem Qn {α:Type _} {β:Type _} {as:List α} (f:α->β):(as.map f).length=as.length:=List.length_map f
theorem Qo (n:Nat):0<=n:=Nat.zero_le n
theorem Qp {α:Type _} {a b:α}:a∈[b]↔a=b:=List.mem_singleton
end Am
set_option linter.unusedSectionVars false
set_option linter.unusedVariables false
set_option linter.unusedSimpArgs false
namespace Am
open Go
inductive AV where
 |bool (b:Bool)
 |int (k:IntKind) (n:Int)
 |J (s:List UInt8)
 |Ys
 |Z (b off:Nat)
 |Zu (cs:List AV)
 |Ca
 |slice (b off len sz:Nat) (cap:Option Nat)
 |Ck (cs:List AV) (len sz:Nat) (cl:Bool)
 |Zn
 |H_ (b:Nat)
 |jv (b n:Nat)
 |fJ
 |any
 |G' (fn:Fn) (first captured:List AV)
 |Cz
 |H' (t:TypeId) (v:AV)
 |Yk
 |agg (cs:List AV)
 |O (vs:List AV)
 deriving Inhabited
inductive A_ where
 |J
 |O (p:A_)
 |Z (p:A_)
def mg:Nat->Nat->A_
 |0,_=> .J
 |n+1,k=>bif Nat.beq k 0 then .J else bif Nat.beq (k % 2) 1 then .O (mg n (k/2))else .Z (mg n (k/2-1))
def r_ (k:Nat):A_:=mg k k
inductive Tr (α:Type) where
 |J
 |O (l:Tr α) (v:Option α) (r:Tr α)
 deriving Inhabited
noncomputable section core
def Tr.G {α:Type} (p:A_):Tr α->Option α:=
 A_.rec (fun t=>Tr.rec none (fun _ v _ _ _=>v) t) (fun _ ih t=>Tr.rec none (fun l _ _ _ _=>ih l) t) (fun _ ih t=>Tr.rec none (fun _ _ r _ _=>ih r) t) p
def Tr.B {α:Type} (x:Option α) (p:A_):Tr α->Tr α:=
 A_.rec (fun t=>Tr.rec (.O .J x .J) (fun l _ r _ _=> .O l x r) t)
  (fun _ ih t=>Tr.rec (.O (ih .J) none .J) (fun l v r _ _=> .O (ih l) v r) t)
  (fun _ ih t=>Tr.rec (.O .J none (ih .J)) (fun l v r _ _=> .O l v (ih r)) t) p
def kW {α:Type} (a:α) (l:Option (List α)):Option (List α):=Option.rec none (fun r=>some (a::r)) l
def o_ {α:Type} (n:Nat):List α->Option (List α):=
 Nat.rec (fun _=>some []) (fun _ ih l=>List.rec none (fun a l _=>kW a (ih l)) l) n
def ab {α:Type} (n:Nat):List α->Option (List α):=
 Nat.rec (fun l=>some l) (fun _ ih l=>List.rec none (fun _ l _=>ih l) l) n
def mh {α:Type} (vs:List α):List α->Option (List α):=
 List.rec (fun l=>some l) (fun v _ ih l=>List.rec none (fun _ l _=>kW v (ih l)) l) vs
def over {α:Type} (vs:List α) (k:Nat):List α->Option (List α):=
 Nat.rec (fun l=>mh vs l) (fun _ ih l=>List.rec none (fun a l _=>kW a (ih l)) l) k
def pa {α:Type} (l:List α):Nat->Option α:=
 List.rec (fun _=>none) (fun a _ ih n=>Nat.rec (some a) (fun n _=>ih n) n) l
def ZA {α:Type} (l:List α):Nat:=List.rec 0 (fun _ _ ih=>ih+1) l
def xR {α:Type}:Option α->Option (List α)->Option (List α)
 |some b,some bs=>some (b::bs)
 |_,_=>none
def qD {α β:Type} (f:α->Option β) (l:List α):Option (List β):=
 List.rec (some []) (fun a _ ih=>xR (f a) ih) l
end core
noncomputable section
def eh {α:Type}:List α->List α
 | []=>[]
 |a::l=>match l with
  | []=>[a]
  |_::l=>a::eh l
def nu {α:Type}:Nat->List α->Tr α
 |0,_=> .J
 |n+1,l=>match l with
  | []=> .J
  |a::l=> .O (nu n (eh l)) (some a) (nu n (eh l.tail))
def Tr.u {α:Type} (t:Tr α) (k:Nat):Option α:=Tr.G (r_ k) t
def Tr.A {α:Type} (t:Tr α) (k:Nat) (x:Option α):Tr α:=Tr.B x (r_ k) t
structure dc where
 a:LoopState
 b:Option Code
 fn:FuncId
 nt:Nat
 c:Tr AV
 params:List Nat
 assign:Code
 body:Code
inductive Cv where
 |J (cs:List AV) (e:TypeId) (part:Bool)
 |O (es:List (AV×AV×Nat)) (clock:Nat)
 |aD (s:List UInt8) (pos:Nat)
 |Y1 (m:Option Nat) (since:Nat) (seen:List Nat) (Zz:Nat)
 |Z (l:dc)
 |G' (open_:Bool)
structure St where
 a:Nat
 b:Nat
 c:List Nat
 heap:Tr Cv
inductive ATarget where
 |fn (fn:Fn) (captured:List AV)
 |J (r:Nat)
structure kJ where
 a:ATarget
 args:List AV
structure Fr where
 nt:Nat
 defers:List kJ
 Zv:Option AV
 a:Option Nat
inductive Ex where
 |J
 |G' (id:Nat)
 |Z
 |O (v:AV)
structure dJ where
 c:Ex
 b:Fr
 T:Tr AV
 a:St
inductive f_ where
 |J
 |one (r:dJ)
 |O (l:List dJ)
def f_.B (k:dJ->f_):List dJ->Option (List dJ)
 | []=>some []
 |r::l=>match k r with
  | .J=>none
  | .one x=>match f_.B k l with|some y=>some (x::y)|none=>none
  | .O xs=>match f_.B k l with|some y=>some (xs++y)|none=>none
def f_.A:Option (List dJ)->f_
 |some y=> .O y
 |none=> .J
def f_.u (o:f_) (k:dJ->f_):f_:=
 match o with
 | .J=> .J
 | .one r=>k r
 | .O l=>f_.A (f_.B k l)
inductive CR where
 |same (v:AV)
 |J (v:AV) (st:St)
 |O (v:AV) (st:St)
structure a_ where
 b:Tr TypeInfo
 a:Tr Func
 e:FuncId->Nat
 d:FuncId->List AV->Option AV
 i:Nat->Option (List AV)
 c:Bool
 f:Bool
 plain:TypeId->Bool
 g:FuncId->Option (List AV->St->Option (AV×St))
inductive Mk where
 |O (v:AV)
 |J (o:Cv) (v:Nat->AV)
inductive fN where
 |J
 |make (f:Tr AV->Option Mk)
 |O (f:Tr AV->Option AV)
 |Z (x:Tr AV->Option AV) (f:Tr AV->St->Option AV)
 |I' (f:Tr AV->St->Option AV)
 |I_ (only:Bool) (x:Tr AV->Option AV) (f:Tr AV->St->Option (AV×St))
 |J' (f:Tr AV->Option (List AV))
 |qU (f:Tr AV->St->Option (List (AV×St)))
 |H_ (f:Tr AV->St->Option (FuncId×List AV))
 |dN (f:Tr AV->Option AV) (args:Tr AV->Option (List AV))
 |H' (f:Tr AV->Option kJ)
 |J_ (f:Tr AV->Option AV)
 |G'
section ops
variable (E : a_)
def AV.B:AV->Bool
 | .agg _=>false
 | .O _=>false
 |_=>true
def AV.A:AV->Bool
 | .O _=>true
 |_=>false
def AV.u:AV->List AV
 | .agg cs=>cs
 |v=>[v]
def jx:Value->Option AV
 | .bool b=>some (.bool b)
 | .int k n=>some (.int k n)
 | .string s=>some (.J s.data.toList)
 | .pointer none=>some .Ys
 | .slice none 0 0=>some .Ca
 | .map none=>some .Zn
 | .nilFunc=>some .Cz
 | .nilIface=>some .Yk
 |_=>none
def qV:Value->Option AV
 | .agg cs=>match qD jx cs.toList with|some l=>some (.agg l)|none=>none
 | .tuple cs=>match qD jx cs.toList with|some l=>some (.O l)|none=>none
 |v=>jx v
def qW (T:Tr TypeInfo):TypeDesc->Option TypeDesc
 | .named _ u=>match T.u u with|some i=>some i.desc|none=>none
 |d=>some d
def CS (t:TypeId):Option TypeDesc:=match E.b.u t with
 |some i=>qW E.b i.desc
 |none=>none
def an (t:TypeId):Option Nat:=match E.b.u t with|some i=>some i.size|none=>none
def p_ (t:TypeId):Option Nat:=match E.b.u t with|some i=>some i.bytes|none=>none
def j_ (t:TypeId):Option Bool:=match CS E t with
 |some (.struct _)=>some true
 |some (.array _ _)=>some true
 |some _=>some false
 |none=>none
def rH:Option AV->Option AV
 |some (.O _)=>none
 |o=>o
def i_ (t:TypeId):Option AV:=match E.b.u t with
 |some i=>match i.zero with|some v=>rH (qV v)|none=>none
 |none=>none
abbrev Tm:=Tr AV
abbrev TO:=Tm->Option AV
def wA (v:AV):TO:=fun _=>some v
def E_:TO:=fun _=>none
def xS:Option AV->TO
 |some v=>wA v
 |none=>E_
def Ch:Operand->TO
 | .tmp t=>Tr.G (r_ t)
 | .const v=>xS (qV v)
 | .global g=>match E.i g with|some cs=>wA (.Zu cs)|none=>E_
 | .func f=>wA (.G' (.func f) [] [])
def St.A (s:St) (o:Cv):St:= {s with a:=s.a+1,heap:=s.heap.A s.a (some o)}
def Z7 (b:Nat):List Nat->List Nat
 | []=>[b]
 |c::l=>bif Nat.beq b c then c::l else b::c::l
def St.B (s:St) (b:Nat) (o:Option Cv):St:= {s with c:=bif Nat.blt b s.b then Z7 b s.c else s.c,heap:=s.heap.A b o}
def Y4:Option Cv->Option (List AV)
 |some (.J cs _ _)=>some cs
 |_=>none
def jy:Option Cv->Option (List (AV×AV×Nat))
 |some (.O es _)=>some es
 |_=>none
def cf (s:St) (n:Nat):AV->Option (List AV)
 | .Zu cs=>o_ n cs
 | .Z b off=>(Y4 (s.heap.u b)).bind fun cs=>(ab off cs).bind fun l=>o_ n l
 |_=>none
def putCells (s:St) (b:Nat) (e:TypeId) (sl:Bool):Option (List AV)->Option St
 |some cs=>some (s.B b (some (.J cs e sl)))
 |none=>none
def jU (s:St) (b off:Nat) (vs:List AV):Option Cv->Option St
 |some (.J cs e sl)=>putCells s b e sl (over vs off cs)
 |_=>none
def fO (s:St) (b off:Nat) (vs:List AV):Option St:=jU s b off vs (s.heap.u b)
def oneV:List AV->Option AV
 | [v]=>some v
 |_=>none
def oZ (n:Nat) (s:St) (a:AV):Option AV:=(cf s n a).bind fun l=>some (.agg l)
def rI (s:St) (a:AV):Option AV:=(cf s 1 a).bind oneV
def Zd (t:TypeId):St->AV->Option AV:=
 match j_ E t,an E t with
 |some true,some n=>oZ n
 |some false,some _=>rI
 |_,_=>fun _ _=>none
def gm (n:Nat) (s:St) (v:AV):AV->Option St
 | .Z b off=>bif Nat.beq (ZA v.u) n&& !v.A then fO s b off v.u else none
 |_=>none
def ja:Option St->Option (AV×St)
 |some s=>some (.O [],s)
 |none=>none
def eJ (place:Nat->Option (Nat×Nat)):List (Nat×AV)->List AV->Option (List AV)
 | [],cells=>some cells
 |p::rest,cells=>(place p.1).bind fun q=>bif Nat.beq (ZA p.2.u) q.2&& !p.2.A then(over p.2.u q.1 cells).bind fun cs=>eJ place rest cs else none
def bp (zero:List AV):Nat->List AV
 |0=>[]
 |n+1=>zero++bp zero n
def fg:List (Nat×Operand)->Tm->Option (List (Nat×AV))
 | []=>fun _=>some []
 |p::l=>fun T=>(Ch E p.2 T).bind fun v=>(fg l T).bind fun r=>some ((p.1,v)::r)
def CV:List Operand->Tm->Option (List AV)
 | []=>fun _=>some []
 |x::l=>fun T=>(Ch E x T).bind fun v=>(CV l T).bind fun r=>some (v::r)
def Zg:Option Operand->Tm->Option (Option AV)
 |none=>fun _=>some none
 |some x=>fun T=>(Ch E x T).bind fun v=>some (some v)
def fP:List Field->Option (List (Nat×Nat))
 | []=>some []
 |f::l=>(an E f.type).bind fun n=>(fP l).bind fun r=>some ((f.offset,n)::r)
def eZ (t:TypeId):Option (List AV×(Nat->Option (Nat×Nat))):=
 (i_ E t).bind fun z=>match CS E t with
  |some (.struct fields)=>(fP E fields.toList).bind fun ps=>some (z.u,pa ps)
  |some (.array _ elem)=>(an E elem).bind fun size=>some (z.u,fun i=>some (i*size,size))
  |_=>none
def xU:Option (List AV)->Option AV
 |some cs=>some (.agg cs)
 |none=>none
def pE (t:TypeId) (parts:List (Nat×Operand)):fN:=
 match eZ E t with
 |some pl=> .O fun T=>(fg E parts T).bind fun ps=>xU (eJ pl.2 ps pl.1)
 |none=> .J
def gN (off n:Nat):AV->Option AV
 | .agg cs=>(ab off cs).bind fun l=>xU (o_ n l)
 |_=>none
def fb (off:Nat):AV->Option AV
 | .agg cs=>pa cs off
 |_=>none
def de (t:TypeId) (i:Nat):Option (Nat×Nat×Bool):=
 match CS E t with
 |some (.struct fields)=>(pa fields.toList i).bind fun f=>(an E f.type).bind fun n=>(j_ E f.type).bind fun a=>some (f.offset,n,a)
 |_=>none
def pF (t:TypeId) (x:Operand) (i:Nat):fN:=
 match de E t i with
 |some (off,n,true)=> .O fun T=>(Ch E x T).bind (gN off n)
 |some (off,_,false)=> .O fun T=>(Ch E x T).bind (fb off)
 |none=> .J
def aA (n:Nat):AV->Option AV
 | .Z b off=>some (.Z b (off+n))
 | .Zu cs=>(ab n cs).bind fun l=>some (.Zu l)
 |_=>none
def cK (t:TypeId) (x:Operand) (i:Nat):fN:=
 match de E t i with
 |some (off,n+1,_)=> .O fun T=>(Ch E x T).bind (aA off)
 |_=> .J
def Ze:AV->Option Nat
 | .int _ (.ofNat n)=>some n
 |_=>none
def vn:List AV->Option AV
 | []=>none
 |c::l=>some (.Zu (c::l))
def Yr (sz k:Nat):AV->Option AV
 | .slice b off len _ _=>bif Nat.blt k len then some (.Z b (off+k*sz))else none
 | .Ck cs len _ _=>bif Nat.blt k len then(ab (k*sz) cs).bind vn else none
 |_=>none
def ZP (t:TypeId) (x i:Operand):fN:=
 match CS E t with
 |some (.array n elem)=>match an E elem with
  |some (sz+1)=> .O fun T=>(Ch E i T).bind fun iv=>(Ze iv).bind fun k=>bif Nat.blt k n then(Ch E x T).bind (aA (k*(sz+1)))else none
  |_=> .J
 |some (.slice elem)=>match an E elem with
  |some (sz+1)=> .O fun T=>(Ch E i T).bind fun iv=>(Ze iv).bind fun k=>(Ch E x T).bind (Yr (sz+1) k)
  |_=> .J
 |_=> .J
def rJ (sz k:Nat):AV->Option AV
 | .agg cs=>(ab (k*sz) cs).bind fun l=>xU (o_ sz l)
 |_=>none
def rK (sz k:Nat):AV->Option AV
 | .agg cs=>pa cs (k*sz)
 |_=>none
def mi (k:Nat):AV->Option AV
 | .J s=>(pa s k).bind fun b=>some (.int .u8 b.toNat)
 |_=>none
def pG (t:TypeId) (x i:Operand):fN:=
 match CS E t with
 |some (.array n elem)=>match j_ E elem,an E elem with
  |some true,some sz=> .O fun T=>(Ch E i T).bind fun iv=>(Ze iv).bind fun k=>bif Nat.blt k n then(Ch E x T).bind (rJ sz k)else none
  |some false,some sz=> .O fun T=>(Ch E i T).bind fun iv=>(Ze iv).bind fun k=>bif Nat.blt k n then(Ch E x T).bind (rK sz k)else none
  |_,_=> .J
 |some .string=> .O fun T=>(Ch E i T).bind fun iv=>(Ze iv).bind fun k=>(Ch E x T).bind (mi k)
 |_=> .J
def dO (k:IntKind) (n:Int):AV:= .int k (k.wrap n)
def iy:List UInt8->List UInt8->Bool
 |_,[]=>false
 | [],_::_=>true
 |a::x,b::y=>bif Nat.blt a.toNat b.toNat then true else bif Nat.beq a.toNat b.toNat then iy x y else false
def CK:List UInt8->List UInt8->Bool
 | [],[]=>true
 |a::x,b::y=>bif Nat.beq a.toNat b.toNat then CK x y else false
 |_,_=>false
def tt (f:(n:Nat)->BitVec n->BitVec n->BitVec n) (k:IntKind) (a b:Int):AV:=
 dO k (f k.bits (BitVec.ofInt k.bits a) (BitVec.ofInt k.bits b)).toNat
def wB (k:IntKind) (a b:Int):Option AV:=if b=0 then none else some (dO k (a.tdiv b))
def wC (k:IntKind) (a b:Int):Option AV:=if b=0 then none else some (.int k (a.tmod b))
def shlA (k:IntKind) (x y:Int):Option AV:=if y<0 then none else some (dO k (x*2^(min y.toNat k.bits)))
def wD (k:IntKind) (x y:Int):Option AV:=if y<0 then none else some (.int k (x.fdiv (2^(min y.toNat k.bits))))
def rL:BinOp->Option (IntKind->Int->Int->Option AV)
 | .add=>some fun k a b=>some (dO k (a+b))
 | .sub=>some fun k a b=>some (dO k (a-b))
 | .mul=>some fun k a b=>some (dO k (a*b))
 | .quo=>some wB
 | .rem=>some wC
 | .eql=>some fun _ a b=>some (.bool (decide (a=b)))
 | .neq=>some fun _ a b=>some (.bool (!decide (a=b)))
 | .lss=>some fun _ a b=>some (.bool (decide (a<b)))
 | .leq=>some fun _ a b=>some (.bool (decide (a<=b)))
 | .gtr=>some fun _ a b=>some (.bool (decide (b<a)))
 | .geq=>some fun _ a b=>some (.bool (decide (b<=a)))
 | .and=>some fun k a b=>some (tt (fun _ x y=>x&&&y) k a b)
 | .or=>some fun k a b=>some (tt (fun _ x y=>x|||y) k a b)
 | .xor=>some fun k a b=>some (tt (fun _ x y=>x^^^y) k a b)
 | .andNot=>some fun k a b=>some (tt (fun _ x y=>x&&& ~~~y) k a b)
 |_=>none
def xV:BinOp->Option (List UInt8->List UInt8->Option AV)
 | .add=>some fun a b=>bif Nat.ble (ZA a+ZA b) 4294967296 then some (.J (a++b))else none
 | .eql=>some fun a b=>some (.bool (CK a b))
 | .neq=>some fun a b=>some (.bool (!CK a b))
 | .lss=>some fun a b=>some (.bool (iy a b))
 | .leq=>some fun a b=>some (.bool (iy a b||CK a b))
 | .gtr=>some fun a b=>some (.bool (!(iy a b||CK a b)))
 | .geq=>some fun a b=>some (.bool (!iy a b))
 |_=>none
def tu (f:IntKind->Int->Int->Option AV):AV->AV->Option AV
 | .int k a,.int k' b=>if k=k' then f k a b else none
 |_,_=>none
def om (f:IntKind->Int->Int->Option AV):AV->AV->Option AV
 | .int k a,.int _ b=>f k a b
 |_,_=>none
def u9 (f:List UInt8->List UInt8->Option AV):AV->AV->Option AV
 | .J a,.J b=>f a b
 |_,_=>none
def dY:TypeDesc->Bool
 | .bool=>true
 | .int _=>true
 | .string=>true
 |_=>false
inductive Kd where
 |one (d:TypeDesc)
 |flat (l:List TypeDesc)
def ct (t:TypeId):Option TypeDesc:=match CS E t with
 |some d=>bif dY d then some d else none
 |none=>none
def lu:List Field->Nat->Option (List TypeDesc)
 | [],_=>some []
 |f::l,i=>bif Nat.beq f.offset i&& !(f.name== "_")then(ct E f.type).bind fun d=>(lu l (i+1)).bind fun r=>some (d::r)else none
def rep {α:Type} (a:α):Nat->List α
 |0=>[]
 |n+1=>a::rep a n
def eC (t:TypeId):Option Kd:=match CS E t with
 |some (.struct fs)=>bif E.plain t then(lu E fs.toList 0).bind fun l=>some (.flat l)else none
 |some (.array n e)=>match ct E e,an E e with
  |some d,some 1=>some (.flat (rep d n))
  |_,_=>none
 |some d=>bif dY d then some (.one d)else none
 |none=>none
def wE:TypeDesc->AV->AV->Option Bool
 | .bool,.bool a,.bool b=>some (bif a then b else !b)
 | .int _,.int j a,.int k b=>if j=k then some (decide (a=b))else none
 | .string,.J a,.J b=>some (CK a b)
 |_,_,_=>none
def dP:List TypeDesc->List AV->List AV->Option Bool
 | [],[],[]=>some true
 |d::l,a::x,b::y=>(wE d a b).bind fun r=>bif r then dP l x y else some false
 |_,_,_=>none
def fh:Kd->AV->AV->Option Bool
 | .one d,a,b=>wE d a b
 | .flat l,.agg a,.agg b=>dP l a b
 |_,_,_=>none
def okD:TypeDesc->AV->Bool
 | .bool,.bool _=>true
 | .int _,.int _ _=>true
 | .string,.J _=>true
 |_,_=>false
def qX:List TypeDesc->List AV->Bool
 | [],[]=>true
 |d::l,a::x=>okD d a&&qX l x
 |_,_=>false
def iz:Kd->AV->Bool
 | .one d,v=>okD d v
 | .flat l,.agg cs=>qX l cs
 |_,_=>false
def qY:AV->AV->Option Bool
 | .Ys,.Ys=>some true
 | .Ys,.Z _ _=>some false
 | .Ys,.Zu _=>some false
 | .Z _ _,.Ys=>some false
 | .Zu _,.Ys=>some false
 |_,_=>none
def isVar:Option Cv->Bool
 |some (.J _ _ part)=> !part
 |_=>false
def jz (s:St):AV->AV->Option Bool
 | .Z a i,.Z b j=>bif Nat.beq a b then some (Nat.beq i j)else bif isVar (s.heap.u a)&&isVar (s.heap.u b)then some false else none
 |a,b=>qY a b
def pH:AV->AV->Option Bool
 | .Cz,.Cz=>some true
 | .Cz,.G' _ _ _=>some false
 | .G' _ _ _,.Cz=>some false
 |_,_=>none
def j0 (t:TypeId):Bool:=match E.b.u t with|some i=>i.comparable|none=>false
def mj (lit:Bool):AV->AV->Option Bool
 | .Yk,.Yk=>bif lit then some true else none
 | .Yk,.H' _ _=>some false
 | .H' _ _,.Yk=>some false
 | .H' t x,.H' u y=>bif Nat.beq t u then(bif j0 E t then(ct E t).bind fun d=>wE d x y else none)else some false
 |_,_=>none
def s_:Operand->Bool
 | .const _=>true
 |_=>false
def nilA:AV->Option (List Bool)
 | .slice _ _ _ _ _=>some [false]
 | .Ck (_::_) _ _ _=>some [false]
 | .Ck [] _ _ _=>some [true,false]
 | .Ca=>some [true,false]
 |_=>none
def rM (neg:Bool):List Bool->List AV
 | []=>[]
 |b::l=> .bool (bif neg then !b else b)::rM neg l
def au (neg:Bool):Option Bool->Option AV
 |some b=>some (.bool (bif neg then !b else b))
 |none=>none
def cu (f:AV->AV->Option AV) (x y:Operand):fN:= .O fun T=>(Ch E x T).bind fun a=>(Ch E y T).bind fun b=>f a b
def vo (neg:Bool) (kd:Option Kd) (x y:Operand):fN:=
 match kd with
 |some kd=>cu E (fun a b=>au neg (fh kd a b)) x y
 |none=> .J
def eqC (neg:Bool) (t:TypeId) (x y:Operand):fN:=
 match CS E t with
 |some .bool=>cu E (fun a b=>au neg (wE .bool a b)) x y
 |some (.pointer e)=>match an E e with
  |some (_+1)=> .I' fun T s=>(Ch E x T).bind fun a=>(Ch E y T).bind fun b=>au neg (jz s a b)
  |_=>cu E (fun a b=>au neg (qY a b)) x y
 |some (.interface _)=>cu E (fun a b=>au neg (mj E (s_ x||s_ y) a b)) x y
 |some (.func _ _ _)=>cu E (fun a b=>au neg (pH a b)) x y
 |some (.array _ _)=>vo E neg (eC E t) x y
 |some (.struct _)=>vo E neg (eC E t) x y
 |some (.slice _)=>match y with
  | .const (.slice none 0 0)=> .J' fun T=>(Ch E x T).bind fun a=>(nilA a).bind fun l=>some (rM neg l)
  |_=> .J
 |_=> .J
def lz (op:BinOp) (t:TypeId) (x y:Operand):fN:=
 match CS E t with
 |some (.int _)=>match op with
  | .shl=>cu E (om shlA) x y
  | .shr=>cu E (om wD) x y
  |_=>match rL op with|some f=>cu E (tu f) x y|none=> .J
 |some .string=>match xV op with|some f=>cu E (u9 f) x y|none=> .J
 |_=>match op with
  | .eql=>eqC E false t x y
  | .neq=>eqC E true t x y
  |_=> .J
def xW:UnOp->AV->Option AV
 | .neg,.int k n=>some (dO k (0-n))
 | .not,.bool b=>some (.bool (!b))
 | .xor,.int k n=>some (tt (fun _ x y=>x^^^y) k (if k.signed then-1 else k.max) n)
 |_,_=>none
def ZE:List AV->Option (List UInt8)
 | []=>some []
 | .int .u8 n::l=>(ZE l).bind fun r=>some (UInt8.ofNat n.toNat::r)
 |_=>none
def d_:List UInt8->List AV
 | []=>[]
 |c::l=> .int .u8 c.toNat::d_ l
def ZQ (s:St) (sz:Nat):AV->Option (List AV×Nat)
 | .Ca=>some ([],0)
 | .Ck cs len db _=>bif Nat.beq db sz then(o_ (len*sz) cs).bind fun l=>some (l,len)else none
 | .slice b off len db _=>bif Nat.beq db sz then(Y4 (s.heap.u b)).bind fun cs=>(ab off cs).bind fun l=>(o_ (len*sz) l).bind fun l=>some (l,len)else none
 |_=>none
def r5 (e:TypeId):Bool:=match CS E e with
 |some (.int .u8)=>true
 |_=>false
def pI (k:IntKind):AV->Option AV
 | .int _ n=>some (dO k n)
 |_=>none
def uA:AV->Option AV
 | .J b=>some (.J b)
 |_=>none
def ml (e:TypeId):AV->Option Mk
 | .J b=>some (.J (.J (d_ b) e true) fun i=> .slice i 0 (ZA b) 1 none)
 |_=>none
def fi (s:St) (x:AV):Option AV:=
 (ZQ s 1 x).bind fun l=>(ZE l.1).bind fun r=>some (.J r)
def gO (s:St):AV->Option AV
 | .Ys=>some .Ys
 | .Z b off=>(Y4 (s.heap.u b)).bind fun cs=>bif Nat.blt off (ZA cs)then some (.Z b off)else none
 |_=>none
def jV (u off:Nat):List Field->Bool
 | []=>false
 |f::l=>(Nat.beq f.offset off&&Nat.beq f.type u)||jV u off l
def rN (e u off:Nat):Bool:=(Nat.beq e u&&Nat.beq off 0)||(E.plain e&&match CS E e with
 |some (.struct fs)=>jV u off fs.toList
 |_=>false)
def iA (u b off:Nat):Option Cv->Option AV
 |some (.J cs e false)=>(an E e).bind fun n=>bif rN E e u off&&Nat.ble n (ZA cs)&&Nat.blt off n then some (.Z b off)else none
 |_=>none
def dR (s:St) (u:TypeId):AV->Option AV
 | .Ys=>some .Ys
 | .Z b off=>iA E u b off (s.heap.u b)
 |_=>none
def gQ (src dst:TypeId) (x:Operand):fN:=
 match CS E src,CS E dst with
 |some (.int _),some (.int k)=> .O fun T=>(Ch E x T).bind (pI k)
 |some (.pointer t),some .unsafePointer=>match an E t with
  |some (_+1)=> .Z (Ch E x) fun T s=>(Ch E x T).bind (gO s)
  |_=> .J
 |some .unsafePointer,some (.pointer u)=>match an E u with
  |some (_+1)=> .Z (Ch E x) fun T s=>(Ch E x T).bind (dR E s u)
  |_=> .J
 |some .string,some .string=> .O fun T=>(Ch E x T).bind uA
 |some .string,some (.slice e)=>bif r5 E e then .make fun T=>(Ch E x T).bind (ml e)else .J
 |some (.slice e),some .string=>bif r5 E e then .Z (Ch E x) fun T s=>(Ch E x T).bind (fi s)else .J
 |_,_=> .J
def YB (dflt fj:Nat):Option AV->Option Nat
 |none=>some dflt
 |some v=>(Ze v).bind fun n=>bif Nat.ble n fj then some n else none
def y_ {α:Type} (l:List α) (lo n:Nat):Option (List α):=(ab lo l).bind fun r=>o_ n r
def gR (lo hi:Option AV):AV->Option AV
 | .J b=>(YB (ZA b) (ZA b) hi).bind fun h=>(YB 0 h lo).bind fun l=>(y_ b l (h-l)).bind fun q=>some (.J q)
 |_=>none
def gq (sz off len:Nat) (cap:Option Nat) (cs:List AV):Nat:=
 match cap with
 |some c=>c
 |none=>bif Nat.beq sz 0 then len else(ZA cs-off)/sz
def F_ (sz b off len:Nat) (cap:Option Nat) (fj l:Nat):Option AV:=
 match cap with
 |some c=>some (bif Nat.beq c l then(bif Nat.beq c 0 then .slice b off 0 sz (some 0)else .Ca)else .slice b (off+l*sz) len sz (some (c-l)))
 |none=>bif Nat.blt l fj then some (.slice b (off+l*sz) len sz none)else bif Nat.beq len 0 then some (.slice b (off+l*sz) 0 sz (some 0))else none
def jW (sz:Nat) (lo hi mx:Option AV) (b off len:Nat) (cap:Option Nat) (fj:Nat):Option AV:=
 match mx with
 |none=>(YB len fj hi).bind fun h=>(YB 0 h lo).bind fun l=>F_ sz b off (h-l) cap fj l
 |some _=>none
def dZ (sz:Nat) (lo hi:Option AV) (cs:List AV) (len:Nat) (cl:Bool) (fj:Nat):Option AV:=
 (YB len fj hi).bind fun h=>(YB 0 h lo).bind fun l=>(y_ cs (l*sz) ((h-l)*sz)).bind fun q=>some (.Ck q (h-l) sz cl)
def gT (sz:Nat) (lo hi mx:Option AV) (cs:List AV) (len:Nat) (cl:Bool):Option AV:=
 match mx with
 |none=>dZ sz lo hi cs len cl len
 |some _=>none
def xX (lo hi:Option AV):Option AV->Option AV
 |none=>(YB 0 0 hi).bind fun _=>(YB 0 0 lo).bind fun _=>some .Ca
 |some _=>none
def YX (s:St) (sz:Nat) (lo hi mx:Option AV):AV->Option AV
 | .Ca=>xX lo hi mx
 | .Ck cs len db cl=>bif Nat.beq db sz then gT sz lo hi mx cs len cl else none
 | .slice b off len db cap=>bif Nat.beq db sz then(Y4 (s.heap.u b)).bind fun cs=>jW sz lo hi mx b off len cap (gq sz off len cap cs)else none
 |_=>none
def gU (sz n:Nat) (lo hi:Option AV):AV->Option AV
 | .Z b off=>(YB n n hi).bind fun h=>(YB 0 h lo).bind fun l=>bif Nat.beq n l then some .Ca else some (.slice b (off+l*sz) (h-l) sz (some (n-l)))
 | .Zu cs=>dZ sz lo hi cs n false n
 |_=>none
def fk (t:TypeId) (x:Operand) (lo hi mx:Option Operand):fN:=
 match CS E t with
 |some .string=>match mx with
  |none=> .O fun T=>(Ch E x T).bind fun a=>(Zg E lo T).bind fun l=>(Zg E hi T).bind fun h=>gR l h a
  |some _=> .J
 |some (.slice e)=>match an E e with
  |some sz=> .Z (Ch E x) fun T s=>(Ch E x T).bind fun a=>(Zg E lo T).bind fun l=>(Zg E hi T).bind fun h=>(Zg E mx T).bind fun m=>YX s sz l h m a
  |none=> .J
 |some (.array n e)=>match an E e,mx with
  |some sz,none=> .O fun T=>(Ch E x T).bind fun a=>(Zg E lo T).bind fun l=>(Zg E hi T).bind fun h=>gU sz n l h a
  |_,_=> .J
 |_=> .J
def fQ:AV->Bool
 | .int _ _=>true
 | .J _=>true
 | .bool _=>true
 |_=>false
def mm:AV->Bool
 | .int _ _=>true
 | .J _=>true
 | .bool _=>true
 | .agg cs=>cs.all fQ
 |_=>false
abbrev Y2:=AV×AV×Nat
def Zl (kd:Kd) (k:AV):List Y2->Option (Option Y2)
 | []=>some none
 |e::es=>(fh kd k e.1).bind fun r=>(Zl kd k es).bind fun q=>some (bif r then some e else q)
def B' (kd:Kd) (k:AV) (e:Y2):Bool:=match fh kd k e.1 with
 |some b=>b
 |none=>false
def oO (kd:Kd) (k v:AV):List Y2->List Y2
 | []=>[]
 |e::es=>bif B' kd k e then(k,v,e.2.2)::es else e::oO kd k v es
def qE (kd:Kd) (k:AV):List Y2->List Y2
 | []=>[]
 |e::es=>bif B' kd k e then es else e::qE kd k es
def iB (s:St):AV->Option (List Y2)
 | .Zn=>some []
 | .H_ b=>jy (s.heap.u b)
 |_=>none
def j1 (ok:Bool) (z:AV):Option Y2->AV
 |some e=>bif ok then .O [e.2.1,.bool true]else e.2.1
 |none=>bif ok then .O [z,.bool false]else z
def cF (kd:Kd) (s:St) (ok:Bool) (z x k:AV):Option AV:=
 bif iz kd k then(iB s x).bind fun es=>(Zl kd k es).bind fun r=>some (j1 ok z r)else none
def iC (t:TypeId) (x k:Operand) (ok:Bool):fN:=
 match CS E t with
 |some (.map key elem)=>match i_ E elem,eC E key with
  |some z,some kd=> .Z (Ch E x) fun T s=>(Ch E x T).bind fun a=>(Ch E k T).bind fun b=>cF kd s ok z a b
  |_,_=> .J
 |_=> .J
def gV (kd:Kd) (s:St) (b:Nat) (k v:AV):Option Cv->Option St
 |some (.O es clock)=>(Zl kd k es).bind fun r=>match r with
  |some _=>some (s.B b (some (.O (oO kd k v es) clock)))
  |none=>some (s.B b (some (.O (es++[(k,v,clock)]) (clock+1))))
 |_=>none
def eR (kd:Kd) (s:St) (k v:AV):AV->Option St
 | .H_ b=>bif iz kd k then gV kd s b k v (s.heap.u b)else none
 |_=>none
def jX (t:TypeId) (m k v:Operand):fN:=
 match CS E t with
 |some (.map key _)=>match eC E key with
  |some kd=> .I_ true (Ch E m) fun T s=>(Ch E m T).bind fun a=>(Ch E k T).bind fun b=>(Ch E v T).bind fun c=>ja (eR kd s b c a)
  |none=> .J
 |_=> .J
def mn (n:Nat) (v:AV):List Y2->Option (List Y2)
 | []=>none
 |e::es=>bif Nat.beq e.2.2 n then some ((e.1,v,e.2.2)::es)else(mn n v es).bind fun r=>some (e::r)
def m_ (n CZ:Nat):Bool:=Nat.ble (n*CZ) 1099511627776&&Nat.ble n 1099511627776&& !(Nat.beq CZ 0)&&Nat.ble CZ 1048576
def mq (sz len n:Nat) (cap:Option Nat) (l:List AV):Bool:=
 match cap with
 |some c=>Nat.ble (len+n) c
 |none=>Nat.ble ((len+n)*sz) (ZA l)
def vp {α:Type}:Option α->Bool
 |some _=>true
 |none=>false
def kY:Option Nat->Bool
 |none=>true
 |some 0=>true
 |some (_+1)=>false
def fo (s:St) (b:Nat) (cap:Option Nat):St:=bif kY cap then s.B b none else s
def fp (s:St) (e:TypeId) (sz:Nat) (new:List AV) (n b off len:Nat) (cap:Option Nat) (cs:List AV) (e0:TypeId) (sl:Bool):Option (AV×St):=
 (ab off cs).bind fun l=>
  bif mq sz len n cap l then(over new (off+len*sz) cs).bind fun bq=>some (.slice b off (len+n) sz cap,s.B b (some (.J bq e0 sl)))
  else bif Nat.beq e e0|| !(kY cap)then(o_ (len*sz) l).bind fun ec=>some (.slice s.a 0 (len+n) sz none,(fo s b cap).A (.J (ec++new) e true))else none
def dg (s:St) (e:TypeId) (sz:Nat) (new:List AV) (n b off len:Nat) (cap:Option Nat):Option Cv->Option (AV×St)
 |some (.J cs e0 sl)=>fp s e sz new n b off len cap cs e0 sl
 |_=>none
def CJ (s:St) (e:TypeId) (sz CZ:Nat) (new:List AV) (n:Nat):AV->Option (AV×St)
 | .Ca=>bif Nat.beq n 0 then some (.Ca,s)else bif m_ n CZ then some (.slice s.a 0 n sz none,s.A (.J new e true))else none
 | .Ck cs len db cl=>bif Nat.beq n 0 then some (.Ck cs len db cl,s)else none
 | .slice b off len db cap=>bif Nat.beq n 0 then some (.slice b off len db cap,s)
  else bif Nat.beq db sz&&m_ (len+n) CZ then dg s e sz new n b off len cap (s.heap.u b)else none
 |_=>none
def YQ (s:St) (sz:Nat):AV->Option (List AV×Nat)
 | .J b=>bif Nat.beq sz 1 then some (d_ b,ZA b)else none
 |y=>ZQ s sz y
def zerosV (z:List AV) (y:AV):Option (List AV×Nat):=
 (Ze y).bind fun n=>bif Nat.ble n 1048576 then some (bp z n,n)else none
def aB:Option TypeId->Bool
 |some t=>match CS E t with
  |some (.int _)=>true
  |_=>false
 |none=>false
def iD:Option TypeId->Bool
 |some t=>vp (CS E t)
 |none=>true
def iE (sT:TypeId) (xT:Option TypeId) (x y:Operand):fN:=
 match CS E sT with
 |some (.slice e)=>match an E e,p_ E e,i_ E e with
  |some sz,some CZ,some z=>
   bif !(Nat.beq (ZA z.u) sz)||Nat.beq sz 0|| !(iD E xT)then .J else
   bif aB E xT then .I_ true (Ch E x) fun T s=>(Ch E x T).bind fun a=>(Ch E y T).bind fun b=>(zerosV z.u b).bind fun p=>CJ s e sz CZ p.1 p.2 a
   else .I_ false (Ch E x) fun T s=>(Ch E x T).bind fun a=>(Ch E y T).bind fun b=>(YQ s sz b).bind fun p=>CJ s e sz CZ p.1 p.2 a
  |_,_,_=> .J
 |_=> .J
def copyV (s:St) (sz:Nat) (src:List AV×Nat):AV->Option (AV×St)
 | .slice b off len db _=>bif Nat.beq db sz then(o_ (Nat.min src.2 len*sz) src.1).bind fun l=>(fO s b off l).bind fun s'=>some (.int .i64 (Nat.min src.2 len:Nat),s')else none
 | .Ca=>some (.int .i64 0,s)
 |_=>none
def tv (t:TypeId) (x y:Operand):fN:=
 match CS E t with
 |some (.slice e)=>match an E e with
  |some sz=> .I_ false (Ch E x) fun T s=>(Ch E x T).bind fun a=>(Ch E y T).bind fun b=>(YQ s sz b).bind fun p=>copyV s sz p a
  |none=> .J
 |_=> .J
def rO:AV->Option AV
 | .J b=>some (.int .i64 (ZA b))
 |_=>none
def jb:AV->Option AV
 | .Ca=>some (.int .i64 0)
 | .Ck _ n _ _=>some (.int .i64 n)
 | .slice _ _ n _ _=>some (.int .i64 n)
 |_=>none
def xY (s:St) (x:AV):Option AV:=(iB s x).bind fun es=>some (.int .i64 (ZA es))
def uB (t:TypeId) (x:Operand):fN:=
 match CS E t with
 |some .string=> .O fun T=>(Ch E x T).bind rO
 |some (.slice _)=> .O fun T=>(Ch E x T).bind jb
 |some (.array n _)=> .O fun T=>(Ch E x T).bind fun _=>some (.int .i64 n)
 |some (.map _ _)=> .Z (Ch E x) fun T s=>(Ch E x T).bind (xY s)
 |some (.pointer a)=>match CS E a with
  |some (.array n _)=> .O fun T=>(Ch E x T).bind fun _=>some (.int .i64 n)
  |_=> .J
 |_=> .J
def wF:AV->Option AV
 | .Ca=>some (.int .i64 0)
 | .slice _ _ _ _ (some (c+1))=>some (.int .i64 ((c+1:Nat):Int))
 |_=>none
def xZ (t:TypeId) (x:Operand):fN:=
 match CS E t with
 |some (.slice _)=> .O fun T=>(Ch E x T).bind wF
 |_=> .J
def ya (kd:Kd) (s:St) (b:Nat) (k:AV):Option Cv->Option St
 |some (.O es clock)=>(Zl kd k es).bind fun r=>match r with
  |some _=>some (s.B b (some (.O (qE kd k es) clock)))
  |none=>some s
 |_=>none
def tx (kd:Kd) (s:St) (k:AV):AV->Option St
 | .H_ b=>bif iz kd k then ya kd s b k (s.heap.u b)else none
 | .Zn=>bif iz kd k then some s else none
 |_=>none
def yb (t:TypeId) (m k:Operand):fN:=
 match CS E t with
 |some (.map key _)=>match eC E key with
  |some kd=> .I_ true (Ch E m) fun T s=>(Ch E m T).bind fun a=>(Ch E k T).bind fun b=>ja (tx kd s b a)
  |none=> .J
 |_=> .J
def wG (c:Nat):List UInt8->Nat
 | []=>0
 |b::l=>bif Nat.beq b.toNat c then wG c l+1 else wG c l
def yc (c:Nat):List UInt8->Option Nat
 | []=>none
 |b::l=>bif Nat.beq b.toNat c then some 0 else(yc c l).bind fun n=>some (n+1)
def uC:AV->AV->Option AV
 | .J l,.int .u8 (.ofNat c)=>bif Nat.blt c 256 then some (.int .i64 (wG c l))else none
 |_,_=>none
def l4:AV->AV->Option AV
 | .J l,.int .u8 (.ofNat c)=>bif Nat.blt c 256 then(match yc c l with
  |some n=>some (.int .i64 n)
  |none=>some (.int .i64 (-1)))else none
 |_,_=>none
def vq:AV->AV->Option AV
 | .int k x,.int _ y=>some (.int k (if y>x then y else x))
 |_,_=>none
def vr:AV->AV->Option AV
 | .int k x,.int _ y=>some (.int k (if y<x then y else x))
 |_,_=>none
def vu (f:AV->AV->Option AV):List AV->AV->Option AV
 | [],x=>some x
 |y::l,x=>(f x y).bind fun z=>vu f l z
def maxC (f:AV->AV->Option AV) (xs:List Operand):fN:=
 match xs with
 |x::l=> .O fun T=>(Ch E x T).bind fun a=>(CV E l T).bind fun r=>vu f r a
 | []=> .J
def fq (e:TypeId) (sz CZ:Nat) (z:List AV) (l c:Nat):Option Mk:=
 bif Nat.ble l c&&(Nat.beq c 0||m_ c CZ)then
  bif Nat.beq c 0 then some (.O .Ca)else some (.J (.J (bp z c) e false) fun b=> .slice b 0 l sz (some c))
 else none
def l5 (t:TypeId) (l c:Operand):fN:=
 match CS E t with
 |some (.slice e)=>match an E e,p_ E e,i_ E e with
  |some sz,some CZ,some z=>bif Nat.beq (ZA z.u) sz then .make fun T=>(Ch E l T).bind fun a=>(Ch E c T).bind fun b=>(Ze a).bind fun n=>(Ze b).bind fun m=>fq e sz CZ z.u n m else .J
  |_,_,_=> .J
 |_=> .J
def ei (e:TypeId) (sz len:Nat):Option (List AV)->Option Mk
 |some cs=>bif Nat.beq len 0 then some (.O .Ca)else some (.J (.J cs e false) fun b=> .slice b 0 len sz (some len))
 |none=>none
def b8 (t:TypeId) (len:Nat) (parts:List (Nat×Operand)):fN:=
 match CS E t with
 |some (.slice e)=>match an E e,i_ E e with
  |some sz,some z=>bif Nat.beq (ZA z.u) sz&&Nat.ble (len*sz) 16777216&& !(Nat.beq sz 0)then
   .make fun T=>(fg E parts T).bind fun ps=>ei e sz len (eJ (fun i=>some (i*sz,sz)) ps (bp z.u len))else .J
  |_,_=> .J
 |_=> .J
def tz:AV->Option Mk
 | .J b=>some (.J (.aD b 0) fun i=> .Z i 0)
 |_=>none
def rangeMap (s:St):AV->Option (AV×St)
 | .Zn=>some (.Z s.a 0,s.A (.Y1 none 0 [] 0))
 | .H_ m=>match s.heap.u m with
  |some (.O _ clock)=>some (.Z s.a 0,s.A (.Y1 (some m) clock [] clock))
  |_=>none
 |_=>none
def l7 (t:TypeId) (x:Operand):fN:=
 match CS E t with
 |some .string=> .make fun T=>(Ch E x T).bind tz
 |some (.map _ _)=> .I_ false E_ fun T s=>(Ch E x T).bind (rangeMap s)
 |_=> .J
def vv (s:St) (r:Nat) (b:List UInt8) (pos:Nat) (d:Nat×Nat):Option (AV×St):=
 some (.O [.bool true,.int .i64 pos,.int .i32 d.1],s.B r (some (.aD b (pos+d.2))))
def gW (s:St) (r:Nat):Option Cv->Option (AV×St)
 |some (.aD b pos)=>(ab pos b).bind fun l=>match l with
  |c::_=>bif Nat.blt c.toNat 128 then some (.O [.bool true,.int .i64 pos,.int .i32 c.toNat],s.B r (some (.aD b (pos+1))))else vv s r b pos (Utf8.decode ⟨b.toArray⟩ pos)
  | []=>some (.O [.bool false],s)
 |_=>none
def iF (s:St):AV->Option (AV×St)
 | .Z r 0=>gW s r (s.heap.u r)
 |_=>none
def ft (n:Nat):List Nat->Bool
 | []=>false
 |k::l=>bif Nat.beq k n then true else ft n l
def YY (seen:List Nat):List Y2->List Y2
 | []=>[]
 |e::l=>bif ft e.2.2 seen then YY seen l else e::YY seen l
def j2 (s:St) (r m since clock:Nat) (seen:List Nat):List Y2->List (AV×St)
 | []=>[]
 |e::l=>(.O [.bool true,e.1,e.2.1],s.B r (some (.Y1 (some m) since (seen++[e.2.2]) clock)))::j2 s r m since clock seen l
def jY (s:St) (r m since Zz:Nat) (seen:List Nat):Option Cv->Option (List (AV×St))
 |some (.O es clock)=>bif Nat.beq clock Zz&&Nat.beq clock since then
  match YY seen es with
  | []=>some [(.O [.bool false],s)]
  |e::l=>some (j2 s r m since clock seen (e::l))
  else none
 |_=>none
def jZ (s:St) (r:Nat):Option Cv->Option (List (AV×St))
 |some (.Y1 none _ _ _)=>some [(.O [.bool false],s)]
 |some (.Y1 (some m) since seen Zz)=>jY s r m since Zz seen (s.heap.u m)
 |_=>none
def iG (s:St):AV->Option (List (AV×St))
 | .Z r 0=>jZ s r (s.heap.u r)
 |_=>none
def qZ:List Nat->Option Nat
 | []=>none
 |a::l=>match l with
  | []=>some a
  |_::_=>qZ l
def dh (n:Nat):List Y2->Option Y2
 | []=>none
 |e::es=>bif Nat.beq e.2.2 n then some e else dh n es
def pc (Zz n:Nat):Option Cv->Option AV
 |some (.O es clock)=>bif Nat.beq clock Zz then(dh n es).bind fun e=>some (.O [e.1,e.2.1])else none
 |_=>none
def mr (s:St):Option Cv->Option AV
 |some (.Y1 (some m) _ seen Zz)=>(qZ seen).bind fun n=>pc Zz n (s.heap.u m)
 |_=>none
def j3 (s:St):AV->Option AV
 | .Z r 0=>mr s (s.heap.u r)
 |_=>none
def uD (ok:Bool) (v:AV):Option AV:=some (bif ok then .O [v,.bool true]else v)
def rP (ok:Bool) (z:AV):Option AV:=bif ok then some (.O [z,.bool false])else none
def ke (t:TypeId) (ok:Bool) (z:AV):AV->Option AV
 | .H' u v=>bif Nat.beq u t then uD ok v else rP ok z
 | .Yk=>rP ok z
 |_=>none
def mu (x:Operand) (t:TypeId) (ok:Bool):fN:=
 match CS E t,i_ E t with
 |some (.interface _),some _=> .J
 |some _,some z=> .O fun T=>(Ch E x T).bind (ke t ok z)
 |_,_=> .J
inductive Recv where
 |mk (off:Option Nat) (load:Option TypeId)
 |part (off n:Nat) (agg:Bool)
def ny (off:Option Nat) (f:FuncId) (t:TypeId):Bool->Option (FuncId×Recv)
 |true=>match CS E t,off with
  |some (.pointer _),none=>some (f,.mk none none)
  |some (.pointer _),some n=>some (f,.mk (some n) (some t))
  |some _,some n=>some (f,.mk (some n) none)
  |_,_=>none
 |false=>match CS E t,off with
  |some (.pointer e),none=>some (f,.mk none (some e))
  |some (.pointer _),some _=>none
  |some _,none=>some (f,.mk none none)
  |some _,some n=>some (f,.mk (some n) (some t))
  |_,_=>none
def uE (t:TypeId):Bool:=match CS E t with
 |some (.pointer _)=>true
 |_=>false
def stepOf (st:FieldStep):Option (Nat×TypeId):=
 bif st.deref then match CS E st.struct with
  |some (.struct fields)=>(pa fields.toList st.index).bind fun f=>match an E f.type with
   |some (_+1)=>some (f.offset,f.type)
   |_=>none
  |_=>none
 else none
def methodOf (t:TypeId) (name:String):Option (FuncId×Recv):=
 (E.b.u t).bind fun i=>(i.methods.toList.find? (·.name==name)).bind fun m=>match m.path.toList,m.func with
  | [],some (f,p)=>ny E none f t p
  | [st],some (f,p)=>bif st.deref then(stepOf E st).bind fun q=>ny E (some q.1) f q.2 p
   else match CS E st.struct,p with
    |some (.struct fields),false=>(pa fields.toList st.index).bind fun x=>bif uE E x.type then none else
     (an E x.type).bind fun n=>(j_ E x.type).bind fun a=>some (f,.part x.offset n a)
    |_,_=>none
  |_,_=>none
def CI (f:FuncId):Bool:=match E.a.u f with
 |some fn=>match fn.body with
  |some _=>true
  |none=>false
 |none=>vp (E.g f)
def uF (v:AV):Option Nat->Option AV
 |none=>some v
 |some n=>aA n v
def jc (s:St) (v:AV):Recv->Option AV
 | .mk off load=>(uF v off).bind fun p=>match load with
  |none=>some p
  |some e=>Zd E e s p
 | .part off n true=>gN off n v
 | .part off _ false=>fb off v
def mv (s:St) (name:String) (args:List AV):AV->Option (FuncId×List AV)
 | .H' t v=>(methodOf E t name).bind fun m=>bif CI E m.1 then(jc E s v m.2).bind fun r=>some (m.1,r::args)else none
 |_=>none
def yd:AV->Option AV
 | .slice b off (_+1) _ _=>some (.Z b off)
 | .slice _ _ 0 _ _=>some .fJ
 | .Ca=>some .fJ
 |_=>none
def ra (v:AV):Option Mk:=match yd v with
 |some r=>some (.O r)
 |none=>none
def vw (ty:TypeId) (x:Operand):fN:=
 match CS E ty with
 |some (.pointer _)=> .make fun T=>(Ch E x T).bind ra
 |_=> .J
def j4 (s:St) (E:a_) (e' b off n:Nat):Option Cv->Option (AV×St)
 |some (.J cs e _)=>bif Nat.beq e e'&&r5 E e then(y_ cs off n).bind fun l=>(ZE l).bind fun r=>some (.J r,s.B b none)else none
 |_=>none
def kg (s:St) (E:a_) (e' n:Nat):AV->Option (AV×St)
 | .Z b off=>bif Nat.beq n 0 then some (.J [],s)else j4 s E e' b off n (s.heap.u b)
 | .fJ=>bif Nat.beq n 0 then some (.J [],s)else none
 | .Ys=>bif Nat.beq n 0 then some (.J [],s)else none
 |_=>none
def pd (t:TypeId) (x y:Operand):fN:=
 match CS E t with
 |some (.pointer e)=>bif r5 E e&&Nat.beq ((an E e).getD 0) 1 then .I_ false (Ch E x) fun T s=>(Ch E x T).bind fun a=>(Ch E y T).bind fun b=>(Ze b).bind fun n=>bif Nat.ble n 1099511627776 then kg s E e n a else none else .J
 |_=> .J
def pf (e:TypeId):AV->Option Mk
 | .int .i64 (.ofNat n)=>bif Nat.blt 0 n&&Nat.ble n 1099511627776 then some (.J (.J [] e true) fun i=> .slice i 0 n 1 none)else none
 |_=>none
def ye:Option Func->Option TypeId
 |some fn=>match fn.resultTypes.toList with
  | [t]=>match CS E t with
   |some (.slice e)=>bif r5 E e then some e else none
   |_=>none
  |_=>none
 |none=>none
def mw (f:FuncId) (name:String) (args:List Operand):fN:=
 match args with
 | [x]=>bif name== "internal/abi.NoEscape" then .O (Ch E x)
  else bif name== "internal/bytealg.MakeNoZero" then(match ye E (E.a.u f)with
   |some e=> .make fun T=>(Ch E x T).bind (pf e)
   |none=> .J)else .J
 | [x,y]=>bif name== "internal/bytealg.CountString" then cu E uC x y
  else bif name== "internal/bytealg.IndexByteString" then cu E l4 x y else .J
 |_=> .J
def F' (f:FuncId):String:=match E.a.u f with
 |some fn=>fn.name
 |none=> ""
def pJ (ty:TypeId) (b:Builtin) (ts:List TypeId) (args:List Operand):fN:=
 match b,ts,args with
 | .append,t::ts',[x,y]=>iE E t ts'.head? x y
 | .len,t::_,[x]=>uB E t x
 | .cap,t::_,[x]=>xZ E t x
 | .copy,t::_,[x,y]=>tv E t x y
 | .delete,t::_,[m,k]=>yb E t m k
 | .unsafeSliceData,_,[x]=>bif E.f then vw E ty x else .J
 | .unsafeString,t::_,[x,y]=>bif E.f then pd E t x y else .J
 | .max,_,xs=>maxC E vq xs
 | .min,_,xs=>maxC E vr xs
 | .recover,_,_=> .G'
 |_,_,_=> .J
def YC (ty:TypeId) (c:Call):fN:=
 match c.callee with
 | .builtin b=>pJ E ty b c.argTypes.toList c.args.toList
 | .value (.func f)=>bif CI E f then .H_ fun T _=>(CV E c.args.toList T).bind fun args=>some (f,args)else(bif E.f then mw E f (F' E f) c.args.toList else .J)
 | .value x=> .dN (Ch E x) (CV E c.args.toList)
 | .invoke r name=> .H_ fun T s=>(CV E c.args.toList T).bind fun args=>(Ch E r T).bind (mv E s name args)
def kk:Fn->Bool
 | .yield _=>true
 |_=>false
def nz (args:List AV):AV->Option kJ
 | .G' fn first captured=>bif kk fn then none else some {a:= .fn fn captured,args:=first++args}
 |_=>none
def l8 (c:Call):fN:=
 match c.callee with
 | .value x=> .H' fun T=>(Ch E x T).bind fun f=>(CV E c.args.toList T).bind fun args=>nz args f
 |_=> .J
def tB:AV->Option AV
 | .Z b o=>some (.Z b o)
 | .Zu cs=>some (.Zu cs)
 | .G' (.func f) a b=>some (.G' (.func f) a b)
 | .G' (.yield f) a b=>some (.G' (.yield f) a b)
 |_=>none
def pK (a b:TO) (T:Tm):AV->Option AV
 | .bool t=>bif t then a T else b T
 |_=>none
def aW (t:TypeId):Option Bool:=match CS E t with
 |some (.interface _)=>some true
 |some _=>some false
 |none=>none
def fu (t:TypeId) (x:Operand):fN:=
 match aW E t with
 |some false=> .O fun T=>(Ch E x T).bind fun v=>some (.H' t v)
 |_=> .J
def n3 (fn:Fn) (first captured:List Operand):fN:=
 bif kk fn then .J else .O fun T=>(CV E first T).bind fun a=>(CV E captured T).bind fun b=>some (.G' fn a b)
def j5 (t:TypeId) (r:Option Operand):fN:=
 match CS E t,r with
 |some (.map _ _),none=> .make fun _=>some (.J (.O [] 0) .H_)
 |some (.map _ _),some x=> .make fun T=>(Ch E x T).bind fun v=>(Ze v).bind fun _=>some (.J (.O [] 0) .H_)
 |_,_=> .J
def gY (i:Nat):AV->Option AV
 | .O vs=>pa vs i
 |_=>none
def rQ:AV->Option AV
 | .H' t v=>some (.H' t v)
 |_=>none
def l9 (t:TypeId) (a x:Operand):fN:=
 match an E t with
 |some n=> .I_ true (Ch E a) fun T s=>(Ch E a T).bind fun p=>(Ch E x T).bind fun v=>ja (gm n s v p)
 |none=> .J
def lD (t:TypeId):fN:=
 match i_ E t with
 |some z=>bif z.A then .J else .make fun _=>some (.J (.J z.u t false) fun b=> .Z b 0)
 |none=> .J
def ZW (ty:TypeId) (o:Op):fN:=
 match o with
 | .move x=> .O (Ch E x)
 | .assign x=> .O (Ch E x)
 | .pick c a b=> .O fun T=>(Ch E c T).bind (pK (Ch E a) (Ch E b) T)
 | .alloc t=>lD E t
 | .box t x=> .make fun T=>(Ch E x T).bind fun v=>bif v.A then none else some (.J (.J v.u t false) fun b=> .Z b 0)
 | .build t parts=>pE E t parts.toList
 | .buildSlice t len parts=>b8 E t len parts.toList
 | .load t a=> .Z (Ch E a) fun T s=>(Ch E a T).bind (Zd E t s)
 | .store t a x=>l9 E t a x
 | .nilCheck x=> .O fun T=>(Ch E x T).bind tB
 | .binOp op t x y _=>lz E op t x y
 | .unOp op _ x=> .O fun T=>(Ch E x T).bind (xW op)
 | .convert src dst x=>gQ E src dst x
 | .makeInterface t x=>fu E t x
 | .makeFunc fn first captured=>n3 E fn first.toList captured.toList
 | .makeMap t r=>j5 E t r
 | .makeSlice t l c=>l5 E t l c
 | .slice t x lo hi mx=>fk E t x lo hi mx
 | .fieldAddr t x f=>cK E t x f
 | .field t x f=>pF E t x f
 | .indexAddr t x i=>ZP E t x i
 | .index t x i=>pG E t x i
 | .lookup t x i ok=>iC E t x i ok
 | .mapUpdate t m k v=>jX E t m k v
 | .insert t m k v=>jX E t m k v
 | .range t x=>l7 E t x
 | .next it isString=>bif isString then .I_ true (Ch E it) fun T s=>(Ch E it T).bind (iF s)else .qU fun T s=>(Ch E it T).bind (iG s)
 | .entry it=> .I' fun T s=>(Ch E it T).bind (j3 s)
 | .typeAssert x _ a ok=>mu E x a ok
 | .extract t i=> .O fun T=>(Ch E t T).bind (gY i)
 | .call c=>YC E ty c
 | .defer c=>l8 E c
 | .panic x=> .J_ fun T=>(Ch E x T).bind rQ
 |_=> .J
def Cm:Nat->AV->Bool
 |0,_=>false
 |n+1,v=>match v with
  | .Z _ _=>false
  | .slice _ _ _ _ _=>false
  | .H_ _=>false
  | .jv _ _=>false
  | .agg cs=>cs.all (Cm n)
  | .O cs=>cs.all (Cm n)
  | .Ck _ _ _ cl=>cl
  | .Zu cs=>cs.all (Cm n)
  | .G' (.yield _) _ _=>false
  | .G' _ a b=>a.all (Cm n)&&b.all (Cm n)
  | .H' _ v=>Cm n v
  |_=>true
def Cw (m:Nat):Nat->AV->Bool
 |0,_=>false
 |n+1,v=>match v with
  | .Z b _=>Nat.blt b m
  | .slice b _ _ _ _=>Nat.blt b m
  | .H_ b=>Nat.blt b m
  | .jv b _=>Nat.blt b m
  | .agg cs=>cs.all (Cw m n)
  | .O cs=>cs.all (Cw m n)
  | .Ck cs _ _ cl=>cl||cs.all (Cw m n)
  | .Zu cs=>cs.all (Cw m n)
  | .G' (.yield l) _ _=>Nat.blt l m
  | .G' _ a b=>a.all (Cw m n)&&b.all (Cw m n)
  | .H' _ v=>Cw m n v
  |_=>true
def cg (m:Nat):Option Cv->Bool
 |some (.J cs _ _)=>cs.all (Cw m 40)
 |some (.O es _)=>es.all fun e=>Cw m 40 e.1&&Cw m 40 e.2.1
 |none=>true
 |_=>false
def CW (s:St) (from_:Nat):Nat->AV->List Nat->Option (AV×List Nat)
 |0,_,_=>none
 |n+1,v,ks=>match v with
  | .slice b off len sz cap=>bif Nat.blt b from_ then some (.slice b off len sz cap,ks)else(Y4 (s.heap.u b)).bind fun cs=>(y_ cs off (len*sz)).bind fun l=>
   (many (CW s from_ n) l ks).bind fun p=>some (.Ck p.1 len sz (p.1.all (Cm 40)),b::p.2)
  | .agg cs=>(many (CW s from_ n) cs ks).bind fun p=>some (.agg p.1,p.2)
  | .O cs=>(many (CW s from_ n) cs ks).bind fun p=>some (.O p.1,p.2)
  | .Ck cs len sz cl=>bif cl then some (.Ck cs len sz cl,ks)else(many (CW s from_ n) cs ks).bind fun p=>some (.Ck p.1 len sz (p.1.all (Cm 40)),p.2)
  | .H' t v=>(CW s from_ n v ks).bind fun p=>some (.H' t p.1,p.2)
  |v=>some (v,ks)
where
 many (f:AV->List Nat->Option (AV×List Nat)):List AV->List Nat->Option (List AV×List Nat)
  | [],ks=>some ([],ks)
  |v::l,ks=>(f v ks).bind fun p=>(many f l p.2).bind fun q=>some (p.1::q.1,q.2)
def yf (s:St):AV->Option (AV×List Nat)
 | .Z b 0=>(Y4 (s.heap.u b)).bind fun cs=>(CW.many (CW s 0 39) cs []).bind fun p=>some (.Zu p.1,b::p.2)
 |v=>CW s 0 40 v []
def r1 (s:St):List Nat->St
 | []=>s
 |b::l=>r1 (s.B b none) l
end ops
section run
variable (E : a_)
def br:Nat->List AV->Tr AV->Tr AV
 |_,[],t=>t
 |i,v::l,t=>br (i+1) l (t.A i (some v))
def fc (nt:Nat):List Nat->List AV->Tr AV->Option (Tr AV)
 | [],[],t=>some t
 |p::ps,v::vs,t=>bif Nat.blt p nt then fc nt ps vs (t.A p (some v))else none
 |_,_,_=>none
def aX (s:St) (T:Tr AV):List ResultVar->Option (List AV)
 | []=>some []
 | .tmp t::l=>(T.u t).bind fun v=>(aX s T l).bind fun r=>some (v::r)
 | .cell a t::l=>(T.u a).bind fun p=>(Zd E t s p).bind fun v=>(aX s T l).bind fun r=>some (v::r)
def eT:List AV->AV
 | [v]=>v
 |l=> .O l
def YE (n:Nat) (v:AV) (s:St):Option (AV×St):=(CW s n 40 v []).bind fun p=>some (p.1,r1 s p.2)
def pg (v:AV) (s:St):Option (AV×St):=(yf s v).bind fun p=>some (p.1,r1 s p.2)
def frozen (f:FuncId) (s0:St) (v:AV) (s:St):Option (AV×St):=
 match E.e f with
 |0=>some (v,s)
 |1=>match s.c with
  | []=>YE s0.a v s
  |_::_=>some (v,s)
 |3=>pg v s
 |_=>YE 0 v s
def below (n:Nat):List Nat->List Nat->List Nat
 | [],l=>l
 |b::r,l=>bif Nat.blt b n then b::below n r l else below n r l
def St.M (s0 s:St):St:= {s with b:=s0.b,c:=below s0.b s.c s0.c}
def bh (s0:St) (v:AV) (s:St):List Nat->CR
 | []=>bif Cw s0.a 40 v then .same v else .J v (s0.M s)
 |_::_=> .J v (s0.M s)
def k_ (f:FuncId) (s0:St) (v:AV) (s:St):Option CR:=
 (frozen E f s0 v s).bind fun p=>some (bh s0 p.1 p.2 p.2.c)
def St.u (s:St):St:= {s with b:=s.a,c:=[]}
def St.I (s:St):St:= {s with b:=s.a,c:=[]}
abbrev yh:=Fr->Tr AV->St->f_
abbrev Ev:=Code->yh
def sameO (a b:Option Nat):Bool:=
 match a,b with
 |none,none=>true
 |some x,some y=>Nat.beq x y
 |_,_=>false
def pL:AV->AV->Bool
 | .bool a,.bool b=>bif a then b else !b
 | .int j a,.int k b=>if j=k then decide (a=b)else false
 | .J a,.J b=>CK a b
 | .Ys,.Ys=>true
 | .Z a b,.Z c d=>Nat.beq a c&&Nat.beq b d
 | .Ca,.Ca=>true
 | .slice a b c d e,.slice f g h i j=>Nat.beq a f&&Nat.beq b g&&Nat.beq c h&&Nat.beq d i&&sameO e j
 | .Zn,.Zn=>true
 | .H_ a,.H_ b=>Nat.beq a b
 |_,_=>false
def la:List AV->List AV->Bool
 | [],[]=>true
 |a::l,b::r=>pL a b&&la l r
 |_,_=>false
def eK:AV->Option AV->Bool
 | .agg a,some (.agg b)=>la a b
 | .O a,some (.O b)=>la a b
 |a,some b=>pL a b
 |_,none=>false
def frame (nt:Nat) (args:List AV) (Zv:Option AV):Fr:= {nt:=Nat.max nt (ZA args),defers:=[],Zv,a:=none}
def r7:Option AV->Option AV->Bool
 |some _,none=>true
 |_,_=>false
def my (m:Option AV):f_->Option (Bool×St)
 | .one ⟨.J,fr,_,st⟩=>match fr.defers with| []=>some (r7 m fr.Zv,st)|_=>none
 | .one ⟨.Z,fr,_,st⟩=>match fr.defers with| []=>some (r7 m fr.Zv,st)|_=>none
 |_=>none
def rR (ev:Ev) (f:FuncId) (args:List AV) (m:Option AV) (s:St):Option (Bool×St):=
 (E.a.u f).bind fun fn=>fn.body.bind fun c=>match fn.results.toList with
  | []=>my m (ev c (frame fn.ntmps args m) (br 0 args .J) s)
  |_::_=>none
def mz (ev:Ev) (m:Option AV) (s:St) (d:kJ):Option (Option AV×St):=
 match d.a with
 | .J r=>match s.heap.u r with
  |some (.G' true)=>some (m,s.B r (some (.G' false)))
  |_=>none
 | .fn (.func f) captured=>(rR E ev f (d.args++captured) m s).bind fun p=>some (bif p.1 then none else m,p.2)
 |_=>none
def x_ (ev:Ev):List kJ->Option AV->St->Option (Option AV×St)
 | [],m,s=>some (m,s)
 |d::ds,m,s=>(mz E ev m s d).bind fun p=>x_ ev ds p.1 p.2
def gu:Ex->Option (Option AV)
 | .J=>some none
 | .Z=>some none
 | .O v=>some (some v)
 | .G' _=>none
def r9 (f:FuncId) (fn:Func) (s:St) (T:Tr AV):Option AV->St->Option CR
 |none,s'=>(aX E s' T fn.results.toList).bind fun vs=>k_ E f s (eT vs) s'
 |some v,s'=>some (.O v (s.M s'))
def ZF (ev:Ev) (f:FuncId) (fn:Func) (s:St) (r:dJ):Option CR:=
 (gu r.c).bind fun m=>(x_ E ev r.b.defers m r.a).bind fun p=>r9 E f fn s r.T p.1 p.2
def pull (k:AV):List Y2->Option (Y2×List Y2)
 | []=>none
 |e::es=>bif eK k (some e.1)then some (e,es)else(pull k es).bind fun p=>some (p.1,e::p.2)
def km (n a b:Nat):Bool:=Nat.beq a b||(Nat.ble n a&&Nat.ble n b)
def Y5 (n:Nat):List Y2->List Y2->Bool
 | [],[]=>true
 | [],_::_=>false
 |e::r,l=>match pull e.1 l with
  |some p=>eK e.2.1 (some p.1.2.1)&&km n e.2.2 p.1.2.2&&Y5 n r p.2
  |none=>false
def iH (s:Nat):List Y2->Bool
 | []=>true
 |e::l=> !(Nat.beq s e.2.2)&&iH s l
def YD (n:Nat):List Y2->Bool
 | []=>true
 |e::l=>Nat.blt e.2.2 n&&iH e.2.2 l&&YD n l
def ef (m:Nat) (o a b:Option Cv):Bool:=
 match o,a,b with
 |some (.O _ n0),some (.O es n),some (.O fI n')=>Nat.beq n n'&&Y5 n0 es fI&&YD n es&&cg m (some (.O es n))
 |some (.J _ _ _),some (.J a t p),some (.J b t' p')=>la a b&&Nat.beq t t'&&(bif p then p' else !p')&&cg m (some (.J a t p))
 |_,_,_=>false
def D_ (s0:St):Option CR->Option (AV×St)
 |some (.same v)=>some (v,s0)
 |some (.J v s)=>some (v,s)
 |_=>none
def b9 (ev:Ev) (f:FuncId) (fn:Func) (s0:St):List dJ->Option (List (AV×St))
 | []=>some []
 |r::l=>(D_ s0.I (ZF E ev f fn s0.I r)).bind fun o=>(b9 ev f fn s0 l).bind fun os=>some (o::os)
def ZG:List (AV×St)->List Nat->List Nat
 | [],l=>l
 |o::os,l=>ZG os (j6 o.2.c l)
where j6:List Nat->List Nat->List Nat
 | [],l=>l
 |b::r,l=>j6 r (Z7 b l)
def lE (s0 a b:St):List Nat->Bool
 | []=>true
 |n::l=>Nat.blt n s0.a&&ef s0.a (s0.heap.u n) (a.heap.u n) (b.heap.u n)&&lE s0 a b l
def Zj (s1:St):List Nat->St->St
 | [],s=>s
 |b::l,s=>Zj s1 l (s.B b (s1.heap.u b))
mutual
def bM:AV->AV->Bool
 | .bool a,.bool b=>bif a then b else !b
 | .int j a,.int k b=>if j=k then decide (a=b)else false
 | .J a,.J b=>CK a b
 | .Ys,.Ys=>true
 | .Ca,.Ca=>true
 | .Zn,.Zn=>true
 | .Cz,.Cz=>true
 | .Yk,.Yk=>true
 | .Zu a,.Zu b=>fR a b
 | .Ck a l s c,.Ck b m t d=>Nat.beq l m&&Nat.beq s t&&(bif c then d else !d)&&fR a b
 | .H' t a,.H' u b=>Nat.beq t u&&bM a b
 | .agg a,.agg b=>fR a b
 | .O a,.O b=>fR a b
 |_,_=>false
def fR:List AV->List AV->Bool
 | [],[]=>true
 |a::l,b::r=>bM a b&&fR l r
 |_,_=>false
end
def n5:Option CR->Option AV
 |some (.same v)=>some v
 |_=>none
def cG (ev:Ev) (f:FuncId) (fn:Func) (s0:St) (v:AV):List dJ->Bool
 | []=>true
 |r::l=>match n5 (ZF E ev f fn s0.I r)with
  |some u=>bM u v&&cG ev f fn s0 v l
  |none=>false
def v_ (ev:Ev) (f:FuncId) (fn:Func) (s0:St) (r:dJ) (l:List dJ):Option CR:=
 (n5 (ZF E ev f fn s0.I r)).bind fun v=>bif cG E ev f fn s0 v l then some (.same v)else none
def di (m:Nat) (s0:St) (o:AV×St) (L:List Nat):List (AV×St)->Bool
 | []=>true
 |q::l=>((eK o.1 (some q.1)&&Cw m 40 o.1)||(bM o.1 q.1&&Cm 40 o.1))&&lE s0 o.2 q.2 L&&di m s0 o L l
def iI (s0:St) (o:AV×St) (os:List (AV×St)) (L:List Nat):Option CR:=
 bif di s0.a s0 o L (o::os)then some (.J o.1 (Zj o.2 L s0))else none
def bC (n:Nat) (o:AV×St):Option (List Y2×Nat):=
 match o.1,o.2.c with
 | .H_ b,[]=>bif Nat.ble n b then(match o.2.heap.u b with
  |some (.O es c)=>some (es,c)
  |_=>none)else none
 |_,_=>none
def vy (es:List Y2) (c:Nat):Option (List Y2×Nat)->Bool
 |some p=>Nat.beq p.2 c&&Y5 0 es p.1&&cg 0 (some (.O p.1 p.2))
 |none=>false
def ej (n:Nat) (es:List Y2) (c:Nat):List (AV×St)->Bool
 | []=>true
 |q::l=>vy es c (bC n q)&&ej n es c l
def cU (s0:St) (o:AV×St) (os:List (AV×St)):Option CR:=
 (bC s0.a o).bind fun p=>bif ej s0.a p.1 p.2 (o::os)&&YD p.2 p.1 then some (.J (.H_ s0.a) (s0.A (.O p.1 p.2)))else none
def orCR (b:Option CR):Option CR->Option CR
 |some c=>some c
 |none=>b
def lF (ev:Ev) (f:FuncId) (fn:Func) (s0:St) (r:dJ) (l:List dJ):Option CR:=
 (D_ s0.I (ZF E ev f fn s0.I r)).bind fun o=>(b9 E ev f fn s0 l).bind fun os=>orCR (cU s0 o os) (iI s0 o os (ZG (o::os) []))
def cH (ev:Ev) (f:FuncId) (fn:Func) (s0:St) (r:dJ) (l:List dJ):Option CR->Option CR
 |some c=>some c
 |none=>bif E.c then lF E ev f fn s0 r l else none
def dj (ev:Ev) (f:FuncId) (fn:Func) (s:St):f_->Option CR
 | .one r=>ZF E ev f fn s r
 | .O (r::l)=>cH E ev f fn s r l (v_ E ev f fn s r l)
 |_=>none
def vz (f:FuncId) (args:List AV) (s:St):Option CR:=
 match E.g f with
 |some g=>(g args s).bind fun p=>some (.J p.1 p.2)
 |none=>none
def Y8 (ev:Ev) (f:FuncId) (args:List AV) (s:St):Option CR:=
 match E.d f args with
 |some v=>some (.same v)
 |none=>match E.a.u f with
  |some fn=>fn.body.bind fun c=>dj E ev f fn s (ev c (frame fn.ntmps args none) (br 0 args .J) s.u)
  |none=>vz E f args s
def j7 (l:Nat) (st:St) (lp:dc) (jump:Option Code) (go:Bool):Option CR:=
 some (.J (.bool go) (st.B l (some (.Z {lp with a:=bif go then .ready else .done,b:=jump}))))
def n7 (l:Nat) (ex:Ex) (st:St):Option Cv->Option CR
 |some (.Z lp)=>match ex with
  | .J=>j7 l st lp none true
  | .Z=>j7 l st lp (some .ret) false
  | .G' id=>j7 l st lp (some (.exit id)) false
  | .O v=>some (.O v st)
 |_=>none
def pM (l:Nat):f_->Option CR
 | .one r=>match r.b.defers with
  | []=>n7 l r.c r.a (r.a.heap.u l)
  |_=>none
 |_=>none
def n8 (ev:Ev) (l:Nat) (body:Code) (fr:Fr) (T:Tr AV) (s:St):Option Cv->Option CR
 |some (.Z lp)=>match lp.a with
  | .ready=>pM l (ev body fr T (s.B l (some (.Z {lp with a:= .busy}))))
  |_=>none
 |_=>none
def gw (ev:Ev) (l:Nat) (body:Code):f_->Option CR
 | .one ⟨.J,fr,T,s⟩=>n8 ev l body fr T s (s.heap.u l)
 |_=>none
def rS (ev:Ev) (l:Nat) (args:List AV) (s:St):Option Cv->Option CR
 |some (.Z lp)=>(fc lp.nt lp.params args lp.c).bind fun T=>
  gw ev l lp.body (ev lp.assign {nt:=lp.nt,defers:=[],Zv:=none,a:=some l} T s)
 |_=>none
def rT (ev:Ev) (l:Nat) (args:List AV) (s:St):Option CR:=rS ev l args s (s.heap.u l)
def aj (ev:Ev) (args:List AV) (s:St):AV->Option CR
 | .G' (.func f) first captured=>bif CI E f then Y8 E ev f (first++args++captured) s else none
 | .G' (.yield l) [] []=>rT ev l args s
 | .G' (.method name) first []=>match first++args with
  |r::args=>(mv E s name args r).bind fun p=>Y8 E ev p.1 p.2 s
  | []=>none
 |_=>none
def putC:Option Nat->Nat->AV->Tr AV->Option (Tr AV)
 |some d,nt,v,T=>bif Nat.blt d nt then some (Tr.B (some v) (r_ d) T)else none
 |none,_,_,T=>some T
def ZR (k:AV->f_):Option AV->f_
 |some v=>k v
 |none=> .J
def rU (k:AV->St->f_):Option (AV×St)->f_
 |some p=>k p.1 p.2
 |none=> .J
def rb (s:St) (k:AV->St->f_):Option Mk->f_
 |some (.O v)=>k v s
 |some (.J o g)=>k (g s.a) (s.A o)
 |none=> .J
def ZB (fr:Fr) (T:Tr AV) (s:St) (k:AV->St->f_):Option CR->f_
 |some (.same v)=>k v s
 |some (.J v s)=>k v s
 |some (.O v s)=> .one ⟨.O v,fr,T,s⟩
 |none=> .J
def f_.G:f_->f_->f_
 | .one r,.one r'=> .O [r,r']
 | .one r,.O l'=> .O (r::l')
 | .O r,.one r'=> .O (r++[r'])
 | .O r,.O l'=> .O (r++l')
 |_,_=> .J
def ae (k:AV->St->f_):List (AV×St)->f_
 | []=> .J
 |p::l=>match l with
  | []=>k p.1 p.2
  |_::_=>f_.G (k p.1 p.2) (ae k l)
def tC (s:St):List AV->List (AV×St)
 | []=>[]
 |v::l=>(v,s)::tC s l
def cw (k:AV->St->f_):Option (List (AV×St))->f_
 |some l=>ae k l
 |none=> .J
def pN (fr:Fr) (k:Fr->AV->f_):f_:=
 match fr.a with
 |some _=> .J
 |none=>match fr.Zv with
  |some v=>k {fr with Zv:=none} v
  |none=>k fr .Yk
def mB (fr:Fr) (k:Fr->AV->f_):Option kJ->f_
 |some d=>match fr.a with
  |none=>k {fr with defers:=d::fr.defers} (.O [])
  |some _=> .J
 |none=> .J
structure Cl where
 run:Ev->yh
abbrev K:=Ev->Fr->Tr AV->AV->St->f_
structure td where
 run:K
def bD (dst:Option Nat) (k:Cl):td:=
 match dst with
 |some d=>⟨fun ev fr T v s=>bif Nat.blt d fr.nt then k.run ev fr (Tr.B (some v) (r_ d) T) s else .J⟩
 |none=>⟨fun ev fr T _ s=>k.run ev fr T s⟩
def Z0 (so:fN) (k:td):Cl:=
 match so with
 | .J=>⟨fun _ _ _ _=> .J⟩
 | .make f=>⟨fun ev fr T s=>rb s (k.run ev fr T) (f T)⟩
 | .O f=>⟨fun ev fr T s=>ZR (fun v=>k.run ev fr T v s) (f T)⟩
 | .Z _ f=>⟨fun ev fr T s=>ZR (fun v=>k.run ev fr T v s) (f T s)⟩
 | .I' f=>⟨fun ev fr T s=>ZR (fun v=>k.run ev fr T v s) (f T s)⟩
 | .I_ _ _ f=>⟨fun ev fr T s=>rU (k.run ev fr T) (f T s)⟩
 | .J' f=>⟨fun ev fr T s=>cw (k.run ev fr T) ((f T).bind fun l=>some (tC s l))⟩
 | .qU f=>⟨fun ev fr T s=>cw (k.run ev fr T) (f T s)⟩
 | .H_ f=>⟨fun ev fr T s=>ZB fr T s (k.run ev fr T) ((f T s).bind fun p=>Y8 E ev p.1 p.2 s)⟩
 | .dN f a=>⟨fun ev fr T s=>ZB fr T s (k.run ev fr T) ((f T).bind fun g=>(a T).bind fun args=>aj E ev args s g)⟩
 | .H' f=>⟨fun ev fr T s=>mB fr (fun fr v=>k.run ev fr T v s) (f T)⟩
 | .J_ f=>⟨fun _ fr T s=>ZR (fun v=> .one ⟨.O v,fr,T,s⟩) (f T)⟩
 | .G'=>⟨fun ev fr T s=>pN fr fun fr v=>k.run ev fr T v s⟩
def fw (ops:List Oper) (j:Nat):Option A_:=
 (pa ops j).bind fun o=>o.dst.bind fun d=>some (r_ d)
def iJ (want:Bool):Option AV->Option Bool
 |some (.bool b)=>some (bif want then b else !b)
 |some .any=>none
 |some _=>some false
 |none=>none
def Zs (ops:List Oper) (g:Nat×Bool):Tr AV->Option Bool:=
 match fw ops g.1 with
 |some p=>fun T=>iJ g.2 (Tr.G p T)
 |none=>fun _=>some false
def gZ (a b:Unit->f_):Option Bool->f_
 |some t=>bif t then a ()else b ()
 |none=> .J
def q_ (ops:List Oper) (g:Option (Nat×Bool)) (step:Cl) (k:td):Cl:=
 match g with
 |none=>step
 |some g=>⟨fun ev fr T s=>gZ (fun _=>step.run ev fr T s) (fun _=>k.run ev fr T (.O []) s) (Zs ops g T)⟩
def da (ops:List Oper) (o:Oper) (k:td):Cl:=q_ ops o.guard (Z0 E (ZW E o.type o.op) k) k
def vA:Cl:=⟨fun _ fr T s=> .one ⟨.J,fr,T,s⟩⟩
def cy (ops:List Oper):List Oper->Cl
 | []=>vA
 |o::rest=>da E ops o (bD o.dst (cy ops rest))
abbrev YI:=List (Nat×Nat)
inductive l_ where
 |J
 |block (b:Nat)
 |all
abbrev eD:=List (Nat×l_×(Nat->Option Cv->Bool))
structure ph where
 o:Oper
 so:fN
 i:Nat
 a:Nat
 b:List Nat
structure fK where
 T:Tr AV
 a:St
 b:YI
 c:eD
def dk:Option AV->Option Nat
 |some (.Z b _)=>some b
 |some (.slice b _ _ _ _)=>some b
 |some (.H_ b)=>some b
 |_=>none
def lG:Option Nat->l_
 |some b=> .block b
 |none=> .J
def ZH (so:fN) (T:Tr AV):l_:=
 match so with
 | .O _=> .J
 | .J' _=> .J
 | .make _=> .J
 | .Z x _=>lG (dk (x T))
 | .I_ true x _=>lG (dk (x T))
 |_=> .all
def aQ:fN->Bool
 | .H' _=>false
 | .G'=>false
 |_=>true
def kK (b:Nat):l_->Bool
 | .J=>false
 | .block c=>Nat.beq b c
 | .all=>true
def bN (Yw b:Nat):YI->Bool
 | []=>false
 |p::l=>bif Nat.beq p.2 b&& !(Nat.testBit Yw p.1)then true else bN Yw b l
def iK (Yw:Nat):YI->Tr Cv->Tr Cv
 | [],h=>h
 |p::l,h=>iK Yw l (bif Nat.testBit Yw p.1 then h else h.A p.2 none)
def YL (Yw:Nat) (news:YI) (h:Tr Cv):l_->Tr Cv
 | .J=> .J
 | .block b=>bif bN Yw b news then .J else Tr.A .J b (h.u b)
 | .all=>iK Yw news h
def aw (T:Tr AV):List Nat->Tr AV->Tr AV
 | [],t=>t
 |i::l,t=>aw T l (t.A i (T.u i))
def fy (v:AV):Tr AV:= .O .J (some v) .J
def K0:td:=⟨fun _ fr _ v s=> .one ⟨.J,fr,fy v,s⟩⟩
def eg (j8:l_):f_->Option (l_×AV×St)
 | .one ⟨.J,_,.O .J (some v) .J,s⟩=>some (j8,v,s)
 |_=>none
def St.J (s:St) (h:Tr Cv):St:= {a:=s.a,b:=s.a,c:=[],heap:=h}
def bj (ev:Ev) (fr:Fr) (d:ph) (q:fK) (T:Tr AV):Option (l_×AV×St):=
 bif aQ d.so then eg (ZH d.so T) ((Z0 E d.so K0).run ev fr T (q.a.J (YL d.a q.b q.a.heap (ZH d.so T))))else none
def Zt (ops:List Oper) (ev:Ev) (fr:Fr) (d:ph) (q:fK):Option (l_×AV×St):=
 match d.o.guard with
 |none=>bj E ev fr d q (aw q.T d.b .J)
 |some g=>(Zs ops g q.T).bind fun t=>bif t then bj E ev fr d q (aw q.T d.b .J)else some (.J,.O [],q.a.J .J)
def dm (b:Nat):Nat->List Nat
 |0=>[]
 |n+1=>b::dm (b+1) n
def Z1 (h':Tr Cv):List Nat->Tr Cv->Tr Cv
 | [],h=>h
 |b::l,h=>Z1 h' l (h.A b (h'.u b))
def cj (i:Nat) (news:YI):List Nat->YI
 | []=>news
 |b::l=>(i,b)::cj i news l
def fz (Yw b n:Nat) (o:Option Cv):eD->Bool
 | []=>true
 |p::l=>bif Nat.testBit Yw p.1 then fz Yw b n o l else bif kK b p.2.1 then p.2.2 n o&&fz Yw b n o l else fz Yw b n o l
def aE (Yw next n:Nat) (h:Tr Cv) (q:fK):List Nat->Bool
 | []=>true
 |b::l=>Nat.blt b next&& !(bN Yw b q.b)&&fz Yw b n (h.u b) q.c&&aE Yw next n h q l
def eqU (a b:AV):Bool:=bM a b||eK a (some b)
def uG (v:AV):Option AV->Bool
 |some u=>eqU u v
 |none=>false
def mD (d:ph) (q:fK) (r:l_×AV×St):Nat->Option Cv->Bool:=
 match d.so,r.1 with
 | .Z _ f,.block b=>fun n o=>uG r.2.1 (f (aw q.T d.b .J) {a:=n,b:=n,c:=[],heap:=Tr.A .J b o})&&Cw q.a.a 40 r.2.1
 |_,_=>fun _ _=>false
def YT (nt:Nat) (d:ph) (q:fK) (r:l_×AV×St):Option fK:=
 bif Nat.ble q.a.a r.2.2.a&&aE d.a q.a.a r.2.2.a r.2.2.heap q r.2.2.c then
  (putC d.o.dst nt r.2.1 q.T).bind fun T=>
   some {T,a:= {a:=r.2.2.a,b:=q.a.b,c:=below q.a.b r.2.2.c q.a.c,heap:=Z1 r.2.2.heap (dm q.a.a (r.2.2.a-q.a.a)) (Z1 r.2.2.heap r.2.2.c q.a.heap)},b:=cj d.i (cj d.i q.b (dm q.a.a (r.2.2.a-q.a.a))) r.2.2.c,c:=(d.i,r.1,mD d q r)::q.c}
 else none
def ko (ops:List Oper) (ev:Ev) (fr:Fr):List ph->fK->Option fK
 | [],q=>some q
 |d::l,q=>(Zt E ops ev fr d q).bind fun r=>(YT fr.nt d q r).bind fun q'=>ko ops ev fr l q'
def iL:f_->Option (AV×St)
 | .one ⟨.O v,_,_,s⟩=>some (v,s)
 |_=>none
def rh (ev:Ev) (fr:Fr) (d:ph) (q:fK) (T:Tr AV):Option (AV×St):=
 match d.so with
 | .H_ _=>iL ((Z0 E d.so K0).run ev fr T (q.a.J (YL d.a q.b q.a.heap .all)))
 | .dN _ _=>iL ((Z0 E d.so K0).run ev fr T (q.a.J (YL d.a q.b q.a.heap .all)))
 |_=>none
def iM (ops:List Oper) (ev:Ev) (fr:Fr) (d:ph) (q:fK):Option (AV×St):=
 match d.o.guard with
 |none=>rh E ev fr d q (aw q.T d.b .J)
 |some g=>(Zs ops g q.T).bind fun t=>bif t then rh E ev fr d q (aw q.T d.b .J)else none
def yi:List Nat->Bool
 | []=>true
 |_::_=>false
def fS (ops:List Oper) (ev:Ev) (fr:Fr) (p:Nat):List ph->fK->Option fK
 | [],q=>some q
 |d::l,q=>bif Nat.testBit d.a p then(YT fr.nt d q (.J,.O [],q.a.J .J)).bind fun q'=>fS ops ev fr p l q'
  else(Zt E ops ev fr d q).bind fun r=>bif Nat.beq r.2.2.a q.a.a&&yi r.2.2.c then(YT fr.nt d q r).bind fun q'=>fS ops ev fr p l q' else none
def iN (Yw:Nat):YI->Bool
 | []=>true
 |p::l=>Nat.testBit Yw p.1&&iN Yw l
def cL:List Oper->Tr AV->Tr AV
 | [],T=>T
 |o::l,T=>match o.dst with
  |some d=>cL l (Tr.B none (r_ d) T)
  |none=>cL l T
def yj (fr:Fr) (T:Tr AV) (v:AV):Option fK->f_
 |some q=> .one ⟨.O v,fr,T,q.a⟩
 |none=> .J
def pO (ops:List Oper) (ev:Ev) (fr:Fr) (T0:Tr AV) (d:ph) (l:List ph) (q:fK):Option (AV×St)->f_
 |some p=>bif iN d.a q.b then yj fr (cL ops T0) p.1 ((YT fr.nt d q (.all,.O [],p.2)).bind (fS E ops ev fr d.i l))else .J
 |none=> .J
def dq (ops:List Oper) (ev:Ev) (fr:Fr) (T0:Tr AV):List ph->fK->f_
 | [],q=> .one ⟨.J,fr,q.T,q.a⟩
 |d::l,q=>match Zt E ops ev fr d q with
  |some r=>match YT fr.nt d q r with
   |some q'=>dq ops ev fr T0 l q'
   |none=> .J
  |none=>pO E ops ev fr T0 d l q (iM E ops ev fr d q)
def Y3 (ops:List Oper):List Nat:=(Region.before ops.toArray).toList
def b_:List Operand->List Nat
 | []=>[]
 | .tmp t::l=>t::b_ l
 |_::l=>b_ l
def bE (bs:List Nat):List Oper->Nat->List ph
 | [],_=>[]
 |o::l,i=> {o,so:=ZW E o.type o.op,i,a:=(pa bs i).getD 0,b:=b_ o.op.operands.toList}::bE bs l (i+1)
def oq (t:Nat) (o:Oper):Bool:=match o.dst with
 |some d=>Nat.beq d t
 |none=>false
def n9 (bs:List Nat) (i Yw t:Nat):List Oper->Nat->Bool
 | [],_=>true
 |o::l,j=>(Nat.beq i j|| !(oq t o)||Nat.testBit Yw j||Nat.testBit ((pa bs j).getD 0) i)&&n9 bs i Yw t l (j+1)
def pj (ops:List Oper) (bs:List Nat) (i Yw:Nat):List Nat->Bool
 | []=>true
 |t::l=>n9 bs i Yw t ops 0&&pj ops bs i Yw l
def ri (d:Nat):List Oper->Bool
 | []=>true
 |o::l=> !(oq d o)&&ri d l
def fe (i:Nat):List Edge->Bool
 | []=>true
 |e::l=>(match e.ground with| .gcOnly _=>true|_=>Nat.blt e.on i)&&fe i l
def lH:List Edge->Bool
 | []=>false
 |e::l=>match e.ground with| .gcOnly _=>true|_=>lH l
def pQ:List Oper->Bool
 | []=>false
 |o::l=>bif lH o.after.toList then true else pQ l
def rj (i:Nat):List Nat->Nat
 | []=>0
 |a::l=>bif Nat.beq a i then 0 else rj i l+1
def mE (n:Nat) (nC:List Nat) (i:Nat):List Edge->Bool
 | []=>true
 |e::l=>(!(Region.binds .gc e)||(Nat.blt e.on n&&Nat.blt (rj e.on nC) (rj i nC)))&&mE n nC i l
def tD (n:Nat) (nC:List Nat):List Oper->Nat->Bool
 | [],_=>true
 |o::l,i=>mE n nC i o.after.toList&&tD n nC l (i+1)
def uH (ops:List Oper) (bs:List Nat) (i:Nat) (o:Oper) (rest:List Oper):Bool:=
 let Yw:=(pa bs i).getD 0
 pj ops bs i Yw (b_ o.op.operands.toList)&&fe i o.after.toList&&
 (match o.dst with|some d=>ri d rest|none=>true)&&(match o.guard with|some (j,_)=>Nat.testBit Yw j|none=>true)
def j9 (ops:List Oper) (bs:List Nat):List Oper->Nat->Bool
 | [],_=>true
 |o::l,i=>uH ops bs i o l&&j9 ops bs l (i+1)
def Z8 (ops:List Oper):Bool:=
 j9 ops (Y3 ops) ops 0&&bif pQ ops then tD (ZA ops) (Region.linearise .gc ops.toArray 0) ops 0 else true
def rV (ops:List Oper) (ds:List ph):Cl:=
 bif Z8 ops then⟨fun ev fr T s=>dq E ops ev fr T ds {T,a:=s,b:=[],c:=[]}⟩else⟨fun _ _ _ _=> .J⟩
def rW (ops:List Oper) (draw:Bool):Cl:=
 bif draw then rV E ops (bE E (Y3 ops) ops 0)else cy E ops ops
def kt (a b:yh) (fr:Fr) (T:Tr AV) (s:St):Option AV->f_
 |some (.bool t)=>bif t then a fr T s else b fr T s
 |_=> .J
def oP (k:yh) (r:dJ):f_:=
 match r.c with
 | .J=>k r.b r.T r.a
 |_=> .one r
def fA (id:Nat) (r:dJ):f_:=
 match r.c with
 | .G' i=>bif Nat.beq i id then .one ⟨.J,r.b,r.T,r.a⟩else .one r
 |_=> .one r
def hJ (fr:Fr) (T:Tr AV) (s:St):Option Code->f_
 |none=> .one ⟨.J,fr,T,s⟩
 |some .ret=> .one ⟨.Z,fr,T,s⟩
 |some (.exit id)=> .one ⟨.G' id,fr,T,s⟩
 |some _=> .J
def bO (l:Nat) (fr:Fr) (T:Tr AV) (s:St):Option Cv->f_
 |some (.Z lp)=>match lp.a with
  | .busy=> .J
  |_=>hJ fr T (s.B l (some (.Z {lp with a:= .exhausted}))) lp.b
 |_=> .J
def nD (ev:Ev) (params:List Nat) (assign body:Code) (fr:Fr) (T:Tr AV) (s:St):AV->f_
 | .G' (.func g) first captured=>match fr.a with
  |none=>
   let s1:=s.A (.G' true)
   let s2:=s1.A (.Z {a:= .ready,b:=none,fn:=0,nt:=fr.nt,c:=T,params,assign,body})
   let ZN:Fr:= {fr with defers:= {a:= .J s.a,args:=[]}::fr.defers}
   bif CI E g then ZB ZN T s2 (fun _ s3=>bO s1.a ZN T s3 (s3.heap.u s1.a)) (Y8 E ev g (first++[.G' (.yield s1.a) [] []]++captured) s2)else .J
  |some _=> .J
 |_=> .J
def hO (ev:Ev) (params:List Nat) (assign body:Code) (fr:Fr) (T:Tr AV) (s:St):Option AV->f_
 |some v=>nD E ev params assign body fr T s v
 |none=> .J
def ZK:Code->Cl
 | .skip=>vA
 | .label _=>vA
 | .region _ ops draw=>rW E ops.toList draw
 | .seq a b=>let ka:=ZK a;let kb:=ZK b
  ⟨fun ev fr T s=>(ka.run ev fr T s).u (oP (kb.run ev))⟩
 | .cond x a b=>let ka:=ZK a;let kb:=ZK b
  ⟨fun ev fr T s=>kt (ka.run ev) (kb.run ev) fr T s (Ch E x T)⟩
 | .block id body=>let k:=ZK body
  ⟨fun ev fr T s=>(k.run ev fr T s).u (fA id)⟩
 | .loop body=>let k:=ZK body
  ⟨fun ev fr T s=>(k.run ev fr T s).u (oP (ev (.loop body)))⟩
 | .scope body=>ZK body
 | .exit id=>⟨fun _ fr T s=> .one ⟨.G' id,fr,T,s⟩⟩
 | .ret=>⟨fun _ fr T s=> .one ⟨.Z,fr,T,s⟩⟩
 | .rangeFunc f params assign body=>⟨fun ev fr T s=>hO E ev params.toList assign body fr T s (Ch E f T)⟩
 | .goto _=>⟨fun _ _ _ _=> .J⟩
 | .refuse _=>⟨fun _ _ _ _=> .J⟩
def ev (n:Nat):Ev:=Nat.rec (fun _ _ _ _=> .J) (fun _ ih c=>(ZK E c).run ih) n
def call (n:Nat) (f:FuncId) (args:List AV) (s:St):Option CR:=Y8 E (ev E n) f args s
end run
end
def A_.u:A_->Nat
 | .J=>0
 | .O p=>2*p.u+1
 | .Z p=>2*p.u+2
theorem HM:∀(n k:Nat),k<=n->(mg n k).u=k
 |0,k,h=>by
  have:k=0:=by omega
  subst this;rfl
 |n+1,k,h=>by
  unfold mg;cases hk:Nat.beq k 0 with
  |true=>
   have:=Qb hk;subst this;rfl
  |false=>
   have ZT:k≠0:=Nat.ne_of_beq_eq_false hk;simp only[cond_false];cases ho:Nat.beq (k % 2) 1 with
   |true=>
    have:=Qb ho;simp only[cond_true,A_.u,HM n (k/2) (by omega)];omega
   |false=>
    have:=Nat.ne_of_beq_eq_false ho;simp only[cond_false,A_.u,HM n (k/2-1) (by omega)];omega
theorem Uh {a b:Nat} (h:r_ a=r_ b):a=b:=by
 have ha:=HM a a (Qj a);have hb:=HM b b (Qj b);unfold r_ at h;rw[<-ha,h,hb]
section tree
variable {α : Type}
@[simp] theorem yk (p:A_):Tr.G p (.J:Tr α)=none:=by cases p<;>rfl
@[simp] theorem getP_here (l r:Tr α) (v:Option α):Tr.G .J (.O l v r)=v:=rfl
@[simp] theorem yl (p:A_) (l r:Tr α) (v:Option α):Tr.G (.O p) (.O l v r)=Tr.G p l:=rfl
@[simp] theorem yn (p:A_) (l r:Tr α) (v:Option α):Tr.G (.Z p) (.O l v r)=Tr.G p r:=rfl
@[simp] theorem setP_here_nil (x:Option α):Tr.B x .J (.J:Tr α)= .O .J x .J:=rfl
@[simp] theorem setP_here (x v:Option α) (l r:Tr α):Tr.B x .J (.O l v r)= .O l x r:=rfl
@[simp] theorem setP_lft_nil (x:Option α) (p:A_):Tr.B x (.O p) (.J:Tr α)= .O (Tr.B x p .J) none .J:=rfl
@[simp] theorem setP_lft (x v:Option α) (p:A_) (l r:Tr α):Tr.B x (.O p) (.O l v r)= .O (Tr.B x p l) v r:=rfl
@[simp] theorem setP_rgt_nil (x:Option α) (p:A_):Tr.B x (.Z p) (.J:Tr α)= .O .J none (Tr.B x p .J):=rfl
@[simp] theorem setP_rgt (x v:Option α) (p:A_) (l r:Tr α):Tr.B x (.Z p) (.O l v r)= .O l v (Tr.B x p r):=rfl
theorem BX (x:Option α):∀(p:A_) (t:Tr α),Tr.G p (Tr.B x p t)=x
 | .J,.J=>rfl
 | .J,.O _ _ _=>rfl
 | .O p,.J=>BX x p .J
 | .O p,.O l _ _=>BX x p l
 | .Z p,.J=>BX x p .J
 | .Z p,.O _ _ r=>BX x p r
theorem DC (x:Option α):∀(p q:A_) (t:Tr α),p≠q->Tr.G p (Tr.B x q t)=Tr.G p t
 | .J,.J,_,h=>absurd rfl h
 | .J,.O _,.J,_=>rfl
 | .J,.O _,.O _ _ _,_=>rfl
 | .J,.Z _,.J,_=>rfl
 | .J,.Z _,.O _ _ _,_=>rfl
 | .O p,.J,.J,_=>by simp
 | .O _,.J,.O _ _ _,_=>rfl
 | .O p,.O q,.J,h=>by simpa using DC x p q .J (fun e=>h (e▸rfl))
 | .O p,.O q,.O l _ _,h=>DC x p q l (fun e=>h (e▸rfl))
 | .O p,.Z q,.J,_=>by simp
 | .O _,.Z _,.O _ _ _,_=>rfl
 | .Z p,.J,.J,_=>by simp
 | .Z _,.J,.O _ _ _,_=>rfl
 | .Z p,.O q,.J,_=>by simp
 | .Z _,.O _,.O _ _ _,_=>rfl
 | .Z p,.Z q,.J,h=>by simpa using DC x p q .J (fun e=>h (e▸rfl))
 | .Z p,.Z q,.O _ _ r,h=>DC x p q r (fun e=>h (e▸rfl))
theorem Pw (t:Tr α) (k:Nat) (x:Option α):(t.A k x).u k=x:=BX x _ t
theorem U7 (t:Tr α) (j k:Nat) (x:Option α) (h:j≠k):(t.A k x).u j=t.u j:=
 DC x _ _ t (fun e=>h (Uh e))
theorem Ap (t:Tr α) (j k:Nat) (x:Option α):(t.A k x).u j=if j=k then x else t.u j:=by
 split
 .next h=>subst h;exact Pw t j x
 .next h=>exact U7 t j k x h
@[simp] theorem get_nil (k:Nat):(.J:Tr α).u k=none:=yk _
end tree
section lists
variable {α β : Type}
@[simp] theorem BV (l:List α):ZA l=l.length:=by
 induction l with
 |nil=>rfl
 |cons a l ih=>show ZA l+1=_;rw[ih];rfl
theorem Iz {a:α} {o:Option (List α)} {r:List α} (h:kW a o=some r):∃l,o=some l/\r=a::l:=by
 cases o with
 |none=>cases h
 |some l=>exact⟨l,rfl,(Option.some.inj h).symm⟩
theorem Dk:∀ {n:Nat} {l r:List α},o_ n l=some r->∃post,l=r++post/\r.length=n
 |0,l,r,h=>by
  obtain rfl: []=r:=Option.some.inj h;exact⟨l,U,U⟩
 |n+1,[],r,h=>by cases h
 |n+1,a::l,r,h=>by
  obtain⟨q,hq,rfl⟩:=Iz (show kW a (o_ n l)=some r from h);obtain⟨post,rfl,hl⟩:=Dk hq;exact⟨post,U,by simp[hl]⟩
theorem FF:∀(r post:List α),o_ r.length (r++post)=some r
 | [],_=>rfl
 |a::r,post=>by
  show kW a (o_ r.length (r++post))=_;rw[FF r post];rfl
theorem BQ:∀ {n:Nat} {l r:List α},ab n l=some r->∃pre,l=pre++r/\pre.length=n
 |0,l,r,h=>⟨[],by simpa using Option.some.inj h,rfl⟩
 |n+1,[],r,h=>by cases h
 |n+1,a::l,r,h=>by
  obtain⟨pre,rfl,hl⟩:=BQ (show ab n l=some r from h);exact⟨a::pre,U,by simp[hl]⟩
theorem E3:∀(pre r:List α),ab pre.length (pre++r)=some r
 | [],_=>rfl
 |_::pre,r=>E3 pre r
theorem Hz:∀ {vs l r:List α},mh vs l=some r->∃nE post,l=nE++post/\nE.length=vs.length/\r=vs++post
 | [],l,r,h=>⟨[],l,rfl,rfl,(Option.some.inj h).symm⟩
 |v::vs,[],r,h=>by cases h
 |v::vs,a::l,r,h=>by
  obtain⟨q,hq,rfl⟩:=Iz (show kW v (mh vs l)=some r from h);obtain⟨nE,post,rfl,hl,rfl⟩:=Hz hq;exact⟨a::nE,post,U,by simp[hl],U⟩
theorem JL:∀ {k:Nat} {vs l r:List α},over vs k l=some r->
 ∃pre nE post,l=pre++nE++post/\pre.length=k/\nE.length=vs.length/\r=pre++vs++post
 |0,vs,l,r,h=>by
  obtain⟨nE,post,rfl,hl,rfl⟩:=Hz (show mh vs l=some r from h);exact⟨[],nE,post,by simp,U,hl,by simp⟩
 |k+1,vs,[],r,h=>by cases h
 |k+1,vs,a::l,r,h=>by
  obtain⟨q,hq,rfl⟩:=Iz (show kW a (over vs k l)=some r from h);obtain⟨pre,nE,post,rfl,hp,hm,rfl⟩:=JL hq;exact⟨a::pre,nE,post,by simp,by simp[hp],hm,by simp⟩
theorem EN:∀(l:List α) (n:Nat),pa l n=l[n]?
 | [],n=>by simp[pa]
 |a::l,0=>rfl
 |a::l,n+1=>by
  rw[List.getElem?_cons_succ];exact EN l n
theorem GH {l r:List α} {lo n:Nat} (h:y_ l lo n=some r):∃pre post,l=pre++r++post/\pre.length=lo/\r.length=n:=by
 unfold y_ at h;obtain⟨q,hq,ht⟩:=Qa.1 h;obtain⟨pre,rfl,hp⟩:=BQ hq;obtain⟨post,rfl,hr⟩:=Dk ht;exact⟨pre,post,by simp,hp,hr⟩
theorem W6 {f:α->Option β} {a:α} {l:List α} {r:List β} (h:qD f (a::l)=some r):
 ∃b bs,f a=some b/\qD f l=some bs/\r=b::bs:=by
 have h':xR (f a) (qD f l)=some r:=h;cases ha:f a with
 |none=>rw[ha]at h';cases hb:qD f l<;>rw[hb]at h'<;>cases h'
 |some b=>
  rw[ha]at h';cases hb:qD f l with
  |none=>rw[hb]at h';cases h'
  |some bs=>rw[hb]at h';exact⟨b,bs,rfl,rfl,(Option.some.inj h').symm⟩
end lists
section tables
variable {α : Type}
theorem Ks:∀(l:List α) (k:Nat),(eh l)[k]?=l[2*k]?
 | [],k=>by simp[eh]
 | [a],k=>by cases k with
  |zero=>rfl
  |succ k=>simp[eh]
 |a::b::l,0=>rfl
 |a::b::l,k+1=>by
  show(a::eh l)[k+1]?=_;have h2:2*(k+1)=2*k+1+1:=by omega
  rw[h2];simpa using Ks l k
theorem FU (l:List α):(eh l).length=(l.length+1)/2:=by
 match l with
 | []=>simp[eh]
 | [a]=>simp[eh]
 |a::b::l=>
  show(eh l).length+1=_;rw[FU l];simp;omega
theorem yp:∀(n:Nat) (l:List α) (k:Nat),l.length<=n->Tr.G (mg k k) (nu n l)=l[k]?:=by
 have key:∀(n:Nat) (l:List α) (m k:Nat),l.length<=n->k<=m->Tr.G (mg m k) (nu n l)=l[k]?:=by
  intro n;induction n with
  |zero=>
   intro l m k hl _;have:l=[]:=List.eq_nil_of_length_eq_zero (by omega);subst this;simp[nu]
  |succ n ih=>
   intro l m k hl hk;cases l with
   |nil=>simp[nu]
   |cons a l=>
    have ck:l.length<=n:=by simpa using hl
    have h1:(eh l).length<=n:=by rw[FU];omega
    have h2:(eh l.tail).length<=n:=by rw[FU];simp;omega
    cases m with
    |zero=>
     have:k=0:=by omega
     subst this;rfl
    |succ m=>
     show Tr.G (mg (m+1) k) (.O (nu n (eh l)) (some a) (nu n (eh l.tail)))=_;unfold mg;cases hk0:Nat.beq k 0 with
     |true=>
      have:=Qb hk0;subst this;rfl
     |false=>
      have ZT:k≠0:=Nat.ne_of_beq_eq_false hk0;simp only[cond_false];cases ho:Nat.beq (k % 2) 1 with
      |true=>
       have:=Qb ho;simp only[cond_true,yl];rw[ih (eh l) m (k/2) h1 (by omega),Ks];have:k=2*(k/2)+1:=by omega
       conv=>rhs;rw[this]
       simp
      |false=>
       have:=Nat.ne_of_beq_eq_false ho;simp only[cond_false,yn];rw[ih (eh l.tail) m (k/2-1) h2 (by omega),Ks];have:k=2*(k/2-1)+1+1:=by omega
       conv=>rhs;rw[this]
       cases l<;>simp
 exact fun n l k hl=>key n l k k hl (Qj k)
theorem FE (n:Nat) (l:List α) (k:Nat) (hl:l.length<=n):(nu n l).u k=l[k]?:=yp n l k hl
end tables
structure Pl where
 Cr:Nat
 base:Nat
 size:Nat
structure Cx where
 a:Nat->Pl
 M:Nat->Option (List Value)
 D:Nat->Prop
 b:Nat->Nat->Nat
 G:Nat->Nat->Prop
 X:Nat->Prop
def x8 (C:Cx) (a:Option Addr):Prop:=∀ad,a=some ad->C.X ad.block
def Cx.A (C:Cx):Cx:= {C with D:=fun _=>False,G:=fun _ _=>False}
def bP {α:Type} (ms:List α) (off:Nat) (vs:List α):Prop:=∃pre post,ms=pre++vs++post/\pre.length=off
def tE (C:Cx) (b off sz:Nat):Option Nat->Nat->Prop
 |some n,c=>c=n/\0<n
 |none,c=>(C.a b).base+off+c*sz=(C.a b).size/\0<sz
def h_ (cs:List AV):Prop:=∀v∈cs,v.B=true
mutual
inductive VR:Cx->AV->Value->Prop where
 |bool {C:Cx} (b:Bool):VR C (.bool b) (.bool b)
 |int {C:Cx} (k:IntKind) (n:Int):VR C (.int k n) (.int k n)
 |O {C:Cx} {l:List UInt8} {s:ByteArray} (h:s.data.toList=l):VR C (.J l) (.string s)
 |Ys {C:Cx}:VR C .Ys (.pointer none)
 |H_ {C:Cx} {b off:Nat} (h:C.D b):VR C (.Z b off) (.pointer (some ⟨(C.a b).Cr,(C.a b).base+off,none⟩))
 |Zu {C:Cx} {Cr off:Nat} {cs:List AV} {ms vs:List Value} (hm:C.M Cr=some ms) (ha:bP ms off vs) (hv:Y0 C cs vs) (YO:h_ cs):
  VR C (.Zu cs) (.pointer (some ⟨Cr,off,none⟩))
 |Ca {C:Cx} (a:Option Addr) (hx:x8 C a):VR C .Ca (.slice a 0 0)
 |slice {C:Cx} {b off len sz:Nat} {cap:Option Nat} {c:Nat} (h:C.D b) (hc:tE C b off sz cap c) (cM:len<=c):
  VR C (.slice b off len sz cap) (.slice (some ⟨(C.a b).Cr,(C.a b).base+off,none⟩) len c)
 |ZX {C:Cx} {b off sz:Nat} {a:Addr} {c:Nat} (hx:C.X a.block) (h:C.D b) (hc:c=0\/(a=⟨(C.a b).Cr,(C.a b).base+off,none⟩/\(C.a b).base+off+c*sz=(C.a b).size/\0<sz)):
  VR C (.slice b off 0 sz (some 0)) (.slice (some a) 0 c)
 |Zk {C:Cx} {sz:Nat} {cl:Bool} {len c:Nat} (a:Option Addr) (h:len*sz=0) (cM:len<=c):VR C (.Ck [] len sz cl) (.slice a len c)
 |Ck {C:Cx} {Cr off len sz c:Nat} {cl:Bool} {cs:List AV} {ms vs:List Value} (hl:cs.length=len*sz) (hm:C.M Cr=some ms) (ha:bP ms off vs)
  (hv:Y0 C cs vs) (hc:cl=true->Y0 C.A cs vs) (YO:h_ cs) (cM:len<=c):VR C (.Ck cs len sz cl) (.slice (some ⟨Cr,off,none⟩) len c)
 |Zn {C:Cx}:VR C .Zn (.map none)
 |I_ {C:Cx} {b:Nat} (h:C.D b):VR C (.H_ b) (.map (some (C.a b).Cr))
 |jv {C:Cx} {b n:Nat} (h:C.G b n):VR C (.jv b n) (.int .i64 (C.b b n))
 |fJ {C:Cx} (p:Option Addr):VR C .fJ (.pointer p)
 |any {C:Cx} (x:Value) (h:x.cells= #[x]/\x.oneCell'=true):VR C .any x
 |G' {C:Cx} {fn:Fn} {a b:List AV} {x y:Array Value} (hf:∀l,fn≠ .yield l) (ha:Y0 C a x.toList) (hb:Y0 C b y.toList):VR C (.G' fn a b) (.func fn x y)
 |H' {C:Cx} {l:Nat} (h:C.D l):VR C (.G' (.yield l) [] []) (.func (.yield (C.a l).Cr) #[] #[])
 |Cz {C:Cx}:VR C .Cz .nilFunc
 |Z {C:Cx} {t:TypeId} {v:AV} {x:Value} (h:VR C v x):VR C (.H' t v) (.iface t x)
 |Yk {C:Cx}:VR C .Yk .nilIface
 |agg {C:Cx} {cs:List AV} {x:Array Value} (h:Y0 C cs x.toList) (YO:h_ cs):VR C (.agg cs) (.agg x)
 |J {C:Cx} {cs:List AV} {x:Array Value} (h:Y0 C cs x.toList):VR C (.O cs) (.tuple x)
inductive Y0:Cx->List AV->List Value->Prop where
 |O {C:Cx}:Y0 C [] []
 |J {C:Cx} {v:AV} {x:Value} {vs:List AV} {xs:List Value} (h:VR C v x) (t:Y0 C vs xs):Y0 C (v::vs) (x::xs)
end
structure n_ (C C':Cx):Prop where
 D:∀b,C.D b->C'.D b
 a:∀b,C.D b->C'.a b=C.a b
 M:∀b ms,C.M b=some ms->C'.M b=some ms
 G:∀b n,C.G b n->C'.G b n
 c:∀b n,C.G b n->C'.b b n=C.b b n
 X:∀b,C.X b->C'.X b
theorem n_.u (C:Cx):n_ C C:=⟨fun _ h=>h,fun _ _=>rfl,fun _ _ h=>h,fun _ _ h=>h,fun _ _ _=>rfl,fun _ h=>h⟩
theorem n_.trans {A B C:Cx} (h:n_ A B) (g:n_ B C):n_ A C:=
 ⟨fun b x=>g.D b (h.D b x),fun b x=>(g.a b (h.D b x)).trans (h.a b x),fun b ms x=>g.M b ms (h.M b ms x),fun b n x=>g.G b n (h.G b n x),
  fun b n x=>(g.c b n (h.G b n x)).trans (h.c b n x),fun b x=>g.X b (h.X b x)⟩
theorem n_.A {C C':Cx} (h:n_ C C'):n_ C.A C'.A:=⟨fun _ x=>x.elim,fun _ x=>x.elim,h.M,fun _ _ x=>x.elim,fun _ _ x=>x.elim,h.X⟩
theorem n_.vB (C:Cx):n_ C.A C:=⟨fun _ x=>x.elim,fun _ x=>x.elim,fun _ _ h=>h,fun _ _ x=>x.elim,fun _ _ x=>x.elim,fun _ h=>h⟩
theorem x8.mono {C C':Cx} (e:n_ C C') {a:Option Addr} (h:x8 C a):x8 C' a:=fun ad x=>e.X _ (h ad x)
theorem x8.none {C:Cx}:x8 C none:=fun _ x=>by cases x
theorem x8.some {C:Cx} {a:Addr} (h:C.X a.block):x8 C (some a):=fun _ x=>by cases x;exact h
mutual
theorem VR.mono {C C':Cx} (e:n_ C C'):∀ {v:AV} {x:Value},VR C v x->VR C' v x
 |_,_,.bool b=> .bool b
 |_,_,.int k n=> .int k n
 |_,_,.O h=> .O h
 |_,_,.Ys=> .Ys
 |_,_,.H_ (b:=b) (off:=off) h=>by rw[<-e.a b h];exact .H_ (e.D _ h)
 |_,_,.Zu hm ha hv YO=> .Zu (e.M _ _ hm) ha (Y0.mono e hv) YO
 |_,_,.Ca a hx=> .Ca a (hx.mono e)
 |_,_,.slice (b:=b) (cap:=cap) h hc cM=>by
  rw[<-e.a b h];refine .slice (e.D _ h) ?_ cM;cases cap with
  |some n=>exact hc
  |none=>simpa[tE,e.a b h]using hc
 |_,_,.ZX (b:=b) hx h hc=> .ZX (e.X _ hx) (e.D _ h) (by rw[e.a b h];exact hc)
 |_,_,.Zk a h cM=> .Zk a h cM
 |_,_,.Ck hl hm ha hv hc YO cM=> .Ck hl (e.M _ _ hm) ha (Y0.mono e hv) (fun x=>Y0.mono e.A (hc x)) YO cM
 |_,_,.Zn=> .Zn
 |_,_,.I_ (b:=b) h=>by rw[<-e.a b h];exact .I_ (e.D _ h)
 |_,_,.jv (b:=b) (n:=n) h=>by rw[<-e.c b n h];exact .jv (e.G _ _ h)
 |_,_,.fJ p=> .fJ p
 |_,_,.any x h=> .any x h
 |_,_,.G' hf ha hb=> .G' hf (Y0.mono e ha) (Y0.mono e hb)
 |_,_,.H' (l:=l) h=>by rw[<-e.a l h];exact .H' (e.D _ h)
 |_,_,.Cz=> .Cz
 |_,_,.Z h=> .Z (VR.mono e h)
 |_,_,.Yk=> .Yk
 |_,_,.agg h YO=> .agg (Y0.mono e h) YO
 |_,_,.J h=> .J (Y0.mono e h)
theorem Y0.mono {C C':Cx} (e:n_ C C'):∀ {v:List AV} {x:List Value},Y0 C v x->Y0 C' v x
 |_,_,.O=> .O
 |_,_,.J h t=> .J (VR.mono e h) (Y0.mono e t)
end
theorem Y0.u {C:Cx}:∀ {v:List AV} {x:List Value},Y0 C v x->x.length=v.length
 |_,_,.O=>rfl
 |_,_,.J _ t=>by simp[Y0.u t]
theorem Y0.A {C:Cx}:∀ {a:List AV} {x:List Value} {b:List AV} {y:List Value},Y0 C a x->Y0 C b y->Y0 C (a++b) (x++y)
 |_,_,_,_,.O,g=>g
 |_,_,_,_,.J h t,g=> .J h (Y0.A t g)
theorem AK {C:Cx}:∀ {a b:List AV} {x:List Value},Y0 C (a++b) x->∃y z,x=y++z/\Y0 C a y/\Y0 C b z
 | [],_,x,h=>⟨[],x,rfl,.O,h⟩
 |_::_,_,_,.J h t=>by
  obtain⟨y,z,rfl,h1,h2⟩:=AK t;exact⟨_::y,z,U,.J h h1,h2⟩
theorem Y0.M {C:Cx}:∀ {a:List AV} {x:List Value} {i:Nat} {v:AV},Y0 C a x->a[i]?=some v->∃y,x[i]?=some y/\VR C v y
 |_,_,i,_,.O,h=>by simp at h
 |_,_,0,_,.J h _,e=>by grind
 |_,_,i+1,_,.J _ t,e=>by
  obtain⟨y,hy,h⟩:=Y0.M t (by simpa using e);exact⟨y,by simpa using hy,h⟩
theorem Y0.one {C:Cx} {v:AV} {x:Value} (h:VR C v x):Y0 C [v] [x]:= .J h .O
theorem bP.nE {α:Type} {ms:List α} {off:Nat} {a b c:List α} (h:bP ms off (a++b++c)):bP ms (off+a.length) b:=by
 obtain⟨pre,post,rfl,rfl⟩:=h;exact⟨pre++a,c++post,by simp,by simp⟩
theorem bP.left {α:Type} {ms:List α} {off:Nat} {a b:List α} (h:bP ms off (a++b)):bP ms off a:=by
 obtain⟨pre,post,rfl,rfl⟩:=h;exact⟨pre,b++post,by simp,U⟩
theorem bP.right {α:Type} {ms:List α} {off:Nat} {a b:List α} (h:bP ms off (a++b)):bP ms (off+a.length) b:=by
 obtain⟨pre,post,rfl,rfl⟩:=h;exact⟨pre++a,post,by simp,by simp⟩
theorem bP.get {α:Type} {ms:List α} {off:Nat} {vs:List α} (h:bP ms off vs) (i:Nat) (hi:i<vs.length):ms[off+i]?=vs[i]?:=by
 obtain⟨pre,post,rfl,rfl⟩:=h;rw[List.append_assoc,List.getElem?_append_right (by omega),List.getElem?_append_left (by omega)]
 congr 1;omega
theorem bP.le {α:Type} {ms:List α} {off:Nat} {vs:List α} (h:bP ms off vs):off+vs.length<=ms.length:=by
 obtain⟨pre,post,rfl,rfl⟩:=h;simp
theorem bP.whole {α:Type} (vs:List α):bP vs 0 vs:=⟨[],[],by simp,rfl⟩
theorem F0:∀(n:Nat) {C:Cx} {v:AV} {x:Value},VR C v x->Cm n v=true->VR C.A v x:=by
 intro n;induction n with
 |zero=>intro C v x _ h;simp[Cm]at h
 |succ n ih=>
  have many:∀ {C:Cx} {l:List AV} {xs:List Value},Y0 C l xs->l.all (Cm n)=true->Y0 C.A l xs:=by
   intro C l;induction l with
   |nil=>intro xs h _;cases h;exact .O
   |cons a l il=>
    intro xs h hc;cases h with
    |J h t=>
     simp only[List.all_cons,Qf]at hc;exact .J (ih h hc.1) (il t hc.2)
  intro C v x h hc;cases h with
  |bool b=>exact .bool b
  |int k m=>exact .int k m
  |O h=>exact .O h
  |Ys=>exact .Ys
  |H_ h=>simp[Cm]at hc
  |Zu hm ha hv YO=>exact .Zu hm ha (many hv (by simpa[Cm]using hc)) YO
  |Ca a hx=>exact .Ca a hx
  |slice h ek cM=>simp[Cm]at hc
  |ZX hx h ek=>simp[Cm]at hc
  |Zk a h cM=>exact .Zk a h cM
  |Ck hl hm ha hv bu YO cM=>
   have:_=true:=(by simpa[Cm]using hc)
   exact .Ck hl hm ha (bu this) (fun _=>bu this) YO cM
  |Zn=>exact .Zn
  |I_ h=>simp[Cm]at hc
  |jv h=>simp[Cm]at hc
  |fJ p=>exact .fJ p
  |any x h=>exact .any x h
  |G' hf ha hb=>
   rename_i fn a b x y
   cases fn with
   |yield l=>exact absurd rfl (hf l)
   |func f=>simp only[Cm,Qf]at hc;exact .G' hf (many ha hc.1) (many hb hc.2)
   |method m=>simp only[Cm,Qf]at hc;exact .G' hf (many ha hc.1) (many hb hc.2)
   |methodOf t m=>simp only[Cm,Qf]at hc;exact .G' hf (many ha hc.1) (many hb hc.2)
   |via t p f q=>simp only[Cm,Qf]at hc;exact .G' hf (many ha hc.1) (many hb hc.2)
  |H' h=>simp[Cm]at hc
  |Cz=>exact .Cz
  |Z h=>exact .Z (ih h (by simpa[Cm]using hc))
  |Yk=>exact .Yk
  |agg h YO=>exact .agg (many h (by simpa[Cm]using hc)) YO
  |J h=>exact .J (many h (by simpa[Cm]using hc))
theorem BJ (n:Nat) {C:Cx}:∀ {l:List AV} {xs:List Value},Y0 C l xs->l.all (Cm n)=true->Y0 C.A l xs
 |_,_,.O,_=> .O
 |_,_,.J h t,hc=>by
  simp only[List.all_cons,Qf]at hc;exact .J (F0 n h hc.1) (BJ n t hc.2)
def TR (C:Cx) (nt:Nat) (T:Tr AV) (a:Array Value):Prop:=
 a.size=nt/\∀i v,T.u i=some v->∃x,a[i]?=some x/\VR C v x
inductive YZ (C:Cx) (b:Nat):List Y2->List MapEntry->Prop where
 |O:YZ C b [] []
 |J {k v:AV} {n:Nat} {e:MapEntry} {l:List Y2} {es:List MapEntry} (hk:VR C k e.key) (hv:VR C v e.val) (hg:C.G b n) (hn:e.born=C.b b n) (t:YZ C b l es):
  YZ C b ((k,v,n)::l) (e::es)
def Keys (l:List Y2):Prop:=(∀e∈l,mm e.1=true)/\(l.map (·.1)).Nodup
inductive OR (C:Cx) (b:Nat):Cv->Obj->Prop where
 |J {cs:List AV} {t:TypeId} {part:Bool} {c:Array Value} {fr:Nat×Nat} {vs:List Value} (hv:Y0 C cs vs) (ha:bP c.toList (C.a b).base vs) (hs:c.size=(C.a b).size)
  (YO:h_ cs) (hf:c.size<=fr.1\/fr.2<=fr.1) (hp:part=false->(C.a b).base=0/\cs.length=c.size/\fr=(0,0)):OR C b (.J cs t part) (.cells c t fr)
 |Z {es:List Y2} {clock:Nat} {arr:Array MapEntry} {l:List MapEntry} (hp:l.Perm arr.toList) (h:YZ C b es l) (hk:Keys es) (hn:(l.map (·.born)).Nodup)
  (hc:∀n,C.G b n->C.b b n<clock) (hg:∀n,C.G b n->n<clock) (hi:∀n m,C.G b n->C.G b m->C.b b n=C.b b m->n=m):OR C b (.O es clock) (.map arr clock)
 |aD {l:List UInt8} {s:ByteArray} {pos:Nat} (h:s.data.toList=l) (hb:(C.a b).base=0):OR C b (.aD l pos) (.stringIter s pos)
 |rX {since Zz:Nat} {seen:List Nat} {arr:Array Nat} (hb:(C.a b).base=0):OR C b (.Y1 none since seen Zz) (.mapIter none since arr Zz)
 |Y1 {m since Zz:Nat} {seen:List Nat} {arr:Array Nat} (hd:C.D m) (hg:∀n∈seen,C.G m n) (h:arr.toList=seen.map (C.b m)) (hb:(C.a b).base=0):
  OR C b (.Y1 (some m) since seen Zz) (.mapIter (some (C.a m).Cr) since arr Zz)
 |O {lp:dc} {L:Loop} (hs:L.state=lp.a) (hp:L.pending=lp.b) (ht:TR C lp.nt lp.c L.tmps) (nG:L.params.toList=lp.params)
  (ha:L.assign=lp.assign) (hb:L.body=lp.body):OR C b (.Z lp) (.loop L)
 |G':OR C b (.G' true) (.deferred (some []))
 |uI:OR C b (.G' false) (.deferred none)
theorem TR.mono {C C':Cx} (e:n_ C C') {nt:Nat} {T:Tr AV} {a:Array Value} (h:TR C nt T a):TR C' nt T a:=
 ⟨h.1,fun i v hi=>let⟨x,hx,hv⟩:=h.2 i v hi;⟨x,hx,hv.mono e⟩⟩
theorem YZ.mono {C C':Cx} (e:n_ C C') {b:Nat} {l:List Y2} {es:List MapEntry} (h:YZ C b l es):YZ C' b l es:=by
 induction h with
 |O=>exact .O
 |J hk hv hg hn _ ih=>exact .J (hk.mono e) (hv.mono e) (e.G _ _ hg) (hn.trans (e.c _ _ hg).symm) ih
theorem OR.mono {C C':Cx} (e:n_ C C') {b:Nat} {o:Cv} {x:Obj} (hd:C.D b) (hg:∀n,C'.G b n->C.G b n) (h:OR C b o x):OR C' b o x:=by
 have ZV:=e.a b hd;cases h with
 |J hv ha hs YO hf hp=>exact .J (hv.mono e) (by rw[ZV];exact ha) (by rw[ZV];exact hs) YO hf (by rw[ZV];exact hp)
 |Z hp h hk hn hc jd hi=>exact .Z hp (h.mono e) hk hn (fun n hn=>by rw[e.c _ _ (hg n hn)];exact hc n (hg n hn)) (fun n hn=>jd n (hg n hn)) (fun n m h1 h2 he=>hi n m (hg n h1) (hg m h2) (by rw[<-e.c _ _ (hg n h1),<-e.c _ _ (hg m h2)];exact he))
 |aD h hb=>exact .aD h (by rw[ZV];exact hb)
 |rX hb=>exact .rX (by rw[ZV];exact hb)
 |Y1 hd hg h hb=>
  rw[<-e.a _ hd];refine .Y1 (e.D _ hd) (fun n hn=>e.G _ _ (hg n hn)) (h.trans ?_) (by rw[ZV];exact hb);exact List.map_congr_left fun n hn=>(e.c _ _ (hg n hn)).symm
 |O hs hp ht nG ha hb=>exact .O hs hp (ht.mono e) nG ha hb
 |G'=>exact .G'
 |uI=>exact .uI
structure YR (C:Cx) (S:St) (w:World):Prop where
 a:∀b o,S.heap.u b=some o->C.D b/\∃x,w.heap[(C.a b).Cr]?=some x/\OR C b o x
 inj:∀b b' o o',S.heap.u b=some o->S.heap.u b'=some o'->(C.a b).Cr=(C.a b').Cr->b=b'
 fresh:∀b,C.D b->b<S.a
 i:∀Cr ms,C.M Cr=some ms->∃c e fr,w.heap[Cr]?=some (.cells c e fr)/\c.toList=ms
 apart:∀b o,S.heap.u b=some o->C.M (C.a b).Cr=none
 d:∀b n,C.G b n->C.D b
 f:∀k,C.X k->k<w.heap.size
 g:∀b,C.D b->C.X (C.a b).Cr
 j:∀Cr ms,C.M Cr=some ms->C.X Cr
def eU (S:St) (log:List Nat) (b:Nat):Prop:=b∈log\/S.b<=b
structure C6 (C:Cx) (S:St) (w:World) (C':Cx) (S':St) (w':World):Prop where
 a:n_ C C'
 c:YR C' S' w'
 d:S'.b=S.b
 f:∀b∈S.c,b∈S'.c
 g:S.a<=S'.a
 size:w.heap.size<=w'.heap.size
 frame:∀Cr,Cr<w.heap.size->(∀b o,S.heap.u b=some o->eU S S'.c b->(C.a b).Cr≠Cr)->w'.heap[Cr]?=w.heap[Cr]?
 e:∀b,C.D b->¬eU S S'.c b->S'.heap.u b=S.heap.u b/\∀n,C'.G b n->C.G b n
 k:∀b,C'.D b->C.D b\/S.a<=b
 own:∀b o,S'.heap.u b=some o->(C.D b/\∃o0,S.heap.u b=some o0)\/w.heap.size<=(C'.a b).Cr\/
  ∃b0 o0,S.heap.u b0=some o0/\eU S S'.c b0/\(C.a b0).Cr=(C'.a b).Cr
 j:∀Cr ms,C'.M Cr=some ms->C.M Cr=some ms\/w.heap.size<=Cr\/∃b0 o0,S.heap.u b0=some o0/\eU S S'.c b0/\(C.a b0).Cr=Cr
 i:w'.tape=w.tape/\w'.os=w.os/\w'.output=w.output
theorem C6.u {C:Cx} {S:St} {w:World} (h:YR C S w):C6 C S w C S w where
 a:= .u C
 c:=h
 d:=rfl
 f:=fun _ h=>h
 g:=Qj _
 size:=Qj _
 frame:=fun _ _ _=>rfl
 e:=fun _ _ _=>⟨rfl,fun _ h=>h⟩
 k:=fun _ h=> .inl h
 own:=fun b o hb=> .inl ⟨(h.a b o hb).1,o,hb⟩
 j:=fun _ _ h=> .inl h
 i:=⟨rfl,rfl,rfl⟩
theorem eU.mono {S:St} {l l':List Nat} {b:Nat} (h:eU S l b) (hl:∀b∈l,b∈l'):eU S l' b:=h.imp (hl b) id
theorem C6.trans {C C₁ C₂:Cx} {S S₁ S₂:St} {w w₁ w₂:World} (h:C6 C S w C₁ S₁ w₁) (g:C6 C₁ S₁ w₁ C₂ S₂ w₂):C6 C S w C₂ S₂ w₂ where
 a:=h.a.trans g.a
 c:=g.c
 d:=g.d.trans h.d
 f:=fun b hb=>g.f b (h.f b hb)
 g:=Nat.le_trans h.g g.g
 size:=Nat.le_trans h.size g.size
 frame:=by
  intro Cr uJ hn;have h1:=h.frame Cr uJ (fun b o hb hl=>hn b o hb (hl.mono g.f));rw[<-h1];refine g.frame Cr (Nat.lt_of_lt_of_le uJ h.size) ?_;intro b o hb hl e;have ck:eU S S₂.c b:=hl.imp id (fun x=>by rw[h.d]at x;exact x);rcases h.own b o hb with⟨hd,o0,h0⟩|hs|⟨b0,o0,h0,je,e0⟩
  .exact hn b o0 h0 ck (by rw[<-h.a.a b hd];exact e)
  .omega
  .exact hn b0 o0 h0 (je.mono g.f) (e0.trans e)
 e:=by
  intro b hd hm;have h1:=h.e b hd (fun x=>hm (x.mono g.f));have h2:=g.e b (h.a.D b hd) (fun x=>hm (x.imp id (fun y=>by rw[h.d]at y;exact y)));exact⟨h2.1.trans h1.1,fun n hn=>h1.2 n (h2.2 n hn)⟩
 k:=by
  intro b hb;rcases g.k b hb with h1|h1
  .exact h.k b h1
  .exact .inr (Nat.le_trans h.g h1)
 own:=by
  intro b o hb;rcases g.own b o hb with⟨hd,o1,h1⟩|hs|⟨b1,o1,h1,nI,e1⟩
  .rcases h.own b o1 h1 with⟨yq,o0,h0⟩|hs|⟨b0,o0,h0,je,e0⟩
   .exact .inl ⟨yq,o0,h0⟩
   .exact .inr (.inl (by rw[g.a.a b hd];exact hs))
   .exact .inr (.inr ⟨b0,o0,h0,je.mono g.f,by rw[g.a.a b hd];exact e0⟩)
  .exact .inr (.inl (Nat.le_trans h.size hs))
  .have hl1':eU S S₂.c b1:=nI.imp id (fun x=>by rw[h.d]at x;exact x);rcases h.own b1 o1 h1 with⟨yq,o0,h0⟩|hs|⟨b0,o0,h0,je,e0⟩
   .exact .inr (.inr ⟨b1,o0,h0,hl1',by rw[<-e1,h.a.a b1 yq]⟩)
   .grind
   .exact .inr (.inr ⟨b0,o0,h0,je.mono g.f,e0.trans e1⟩)
 j:=by
  intro Cr ms hm;rcases g.j Cr ms hm with h1|hs|⟨b1,o1,h1,nI,e1⟩
  .rcases h.j Cr ms h1 with h0|hs|⟨b0,o0,h0,je,e0⟩
   .exact .inl h0
   .exact .inr (.inl hs)
   .exact .inr (.inr ⟨b0,o0,h0,je.mono g.f,e0⟩)
  .exact .inr (.inl (Nat.le_trans h.size hs))
  .have hl1':eU S S₂.c b1:=nI.imp id (fun x=>by rw[h.d]at x;exact x);rcases h.own b1 o1 h1 with⟨yq,o0,h0⟩|hs|⟨b0,o0,h0,je,e0⟩
   .exact .inr (.inr ⟨b1,o0,h0,hl1',by rw[<-e1,h.a.a b1 yq]⟩)
   .grind
   .exact .inr (.inr ⟨b0,o0,h0,je.mono g.f,e0.trans e1⟩)
 i:=⟨g.i.1.trans h.i.1,g.i.2.1.trans h.i.2.1,g.i.2.2.trans h.i.2.2⟩
theorem YR.I {C:Cx} {S:St} {w:World} (h:YR C S w) (n:Nat) (l:List Nat):YR C {S with b:=n,c:=l} w:=
 ⟨h.a,h.inj,h.fresh,h.i,h.apart,h.d,h.f,h.g,h.j⟩
theorem BL {n:Nat}:∀ {a l:List Nat} {b:Nat},(b∈a/\b<n)\/b∈l->b∈below n a l
 | [],l,b,h=>by
  rcases h with⟨h,_⟩|h
  .cases h
  .exact h
 |c::a,l,b,h=>by
  unfold below;cases hc:Nat.blt c n with
  |true=>
   rcases h with⟨h,hn⟩|h
   .rcases Qk.1 h with rfl|h
    .exact Qh ..
    .simp_all [Qg,BL]
   .simp_all [Qg,BL]
  |false=>
   have uy:¬c<n:=fun x=>by grind [Nat.blt_eq]
   rcases h with⟨h,hn⟩|h
   .rcases Qk.1 h with rfl|h
    .exact absurd hn uy
    .exact BL (.inl ⟨h,hn⟩)
   .exact BL (.inr h)
theorem C6.I {C C':Cx} {S S':St} {w w':World} (hS:YR C S w) (h:C6 C S.u w C' S' w'):C6 C S w C' (S.M S') w' where
 a:=h.a
 c:=h.c.I _ _
 d:=rfl
 f:=fun b hb=>BL (.inr hb)
 g:=h.g
 size:=h.size
 frame:=fun Cr hb hn=>h.frame Cr hb (fun b o wH hm=>hn b o wH (by
  have C8:=hS.fresh b (hS.a b o wH).1;rcases hm with hm|hm
  .rcases Nat.lt_or_ge b S.b with rk|rk
   .exact .inl (BL (.inl ⟨hm,rk⟩))
   .exact .inr rk
  .have:S.a<=b:=hm;omega))
 e:=fun b hd hm=>h.e b hd (fun x=>hm (by
  have C8:=hS.fresh b hd;rcases x with x|x
  .rcases Nat.lt_or_ge b S.b with rk|rk
   .exact .inl (BL (.inl ⟨x,rk⟩))
   .exact .inr rk
  .have:S.a<=b:=x;omega))
 k:=h.k
 own:=fun b o hb=>(h.own b o hb).imp id (Or.imp id fun⟨b0,o0,h0,hm,e⟩=>⟨b0,o0,h0,by
  have C8:=hS.fresh b0 (hS.a b0 o0 h0).1;rcases hm with hm|hm
  .rcases Nat.lt_or_ge b0 S.b with rk|rk
   .exact .inl (BL (.inl ⟨hm,rk⟩))
   .exact .inr rk
  .have:S.a<=b0:=hm;omega,e⟩)
 j:=fun Cr ms q9=>(h.j Cr ms q9).imp id (Or.imp id fun⟨b0,o0,h0,hm,e⟩=>⟨b0,o0,h0,by
  have C8:=hS.fresh b0 (hS.a b0 o0 h0).1;rcases hm with hm|hm
  .rcases Nat.lt_or_ge b0 S.b with rk|rk
   .exact .inl (BL (.inl ⟨hm,rk⟩))
   .exact .inr rk
  .have:S.a<=b0:=hm;omega,e⟩)
 i:=h.i
theorem B0 {w:World} {Cr:Nat} {x:Obj} (h:w.heap[Cr]?=some x):Cr<w.heap.size:=by grind
def Cx.N (C C':Cx):Cx:= {C with M:=C'.M,X:=C'.X}
theorem C6.J {C C':Cx} {S S':St} {w w':World} (hS:YR C S w) (h:C6 C S.u w C' S' w') (hl:S'.c=[]):C6 C S w (C.N C') S w':=by
 have bG:∀b o,S.heap.u b=some o->¬eU S.u S'.c b:=by
  intro b o hb hm;have C8:=hS.fresh b (hS.a b o hb).1;rcases hm with hm|hm
  .rw[hl]at hm;cases hm
  .have:S.a<=b:=hm;omega
 have yr:∀Cr,Cr<w.heap.size->w'.heap[Cr]?=w.heap[Cr]?:=fun Cr hb=>h.frame Cr hb (fun b o wH hm=>absurd hm (bG b o wH));have e:n_ C (C.N C'):=⟨fun _ h=>h,fun _ _=>rfl,h.a.M,fun _ _ h=>h,fun _ _ _=>rfl,h.a.X⟩
 refine⟨e,?_,rfl,fun _ h=>h,Qj _,h.size,fun Cr hb _=>yr Cr hb,fun _ _ _=>⟨rfl,fun _ h=>h⟩,fun _ h=> .inl h,fun b o hb=> .inl ⟨(hS.a b o hb).1,o,hb⟩,?_,h.i⟩
 .refine⟨?_,hS.inj,hS.fresh,h.c.i,?_,hS.d,h.c.f,fun b hd=>h.a.X _ (hS.g b hd),h.c.j⟩
  .intro b o hb;obtain⟨hd,x,hx,hr⟩:=hS.a b o hb;exact⟨hd,x,by rw[<-hx];exact yr _ (B0 hx),hr.mono e hd (fun _ h=>h)⟩
  .intro b o hb;obtain⟨hd,x,hx,hr⟩:=hS.a b o hb;cases hm:C'.M (C.a b).Cr with
   |none=>exact hm
   |some ms=>
    exfalso;rcases h.j _ _ hm with h1|h1|⟨b0,o0,h0,je,_⟩
    .rw[hS.apart b o hb]at h1;cases h1
    .have:=B0 hx;omega
    .exact bG b0 o0 h0 je
 .intro Cr ms hm;rcases h.j Cr ms hm with h1|h1|⟨b0,o0,h0,je,_⟩
  .exact .inl h1
  .exact .inr (.inl h1)
  .exact absurd je (bG b0 o0 h0)
theorem Bh (Cr off n:Nat):(⟨Cr,off,none⟩:Addr).add n=⟨Cr,off+n,none⟩:=by
 unfold Addr.add;split
 .next h=>subst h;rfl
 .rfl
structure Ym (E:a_) (P:Program):Prop where
 d:∀t i,E.b.u t=some i->P.info? t=some i
 fn:∀f fn,E.a.u f=some fn->P.funcs[f]?=some fn
 a:∀t,E.plain t=true->P.stoodInHeld t=false
 c:∀f fn,E.a.u f=some fn->(fn.name== "runtime.NumGoroutine")=false
 jw:∀f g,E.g f=some g->∃fn b,P.funcs[f]?=some fn/\fn.body=some b/\(fn.name== "runtime.NumGoroutine")=false
theorem Dw {E:a_} {P:Program} (h:Ym E P) {t:TypeId} {d:TypeDesc} (e:CS E t=some d):P.underlying t=some d:=by
 unfold CS at e;cases hi:E.b.u t with
 |none=>rw[hi]at e;cases e
 |some i=>
  rw[hi]at e;have hp:=h.d t i hi;unfold Program.underlying;rw[hp];simp only at e;unfold qW at e;split at e
  .next n u hd=>
   cases hu:E.b.u u with
   |none=>rw[hu]at e;cases e
   |some j=>
    rw[hu]at e;have:=h.d u j hu;obtain⟨d1,d2,d3,d4,d5,d6,d7,d8,d9,d10⟩:=i;simp only at hd;subst hd;simp only[this,Option.map_some];exact e
  .grind
theorem Ah {E:a_} {P:Program} (h:Ym E P) {t:TypeId} {d:TypeDesc} (e:CS E t=some d) (w:World):(underlying t).run P w= .ok d w:=
 run_underlying (Dw h e) w
theorem BO {E:a_} {P:Program} (h:Ym E P) {t:TypeId} {i:TypeInfo} (e:E.b.u t=some i) (w:World):(typeInfo t).run P w= .ok i w:=by
 simp[typeInfo,h.d t i e]
theorem A5 {E:a_} {P:Program} (h:Ym E P) {t:TypeId} {n:Nat} (e:an E t=some n) (w:World):(Go.sizeOf t).run P w= .ok n w:=by
 unfold an at e;cases hi:E.b.u t with
 |none=>rw[hi]at e;cases e
 |some i=>rw[hi]at e;simp[Go.sizeOf,BO h hi,Option.some.inj e]
theorem O2 {E:a_} {P:Program} (h:Ym E P) {t:TypeId} {n:Nat} (e:p_ E t=some n) (w:World):
 ∃i,(typeInfo t).run P w= .ok i w/\i.bytes=n:=by
 unfold p_ at e;cases hi:E.b.u t with
 |none=>rw[hi]at e;cases e
 |some i=>rw[hi]at e;exact⟨i,BO h hi w,Option.some.inj e⟩
theorem MU {E:a_} {P:Program} (h:Ym E P) {t:TypeId} {b:Bool} (e:j_ E t=some b) (w:World):(Go.isAgg t).run P w= .ok b w:=by
 unfold j_ at e;split at e
 .next fs hd=>cases e;simp[Go.isAgg,Ah h hd]
 .next n x hd=>cases e;simp[Go.isAgg,Ah h hd]
 .next d h1 h2 hd=>
  cases e;simp only[Go.isAgg,Sem.run_bind,Ah h hd,Result.andThen_ok];cases d<;>first|rfl|exact absurd rfl (h1 _)|exact absurd rfl (h2 _ _)
 .cases e
theorem OP {C:Cx} {v:Value} {x:AV} (h:jx v=some x):VR C x v/\x.B=true:=by
 unfold jx at h;split at h<;>first|cases h|skip
 .exact⟨.bool _,U⟩
 .exact⟨.int _ _,U⟩
 .exact⟨.O U,U⟩
 .exact⟨.Ys,U⟩
 .exact⟨.Ca _ .none,U⟩
 .exact⟨.Zn,U⟩
 .exact⟨.Cz,U⟩
 .exact⟨.Yk,U⟩
theorem H0 {C:Cx}:∀ {l:List Value} {r:List AV},qD jx l=some r->Y0 C r l/\h_ r
 | [],r,h=>by
  obtain rfl: []=r:=Option.some.inj h;exact⟨.O,fun _ h=>by cases h⟩
 |a::l,r,h=>by
  obtain⟨b,bs,hb,tF,rfl⟩:=W6 h;have h1:=OP (C:=C) hb;have h2:=H0 (C:=C) tF;exact⟨.J h1.1 h2.1,fun v hv=>by
   rcases Qk.1 hv with rfl|hv
   .exact h1.2
   .exact h2.2 v hv⟩
theorem Nl {C:Cx} {v:Value} {x:AV} (h:qV v=some x):VR C x v:=by
 unfold qV at h;split at h
 .next cs=>
  cases hm:qD jx cs.toList with
  |none=>rw[hm]at h;cases h
  |some l=>rw[hm]at h;cases h;exact .agg (H0 hm).1 (H0 (C:=C) hm).2
 .next cs=>
  cases hm:qD jx cs.toList with
  |none=>rw[hm]at h;cases h
  |some l=>rw[hm]at h;cases h;exact .J (H0 hm).1
 .exact(OP h).1
theorem FK {o:Option AV} {z:AV} (h:rH o=some z):o=some z/\z.A=false:=by
 unfold rH at h;split at h
 .cases h
 .next hn=>
  refine⟨h,?_⟩;cases z with
  |O vs=>exact absurd h (hn vs)
  |_=>rfl
theorem Hv {E:a_} {P:Program} (h:Ym E P) {t:TypeId} {z:AV} (e:i_ E t=some z) (w:World):
 ∃x,(zeroValue t).run P w= .ok x w/\(∀C,VR C z x)/\∀i,P.info? t=some i->i.zero=some x:=by
 unfold i_ at e;cases hi:E.b.u t with
 |none=>rw[hi]at e;cases e
 |some i=>
  rw[hi]at e;simp only at e;cases hz:i.zero with
  |none=>rw[hz]at e;cases e
  |some x=>
   rw[hz]at e;exact⟨x,by simp[zeroValue,BO h hi,hz],fun C=>Nl (FK e).1,fun j hj=>by
    rw[h.d t i hi]at hj;cases hj;exact hz⟩
theorem D7 {E:a_} {t:TypeId} {z:AV} (e:i_ E t=some z):z.A=false:=by
 unfold i_ at e;cases hi:E.b.u t with
 |none=>rw[hi]at e;cases e
 |some i=>grind [FK]
theorem VR.u {C:Cx} {v:AV} {x:Value} (h:VR C v x):Y0 C v.u x.cells.toList:=by
 cases h<;>first|exact .one (by constructor<;>assumption)|skip
 all_goals first
  |assumption
  |(next h=>rw[h.1];exact .one (.any _ h))
  |(exact .one (.agg ‹_› ‹_›))
  |(exact .one (.tuple ‹_›))
  |(refine .one ?_;first|exact .ptr ‹_›|exact .Zu ‹_› ‹_› ‹_› ‹_›|exact .slice ‹_› ‹_› ‹_›|exact .Ck ‹_› ‹_› ‹_› ‹_› ‹_› ‹_› ‹_›|exact .Zk _ ‹_› ‹_›|exact .func ‹_› ‹_› ‹_›)
theorem VR.B {C:Cx} {v:AV} {x:Value} (h:VR C v x) (ht:v.A=false):h_ v.u:=by
 cases h<;>first
  |assumption
  |(intro u hu;simp only[AV.u,Qp]at hu;subst hu;first|rfl|(simp[AV.A]at ht))
theorem VR.vC {C:Cx} {v:AV} {x:Value} (h:VR C v x) (hc:v.B=true):x.oneCell'=true:=by
 cases h<;>first|rfl|(next h=>exact h.2)|(simp[AV.B]at hc)
theorem YR.lt {C:Cx} {S:St} {w:World} (h:YR C S w) {b:Nat} {o:Cv} (hb:S.heap.u b=some o):(C.a b).Cr<w.heap.size:=by
 obtain⟨_,x,hx,_⟩:=h.a b o hb;rcases Nat.lt_or_ge (C.a b).Cr w.heap.size with h|h
 .exact h
 .grind
theorem F1 {o:Option Cv} {cs:List AV} (h:Y4 o=some cs):∃t part,o=some (.J cs t part):=by
 unfold Y4 at h;split at h
 .cases h;exact⟨_,_,rfl⟩
 .cases h
theorem JW {o:Option Cv} {es:List Y2} (h:jy o=some es):∃cl,o=some (.O es cl):=by
 unfold jy at h;split at h
 .cases h;exact⟨_,rfl⟩
 .cases h
theorem YR.u {C:Cx} {S:St} {w:World} (h:YR C S w) {b:Nat} {cs:List AV} (hb:Y4 (S.heap.u b)=some cs):
 C.D b/\∃c e fr vs,w.heap[(C.a b).Cr]?=some (.cells c e fr)/\Y0 C cs vs/\bP c.toList (C.a b).base vs/\c.size=(C.a b).size/\h_ cs/\(c.size<=fr.1\/fr.2<=fr.1):=by
 obtain⟨t,part,hs⟩:=F1 hb;obtain⟨hd,x,hx,hr⟩:=h.a b _ hs;cases hr with
 |J hv ha af YO hf hp=>exact⟨hd,_,_,_,_,hx,hv,ha,af,YO,hf⟩
theorem XO {w:World} {Cr:Nat} {c:Array Value} {e:TypeId} {fr:Nat×Nat} (h:w.heap[Cr]?=some (.cells c e fr)) (off:Nat):
 w.cell? ⟨Cr,off,none⟩=c[off]?:=by simp[World.cell?,h]
def qF (w:World) (a:Addr) (vs:List Value):Prop:=∀j v,vs[j]?=some v->w.cell? (a.add j)=some v
theorem Iu {w:World} {Cr off:Nat} {c:Array Value} {e:TypeId} {fr:Nat×Nat} {vs:List Value} (h:w.heap[Cr]?=some (.cells c e fr)) (ha:bP c.toList off vs):
 qF w ⟨Cr,off,none⟩ vs:=by
 intro j v hj;rw[Bh,XO h];have C8:j<vs.length:=by grind
 have:=ha.get j C8;rw[<-hj,<-this];simp
theorem bP.sub {α:Type} {ms:List α} {off:Nat} {vs a b c:List α} (h:bP ms off vs) (e:vs=a++b++c):bP ms (off+a.length) b:=by
 subst e;exact h.nE
theorem h_.sub {a b:List AV} (h:h_ (a++b)):h_ a/\h_ b:=
 ⟨fun v hv=>h v (List.mem_append_left _ hv),fun v hv=>h v (List.mem_append_right _ hv)⟩
theorem h_.append {a b:List AV} (h:h_ a) (g:h_ b):h_ (a++b):=fun v hv=>(List.mem_append.1 hv).elim (h v) (g v)
theorem O5 {C:Cx} {S:St} {w:World} (h:YR C S w) {n:Nat} {v:AV} {x:Value} (hv:VR C v x) {l:List AV} (e:cf S n v=some l):
 ∃a vs,x= .pointer (some a)/\Y0 C l vs/\qF w a vs/\h_ l/\l.length=n:=by
 cases hv with
 |H_ hd=>
  simp only[cf]at e;obtain⟨cs,YO,e1⟩:=Qa.1 e;obtain⟨q,hq,e2⟩:=Qa.1 e1;obtain⟨pre,rfl,hp⟩:=BQ hq;obtain⟨post,rfl,hl⟩:=Dk e2;obtain⟨_,c,ty,fr,vs,hx,Zh,ha,af,hc,_⟩:=h.u YO;obtain⟨y,z,rfl,h1,h2⟩:=AK Zh;obtain⟨z1,z2,rfl,h3,h4⟩:=AK h2;refine⟨_,z1,U,h3,Iu hx ?_,(hc.sub.2).sub.1,hl⟩;have:=ha.sub (a:=y) (b:=z1) (c:=z2) (by simp);rw[h1.u,hp]at this;exact this
 |Zu hm ha Zh hc=>
  simp only[cf]at e;obtain⟨post,rfl,hl⟩:=Dk e;obtain⟨z1,z2,rfl,h3,h4⟩:=AK Zh;obtain⟨c,ty,fr,hx,rfl⟩:=h.i _ _ hm;exact⟨_,z1,U,h3,Iu hx ha.left,hc.sub.1,hl⟩
 |_=>simp[cf]at e
theorem Hw {P:Program} {w:World} {a:Addr} {vs:List Value} (h:qF w a vs) (n:Nat) (hn:vs.length=n):
 (loadCells a n).run P w= .ok vs.toArray w:=by
 subst hn;exact run_loadCells_list w a vs h
theorem run_one {P:Program} {w:World} {a:Addr} {v:Value} (h:qF w a [v]):(load a).run P w= .ok v w:=by
 have:=h 0 v rfl;have ha:a.add 0=a:=by simp[Addr.add]
 rw[ha]at this;simp[this]
theorem H7 {E:a_} {P:Program} (he:Ym E P) {C:Cx} {S:St} {w:World} (h:YR C S w) {t:TypeId} {v r:AV} {x:Value} (hv:VR C v x)
 (e:Zd E t S v=some r):∃a y,x= .pointer (some a)/\(Go.loadVar t a).run P w= .ok y w/\VR C r y:=by
 unfold Zd at e;cases h1:j_ E t with
 |none=>rw[h1]at e;simp at e
 |some b=>
 cases h2:Am.an E t with
 |none=>rw[h1,h2]at e;cases b<;>simp at e
 |some n=>
 rw[h1,h2]at e;cases b with
 |true=>
  simp only[oZ]at e;obtain⟨l,hl,e1⟩:=Qa.1 e;cases e1;obtain⟨a,vs,rfl,h3,h4,h5,h6⟩:=O5 h hv hl;refine⟨a,.agg vs.toArray,U,?_,.agg h3 h5⟩;simp[Go.loadVar,MU he h1,A5 he h2,Hw h4 n (h3.u.trans h6)]
 |false=>
  simp only[rI]at e;obtain⟨l,hl,e1⟩:=Qa.1 e;obtain⟨a,vs,rfl,h3,h4,h5,h6⟩:=O5 h hv hl;unfold oneV at e1;split at e1
  .next u=>
   cases e1;cases h3 with
   |J h7 h8=>
    cases h8;exact⟨a,_,U,by simp only[Go.loadVar,Sem.run_bind,MU he h1,Result.andThen_ok,Bool.false_eq_true,if_false];exact run_one h4,h7⟩
  .cases e1
def Cx.J (C:Cx) (b:Nat) (p:Pl):Cx:= {C with a:=fun k=>if k=b then p else C.a k,D:=fun k=>C.D k\/k=b,X:=fun k=>C.X k\/k=p.Cr}
theorem n_.B {C:Cx} {b:Nat} {p:Pl} (h:¬C.D b):n_ C (C.J b p):=
 ⟨fun _ h=> .inl h,fun k hk=>by
  have:k≠b:=fun e=>h (e▸hk);simp[Cx.J,this],fun _ _ h=>h,fun _ _ h=>h,fun _ _ _=>rfl,fun _ h=> .inl h⟩
theorem Sz {w:World} {o:Obj} {Cr:Nat} {x:Obj} (h:w.heap[Cr]?=some x):(w.heap.push o)[Cr]?=some x:=by
 have:=B0 h;rw[Array.getElem?_push_lt this,<-h];simp[this]
def World.A (w:World) (o:Obj):World:= {w with heap:=w.heap.push o}
theorem Gy (b:Nat) (l:List Nat):b∈Z7 b l/\∀k∈l,k∈Z7 b l:=by
 cases l with
 |nil=>simp[Z7]
 |cons c l=>grind [Z7,Qb]
theorem DV (S:St) (b:Nat) (o:Option Cv):eU S (S.B b o).c b/\∀k∈S.c,k∈(S.B b o).c:=by
 unfold St.B eU;cases hb:Nat.blt b S.b with
 |true=>exact⟨.inl (Gy b _).1,(Gy b _).2⟩
 |false=>exact⟨.inr (by
  rcases Nat.lt_or_ge b S.b with h|h
  .grind [Nat.blt_eq]
  .exact h),fun k hk=>hk⟩
theorem JG (S:St) (b k:Nat) (o:Option Cv):(S.B b o).heap.u k=if k=b then o else S.heap.u k:=Ap _ _ _ _
theorem KL (S:St) (k:Nat) (o:Cv):(S.A o).heap.u k=if k=S.a then some o else S.heap.u k:=Ap _ _ _ _
theorem C6.A {C:Cx} {S:St} {w:World} (h:YR C S w) (o:Cv) (x:Obj) (sz:Nat) (hx:OR (C.J S.a ⟨w.heap.size,0,sz⟩) S.a o x):
 C6 C S w (C.J S.a ⟨w.heap.size,0,sz⟩) (S.A o) (World.A w x):=by
 have cW:¬C.D S.a:=fun hd=>Nat.lt_irrefl _ (h.fresh _ hd);have e:=n_.B (C:=C) (p:=⟨w.heap.size,0,sz⟩) cW;have gz:=fun k=>KL S k o;refine⟨e,⟨?_,?_,?_,?_,?_,?_,?_,?_,fun Cr ms hm=> .inl (h.j Cr ms hm)⟩,rfl,fun _ h=>h,Nat.le_succ _,by simp[World.A],?_,?_,?_,?_,fun _ _ h=> .inl h,⟨rfl,rfl,rfl⟩⟩
 .intro b ob hb;rw[gz]at hb;split at hb
  .next iO=>
   subst iO;cases hb;refine⟨.inr U,x,?_,hx⟩;simp only[Cx.J,if_true,World.A];exact Array.getElem?_push_size
  .next iO=>
   obtain⟨hd,y,hy,hr⟩:=h.a b ob hb;refine⟨.inl hd,y,?_,hr.mono e hd (fun _ h=>h)⟩;simp only[Cx.J,iO,if_false,World.A];exact Sz hy
 .intro b b' ob ob' hb dG heq;rw[gz]at hb dG;split at hb
  .next h1=>
   split at dG
   .next h2=>rw[h1,h2]
   .next h2=>
    exfalso;subst h1;simp only[Cx.J,if_true,h2,if_false]at heq;have:=h.lt dG;omega
  .next h1=>
   split at dG
   .next h2=>
    exfalso;subst h2;simp only[Cx.J,if_true,h1,if_false]at heq;have:=h.lt hb;omega
   .next h2=>
    simp only[Cx.J,h1,h2,if_false]at heq;exact h.inj b b' ob ob' hb dG heq
 .rintro b (hd|rfl)
  .exact Nat.lt_succ_of_lt (h.fresh b hd)
  .exact Nat.lt_succ_self _
 .intro Cr ms hm;obtain⟨c,ty,fr,hc,e⟩:=h.i Cr ms hm;exact⟨c,ty,fr,Sz hc,e⟩
 .intro b ob hb;rw[gz]at hb;split at hb
  .next iO=>
   subst iO;cases hm:C.M w.heap.size with
   |none=>simpa[Cx.J]using hm
   |some ms=>
    obtain⟨c,ty,fr,hc,_⟩:=h.i _ ms hm;simp at hc
  .next iO=>simpa[Cx.J,iO]using h.apart b ob hb
 .exact fun b n hg=> .inl (h.d b n hg)
 .rintro k (hk|rfl)
  .exact Nat.lt_of_lt_of_le (h.f k hk) (by simp[World.A])
  .simp[World.A]
 .rintro b (hd|rfl)
  .have:b≠S.a:=by rintro rfl;exact cW hd
   exact .inl (by simpa[Cx.J,this]using h.g b hd)
  .exact .inr (by simp[Cx.J])
 .intro Cr hb _;show(w.heap.push x)[Cr]?=_;rw[Array.getElem?_push_lt hb];simp[hb]
 .intro b hd _;have ZT:b≠S.a:=by rintro rfl;exact cW hd
  exact⟨by rw[gz,if_neg ZT],fun _ h=>h⟩
 .rintro b (hd|rfl)
  .exact .inl hd
  .exact .inr (Qj _)
 .intro b ob hb;rw[gz]at hb;split at hb
  .grind [Cx.J]
  .next iO=>exact .inl ⟨(h.a b ob hb).1,ob,hb⟩
theorem Bc (C:Cx) (b:Nat) (p:Pl):(C.J b p).a b=p:=by simp[Cx.J]
theorem Jp (C:Cx) (b:Nat) (p:Pl):(C.J b p).D b:= .inr rfl
theorem I6 {C:Cx} {S:St} {w w':World} (h:YR C S w) (hs:w.heap.size<=w'.heap.size) (hk:∀Cr,Cr<w.heap.size->w'.heap[Cr]?=w.heap[Cr]?)
 (hm:w'.tape=w.tape/\w'.os=w.os/\w'.output=w.output):C6 C S w C S w':=by
 refine⟨.u C,⟨?_,h.inj,h.fresh,?_,h.apart,h.d,fun k hk=>Nat.lt_of_lt_of_le (h.f k hk) hs,h.g,h.j⟩,rfl,fun _ h=>h,Qj _,hs,fun Cr hb _=>hk Cr hb,fun _ _ _=>⟨rfl,fun _ h=>h⟩,fun _ h=> .inl h,
  fun b o hb=> .inl ⟨(h.a b o hb).1,o,hb⟩,fun _ _ h=> .inl h,hm⟩
 .intro b o hb;obtain⟨hd,y,hy,hr⟩:=h.a b o hb;exact⟨hd,y,by rw[hk _ (B0 hy)];exact hy,hr⟩
 .intro Cr ms hm;obtain⟨c,ty,fr,hc,e⟩:=h.i Cr ms hm;exact⟨c,ty,fr,by rw[hk _ (B0 hc)];exact hc,e⟩
theorem I5 {C:Cx} {S:St} {w:World} (h:YR C S w) (x:Obj):C6 C S w C S (World.A w x):=
 I6 h (by simp[World.A]) (fun Cr hb=>by
  show(w.heap.push x)[Cr]?=_;rw[Array.getElem?_push_lt hb];simp[hb]) ⟨rfl,rfl,rfl⟩
def Cx.Y (C:Cx) (b:Nat):Cx:= {C with X:=fun k=>C.X k\/k=b}
theorem n_.rm {C:Cx} {b:Nat}:n_ C (C.Y b):=⟨fun _ h=>h,fun _ _=>rfl,fun _ _ h=>h,fun _ _ h=>h,fun _ _ _=>rfl,fun _ h=> .inl h⟩
theorem C6.known {C:Cx} {S:St} {w:World} (h:YR C S w) {b:Nat} (hb:b<w.heap.size):C6 C S w (C.Y b) S w:=by
 refine⟨.rm,⟨fun k o hk=>?_,h.inj,h.fresh,h.i,h.apart,h.d,fun k hk=>hk.elim (h.f k) (fun e=>e▸hb),fun k hk=> .inl (h.g k hk),fun k ms hk=> .inl (h.j k ms hk)⟩,rfl,fun _ h=>h,Qj _,Qj _,fun _ _ _=>rfl,fun _ _ _=>⟨rfl,fun _ h=>h⟩,fun _ h=> .inl h,
  fun b o hb=> .inl ⟨(h.a b o hb).1,o,hb⟩,fun _ _ h=> .inl h,⟨rfl,rfl,rfl⟩⟩
 obtain⟨hd,y,hy,hr⟩:=h.a k o hk;exact⟨hd,y,hy,hr.mono .rm hd (fun _ h=>h)⟩
theorem KS {C:Cx} {S:St} {w:World} (h:YR C S w) (x:Obj):C6 C S w (C.Y w.heap.size) S (World.A w x):=
 (I5 h x).trans (C6.known (I5 h x).c (by simp[World.A]))
theorem C6.B {C:Cx} {S:St} {w:World} (h:YR C S w) (n:Nat):C6 C S w C S {w with drawn:=n}:=
 I6 h (Qj _) (fun _ _=>rfl) ⟨rfl,rfl,rfl⟩
def World.u (w:World) (Cr:Nat) (o:Obj):World:= {w with heap:=w.heap.setIfInBounds Cr o}
theorem Bi {w:World} {Cr:Nat} {o:Obj} (k:Nat):(World.u w Cr o).heap[k]?=if k=Cr then(if Cr<w.heap.size then some o else none)else w.heap[k]?:=by grind [World.u]
theorem KR {C C':Cx} {S:St} {w:World} (h:YR C S w) {b:Nat} {o0:Cv} (nk:S.heap.u b=some o0) (e:n_ C C') (hD:∀k,C'.D k->C.D k)
 (hM:C'.M=C.M) (hX:C'.X=C.X) (hG:∀k n,C'.G k n->C.G k n\/k=b) (o:Cv) (x:Obj) (hx:OR C' b o x):
 C6 C S w C' (S.B b (some o)) (World.u w (C.a b).Cr x):=by
 have gz:=fun k=>JG S b k (some o);have C8:=h.lt nk;have yq:=(h.a b o0 nk).1;have hG':∀k,k≠b->∀n,C'.G k n->C.G k n:=fun k hk n hg=>(hG k n hg).resolve_right hk;have f:∀j oj,(if j=b then some o else S.heap.u j)=some oj->∃q,S.heap.u j=some q:=by grind
 refine⟨e,⟨?_,?_,?_,?_,?_,?_,fun k hk=>by simpa[World.u]using h.f k (hX▸hk),fun k hk=>by rw[e.a _ (hD k hk),hX];exact h.g k (hD k hk),fun Cr ms hm=>by rw[hX];exact h.j Cr ms (hM▸hm)⟩,rfl,(DV S b _).2,Qj _,by simp[World.u],?_,?_,fun k hk=> .inl (hD k hk),?_,fun _ _ hm=> .inl (hM▸hm),⟨rfl,rfl,rfl⟩⟩
 .intro k ok hk;rw[gz]at hk;split at hk
  .next e'=>subst e';cases hk;exact⟨e.D _ yq,x,by rw[e.a _ yq,Bi];simp[C8],hx⟩
  .next e'=>
   obtain⟨hd,y,hy,hr⟩:=h.a k ok hk;refine⟨e.D _ hd,y,?_,hr.mono e hd (hG' k e')⟩;rw[e.a _ hd,Bi,if_neg (fun e''=>e' (h.inj k b ok o0 hk nk e''))];exact hy
 .intro k k' ok vD hk oQ heq;rw[gz]at hk oQ;obtain⟨q,hq⟩:=f k ok hk;obtain⟨q',hq'⟩:=f k' vD oQ;rw[e.a _ (h.a k q hq).1,e.a _ (h.a k' q' hq').1]at heq;exact h.inj k k' q q' hq hq' heq
 .exact fun k hk=>h.fresh k (hD k hk)
 .intro Cr ms hm;rw[hM]at hm;obtain⟨c,ty,fr,hc,e⟩:=h.i Cr ms hm;refine⟨c,ty,fr,?_,e⟩;rw[Bi,if_neg];· exact hc
  intro e';have:=h.apart b o0 nk;rw[<-e',hm]at this;cases this
 .intro k ok hk;rw[gz]at hk;obtain⟨q,hq⟩:=f k ok hk;rw[hM,e.a _ (h.a k q hq).1];exact h.apart k q hq
 .intro k n hg;rcases hG k n hg with hg|rfl
  .exact e.D _ (h.d k n hg)
  .exact e.D _ yq
 .intro Cr _ hn;rw[Bi,if_neg];intro e;exact hn b o0 nk (DV S b _).1 e.symm
 .intro k hd hm;have hk:k≠b:=by rintro rfl;exact hm (DV S k _).1
  exact⟨by rw[gz,if_neg hk],hG' k hk⟩
 .intro k ok hk;rw[gz]at hk;obtain⟨q,hq⟩:=f k ok hk;exact .inl ⟨(h.a k q hq).1,q,hq⟩
theorem DS {C:Cx} {S:St} {w:World} (h:YR C S w) {b:Nat} {o0:Cv} (nk:S.heap.u b=some o0) (o:Cv) (x:Obj) (hx:OR C b o x):
 C6 C S w C (S.B b (some o)) (World.u w (C.a b).Cr x):=
 KR h nk (.u C) (fun _ h=>h) rfl rfl (fun _ _ h=> .inl h) o x hx
theorem C6.N {C:Cx} {S:St} {w:World} (h:YR C S w) (b:Nat):C6 C S w C (S.B b none) w:=by
 have gz:=fun k=>JG S b k none;have f:∀j oj,(S.B b none).heap.u j=some oj->S.heap.u j=some oj:=by grind
 exact⟨.u C,⟨fun k ok hk=>h.a k ok (f k ok hk),fun k k' ok vD hk oQ=>h.inj k k' ok vD (f k ok hk) (f k' vD oQ),h.fresh,h.i,
  fun k ok hk=>h.apart k ok (f k ok hk),h.d,h.f,h.g,h.j⟩,rfl,(DV S b _).2,Qj _,Qj _,fun _ _ _=>rfl,
  fun k _ hm=>⟨by
   have ZT:k≠b:=by rintro rfl;exact hm (DV S k _).1
   rw[gz,if_neg ZT],fun _ h=>h⟩,fun _ h=> .inl h,
  fun k ok hk=> .inl ⟨(h.a k ok (f k ok hk)).1,ok,f k ok hk⟩,fun _ _ h=> .inl h,⟨rfl,rfl,rfl⟩⟩
def C_ (c:Array Value) (k:Nat):List Value->Array Value
 | []=>c
 |v::vs=>C_ (c.setIfInBounds k v) (k+1) vs
theorem DP (c:Array Value) (k:Nat) (vs:List Value):(C_ c k vs).size=c.size:=by
 induction vs generalizing c k with
 |nil=>rfl
 |cons v vs ih=>simp[C_,ih]
theorem Gs:∀(vs:List Value) (c:Array Value) (k:Nat) (pre nE post:List Value),c.toList=pre++nE++post->pre.length=k->nE.length=vs.length->
 (C_ c k vs).toList=pre++vs++post
 | [],c,k,pre,nE,post,h,_,hm=>by
  have:nE=[]:=List.eq_nil_of_length_eq_zero hm;subst this;simpa[C_]using h
 |v::vs,c,k,pre,[],post,_,_,hm=>by simp at hm
 |v::vs,c,k,pre,m::nE,post,h,hk,hm=>by
  have ih:=Gs vs (c.setIfInBounds k v) (k+1) (pre++[v]) nE post (by
   rw[Array.toList_setIfInBounds,h];subst hk;simp) (by simp[hk]) (by simpa using hm)
  simpa[C_]using ih
theorem JT {w : World} {Cr : Nat} {x : Obj} (h : w.heap[Cr]? = some x) (f : Obj -> Obj) : w.heap.modify Cr f = w.heap.setIfInBounds Cr (f x) := by
  apply Array.ext_getElem?;intro i;rw [Array.getElem?_modify, Array.getElem?_setIfInBounds];split
  . next e => subst e; rw [h]; simp; rcases Nat.lt_or_ge Cr w.heap.size with h' | h'
              . exact h'
              . rw [Array.getElem?_eq_none h'] at h; cases h
  . rfl
theorem TX {w:World} {Cr off:Nat} {c:Array Value} {e:TypeId} {fr:Nat×Nat} (h:w.heap[Cr]?=some (.cells c e fr)) (v:Value):
 w.setCell ⟨Cr,off,none⟩ v=World.u w Cr (.cells (c.setIfInBounds off v) e fr):=by
 unfold World.setCell World.u;rw[JT h];rfl
theorem MP (w:World) (Cr:Nat) (a b:Obj):World.u (World.u w Cr a) Cr b=World.u w Cr b:=by
 unfold World.u;simp
theorem Py {w:World} {Cr off:Nat} {c:Array Value} {e:TypeId} {fr:Nat×Nat} (h:w.heap[Cr]?=some (.cells c e fr)) (hf:c.size<=fr.1\/fr.2<=fr.1) (ho:off<c.size):
 w.frozen? ⟨Cr,off,none⟩=false:=by
 unfold World.frozen?;simp only[h];obtain⟨lo,hi⟩:=fr;simp at hf|-;omega
theorem EA {P : Program} : ∀ (vs : List Value) {w : World} {Cr off i : Nat} {c : Array Value} {e : TypeId} {fr : Nat × Nat}, w.heap[Cr]? = some (.cells c e fr) ->
    (c.size <= fr.1 \/ fr.2 <= fr.1) -> off + i + vs.length <= c.size -> (∀ v ∈ vs, v.oneCell' = true) ->
    (storeCells ⟨Cr, off, none⟩ vs i).run P w = .ok () (World.u w Cr (.cells (C_ c (off + i) vs) e fr))
  | [], w, Cr, off, i, c, e, fr, h, _, _, _ => by
    have : World.u w Cr (.cells c e fr) = w := by
      unfold World.u;have : w.heap.setIfInBounds Cr (.cells c e fr) = w.heap := by
        apply Array.ext_getElem?;intro k;rw [Array.getElem?_setIfInBounds];split
        . next e => subst e; rw [h]; simp; rcases Nat.lt_or_ge Cr w.heap.size with h' | h'
                    . exact h'
                    . rw [Array.getElem?_eq_none h'] at h; cases h
        . rfl
      rw [this]
    simp [storeCells, C_, this]
  | v :: vs, w, Cr, off, i, c, e, fr, h, hf, hl, ho => by
    have C8 : off + i < c.size := by simp at hl; omega
    have h1 : (store (⟨Cr, off + i, none⟩ : Addr) v).run P w = .ok () (World.u w Cr (.cells (c.setIfInBounds (off + i) v) e fr)) := by
      rw [run_store P w _ v _ (ho v (Qh ..)), XO h];simp only [Array.getElem?_eq_getElem C8, Py h hf C8];rw [TX h]; rfl
    have uJ : Cr < w.heap.size := by
      rcases Nat.lt_or_ge Cr w.heap.size with h' | h'
      . exact h'
      . rw [Array.getElem?_eq_none h'] at h; cases h
    have h2 := EA (P := P) vs (w := World.u w Cr (.cells (c.setIfInBounds (off + i) v) e fr)) (Cr := Cr) (off := off) (i := i + 1) (c := c.setIfInBounds (off + i) v) (e := e) (fr := fr)
      (by rw [Bi]; simp [uJ]) (by simpa using hf) (by simp at hl |-; omega) (fun u hu => ho u (Qg _ hu))
    unfold storeCells;rw [Bh];simp only [Sem.run_bind, h1, Result.andThen_ok, h2, MP];rfl
theorem MH {P:Program} {C:Cx} {S S':St} {w:World} (h:YR C S w) {b off:Nat} {vs:List AV} {xs:List Value} (hv:Y0 C vs xs) (hc:h_ vs)
 (e:fO S b off vs=some S'):∃w',(storeCells ⟨(C.a b).Cr,(C.a b).base+off,none⟩ xs).run P w= .ok () w'/\C6 C S w C S' w'/\C.D b:=by
 unfold fO at e;cases hb:S.heap.u b with
 |none=>rw[hb]at e;simp[jU]at e
 |some ob=>
  rw[hb]at e;unfold jU at e;split at e
  .next cs t part heq=>
   cases heq;unfold putCells at e;split at e
   .next bq x9=>
    cases e;obtain⟨pre,nE,post,rfl,hp,hm,rfl⟩:=JL x9;obtain⟨hd,x,hx,hr⟩:=h.a b _ hb;cases hr with
    |J rY ha af YO hf oR=>
    rename_i c fr ys
    obtain⟨y,z3,rfl,h1,h4⟩:=AK rY;obtain⟨y1,z2,rfl,h2,h3⟩:=AK h1;obtain⟨p0,q0,bu,vE⟩:=ha;have hle:(C.a b).base+off+xs.length<=c.size:=by
     have:=congrArg List.length bu;simp at this;have e1:=h2.u;have e2:=h3.u;have e3:=hv.u;omega
    have hone:∀u∈xs,u.oneCell'=true:=by
     intro u hu;obtain⟨i,hi⟩:=List.getElem?_of_mem hu;have tG:i<vs.length:=by
      have:=hv.u;rcases Nat.lt_or_ge i xs.length with h'|h'
      .omega
      .rw[List.getElem?_eq_none h']at hi;cases hi
     obtain⟨y',xA,hr⟩:=hv.M (Qi tG);rw[hi]at xA;cases xA;exact hr.vC (hc _ (Ql tG))
    refine⟨_,by simpa using EA (P:=P) xs (i:=0) hx hf (by simpa using hle) hone,?_,hd⟩;have eE:(C_ c ((C.a b).base+off) xs).toList=(p0++y1)++xs++(z3++q0):=by
     refine Gs xs c _ (p0++y1) z2 (z3++q0) (by rw[bu];simp) ?_ ?_
     .simp[vE,h2.u,hp]
     .rw[h3.u,hv.u,hm]
    refine DS h hb _ _ (.J (vs:=y1++xs++z3) ?_ ⟨p0,q0,by rw[eE];simp,vE⟩ (by rw[DP];exact af) ?_ (by rw[DP];exact hf) ?_)
    .exact(h2.A hv).A h4
    .exact(YO.sub.1.sub.1.append hc).append YO.sub.2
    .intro hpf;obtain⟨a1,a2,a3⟩:=oR hpf;refine⟨a1,?_,a3⟩;rw[DP,<-a2];simp[hm]
   .cases e
  .cases e
theorem V1 {E:a_} {P:Program} (he:Ym E P) {C:Cx} {S S':St} {w:World} (h:YR C S w) {t:TypeId} {n:Nat} (hn:an E t=some n) {v p:AV} {x px:Value}
 (hv:VR C v x) (hp:VR C p px) (e:gm n S v p=some S'):∃a w',px= .pointer (some a)/\(Go.storeVar t a x).run P w= .ok () w'/\C6 C S w C S' w':=by
 unfold gm at e;split at e
 .next b off=>
  cases hb:(Nat.beq (ZA v.u) n&& !v.A)with
  |false=>rw[hb]at e;cases e
  |true=>
   rw[hb]at e;simp only[Qf,Bool.not_eq_true']at hb;have hlen:v.u.length=n:=by have:=Qb hb.1;simpa using this
   cases hp with
   |H_ hd=>
    obtain⟨w',hw,ht,_⟩:=MH (P:=P) h hv.u (hv.B hb.2) e;refine⟨_,w',U,?_,ht⟩;have:x.cells.size=n:=by
     have:=hv.u.u;simpa[hlen]using this
    simp[Go.storeVar,A5 he hn,this];exact hw
 .cases e
theorem NO {C:Cx} {S:St} {w:World} (h:YR C S w) {b:Nat} {o0:Cv} (nk:S.heap.u b=some o0) (o:Cv) (x:Obj) (base sz:Nat)
 (hx:OR (C.J S.a ⟨(C.a b).Cr,base,sz⟩) S.a o x):
 C6 C S w (C.J S.a ⟨(C.a b).Cr,base,sz⟩) ((S.B b none).A o) (World.u w (C.a b).Cr x):=by
 have cW:¬C.D S.a:=fun hd=>Nat.lt_irrefl _ (h.fresh _ hd);have yq:=(h.a b o0 nk).1;have iO:b≠S.a:=fun e=>cW (e▸yq);have e:=n_.B (C:=C) (p:=⟨(C.a b).Cr,base,sz⟩) cW;have C8:=h.lt nk;have gz:∀k,((S.B b none).A o).heap.u k=if k=S.a then some o else if k=b then none else S.heap.u k:=by
  intro k;rw[KL];show(if k=S.a then _ else _)=_;split
  .rfl
  .exact JG _ _ _ _
 have hold:∀k ok,k≠S.a->((S.B b none).A o).heap.u k=some ok->k≠b/\S.heap.u k=some ok:=by
  intro k ok hk hg;rw[gz,if_neg hk]at hg;split at hg
  .cases hg
  .next h'=>exact⟨h',hg⟩
 have hU:eU S ((S.B b none).A o).c b:=(DV S b none).1;refine⟨e,⟨?_,?_,?_,?_,?_,?_,?_,?_,fun Cr ms hm=> .inl (h.j Cr ms hm)⟩,rfl,(DV S b none).2,Nat.le_succ _,by simp[World.u],?_,?_,?_,?_,fun _ _ h=> .inl h,⟨rfl,rfl,rfl⟩⟩
 .intro k ok hk;by_cases ot:k=S.a
  .subst ot;rw[gz,if_pos rfl]at hk;cases hk;exact⟨.inr U,x,by rw[Bi];simp[Cx.J,C8],hx⟩
  .obtain⟨hkb,hg⟩:=hold k ok ot hk;obtain⟨hd,y,hy,hr⟩:=h.a k ok hg;refine⟨.inl hd,y,?_,hr.mono e hd (fun _ h=>h)⟩;simp only[Cx.J,ot,if_false];rw[Bi,if_neg (fun e'=>hkb (h.inj k b ok o0 hg nk e'))];exact hy
 .intro k k' ok vD hk oQ heq;by_cases h1:k=S.a
  .by_cases h2:k'=S.a
   .rw[h1,h2]
   .exfalso;obtain⟨hkb,hg⟩:=hold k' vD h2 oQ;subst h1;simp only[Cx.J,if_true,h2,if_false]at heq;exact hkb (h.inj k' b vD o0 hg nk heq.symm)
  .obtain⟨hkb,hg⟩:=hold k ok h1 hk;by_cases h2:k'=S.a
   .exfalso;subst h2;simp only[Cx.J,if_true,h1,if_false]at heq;exact hkb (h.inj k b ok o0 hg nk heq)
   .obtain⟨_,jd⟩:=hold k' vD h2 oQ;simp only[Cx.J,h1,h2,if_false]at heq;exact h.inj k k' ok vD hg jd heq
 .rintro k (hd|rfl)
  .exact Nat.lt_succ_of_lt (h.fresh k hd)
  .exact Nat.lt_succ_self _
 .intro Cr ms hm;obtain⟨c,ty,fr,hc,e'⟩:=h.i Cr ms hm;refine⟨c,ty,fr,?_,e'⟩;rw[Bi,if_neg];· exact hc
  intro e'';have yu:C.M Cr=some ms:=hm;have:=h.apart b o0 nk;rw[<-e'',yu]at this;cases this
 .intro k ok hk;by_cases ot:k=S.a
  .subst ot;simpa[Cx.J]using h.apart b o0 nk
  .obtain⟨_,hg⟩:=hold k ok ot hk;simpa[Cx.J,ot]using h.apart k ok hg
 .exact fun b n hg=> .inl (h.d b n hg)
 .rintro k (hk|rfl)
  .simpa[World.u]using h.f k hk
  .simpa[World.u]using C8
 .rintro k (hd|rfl)
  .have:k≠S.a:=fun e'=>Nat.lt_irrefl _ (e'▸h.fresh k hd);exact .inl (by simpa[Cx.J,this]using h.g k hd)
  .exact .inr (by simp[Cx.J])
 .intro Cr _ hn;rw[Bi,if_neg];intro e';exact hn b o0 nk hU e'.symm
 .intro k hd hm;have ot:k≠S.a:=by rintro rfl;exact cW hd
  have hkb:k≠b:=by rintro rfl;exact hm hU
  exact⟨by rw[gz,if_neg ot,if_neg hkb],fun _ h=>h⟩
 .rintro k (hd|rfl)
  .exact .inl hd
  .exact .inr (Qj _)
 .intro k ok hk;by_cases ot:k=S.a
  .subst ot;exact .inr (.inr ⟨b,o0,nk,hU,by simp[Cx.J]⟩)
  .obtain⟨_,hg⟩:=hold k ok ot hk;exact .inl ⟨(h.a k ok hg).1,ok,hg⟩
end Am
