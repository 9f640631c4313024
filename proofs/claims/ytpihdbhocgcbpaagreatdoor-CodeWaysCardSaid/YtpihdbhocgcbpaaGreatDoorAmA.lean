/- The abstract machine, and what it means that a state of it is a state of the model. -/
import GoSem.Step
import Derived.AtR
import Derived.Laws.Cells
namespace Am
theorem U {α:Sort _} {a:α}:a=a:=rfl
theorem Qa {α:Type _} {β:Type _} {b:β} {o:Option α} {f:α->Option β}:o.bind f=some b↔∃a,o=some a/\f a=some b:=Option.bind_eq_some_iff
theorem Qb {n m:Nat} (h:Nat.beq n m=true):n=m:=Nat.eq_of_beq_eq_true h
theorem Qc {n m:Nat} (h:Nat.ble n m=true):n<=m:=Nat.le_of_ble_eq_true h
theorem Qd {n m:Nat} (h:n<=m):Nat.ble n m=true:=Nat.ble_eq_true_of_le h
theorem Qe {α:Type _} {β:Type _} (a:α) (f:α->Option β):(some a).bind f=f a:=rfl
theorem Qf (a b:Bool):((a&&b)=true)=(a=true/\b=true):=Bool.and_eq_true a b
theorem Qg {α:Type _} (y:α) {a:α} {l:List α} (h:a∈l):a∈y::l:=List.mem_cons_of_mem y h
theorem Qh {α:Type _} {a:α} {l:List α}:a∈a::l:=List.mem_cons_self
theorem Qi {α:Type _} {l:List α} {i:Nat} (h:i<l.length):l[i]?=some l[i]:=List.getElem?_eq_getElem h
theorem Qj (n:Nat):n<=n:=Nat.le_refl n
theorem Qk {α:Type _} {b:α} {l:List α} {a:α}:a∈b::l↔a=b\/a∈l:=List.mem_cons
theorem Ql {α:Type _} {l:List α} {n:Nat} (h:n<l.length):l[n]∈l:=List.getElem_mem h
theorem Qm {α:Type _} {as bs:List α}:(as++bs).length=as.length+bs.length:=List.length_append
theorem Qn {α:Type _} {β:Type _} {as:List α} (f:α->β):(as.map f).length=as.length:=List.length_map f
theorem Qo (n:Nat):0<=n:=Nat.zero_le n
theorem Qp {α:Type _} {a b:α}:a∈[b]↔a=b:=List.mem_singleton
end Am
set_option linter.unusedSectionVars false
set_option linter.unusedVariables false
set_option linter.unusedSimpArgs false
namespace Am
open Go
inductive AV where
 |bool (b:Bool)
 |int (k:IntKind) (n:Int)
 |aG (s:List UInt8)
 |W2
 |J (b off:Nat)
 |XD (cs:List AV)
 |Ca
 |Z (b off len sz:Nat) (cap:Option Nat)
 |Ck (cs:List AV) (len sz:Nat) (cl:Bool)
 |WZ
 |bW (b:Nat)
 |eQ (b n:Nat)
 |cU
 |an (fn:Fn) (first captured:List AV)
 |C7
 |a_ (t:TypeId) (v:AV)
 |CS
 |O (cs:List AV)
 |Y (vs:List AV)
 deriving Inhabited
inductive w_ where
 |J
 |O (p:w_)
 |Y (p:w_)
def iz:Nat->Nat->w_
 |0,_=> .J
 |n+1,k=>bif Nat.beq k 0 then .J else bif Nat.beq (k % 2) 1 then .O (iz n (k/2))else .Y (iz n (k/2-1))
def s_ (k:Nat):w_:=iz k k
inductive Tr (α:Type) where
 |J
 |O (l:Tr α) (v:Option α) (r:Tr α)
 deriving Inhabited
noncomputable section core
def Tr.A {α:Type} (p:w_):Tr α->Option α:=
 w_.rec (fun t=>Tr.rec none (fun _ v _ _ _=>v) t) (fun _ ih t=>Tr.rec none (fun l _ _ _ _=>ih l) t) (fun _ ih t=>Tr.rec none (fun _ _ r _ _=>ih r) t) p
def Tr.z {α:Type} (x:Option α) (p:w_):Tr α->Tr α:=
 w_.rec (fun t=>Tr.rec (.O .J x .J) (fun l _ r _ _=> .O l x r) t)
  (fun _ ih t=>Tr.rec (.O (ih .J) none .J) (fun l v r _ _=> .O (ih l) v r) t)
  (fun _ ih t=>Tr.rec (.O .J none (ih .J)) (fun l v r _ _=> .O l v (ih r)) t) p
def ep {α:Type} (a:α) (l:Option (List α)):Option (List α):=Option.rec none (fun r=>some (a::r)) l
def pa {α:Type} (n:Nat):List α->Option (List α):=
 Nat.rec (fun _=>some []) (fun _ ih l=>List.rec none (fun a l _=>ep a (ih l)) l) n
def XE {α:Type} (n:Nat):List α->Option (List α):=
 Nat.rec (fun l=>some l) (fun _ ih l=>List.rec none (fun _ l _=>ih l) l) n
def cV {α:Type} (vs:List α):List α->Option (List α):=
 List.rec (fun l=>some l) (fun v _ ih l=>List.rec none (fun _ l _=>ep v (ih l)) l) vs
def over {α:Type} (vs:List α) (k:Nat):List α->Option (List α):=
 Nat.rec (fun l=>cV vs l) (fun _ ih l=>List.rec none (fun a l _=>ep a (ih l)) l) k
def l_ {α:Type} (l:List α):Nat->Option α:=
 List.rec (fun _=>none) (fun a _ ih n=>Nat.rec (some a) (fun n _=>ih n) n) l
def Xu {α:Type} (l:List α):Nat:=List.rec 0 (fun _ _ ih=>ih+1) l
def vi {α:Type}:Option α->Option (List α)->Option (List α)
 |some b,some bs=>some (b::bs)
 |_,_=>none
def mV {α β:Type} (f:α->Option β) (l:List α):Option (List β):=
 List.rec (some []) (fun a _ ih=>vi (f a) ih) l
end core
noncomputable section
def au {α:Type}:List α->List α
 | []=>[]
 |a::l=>match l with
  | []=>[a]
  |_::l=>a::au l
def ll {α:Type}:Nat->List α->Tr α
 |0,_=> .J
 |n+1,l=>match l with
  | []=> .J
  |a::l=> .O (ll n (au l)) (some a) (ll n (au l.tail))
def Tr.g {α:Type} (t:Tr α) (k:Nat):Option α:=Tr.A (s_ k) t
def Tr.u {α:Type} (t:Tr α) (k:Nat) (x:Option α):Tr α:=Tr.z x (s_ k) t
structure bV where
 a:LoopState
 b:Option Code
 d:FuncId
 nt:Nat
 c:Tr AV
 params:List Nat
 assign:Code
 body:Code
inductive CG where
 |J (cs:List AV) (e:TypeId) (part:Bool)
 |Y (es:List (AV×AV×Nat)) (clock:Nat)
 |Ym (s:List UInt8) (pos:Nat)
 |aO (m:Option Nat) (since:Nat) (seen:List Nat) (Xv:Nat)
 |O (l:bV)
 |Z (open_:Bool)
structure St where
 a:Nat
 c:Nat
 d:List Nat
 b:Tr CG
inductive zT where
 |O (fn:Fn) (captured:List AV)
 |J (r:Nat)
structure fY where
 a:zT
 args:List AV
structure Fr where
 nt:Nat
 defers:List fY
 Xi:Option AV
 a:Option Nat
inductive Ex where
 |J
 |Z (id:Nat)
 |Y
 |O (v:AV)
structure cP where
 c:Ex
 a:Fr
 T:Tr AV
 b:St
inductive k6 where
 |J
 |O (r:cP)
 |Y (l:List cP)
def k6.z (k:cP->k6):List cP->Option (List cP)
 | []=>some []
 |r::l=>match k r with
  | .J=>none
  | .O x=>match k6.z k l with|some y=>some (x::y)|none=>none
  | .Y xs=>match k6.z k l with|some y=>some (xs++y)|none=>none
def k6.u:Option (List cP)->k6
 |some y=> .Y y
 |none=> .J
def k6.g (o:k6) (k:cP->k6):k6:=
 match o with
 | .J=> .J
 | .O r=>k r
 | .Y l=>k6.u (k6.z k l)
inductive CR where
 |J (v:AV)
 |O (v:AV) (st:St)
 |Y (v:AV) (st:St)
structure c_ where
 b:Tr TypeInfo
 a:Tr Func
 g:FuncId->Nat
 d:FuncId->List AV->Option AV
 i:Nat->Option (List AV)
 c:Bool
 f:Bool
 e:TypeId->Bool
inductive Mk where
 |O (v:AV)
 |J (o:CG) (v:Nat->AV)
inductive cf where
 |J
 |an (f:Tr AV->Option Mk)
 |O (f:Tr AV->Option AV)
 |Y (x:Tr AV->Option AV) (f:Tr AV->St->Option AV)
 |c_ (f:Tr AV->St->Option AV)
 |a_ (only:Bool) (x:Tr AV->Option AV) (f:Tr AV->St->Option (AV×St))
 |d_ (f:Tr AV->Option (List AV))
 |Cc (f:Tr AV->St->Option (List (AV×St)))
 |aG (f:Tr AV->St->Option (FuncId×List AV))
 |Z1 (f:Tr AV->Option AV) (args:Tr AV->Option (List AV))
 |bW (f:Tr AV->Option fY)
 |b_ (f:Tr AV->Option AV)
 |Z
section ops
variable (E : c_)
def AV.z:AV->Bool
 | .O _=>false
 | .Y _=>false
 |_=>true
def AV.u:AV->Bool
 | .Y _=>true
 |_=>false
def AV.g:AV->List AV
 | .O cs=>cs
 |v=>[v]
def eR:Value->Option AV
 | .bool b=>some (.bool b)
 | .int k n=>some (.int k n)
 | .string s=>some (.aG s.data.toList)
 | .pointer none=>some .W2
 | .slice none 0 0=>some .Ca
 | .map none=>some .WZ
 | .nilFunc=>some .C7
 | .nilIface=>some .CS
 |_=>none
def nR:Value->Option AV
 | .agg cs=>match mV eR cs.toList with|some l=>some (.O l)|none=>none
 | .tuple cs=>match mV eR cs.toList with|some l=>some (.Y l)|none=>none
 |v=>eR v
def nS (T:Tr TypeInfo):TypeDesc->Option TypeDesc
 | .named _ u=>match T.g u with|some i=>some i.desc|none=>none
 |d=>some d
def Wb (t:TypeId):Option TypeDesc:=match E.b.g t with
 |some i=>nS E.b i.desc
 |none=>none
def an (t:TypeId):Option Nat:=match E.b.g t with|some i=>some i.size|none=>none
def i_ (t:TypeId):Option Nat:=match E.b.g t with|some i=>some i.bytes|none=>none
def j' (t:TypeId):Option Bool:=match Wb E t with
 |some (.struct _)=>some true
 |some (.array _ _)=>some true
 |some _=>some false
 |none=>none
def oZ:Option AV->Option AV
 |some (.Y _)=>none
 |o=>o
def h_ (t:TypeId):Option AV:=match E.b.g t with
 |some i=>match i.zero with|some v=>oZ (nR v)|none=>none
 |none=>none
abbrev Tm:=Tr AV
abbrev TO:=Tm->Option AV
def uc (v:AV):TO:=fun _=>some v
def E':TO:=fun _=>none
def vj:Option AV->TO
 |some v=>uc v
 |none=>E'
def Ci:Operand->TO
 | .tmp t=>Tr.A (s_ t)
 | .const v=>vj (nR v)
 | .global g=>match E.i g with|some cs=>uc (.XD cs)|none=>E'
 | .func f=>uc (.an (.func f) [] [])
def St.g (s:St) (o:CG):St:= {s with a:=s.a+1,b:=s.b.u s.a (some o)}
def Yn (b:Nat):List Nat->List Nat
 | []=>[b]
 |c::l=>bif Nat.beq b c then c::l else b::c::l
def St.z (s:St) (b:Nat) (o:Option CG):St:= {s with d:=bif Nat.blt b s.c then Yn b s.d else s.d,b:=s.b.u b o}
def Ww:Option CG->Option (List AV)
 |some (.J cs _ _)=>some cs
 |_=>none
def eS:Option CG->Option (List (AV×AV×Nat))
 |some (.Y es _)=>some es
 |_=>none
def Zb (s:St) (n:Nat):AV->Option (List AV)
 | .XD cs=>pa n cs
 | .J b off=>(Ww (s.b.g b)).bind fun cs=>(XE off cs).bind fun l=>pa n l
 |_=>none
def eT (s:St) (b:Nat) (e:TypeId) (sl:Bool):Option (List AV)->Option St
 |some cs=>some (s.z b (some (.J cs e sl)))
 |none=>none
def fH (s:St) (b off:Nat) (vs:List AV):Option CG->Option St
 |some (.J cs e sl)=>eT s b e sl (over vs off cs)
 |_=>none
def aT (s:St) (b off:Nat) (vs:List AV):Option St:=fH s b off vs (s.b.g b)
def oneV:List AV->Option AV
 | [v]=>some v
 |_=>none
def kN (n:Nat) (s:St) (a:AV):Option AV:=(Zb s n a).bind fun l=>some (.O l)
def pc (s:St) (a:AV):Option AV:=(Zb s 1 a).bind oneV
def Wq (t:TypeId):St->AV->Option AV:=
 match j' E t,an E t with
 |some true,some n=>kN n
 |some false,some _=>pc
 |_,_=>fun _ _=>none
def dH (n:Nat) (s:St) (v:AV):AV->Option St
 | .J b off=>bif Nat.beq (Xu v.g) n&& !v.u then aT s b off v.g else none
 |_=>none
def eU:Option St->Option (AV×St)
 |some s=>some (.Y [],s)
 |none=>none
def aP (place:Nat->Option (Nat×Nat)):List (Nat×AV)->List AV->Option (List AV)
 | [],cells=>some cells
 |p::rest,cells=>(place p.1).bind fun q=>bif Nat.beq (Xu p.2.g) q.2&& !p.2.u then(over p.2.g q.1 cells).bind fun cs=>aP place rest cs else none
def Xj (zero:List AV):Nat->List AV
 |0=>[]
 |n+1=>zero++Xj zero n
def bp:List (Nat×Operand)->Tm->Option (List (Nat×AV))
 | []=>fun _=>some []
 |p::l=>fun T=>(Ci E p.2 T).bind fun v=>(bp l T).bind fun r=>some ((p.1,v)::r)
def CZ:List Operand->Tm->Option (List AV)
 | []=>fun _=>some []
 |x::l=>fun T=>(Ci E x T).bind fun v=>(CZ l T).bind fun r=>some (v::r)
def XR:Option Operand->Tm->Option (Option AV)
 |none=>fun _=>some none
 |some x=>fun T=>(Ci E x T).bind fun v=>some (some v)
def cg:List Field->Option (List (Nat×Nat))
 | []=>some []
 |f::l=>(an E f.type).bind fun n=>(cg l).bind fun r=>some ((f.offset,n)::r)
def bk (t:TypeId):Option (List AV×(Nat->Option (Nat×Nat))):=
 (h_ E t).bind fun z=>match Wb E t with
  |some (.struct fields)=>(cg E fields.toList).bind fun ps=>some (z.g,l_ ps)
  |some (.array _ elem)=>(an E elem).bind fun size=>some (z.g,fun i=>some (i*size,size))
  |_=>none
def vk:Option (List AV)->Option AV
 |some cs=>some (.O cs)
 |none=>none
def lq (t:TypeId) (parts:List (Nat×Operand)):cf:=
 match bk E t with
 |some pl=> .O fun T=>(bp E parts T).bind fun ps=>vk (aP pl.2 ps pl.1)
 |none=> .J
def cW (off n:Nat):AV->Option AV
 | .O cs=>(XE off cs).bind fun l=>vk (pa n l)
 |_=>none
def bl (off:Nat):AV->Option AV
 | .O cs=>l_ cs off
 |_=>none
def Z7 (t:TypeId) (i:Nat):Option (Nat×Nat×Bool):=
 match Wb E t with
 |some (.struct fields)=>(l_ fields.toList i).bind fun f=>(an E f.type).bind fun n=>(j' E f.type).bind fun a=>some (f.offset,n,a)
 |_=>none
def lu (t:TypeId) (x:Operand) (i:Nat):cf:=
 match Z7 E t i with
 |some (off,n,true)=> .O fun T=>(Ci E x T).bind (cW off n)
 |some (off,_,false)=> .O fun T=>(Ci E x T).bind (bl off)
 |none=> .J
def YB (n:Nat):AV->Option AV
 | .J b off=>some (.J b (off+n))
 | .XD cs=>(XE n cs).bind fun l=>some (.XD l)
 |_=>none
def Zq (t:TypeId) (x:Operand) (i:Nat):cf:=
 match Z7 E t i with
 |some (off,n+1,_)=> .O fun T=>(Ci E x T).bind (YB off)
 |_=> .J
def Xb:AV->Option Nat
 | .int _ (.ofNat n)=>some n
 |_=>none
def tb:List AV->Option AV
 | []=>none
 |c::l=>some (.XD (c::l))
def OK (sz k:Nat):AV->Option AV
 | .Z b off len _ _=>bif Nat.blt k len then some (.J b (off+k*sz))else none
 | .Ck cs len _ _=>bif Nat.blt k len then(XE (k*sz) cs).bind tb else none
 |_=>none
def Yy (t:TypeId) (x i:Operand):cf:=
 match Wb E t with
 |some (.array n elem)=>match an E elem with
  |some (sz+1)=> .O fun T=>(Ci E i T).bind fun iv=>(Xb iv).bind fun k=>bif Nat.blt k n then(Ci E x T).bind (YB (k*(sz+1)))else none
  |_=> .J
 |some (.slice elem)=>match an E elem with
  |some (sz+1)=> .O fun T=>(Ci E i T).bind fun iv=>(Xb iv).bind fun k=>(Ci E x T).bind (OK (sz+1) k)
  |_=> .J
 |_=> .J
def pd (sz k:Nat):AV->Option AV
 | .O cs=>(XE (k*sz) cs).bind fun l=>vk (pa sz l)
 |_=>none
def pe (sz k:Nat):AV->Option AV
 | .O cs=>l_ cs (k*sz)
 |_=>none
def iA (k:Nat):AV->Option AV
 | .aG s=>(l_ s k).bind fun b=>some (.int .u8 b.toNat)
 |_=>none
def lv (t:TypeId) (x i:Operand):cf:=
 match Wb E t with
 |some (.array n elem)=>match j' E elem,an E elem with
  |some true,some sz=> .O fun T=>(Ci E i T).bind fun iv=>(Xb iv).bind fun k=>bif Nat.blt k n then(Ci E x T).bind (pd sz k)else none
  |some false,some sz=> .O fun T=>(Ci E i T).bind fun iv=>(Xb iv).bind fun k=>bif Nat.blt k n then(Ci E x T).bind (pe sz k)else none
  |_,_=> .J
 |some .string=> .O fun T=>(Ci E i T).bind fun iv=>(Xb iv).bind fun k=>(Ci E x T).bind (iA k)
 |_=> .J
def Zf (k:IntKind) (n:Int):AV:= .int k (k.wrap n)
def dI:List UInt8->List UInt8->Bool
 |_,[]=>false
 | [],_::_=>true
 |a::x,b::y=>bif Nat.blt a.toNat b.toNat then true else bif Nat.beq a.toNat b.toNat then dI x y else false
def XY:List UInt8->List UInt8->Bool
 | [],[]=>true
 |a::x,b::y=>bif Nat.beq a.toNat b.toNat then XY x y else false
 |_,_=>false
def eV (f:(n:Nat)->BitVec n->BitVec n->BitVec n) (k:IntKind) (a b:Int):AV:=
 Zf k (f k.bits (BitVec.ofInt k.bits a) (BitVec.ofInt k.bits b)).toNat
def quoA (k:IntKind) (a b:Int):Option AV:=if b=0 then none else some (Zf k (a.tdiv b))
def remA (k:IntKind) (a b:Int):Option AV:=if b=0 then none else some (.int k (a.tmod b))
def V4 (k:IntKind) (x y:Int):Option AV:=if y<0 then none else some (Zf k (x*2^(min y.toNat k.bits)))
def lz (k:IntKind) (x y:Int):Option AV:=if y<0 then none else some (.int k (x.fdiv (2^(min y.toNat k.bits))))
def pf:BinOp->Option (IntKind->Int->Int->Option AV)
 | .add=>some fun k a b=>some (Zf k (a+b))
 | .sub=>some fun k a b=>some (Zf k (a-b))
 | .mul=>some fun k a b=>some (Zf k (a*b))
 | .quo=>some quoA
 | .rem=>some remA
 | .eql=>some fun _ a b=>some (.bool (decide (a=b)))
 | .neq=>some fun _ a b=>some (.bool (!decide (a=b)))
 | .lss=>some fun _ a b=>some (.bool (decide (a<b)))
 | .leq=>some fun _ a b=>some (.bool (decide (a<=b)))
 | .gtr=>some fun _ a b=>some (.bool (decide (b<a)))
 | .geq=>some fun _ a b=>some (.bool (decide (b<=a)))
 | .and=>some fun k a b=>some (eV (fun _ x y=>x&&&y) k a b)
 | .or=>some fun k a b=>some (eV (fun _ x y=>x|||y) k a b)
 | .xor=>some fun k a b=>some (eV (fun _ x y=>x^^^y) k a b)
 | .andNot=>some fun k a b=>some (eV (fun _ x y=>x&&& ~~~y) k a b)
 |_=>none
def vl:BinOp->Option (List UInt8->List UInt8->Option AV)
 | .add=>some fun a b=>bif Nat.ble (Xu a+Xu b) 4294967296 then some (.aG (a++b))else none
 | .eql=>some fun a b=>some (.bool (XY a b))
 | .neq=>some fun a b=>some (.bool (!XY a b))
 | .lss=>some fun a b=>some (.bool (dI a b))
 | .leq=>some fun a b=>some (.bool (dI a b||XY a b))
 | .gtr=>some fun a b=>some (.bool (!(dI a b||XY a b)))
 | .geq=>some fun a b=>some (.bool (!dI a b))
 |_=>none
def qA (f:IntKind->Int->Int->Option AV):AV->AV->Option AV
 | .int k a,.int k' b=>if k=k' then f k a b else none
 |_,_=>none
def jR (f:IntKind->Int->Int->Option AV):AV->AV->Option AV
 | .int k a,.int _ b=>f k a b
 |_,_=>none
def rS (f:List UInt8->List UInt8->Option AV):AV->AV->Option AV
 | .aG a,.aG b=>f a b
 |_,_=>none
def ai:TypeDesc->Bool
 | .bool=>true
 | .int _=>true
 | .string=>true
 |_=>false
inductive Kd where
 |J (d:TypeDesc)
 |O (l:List TypeDesc)
def Zg (t:TypeId):Option TypeDesc:=match Wb E t with
 |some d=>bif ai d then some d else none
 |none=>none
def gT:List Field->Nat->Option (List TypeDesc)
 | [],_=>some []
 |f::l,i=>bif Nat.beq f.offset i&& !(f.name== "_")then(Zg E f.type).bind fun d=>(gT l (i+1)).bind fun r=>some (d::r)else none
def J' {α:Type} (a:α):Nat->List α
 |0=>[]
 |n+1=>a::J' a n
def aF (t:TypeId):Option Kd:=match Wb E t with
 |some (.struct fs)=>bif E.e t then(gT E fs.toList 0).bind fun l=>some (.O l)else none
 |some (.array n e)=>match Zg E e,an E e with
  |some d,some 1=>some (.O (J' d n))
  |_,_=>none
 |some d=>bif ai d then some (.J d)else none
 |none=>none
def ud:TypeDesc->AV->AV->Option Bool
 | .bool,.bool a,.bool b=>some (bif a then b else !b)
 | .int _,.int j a,.int k b=>if j=k then some (decide (a=b))else none
 | .string,.aG a,.aG b=>some (XY a b)
 |_,_,_=>none
def ZV:List TypeDesc->List AV->List AV->Option Bool
 | [],[],[]=>some true
 |d::l,a::x,b::y=>(ud d a b).bind fun r=>bif r then ZV l x y else some false
 |_,_,_=>none
def cG:Kd->AV->AV->Option Bool
 | .J d,a,b=>ud d a b
 | .O l,.O a,.O b=>ZV l a b
 |_,_,_=>none
def R_:TypeDesc->AV->Bool
 | .bool,.bool _=>true
 | .int _,.int _ _=>true
 | .string,.aG _=>true
 |_,_=>false
def nU:List TypeDesc->List AV->Bool
 | [],[]=>true
 |d::l,a::x=>R_ d a&&nU l x
 |_,_=>false
def fZ:Kd->AV->Bool
 | .J d,v=>R_ d v
 | .O l,.O cs=>nU l cs
 |_,_=>false
def nV:AV->AV->Option Bool
 | .W2,.W2=>some true
 | .W2,.J _ _=>some false
 | .W2,.XD _=>some false
 | .J _ _,.W2=>some false
 | .XD _,.W2=>some false
 |_,_=>none
def H_:Option CG->Bool
 |some (.J _ _ part)=> !part
 |_=>false
def jq (s:St):AV->AV->Option Bool
 | .J a i,.J b j=>bif Nat.beq a b then some (Nat.beq i j)else bif H_ (s.b.g a)&&H_ (s.b.g b)then some false else none
 |a,b=>nV a b
def l7:AV->AV->Option Bool
 | .C7,.C7=>some true
 | .C7,.an _ _ _=>some false
 | .an _ _ _,.C7=>some false
 |_,_=>none
def eW (t:TypeId):Bool:=match E.b.g t with|some i=>i.comparable|none=>false
def iB (lit:Bool):AV->AV->Option Bool
 | .CS,.CS=>bif lit then some true else none
 | .CS,.a_ _ _=>some false
 | .a_ _ _,.CS=>some false
 | .a_ t x,.a_ u y=>bif Nat.beq t u then(bif eW E t then(Zg E t).bind fun d=>ud d x y else none)else some false
 |_,_=>none
def u_:Operand->Bool
 | .const _=>true
 |_=>false
def zU:AV->Option (List Bool)
 | .Z _ _ _ _ _=>some [false]
 | .Ck (_::_) _ _ _=>some [false]
 | .Ck [] _ _ _=>some [true,false]
 | .Ca=>some [true,false]
 |_=>none
def pg (neg:Bool):List Bool->List AV
 | []=>[]
 |b::l=> .bool (bif neg then !b else b)::pg neg l
def Y2 (neg:Bool):Option Bool->Option AV
 |some b=>some (.bool (bif neg then !b else b))
 |none=>none
def Zh (f:AV->AV->Option AV) (x y:Operand):cf:= .O fun T=>(Ci E x T).bind fun a=>(Ci E y T).bind fun b=>f a b
def tc (neg:Bool) (kd:Option Kd) (x y:Operand):cf:=
 match kd with
 |some kd=>Zh E (fun a b=>Y2 neg (cG kd a b)) x y
 |none=> .J
def K' (neg:Bool) (t:TypeId) (x y:Operand):cf:=
 match Wb E t with
 |some .bool=>Zh E (fun a b=>Y2 neg (ud .bool a b)) x y
 |some (.pointer e)=>match an E e with
  |some (_+1)=> .c_ fun T s=>(Ci E x T).bind fun a=>(Ci E y T).bind fun b=>Y2 neg (jq s a b)
  |_=>Zh E (fun a b=>Y2 neg (nV a b)) x y
 |some (.interface _)=>Zh E (fun a b=>Y2 neg (iB E (u_ x||u_ y) a b)) x y
 |some (.func _ _ _)=>Zh E (fun a b=>Y2 neg (l7 a b)) x y
 |some (.array _ _)=>tc E neg (aF E t) x y
 |some (.struct _)=>tc E neg (aF E t) x y
 |some (.slice _)=>match y with
  | .const (.slice none 0 0)=> .d_ fun T=>(Ci E x T).bind fun a=>(zU a).bind fun l=>some (pg neg l)
  |_=> .J
 |_=> .J
def iC (op:BinOp) (t:TypeId) (x y:Operand):cf:=
 match Wb E t with
 |some (.int _)=>match op with
  | .shl=>Zh E (jR V4) x y
  | .shr=>Zh E (jR lz) x y
  |_=>match pf op with|some f=>Zh E (qA f) x y|none=> .J
 |some .string=>match vl op with|some f=>Zh E (rS f) x y|none=> .J
 |_=>match op with
  | .eql=>K' E false t x y
  | .neq=>K' E true t x y
  |_=> .J
def N_:UnOp->AV->Option AV
 | .neg,.int k n=>some (Zf k (0-n))
 | .not,.bool b=>some (.bool (!b))
 | .xor,.int k n=>some (eV (fun _ x y=>x^^^y) k (if k.signed then-1 else k.max) n)
 |_,_=>none
def YR:List AV->Option (List UInt8)
 | []=>some []
 | .int .u8 n::l=>(YR l).bind fun r=>some (UInt8.ofNat n.toNat::r)
 |_=>none
def z_:List UInt8->List AV
 | []=>[]
 |c::l=> .int .u8 c.toNat::z_ l
def Yd (s:St) (sz:Nat):AV->Option (List AV×Nat)
 | .Ca=>some ([],0)
 | .Ck cs len Z5 _=>bif Nat.beq Z5 sz then(pa (len*sz) cs).bind fun l=>some (l,len)else none
 | .Z b off len Z5 _=>bif Nat.beq Z5 sz then(Ww (s.b.g b)).bind fun cs=>(XE off cs).bind fun l=>(pa (len*sz) l).bind fun l=>some (l,len)else none
 |_=>none
def F' (e:TypeId):Bool:=match Wb E e with
 |some (.int .u8)=>true
 |_=>false
def l8 (k:IntKind):AV->Option AV
 | .int _ n=>some (Zf k n)
 |_=>none
def iD (s:St):AV->Option AV
 | .W2=>some .W2
 | .J b off=>(Ww (s.b.g b)).bind fun cs=>bif Nat.blt off (Xu cs)then some (.J b off)else none
 |_=>none
def fI (u off:Nat):List Field->Bool
 | []=>false
 |f::l=>(Nat.beq f.offset off&&Nat.beq f.type u)||fI u off l
def ph (e u off:Nat):Bool:=(Nat.beq e u&&Nat.beq off 0)||(E.e e&&match Wb E e with
 |some (.struct fs)=>fI u off fs.toList
 |_=>false)
def iE (u b off:Nat):Option CG->Option AV
 |some (.J cs e false)=>(an E e).bind fun n=>bif ph E e u off&&Nat.ble n (Xu cs)&&Nat.blt off n then some (.J b off)else none
 |_=>none
def dJ (s:St) (u:TypeId):AV->Option AV
 | .W2=>some .W2
 | .J b off=>iE E u b off (s.b.g b)
 |_=>none
def qB (src dst:TypeId) (x:Operand):cf:=
 match Wb E src,Wb E dst with
 |some (.int _),some (.int k)=> .O fun T=>(Ci E x T).bind (l8 k)
 |some (.pointer t),some .unsafePointer=>match an E t with
  |some (_+1)=> .Y (Ci E x) fun T s=>(Ci E x T).bind (iD s)
  |_=> .J
 |some .unsafePointer,some (.pointer u)=>match an E u with
  |some (_+1)=> .Y (Ci E x) fun T s=>(Ci E x T).bind (dJ E s u)
  |_=> .J
 |_,_=> .J
def WB (dflt bq:Nat):Option AV->Option Nat
 |none=>some dflt
 |some v=>(Xb v).bind fun n=>bif Nat.ble n bq then some n else none
def v_ {α:Type} (l:List α) (lo n:Nat):Option (List α):=(XE lo l).bind fun r=>pa n r
def jr (lo hi:Option AV):AV->Option AV
 | .aG b=>(WB (Xu b) (Xu b) hi).bind fun h=>(WB 0 h lo).bind fun l=>(v_ b l (h-l)).bind fun q=>some (.aG q)
 |_=>none
def jt (sz off len:Nat) (cap:Option Nat) (cs:List AV):Nat:=
 match cap with
 |some c=>c
 |none=>bif Nat.beq sz 0 then len else(Xu cs-off)/sz
def A_ (sz b off len:Nat) (cap:Option Nat) (bq l:Nat):Option AV:=
 match cap with
 |some c=>some (bif Nat.beq c l then(bif Nat.beq c 0 then .Z b off 0 sz (some 0)else .Ca)else .Z b (off+l*sz) len sz (some (c-l)))
 |none=>bif Nat.blt l bq then some (.Z b (off+l*sz) len sz none)else bif Nat.beq len 0 then some (.Z b (off+l*sz) 0 sz (some 0))else none
def iF (sz:Nat) (lo hi mx:Option AV) (b off len:Nat) (cap:Option Nat) (bq:Nat):Option AV:=
 match mx with
 |none=>(WB len bq hi).bind fun h=>(WB 0 h lo).bind fun l=>A_ sz b off (h-l) cap bq l
 |some _=>none
def kO (sz:Nat) (lo hi:Option AV) (cs:List AV) (len:Nat) (cl:Bool) (bq:Nat):Option AV:=
 (WB len bq hi).bind fun h=>(WB 0 h lo).bind fun l=>(v_ cs (l*sz) ((h-l)*sz)).bind fun q=>some (.Ck q (h-l) sz cl)
def cX (sz:Nat) (lo hi mx:Option AV) (cs:List AV) (len:Nat) (cl:Bool):Option AV:=
 match mx with
 |none=>kO sz lo hi cs len cl len
 |some _=>none
def vm (lo hi:Option AV):Option AV->Option AV
 |none=>(WB 0 0 hi).bind fun _=>(WB 0 0 lo).bind fun _=>some .Ca
 |some _=>none
def Xp (s:St) (sz:Nat) (lo hi mx:Option AV):AV->Option AV
 | .Ca=>vm lo hi mx
 | .Ck cs len Z5 cl=>bif Nat.beq Z5 sz then cX sz lo hi mx cs len cl else none
 | .Z b off len Z5 cap=>bif Nat.beq Z5 sz then(Ww (s.b.g b)).bind fun cs=>iF sz lo hi mx b off len cap (jt sz off len cap cs)else none
 |_=>none
def dK (t:TypeId) (x:Operand) (lo hi mx:Option Operand):cf:=
 match Wb E t with
 |some .string=>match mx with
  |none=> .O fun T=>(Ci E x T).bind fun a=>(XR E lo T).bind fun l=>(XR E hi T).bind fun h=>jr l h a
  |some _=> .J
 |some (.slice e)=>match an E e with
  |some sz=> .Y (Ci E x) fun T s=>(Ci E x T).bind fun a=>(XR E lo T).bind fun l=>(XR E hi T).bind fun h=>(XR E mx T).bind fun m=>Xp s sz l h m a
  |none=> .J
 |_=> .J
def cj:AV->Bool
 | .int _ _=>true
 | .aG _=>true
 | .bool _=>true
 |_=>false
def iG:AV->Bool
 | .int _ _=>true
 | .aG _=>true
 | .bool _=>true
 | .O cs=>cs.all cj
 |_=>false
abbrev XA:=AV×AV×Nat
def Yo (kd:Kd) (k:AV):List XA->Option (Option XA)
 | []=>some none
 |e::es=>(cG kd k e.1).bind fun r=>(Yo kd k es).bind fun q=>some (bif r then some e else q)
def A' (kd:Kd) (k:AV) (e:XA):Bool:=match cG kd k e.1 with
 |some b=>b
 |none=>false
def pj (kd:Kd) (k v:AV):List XA->List XA
 | []=>[]
 |e::es=>bif A' kd k e then(k,v,e.2.2)::es else e::pj kd k v es
def rT (kd:Kd) (k:AV):List XA->List XA
 | []=>[]
 |e::es=>bif A' kd k e then es else e::rT kd k es
def l9 (s:St):AV->Option (List XA)
 | .WZ=>some []
 | .bW b=>eS (s.b.g b)
 |_=>none
def eX (ok:Bool) (z:AV):Option XA->AV
 |some e=>bif ok then .Y [e.2.1,.bool true]else e.2.1
 |none=>bif ok then .Y [z,.bool false]else z
def ck (kd:Kd) (s:St) (ok:Bool) (z x k:AV):Option AV:=
 bif fZ kd k then(l9 s x).bind fun es=>(Yo kd k es).bind fun r=>some (eX ok z r)else none
def iH (t:TypeId) (x k:Operand) (ok:Bool):cf:=
 match Wb E t with
 |some (.map key elem)=>match h_ E elem,aF E key with
  |some z,some kd=> .Y (Ci E x) fun T s=>(Ci E x T).bind fun a=>(Ci E k T).bind fun b=>ck kd s ok z a b
  |_,_=> .J
 |_=> .J
def cY (kd:Kd) (s:St) (b:Nat) (k v:AV):Option CG->Option St
 |some (.Y es clock)=>(Yo kd k es).bind fun r=>match r with
  |some _=>some (s.z b (some (.Y (pj kd k v es) clock)))
  |none=>some (s.z b (some (.Y (es++[(k,v,clock)]) (clock+1))))
 |_=>none
def cm (kd:Kd) (s:St) (k v:AV):AV->Option St
 | .bW b=>bif fZ kd k then cY kd s b k v (s.b.g b)else none
 |_=>none
def fJ (t:TypeId) (m k v:Operand):cf:=
 match Wb E t with
 |some (.map key _)=>match aF E key with
  |some kd=> .a_ true (Ci E m) fun T s=>(Ci E m T).bind fun a=>(Ci E k T).bind fun b=>(Ci E v T).bind fun c=>eU (cm kd s b c a)
  |none=> .J
 |_=> .J
def iI (n:Nat) (v:AV):List XA->Option (List XA)
 | []=>none
 |e::es=>bif Nat.beq e.2.2 n then some ((e.1,v,e.2.2)::es)else(iI n v es).bind fun r=>some (e::r)
def k7 (n VZ:Nat):Bool:=Nat.ble (n*VZ) 1099511627776&&Nat.ble n 1099511627776&& !(Nat.beq VZ 0)&&Nat.ble VZ 1048576
def jS (sz len n:Nat) (cap:Option Nat) (l:List AV):Bool:=
 match cap with
 |some c=>Nat.ble (len+n) c
 |none=>Nat.ble ((len+n)*sz) (Xu l)
def zV {α:Type}:Option α->Bool
 |some _=>true
 |none=>false
def jT:Option Nat->Bool
 |none=>true
 |some 0=>true
 |some (_+1)=>false
def cZ (s:St) (b:Nat) (cap:Option Nat):St:=bif jT cap then s.z b none else s
def da (s:St) (e:TypeId) (sz:Nat) (new:List AV) (n b off len:Nat) (cap:Option Nat) (cs:List AV) (e0:TypeId) (sl:Bool):Option (AV×St):=
 (XE off cs).bind fun l=>
  bif jS sz len n cap l then(over new (off+len*sz) cs).bind fun Yg=>some (.Z b off (len+n) sz cap,s.z b (some (.J Yg e0 sl)))
  else bif Nat.beq e e0|| !(jT cap)then(pa (len*sz) l).bind fun nW=>some (.Z s.a 0 (len+n) sz none,(cZ s b cap).g (.J (nW++new) e true))else none
def aw (s:St) (e:TypeId) (sz:Nat) (new:List AV) (n b off len:Nat) (cap:Option Nat):Option CG->Option (AV×St)
 |some (.J cs e0 sl)=>da s e sz new n b off len cap cs e0 sl
 |_=>none
def CP (s:St) (e:TypeId) (sz VZ:Nat) (new:List AV) (n:Nat):AV->Option (AV×St)
 | .Ca=>bif Nat.beq n 0 then some (.Ca,s)else bif k7 n VZ then some (.Z s.a 0 n sz none,s.g (.J new e true))else none
 | .Ck cs len Z5 cl=>bif Nat.beq n 0 then some (.Ck cs len Z5 cl,s)else none
 | .Z b off len Z5 cap=>bif Nat.beq n 0 then some (.Z b off len Z5 cap,s)
  else bif Nat.beq Z5 sz&&k7 (len+n) VZ then aw s e sz new n b off len cap (s.b.g b)else none
 |_=>none
def CY (s:St) (sz:Nat):AV->Option (List AV×Nat)
 | .aG b=>bif Nat.beq sz 1 then some (z_ b,Xu b)else none
 |y=>Yd s sz y
def zerosV (z:List AV) (y:AV):Option (List AV×Nat):=
 (Xb y).bind fun n=>bif Nat.ble n 1048576 then some (Xj z n,n)else none
def Xw:Option TypeId->Bool
 |some t=>match Wb E t with
  |some (.int _)=>true
  |_=>false
 |none=>false
def ZY:Option TypeId->Bool
 |some t=>zV (Wb E t)
 |none=>true
def aU (sT:TypeId) (xT:Option TypeId) (x y:Operand):cf:=
 match Wb E sT with
 |some (.slice e)=>match an E e,i_ E e,h_ E e with
  |some sz,some VZ,some z=>
   bif !(Nat.beq (Xu z.g) sz)||Nat.beq sz 0|| !(ZY E xT)then .J else
   bif Xw E xT then .a_ true (Ci E x) fun T s=>(Ci E x T).bind fun a=>(Ci E y T).bind fun b=>(zerosV z.g b).bind fun p=>CP s e sz VZ p.1 p.2 a
   else .a_ false (Ci E x) fun T s=>(Ci E x T).bind fun a=>(Ci E y T).bind fun b=>(CY s sz b).bind fun p=>CP s e sz VZ p.1 p.2 a
  |_,_,_=> .J
 |_=> .J
def F_ (s:St) (sz:Nat) (src:List AV×Nat):AV->Option (AV×St)
 | .Z b off len Z5 _=>bif Nat.beq Z5 sz then(pa (Nat.min src.2 len*sz) src.1).bind fun l=>(aT s b off l).bind fun s'=>some (.int .i64 (Nat.min src.2 len:Nat),s')else none
 | .Ca=>some (.int .i64 0,s)
 |_=>none
def lD (t:TypeId) (x y:Operand):cf:=
 match Wb E t with
 |some (.slice e)=>match an E e with
  |some sz=> .a_ false (Ci E x) fun T s=>(Ci E x T).bind fun a=>(Ci E y T).bind fun b=>(CY s sz b).bind fun p=>F_ s sz p a
  |none=> .J
 |_=> .J
def po:AV->Option AV
 | .aG b=>some (.int .i64 (Xu b))
 |_=>none
def aQ:AV->Option AV
 | .Ca=>some (.int .i64 0)
 | .Ck _ n _ _=>some (.int .i64 n)
 | .Z _ _ n _ _=>some (.int .i64 n)
 |_=>none
def pq (s:St) (x:AV):Option AV:=(l9 s x).bind fun es=>some (.int .i64 (Xu es))
def pr (t:TypeId) (x:Operand):cf:=
 match Wb E t with
 |some .string=> .O fun T=>(Ci E x T).bind po
 |some (.slice _)=> .O fun T=>(Ci E x T).bind aQ
 |some (.array n _)=> .O fun T=>(Ci E x T).bind fun _=>some (.int .i64 n)
 |some (.map _ _)=> .Y (Ci E x) fun T s=>(Ci E x T).bind (pq s)
 |some (.pointer a)=>match Wb E a with
  |some (.array n _)=> .O fun T=>(Ci E x T).bind fun _=>some (.int .i64 n)
  |_=> .J
 |_=> .J
def zW:AV->Option AV
 | .Ca=>some (.int .i64 0)
 | .Z _ _ _ _ (some (c+1))=>some (.int .i64 ((c+1:Nat):Int))
 |_=>none
def V_ (t:TypeId) (x:Operand):cf:=
 match Wb E t with
 |some (.slice _)=> .O fun T=>(Ci E x T).bind zW
 |_=> .J
def V' (kd:Kd) (s:St) (b:Nat) (k:AV):Option CG->Option St
 |some (.Y es clock)=>(Yo kd k es).bind fun r=>match r with
  |some _=>some (s.z b (some (.Y (rT kd k es) clock)))
  |none=>some s
 |_=>none
def zX (kd:Kd) (s:St) (k:AV):AV->Option St
 | .bW b=>bif fZ kd k then V' kd s b k (s.b.g b)else none
 | .WZ=>bif fZ kd k then some s else none
 |_=>none
def W_ (t:TypeId) (m k:Operand):cf:=
 match Wb E t with
 |some (.map key _)=>match aF E key with
  |some kd=> .a_ true (Ci E m) fun T s=>(Ci E m T).bind fun a=>(Ci E k T).bind fun b=>eU (zX kd s b a)
  |none=> .J
 |_=> .J
def ue (c:Nat):List UInt8->Nat
 | []=>0
 |b::l=>bif Nat.beq b.toNat c then ue c l+1 else ue c l
def vn (c:Nat):List UInt8->Option Nat
 | []=>none
 |b::l=>bif Nat.beq b.toNat c then some 0 else(vn c l).bind fun n=>some (n+1)
def rU:AV->AV->Option AV
 | .aG l,.int .u8 (.ofNat c)=>bif Nat.blt c 256 then some (.int .i64 (ue c l))else none
 |_,_=>none
def gU:AV->AV->Option AV
 | .aG l,.int .u8 (.ofNat c)=>bif Nat.blt c 256 then(match vn c l with
  |some n=>some (.int .i64 n)
  |none=>some (.int .i64 (-1)))else none
 |_,_=>none
def nZ:AV->AV->Option AV
 | .int k x,.int _ y=>some (.int k (if y<x then y else x))
 |_,_=>none
def oe (f:AV->AV->Option AV):List AV->AV->Option AV
 | [],x=>some x
 |y::l,x=>(f x y).bind fun z=>oe f l z
def maxC (f:AV->AV->Option AV) (xs:List Operand):cf:=
 match xs with
 |x::l=> .O fun T=>(Ci E x T).bind fun a=>(CZ E l T).bind fun r=>oe f r a
 | []=> .J
def YI (e:TypeId) (sz VZ:Nat) (z:List AV) (l c:Nat):Option Mk:=
 bif Nat.ble l c&&(Nat.beq c 0||k7 c VZ)then
  bif Nat.beq c 0 then some (.O .Ca)else some (.J (.J (Xj z c) e false) fun b=> .Z b 0 l sz (some c))
 else none
def Zr (t:TypeId) (l c:Operand):cf:=
 match Wb E t with
 |some (.slice e)=>match an E e,i_ E e,h_ E e with
  |some sz,some VZ,some z=>bif Nat.beq (Xu z.g) sz then .an fun T=>(Ci E l T).bind fun a=>(Ci E c T).bind fun b=>(Xb a).bind fun n=>(Xb b).bind fun m=>YI e sz VZ z.g n m else .J
  |_,_,_=> .J
 |_=> .J
def ax (e:TypeId) (sz len:Nat):Option (List AV)->Option Mk
 |some cs=>bif Nat.beq len 0 then some (.O .Ca)else some (.J (.J cs e false) fun b=> .Z b 0 len sz (some len))
 |none=>none
def YJ (t:TypeId) (len:Nat) (parts:List (Nat×Operand)):cf:=
 match Wb E t with
 |some (.slice e)=>match an E e,h_ E e with
  |some sz,some z=>bif Nat.beq (Xu z.g) sz&&Nat.ble (len*sz) 16777216&& !(Nat.beq sz 0)then
   .an fun T=>(bp E parts T).bind fun ps=>ax e sz len (aP (fun i=>some (i*sz,sz)) ps (Xj z.g len))else .J
  |_,_=> .J
 |_=> .J
def qC:AV->Option Mk
 | .aG b=>some (.J (.Ym b 0) fun i=> .J i 0)
 |_=>none
def J_ (s:St):AV->Option (AV×St)
 | .WZ=>some (.J s.a 0,s.g (.aO none 0 [] 0))
 | .bW m=>match s.b.g m with
  |some (.Y _ clock)=>some (.J s.a 0,s.g (.aO (some m) clock [] clock))
  |_=>none
 |_=>none
def lG (t:TypeId) (x:Operand):cf:=
 match Wb E t with
 |some .string=> .an fun T=>(Ci E x T).bind qC
 |some (.map _ _)=> .a_ false E' fun T s=>(Ci E x T).bind (J_ s)
 |_=> .J
def td (s:St) (r:Nat) (b:List UInt8) (pos:Nat) (d:Nat×Nat):Option (AV×St):=
 some (.Y [.bool true,.int .i64 pos,.int .i32 d.1],s.z r (some (.Ym b (pos+d.2))))
def db (s:St) (r:Nat):Option CG->Option (AV×St)
 |some (.Ym b pos)=>(XE pos b).bind fun l=>match l with
  |c::_=>bif Nat.blt c.toNat 128 then some (.Y [.bool true,.int .i64 pos,.int .i32 c.toNat],s.z r (some (.Ym b (pos+1))))else td s r b pos (Utf8.decode ⟨b.toArray⟩ pos)
  | []=>some (.Y [.bool false],s)
 |_=>none
def dL (s:St):AV->Option (AV×St)
 | .J r 0=>db s r (s.b.g r)
 |_=>none
def og (n:Nat):List Nat->Bool
 | []=>false
 |k::l=>bif Nat.beq k n then true else og n l
def iJ (seen:List Nat):List XA->List XA
 | []=>[]
 |e::l=>bif og e.2.2 seen then iJ seen l else e::iJ seen l
def pw (s:St) (r m since clock:Nat) (seen:List Nat):List XA->List (AV×St)
 | []=>[]
 |e::l=>(.Y [.bool true,e.1,e.2.1],s.z r (some (.aO (some m) since (seen++[e.2.2]) clock)))::pw s r m since clock seen l
def oh (s:St) (r m since Xv:Nat) (seen:List Nat):Option CG->Option (List (AV×St))
 |some (.Y es clock)=>bif Nat.beq clock Xv&&Nat.beq clock since then
  match iJ seen es with
  | []=>some [(.Y [.bool false],s)]
  |e::l=>some (pw s r m since clock seen (e::l))
  else none
 |_=>none
def ju (s:St) (r:Nat):Option CG->Option (List (AV×St))
 |some (.aO none _ _ _)=>some [(.Y [.bool false],s)]
 |some (.aO (some m) since seen Xv)=>oh s r m since Xv seen (s.b.g m)
 |_=>none
def kP (s:St):AV->Option (List (AV×St))
 | .J r 0=>ju s r (s.b.g r)
 |_=>none
def vp:List Nat->Option Nat
 | []=>none
 |a::l=>match l with
  | []=>some a
  |_::_=>vp l
def iK (n:Nat):List XA->Option XA
 | []=>none
 |e::es=>bif Nat.beq e.2.2 n then some e else iK n es
def te (Xv n:Nat):Option CG->Option AV
 |some (.Y es clock)=>bif Nat.beq clock Xv then(iK n es).bind fun e=>some (.Y [e.1,e.2.1])else none
 |_=>none
def py (s:St):Option CG->Option AV
 |some (.aO (some m) _ seen Xv)=>(vp seen).bind fun n=>te Xv n (s.b.g m)
 |_=>none
def pz (s:St):AV->Option AV
 | .J r 0=>py s (s.b.g r)
 |_=>none
def rV (ok:Bool) (v:AV):Option AV:=some (bif ok then .Y [v,.bool true]else v)
def p6 (ok:Bool) (z:AV):Option AV:=bif ok then some (.Y [z,.bool false])else none
def fK (t:TypeId) (ok:Bool) (z:AV):AV->Option AV
 | .a_ u v=>bif Nat.beq u t then rV ok v else p6 ok z
 | .CS=>p6 ok z
 |_=>none
def iL (x:Operand) (t:TypeId) (ok:Bool):cf:=
 match Wb E t,h_ E t with
 |some (.interface _),some _=> .J
 |some _,some z=> .O fun T=>(Ci E x T).bind (fK t ok z)
 |_,_=> .J
inductive H' where
 |mk (off:Option Nat) (load:Option TypeId)
 |part (off n:Nat) (agg:Bool)
def jv (off:Option Nat) (f:FuncId) (t:TypeId):Bool->Option (FuncId×H')
 |true=>match Wb E t,off with
  |some (.pointer _),none=>some (f,.mk none none)
  |some (.pointer _),some n=>some (f,.mk (some n) (some t))
  |some _,some n=>some (f,.mk (some n) none)
  |_,_=>none
 |false=>match Wb E t,off with
  |some (.pointer e),none=>some (f,.mk none (some e))
  |some (.pointer _),some _=>none
  |some _,none=>some (f,.mk none none)
  |some _,some n=>some (f,.mk (some n) (some t))
  |_,_=>none
def rW (t:TypeId):Bool:=match Wb E t with
 |some (.pointer _)=>true
 |_=>false
def K_ (st:FieldStep):Option (Nat×TypeId):=
 bif st.deref then match Wb E st.struct with
  |some (.struct fields)=>(l_ fields.toList st.index).bind fun f=>match an E f.type with
   |some (_+1)=>some (f.offset,f.type)
   |_=>none
  |_=>none
 else none
def p_ (t:TypeId) (name:String):Option (FuncId×H'):=
 (E.b.g t).bind fun i=>(i.methods.toList.find? (·.name==name)).bind fun m=>match m.path.toList,m.func with
  | [],some (f,p)=>jv E none f t p
  | [st],some (f,p)=>bif st.deref then(K_ E st).bind fun q=>jv E (some q.1) f q.2 p
   else match Wb E st.struct,p with
    |some (.struct fields),false=>(l_ fields.toList st.index).bind fun x=>bif rW E x.type then none else
     (an E x.type).bind fun n=>(j' E x.type).bind fun a=>some (f,.part x.offset n a)
    |_,_=>none
  |_,_=>none
def CV (f:FuncId):Bool:=match E.a.g f with
 |some fn=>match fn.body with
  |some _=>true
  |none=>false
 |none=>false
def rX (v:AV):Option Nat->Option AV
 |none=>some v
 |some n=>YB n v
def cn (s:St) (v:AV):H'->Option AV
 | .mk off load=>(rX v off).bind fun p=>match load with
  |none=>some p
  |some e=>Wq E e s p
 | .part off n true=>cW off n v
 | .part off _ false=>bl off v
def aV (s:St) (name:String) (args:List AV):AV->Option (FuncId×List AV)
 | .a_ t v=>(p_ E t name).bind fun m=>bif CV E m.1 then(cn E s v m.2).bind fun r=>some (m.1,r::args)else none
 |_=>none
def W':AV->Option AV
 | .Z b off (_+1) _ _=>some (.J b off)
 | .Z _ _ 0 _ _=>some .cU
 | .Ca=>some .cU
 |_=>none
def vq (v:AV):Option Mk:=match W' v with
 |some r=>some (.O r)
 |none=>none
def tf (ty:TypeId) (x:Operand):cf:=
 match Wb E ty with
 |some (.pointer _)=> .an fun T=>(Ci E x T).bind vq
 |_=> .J
def iM (s:St) (E:c_) (e' b off n:Nat):Option CG->Option (AV×St)
 |some (.J cs e _)=>bif Nat.beq e e'&&F' E e then(v_ cs off n).bind fun l=>(YR l).bind fun r=>some (.aG r,s.z b none)else none
 |_=>none
def p7 (s:St) (E:c_) (e' n:Nat):AV->Option (AV×St)
 | .J b off=>bif Nat.beq n 0 then some (.aG [],s)else iM s E e' b off n (s.b.g b)
 | .cU=>bif Nat.beq n 0 then some (.aG [],s)else none
 | .W2=>bif Nat.beq n 0 then some (.aG [],s)else none
 |_=>none
def kQ (t:TypeId) (x y:Operand):cf:=
 match Wb E t with
 |some (.pointer e)=>bif F' E e&&Nat.beq ((an E e).getD 0) 1 then .a_ false (Ci E x) fun T s=>(Ci E x T).bind fun a=>(Ci E y T).bind fun b=>(Xb b).bind fun n=>bif Nat.ble n 1099511627776 then p7 s E e n a else none else .J
 |_=> .J
def p8 (e:TypeId):AV->Option Mk
 | .int .i64 (.ofNat n)=>bif Nat.blt 0 n&&Nat.ble n 1099511627776 then some (.J (.J [] e true) fun i=> .Z i 0 n 1 none)else none
 |_=>none
def vr:Option Func->Option TypeId
 |some fn=>match fn.resultTypes.toList with
  | [t]=>match Wb E t with
   |some (.slice e)=>bif F' E e then some e else none
   |_=>none
  |_=>none
 |none=>none
def iN (f:FuncId) (name:String) (args:List Operand):cf:=
 match args with
 | [x]=>bif name== "internal/abi.NoEscape" then .O (Ci E x)
  else bif name== "internal/bytealg.MakeNoZero" then(match vr E (E.a.g f)with
   |some e=> .an fun T=>(Ci E x T).bind (p8 e)
   |none=> .J)else .J
 | [x,y]=>bif name== "internal/bytealg.CountString" then Zh E rU x y
  else bif name== "internal/bytealg.IndexByteString" then Zh E gU x y else .J
 |_=> .J
def B' (f:FuncId):String:=match E.a.g f with
 |some fn=>fn.name
 |none=> ""
def eY (ty:TypeId) (b:Builtin) (ts:List TypeId) (args:List Operand):cf:=
 match b,ts,args with
 | .append,t::ts',[x,y]=>aU E t ts'.head? x y
 | .len,t::_,[x]=>pr E t x
 | .cap,t::_,[x]=>V_ E t x
 | .copy,t::_,[x,y]=>lD E t x y
 | .delete,t::_,[m,k]=>W_ E t m k
 | .unsafeSliceData,_,[x]=>bif E.f then tf E ty x else .J
 | .unsafeString,t::_,[x,y]=>bif E.f then kQ E t x y else .J
 | .min,_,xs=>maxC E nZ xs
 | .recover,_,_=> .Z
 |_,_,_=> .J
def Wo (ty:TypeId) (c:Call):cf:=
 match c.callee with
 | .builtin b=>eY E ty b c.argTypes.toList c.args.toList
 | .value (.func f)=>bif CV E f then .aG fun T _=>(CZ E c.args.toList T).bind fun args=>some (f,args)else(bif E.f then iN E f (B' E f) c.args.toList else .J)
 | .value x=> .Z1 (Ci E x) (CZ E c.args.toList)
 | .invoke r name=> .aG fun T s=>(CZ E c.args.toList T).bind fun args=>(Ci E r T).bind (aV E s name args)
def fL:Fn->Bool
 | .yield _=>true
 |_=>false
def jw (args:List AV):AV->Option fY
 | .an fn first captured=>bif fL fn then none else some {a:= .O fn captured,args:=first++args}
 |_=>none
def gV (c:Call):cf:=
 match c.callee with
 | .value x=> .bW fun T=>(Ci E x T).bind fun f=>(CZ E c.args.toList T).bind fun args=>jw args f
 |_=> .J
def qD:AV->Option AV
 | .J b o=>some (.J b o)
 | .XD cs=>some (.XD cs)
 | .an (.func f) a b=>some (.an (.func f) a b)
 | .an (.yield f) a b=>some (.an (.yield f) a b)
 |_=>none
def lH (a b:TO) (T:Tm):AV->Option AV
 | .bool t=>bif t then a T else b T
 |_=>none
def Yp (t:TypeId):Option Bool:=match Wb E t with
 |some (.interface _)=>some true
 |some _=>some false
 |none=>none
def bu (t:TypeId) (x:Operand):cf:=
 match Yp E t with
 |some false=> .O fun T=>(Ci E x T).bind fun v=>some (.a_ t v)
 |_=> .J
def jx (fn:Fn) (first captured:List Operand):cf:=
 bif fL fn then .J else .O fun T=>(CZ E first T).bind fun a=>(CZ E captured T).bind fun b=>some (.an fn a b)
def bw (t:TypeId) (r:Option Operand):cf:=
 match Wb E t,r with
 |some (.map _ _),none=> .an fun _=>some (.J (.Y [] 0) .bW)
 |some (.map _ _),some x=> .an fun T=>(Ci E x T).bind fun v=>(Xb v).bind fun _=>some (.J (.Y [] 0) .bW)
 |_,_=> .J
def dc (i:Nat):AV->Option AV
 | .Y vs=>l_ vs i
 |_=>none
def p9:AV->Option AV
 | .a_ t v=>some (.a_ t v)
 |_=>none
def dM (t:TypeId) (a x:Operand):cf:=
 match an E t with
 |some n=> .a_ true (Ci E a) fun T s=>(Ci E a T).bind fun p=>(Ci E x T).bind fun v=>eU (dH n s v p)
 |none=> .J
def gW (t:TypeId):cf:=
 match h_ E t with
 |some z=>bif z.u then .J else .an fun _=>some (.J (.J z.g t false) fun b=> .J b 0)
 |none=> .J
def XL (ty:TypeId) (o:Op):cf:=
 match o with
 | .move x=> .O (Ci E x)
 | .assign x=> .O (Ci E x)
 | .pick c a b=> .O fun T=>(Ci E c T).bind (lH (Ci E a) (Ci E b) T)
 | .alloc t=>gW E t
 | .box t x=> .an fun T=>(Ci E x T).bind fun v=>bif v.u then none else some (.J (.J v.g t false) fun b=> .J b 0)
 | .build t parts=>lq E t parts.toList
 | .buildSlice t len parts=>YJ E t len parts.toList
 | .load t a=> .Y (Ci E a) fun T s=>(Ci E a T).bind (Wq E t s)
 | .store t a x=>dM E t a x
 | .nilCheck x=> .O fun T=>(Ci E x T).bind qD
 | .binOp op t x y _=>iC E op t x y
 | .unOp op _ x=> .O fun T=>(Ci E x T).bind (N_ op)
 | .convert src dst x=>qB E src dst x
 | .makeInterface t x=>bu E t x
 | .makeFunc fn first captured=>jx E fn first.toList captured.toList
 | .makeMap t r=>bw E t r
 | .makeSlice t l c=>Zr E t l c
 | .slice t x lo hi mx=>dK E t x lo hi mx
 | .fieldAddr t x f=>Zq E t x f
 | .field t x f=>lu E t x f
 | .indexAddr t x i=>Yy E t x i
 | .index t x i=>lv E t x i
 | .lookup t x i ok=>iH E t x i ok
 | .mapUpdate t m k v=>fJ E t m k v
 | .insert t m k v=>fJ E t m k v
 | .range t x=>lG E t x
 | .next it isString=>bif isString then .a_ true (Ci E it) fun T s=>(Ci E it T).bind (dL s)else .Cc fun T s=>(Ci E it T).bind (kP s)
 | .entry it=> .c_ fun T s=>(Ci E it T).bind (pz s)
 | .typeAssert x _ a ok=>iL E x a ok
 | .extract t i=> .O fun T=>(Ci E t T).bind (dc i)
 | .call c=>Wo E ty c
 | .defer c=>gV E c
 | .panic x=> .b_ fun T=>(Ci E x T).bind p9
 |_=> .J
def Cr:Nat->AV->Bool
 |0,_=>false
 |n+1,v=>match v with
  | .J _ _=>false
  | .Z _ _ _ _ _=>false
  | .bW _=>false
  | .eQ _ _=>false
  | .O cs=>cs.all (Cr n)
  | .Y cs=>cs.all (Cr n)
  | .Ck _ _ _ cl=>cl
  | .XD cs=>cs.all (Cr n)
  | .an (.yield _) _ _=>false
  | .an _ a b=>a.all (Cr n)&&b.all (Cr n)
  | .a_ _ v=>Cr n v
  |_=>true
def CD (m:Nat):Nat->AV->Bool
 |0,_=>false
 |n+1,v=>match v with
  | .J b _=>Nat.blt b m
  | .Z b _ _ _ _=>Nat.blt b m
  | .bW b=>Nat.blt b m
  | .eQ b _=>Nat.blt b m
  | .O cs=>cs.all (CD m n)
  | .Y cs=>cs.all (CD m n)
  | .Ck cs _ _ cl=>cl||cs.all (CD m n)
  | .XD cs=>cs.all (CD m n)
  | .an (.yield l) _ _=>Nat.blt l m
  | .an _ a b=>a.all (CD m n)&&b.all (CD m n)
  | .a_ _ v=>CD m n v
  |_=>true
def eZ (m:Nat):Option CG->Bool
 |some (.J cs _ _)=>cs.all (CD m 40)
 |some (.Y es _)=>es.all fun e=>CD m 40 e.1&&CD m 40 e.2.1
 |none=>true
 |_=>false
def C9 (s:St) (from_:Nat):Nat->AV->List Nat->Option (AV×List Nat)
 |0,_,_=>none
 |n+1,v,ks=>match v with
  | .Z b off len sz cap=>bif Nat.blt b from_ then some (.Z b off len sz cap,ks)else(Ww (s.b.g b)).bind fun cs=>(v_ cs off (len*sz)).bind fun l=>
   (many (C9 s from_ n) l ks).bind fun p=>some (.Ck p.1 len sz (p.1.all (Cr 40)),b::p.2)
  | .O cs=>(many (C9 s from_ n) cs ks).bind fun p=>some (.O p.1,p.2)
  | .Y cs=>(many (C9 s from_ n) cs ks).bind fun p=>some (.Y p.1,p.2)
  | .Ck cs len sz cl=>bif cl then some (.Ck cs len sz cl,ks)else(many (C9 s from_ n) cs ks).bind fun p=>some (.Ck p.1 len sz (p.1.all (Cr 40)),p.2)
  | .a_ t v=>(C9 s from_ n v ks).bind fun p=>some (.a_ t p.1,p.2)
  |v=>some (v,ks)
where
 many (f:AV->List Nat->Option (AV×List Nat)):List AV->List Nat->Option (List AV×List Nat)
  | [],ks=>some ([],ks)
  |v::l,ks=>(f v ks).bind fun p=>(many f l p.2).bind fun q=>some (p.1::q.1,q.2)
def q_ (s:St):List Nat->St
 | []=>s
 |b::l=>q_ (s.z b none) l
end ops
section run
variable (E : c_)
def YC:Nat->List AV->Tr AV->Tr AV
 |_,[],t=>t
 |i,v::l,t=>YC (i+1) l (t.u i (some v))
def bm (nt:Nat):List Nat->List AV->Tr AV->Option (Tr AV)
 | [],[],t=>some t
 |p::ps,v::vs,t=>bif Nat.blt p nt then bm nt ps vs (t.u p (some v))else none
 |_,_,_=>none
def YK (s:St) (T:Tr AV):List ResultVar->Option (List AV)
 | []=>some []
 | .tmp t::l=>(T.g t).bind fun v=>(YK s T l).bind fun r=>some (v::r)
 | .cell a t::l=>(T.g a).bind fun p=>(Wq E t s p).bind fun v=>(YK s T l).bind fun r=>some (v::r)
def Zi:List AV->AV
 | [v]=>v
 |l=> .Y l
def Wa (n:Nat) (v:AV) (s:St):Option (AV×St):=(C9 s n 40 v []).bind fun p=>some (p.1,q_ s p.2)
def qT (f:FuncId) (s0:St) (v:AV) (s:St):Option (AV×St):=
 match E.g f with
 |0=>some (v,s)
 |1=>match s.d with
  | []=>Wa s0.a v s
  |_::_=>some (v,s)
 |_=>Wa 0 v s
def below (n:Nat):List Nat->List Nat->List Nat
 | [],l=>l
 |b::r,l=>bif Nat.blt b n then b::below n r l else below n r l
def St.G (s0 s:St):St:= {s with c:=s0.c,d:=below s0.c s.d s0.d}
def Zs (s0:St) (v:AV) (s:St):List Nat->CR
 | []=>bif CD s0.a 40 v then .J v else .O v (s0.G s)
 |_::_=> .O v (s0.G s)
def k9 (f:FuncId) (s0:St) (v:AV) (s:St):Option CR:=
 (qT E f s0 v s).bind fun p=>some (Zs s0 p.1 p.2 p.2.d)
def St.u (s:St):St:= {s with c:=s.a,d:=[]}
def St.I (s:St):St:= {s with c:=s.a,d:=[]}
abbrev vt:=Fr->Tr AV->St->k6
abbrev Ev:=Code->vt
def X_ (a b:Option Nat):Bool:=
 match a,b with
 |none,none=>true
 |some x,some y=>Nat.beq x y
 |_,_=>false
def iO:AV->AV->Bool
 | .bool a,.bool b=>bif a then b else !b
 | .int j a,.int k b=>if j=k then decide (a=b)else false
 | .aG a,.aG b=>XY a b
 | .W2,.W2=>true
 | .J a b,.J c d=>Nat.beq a c&&Nat.beq b d
 | .Ca,.Ca=>true
 | .Z a b c d e,.Z f g h i j=>Nat.beq a f&&Nat.beq b g&&Nat.beq c h&&Nat.beq d i&&X_ e j
 | .WZ,.WZ=>true
 | .bW a,.bW b=>Nat.beq a b
 |_,_=>false
def gq:List AV->List AV->Bool
 | [],[]=>true
 |a::l,b::r=>iO a b&&gq l r
 |_,_=>false
def ay:AV->Option AV->Bool
 | .O a,some (.O b)=>gq a b
 | .Y a,some (.Y b)=>gq a b
 |a,some b=>iO a b
 |_,none=>false
def n_ (nt:Nat) (args:List AV) (Xi:Option AV):Fr:= {nt:=Nat.max nt (Xu args),defers:=[],Xi,a:=none}
def r8:Option AV->Option AV->Bool
 |some _,none=>true
 |_,_=>false
def iP (m:Option AV):k6->Option (Bool×St)
 | .O ⟨.J,fr,_,st⟩=>match fr.defers with| []=>some (r8 m fr.Xi,st)|_=>none
 | .O ⟨.Y,fr,_,st⟩=>match fr.defers with| []=>some (r8 m fr.Xi,st)|_=>none
 |_=>none
def pA (ev:Ev) (f:FuncId) (args:List AV) (m:Option AV) (s:St):Option (Bool×St):=
 (E.a.g f).bind fun fn=>fn.body.bind fun c=>match fn.results.toList with
  | []=>iP m (ev c (n_ fn.ntmps args m) (YC 0 args .J) s)
  |_::_=>none
def iQ (ev:Ev) (m:Option AV) (s:St) (d:fY):Option (Option AV×St):=
 match d.a with
 | .J r=>match s.b.g r with
  |some (.Z true)=>some (m,s.z r (some (.Z false)))
  |_=>none
 | .O (.func f) captured=>(pA E ev f (d.args++captured) m s).bind fun p=>some (bif p.1 then none else m,p.2)
 |_=>none
def z8 (ev:Ev):List fY->Option AV->St->Option (Option AV×St)
 | [],m,s=>some (m,s)
 |d::ds,m,s=>(iQ E ev m s d).bind fun p=>z8 ev ds p.1 p.2
def fb:Ex->Option (Option AV)
 | .J=>some none
 | .Y=>some none
 | .O v=>some (some v)
 | .Z _=>none
def t_ (f:FuncId) (fn:Func) (s:St) (T:Tr AV):Option AV->St->Option CR
 |none,s'=>(YK E s' T fn.results.toList).bind fun vs=>k9 E f s (Zi vs) s'
 |some v,s'=>some (.Y v (s.G s'))
def ZM (ev:Ev) (f:FuncId) (fn:Func) (s:St) (r:cP):Option CR:=
 (fb r.c).bind fun m=>(z8 E ev r.a.defers m r.b).bind fun p=>t_ E f fn s r.T p.1 p.2
def L_ (k:AV):List XA->Option (XA×List XA)
 | []=>none
 |e::es=>bif ay k (some e.1)then some (e,es)else(L_ k es).bind fun p=>some (p.1,e::p.2)
def jy (n a b:Nat):Bool:=Nat.beq a b||(Nat.ble n a&&Nat.ble n b)
def Yq (n:Nat):List XA->List XA->Bool
 | [],[]=>true
 | [],_::_=>false
 |e::r,l=>match L_ e.1 l with
  |some p=>ay e.2.1 (some p.1.2.1)&&jy n e.2.2 p.1.2.2&&Yq n r p.2
  |none=>false
def kR (s:Nat):List XA->Bool
 | []=>true
 |e::l=> !(Nat.beq s e.2.2)&&kR s l
def XZ (n:Nat):List XA->Bool
 | []=>true
 |e::l=>Nat.blt e.2.2 n&&kR e.2.2 l&&XZ n l
def cp (m:Nat) (o a b:Option CG):Bool:=
 match o,a,b with
 |some (.Y _ n0),some (.Y es n),some (.Y mM n')=>Nat.beq n n'&&Yq n0 es mM&&XZ n es&&eZ m (some (.Y es n))
 |some (.J _ _ _),some (.J a t p),some (.J b t' p')=>gq a b&&Nat.beq t t'&&(bif p then p' else !p')&&eZ m (some (.J a t p))
 |_,_,_=>false
def G_ (s0:St):Option CR->Option (AV×St)
 |some (.J v)=>some (v,s0)
 |some (.O v s)=>some (v,s)
 |_=>none
def iR (ev:Ev) (f:FuncId) (fn:Func) (s0:St):List cP->Option (List (AV×St))
 | []=>some []
 |r::l=>(G_ s0.I (ZM E ev f fn s0.I r)).bind fun o=>(iR ev f fn s0 l).bind fun os=>some (o::os)
def ZZ:List (AV×St)->List Nat->List Nat
 | [],l=>l
 |o::os,l=>ZZ os (jz o.2.d l)
where jz:List Nat->List Nat->List Nat
 | [],l=>l
 |b::r,l=>jz r (Yn b l)
def lN (s0 a b:St):List Nat->Bool
 | []=>true
 |n::l=>Nat.blt n s0.a&&cp s0.a (s0.b.g n) (a.b.g n) (b.b.g n)&&lN s0 a b l
def YD (s1:St):List Nat->St->St
 | [],s=>s
 |b::l,s=>YD s1 l (s.z b (s1.b.g b))
mutual
def ab:AV->AV->Bool
 | .bool a,.bool b=>bif a then b else !b
 | .int j a,.int k b=>if j=k then decide (a=b)else false
 | .aG a,.aG b=>XY a b
 | .W2,.W2=>true
 | .Ca,.Ca=>true
 | .WZ,.WZ=>true
 | .C7,.C7=>true
 | .CS,.CS=>true
 | .XD a,.XD b=>fc a b
 | .Ck a l s c,.Ck b m t d=>Nat.beq l m&&Nat.beq s t&&(bif c then d else !d)&&fc a b
 | .a_ t a,.a_ u b=>Nat.beq t u&&ab a b
 | .O a,.O b=>fc a b
 | .Y a,.Y b=>fc a b
 |_,_=>false
def fc:List AV->List AV->Bool
 | [],[]=>true
 |a::l,b::r=>ab a b&&fc l r
 |_,_=>false
end
def pB:Option CR->Option AV
 |some (.J v)=>some v
 |_=>none
def iS (ev:Ev) (f:FuncId) (fn:Func) (s0:St) (v:AV):List cP->Bool
 | []=>true
 |r::l=>match pB (ZM E ev f fn s0.I r)with
  |some u=>ab u v&&iS ev f fn s0 v l
  |none=>false
def I_ (ev:Ev) (f:FuncId) (fn:Func) (s0:St) (r:cP) (l:List cP):Option CR:=
 (pB (ZM E ev f fn s0.I r)).bind fun v=>bif iS E ev f fn s0 v l then some (.J v)else none
def fM (m:Nat) (s0:St) (o:AV×St) (L:List Nat):List (AV×St)->Bool
 | []=>true
 |q::l=>((ay o.1 (some q.1)&&CD m 40 o.1)||(ab o.1 q.1&&Cr 40 o.1))&&lN s0 o.2 q.2 L&&fM m s0 o L l
def kS (s0:St) (o:AV×St) (os:List (AV×St)) (L:List Nat):Option CR:=
 bif fM s0.a s0 o L (o::os)then some (.O o.1 (YD o.2 L s0))else none
def de (n:Nat) (o:AV×St):Option (List XA×Nat):=
 match o.1,o.2.d with
 | .bW b,[]=>bif Nat.ble n b then(match o.2.b.g b with
  |some (.Y es c)=>some (es,c)
  |_=>none)else none
 |_,_=>none
def tg (es:List XA) (c:Nat):Option (List XA×Nat)->Bool
 |some p=>Nat.beq p.2 c&&Yq 0 es p.1&&eZ 0 (some (.Y p.1 p.2))
 |none=>false
def dg (n:Nat) (es:List XA) (c:Nat):List (AV×St)->Bool
 | []=>true
 |q::l=>tg es c (de n q)&&dg n es c l
def fN (s0:St) (o:AV×St) (os:List (AV×St)):Option CR:=
 (de s0.a o).bind fun p=>bif dg s0.a p.1 p.2 (o::os)&&XZ p.2 p.1 then some (.O (.bW s0.a) (s0.g (.Y p.1 p.2)))else none
def X' (b:Option CR):Option CR->Option CR
 |some c=>some c
 |none=>b
def pC (ev:Ev) (f:FuncId) (fn:Func) (s0:St) (r:cP) (l:List cP):Option CR:=
 (G_ s0.I (ZM E ev f fn s0.I r)).bind fun o=>(iR E ev f fn s0 l).bind fun os=>X' (fN s0 o os) (kS s0 o os (ZZ (o::os) []))
def pD (ev:Ev) (f:FuncId) (fn:Func) (s0:St) (r:cP) (l:List cP):Option CR->Option CR
 |some c=>some c
 |none=>bif E.c then pC E ev f fn s0 r l else none
def pE (ev:Ev) (f:FuncId) (fn:Func) (s:St):k6->Option CR
 | .O r=>ZM E ev f fn s r
 | .Y (r::l)=>pD E ev f fn s r l (I_ E ev f fn s r l)
 |_=>none
def WM (ev:Ev) (f:FuncId) (args:List AV) (s:St):Option CR:=
 match E.d f args with
 |some v=>some (.J v)
 |none=>(E.a.g f).bind fun fn=>fn.body.bind fun c=>pE E ev f fn s (ev c (n_ fn.ntmps args none) (YC 0 args .J) s.u)
def fe (l:Nat) (st:St) (lp:bV) (jump:Option Code) (go:Bool):Option CR:=
 some (.O (.bool go) (st.z l (some (.O {lp with a:=bif go then .ready else .done,b:=jump}))))
def fO (l:Nat) (ex:Ex) (st:St):Option CG->Option CR
 |some (.O lp)=>match ex with
  | .J=>fe l st lp none true
  | .Y=>fe l st lp (some .ret) false
  | .Z id=>fe l st lp (some (.exit id)) false
  | .O v=>some (.Y v st)
 |_=>none
def iT (l:Nat):k6->Option CR
 | .O r=>match r.a.defers with
  | []=>fO l r.c r.b (r.b.b.g l)
  |_=>none
 |_=>none
def fP (ev:Ev) (l:Nat) (body:Code) (fr:Fr) (T:Tr AV) (s:St):Option CG->Option CR
 |some (.O lp)=>match lp.a with
  | .ready=>iT l (ev body fr T (s.z l (some (.O {lp with a:= .busy}))))
  |_=>none
 |_=>none
def aj (ev:Ev) (l:Nat) (body:Code):k6->Option CR
 | .O ⟨.J,fr,T,s⟩=>fP ev l body fr T s (s.b.g l)
 |_=>none
def kT (ev:Ev) (l:Nat) (args:List AV) (s:St):Option CG->Option CR
 |some (.O lp)=>(bm lp.nt lp.params args lp.c).bind fun T=>
  aj ev l lp.body (ev lp.assign {nt:=lp.nt,defers:=[],Xi:=none,a:=some l} T s)
 |_=>none
def lO (ev:Ev) (l:Nat) (args:List AV) (s:St):Option CR:=kT ev l args s (s.b.g l)
def Xz (ev:Ev) (args:List AV) (s:St):AV->Option CR
 | .an (.func f) first captured=>bif CV E f then WM E ev f (first++args++captured) s else none
 | .an (.yield l) [] []=>lO ev l args s
 | .an (.method name) first []=>match first++args with
  |r::args=>(aV E s name args r).bind fun p=>WM E ev p.1 p.2 s
  | []=>none
 |_=>none
def zY:Option Nat->Nat->AV->Tr AV->Option (Tr AV)
 |some d,nt,v,T=>bif Nat.blt d nt then some (Tr.z (some v) (s_ d) T)else none
 |none,_,_,T=>some T
def Ye (k:AV->k6):Option AV->k6
 |some v=>k v
 |none=> .J
def pF (k:AV->St->k6):Option (AV×St)->k6
 |some p=>k p.1 p.2
 |none=> .J
def oi (s:St) (k:AV->St->k6):Option Mk->k6
 |some (.O v)=>k v s
 |some (.J o g)=>k (g s.a) (s.g o)
 |none=> .J
def X4 (fr:Fr) (T:Tr AV) (s:St) (k:AV->St->k6):Option CR->k6
 |some (.J v)=>k v s
 |some (.O v s)=>k v s
 |some (.Y v s)=> .O ⟨.O v,fr,T,s⟩
 |none=> .J
def k6.A:k6->k6->k6
 | .O r,.O r'=> .Y [r,r']
 | .O r,.Y l'=> .Y (r::l')
 | .Y r,.O r'=> .Y (r++[r'])
 | .Y r,.Y l'=> .Y (r++l')
 |_,_=> .J
def Yz (k:AV->St->k6):List (AV×St)->k6
 | []=> .J
 |p::l=>match l with
  | []=>k p.1 p.2
  |_::_=>k6.A (k p.1 p.2) (Yz k l)
def qE (s:St):List AV->List (AV×St)
 | []=>[]
 |v::l=>(v,s)::qE s l
def az (k:AV->St->k6):Option (List (AV×St))->k6
 |some l=>Yz k l
 |none=> .J
def lP (fr:Fr) (k:Fr->AV->k6):k6:=
 match fr.a with
 |some _=> .J
 |none=>match fr.Xi with
  |some v=>k {fr with Xi:=none} v
  |none=>k fr .CS
def iU (fr:Fr) (k:Fr->AV->k6):Option fY->k6
 |some d=>match fr.a with
  |none=>k {fr with defers:=d::fr.defers} (.Y [])
  |some _=> .J
 |none=> .J
structure Cl where
 run:Ev->vt
abbrev K:=Ev->Fr->Tr AV->AV->St->k6
structure qo where
 run:K
def Z2 (dst:Option Nat) (k:Cl):qo:=
 match dst with
 |some d=>⟨fun ev fr T v s=>bif Nat.blt d fr.nt then k.run ev fr (Tr.z (some v) (s_ d) T) s else .J⟩
 |none=>⟨fun ev fr T _ s=>k.run ev fr T s⟩
def Xf (so:cf) (k:qo):Cl:=
 match so with
 | .J=>⟨fun _ _ _ _=> .J⟩
 | .an f=>⟨fun ev fr T s=>oi s (k.run ev fr T) (f T)⟩
 | .O f=>⟨fun ev fr T s=>Ye (fun v=>k.run ev fr T v s) (f T)⟩
 | .Y _ f=>⟨fun ev fr T s=>Ye (fun v=>k.run ev fr T v s) (f T s)⟩
 | .c_ f=>⟨fun ev fr T s=>Ye (fun v=>k.run ev fr T v s) (f T s)⟩
 | .a_ _ _ f=>⟨fun ev fr T s=>pF (k.run ev fr T) (f T s)⟩
 | .d_ f=>⟨fun ev fr T s=>az (k.run ev fr T) ((f T).bind fun l=>some (qE s l))⟩
 | .Cc f=>⟨fun ev fr T s=>az (k.run ev fr T) (f T s)⟩
 | .aG f=>⟨fun ev fr T s=>X4 fr T s (k.run ev fr T) ((f T s).bind fun p=>WM E ev p.1 p.2 s)⟩
 | .Z1 f a=>⟨fun ev fr T s=>X4 fr T s (k.run ev fr T) ((f T).bind fun g=>(a T).bind fun args=>Xz E ev args s g)⟩
 | .bW f=>⟨fun ev fr T s=>iU fr (fun fr v=>k.run ev fr T v s) (f T)⟩
 | .b_ f=>⟨fun _ fr T s=>Ye (fun v=> .O ⟨.O v,fr,T,s⟩) (f T)⟩
 | .Z=>⟨fun ev fr T s=>lP fr fun fr v=>k.run ev fr T v s⟩
def bx (ops:List Oper) (j:Nat):Option w_:=
 (l_ ops j).bind fun o=>o.dst.bind fun d=>some (s_ d)
def dN (want:Bool):Option AV->Option Bool
 |some (.bool b)=>some (bif want then b else !b)
 |some _=>some false
 |none=>none
def Xk (ops:List Oper) (g:Nat×Bool):Tr AV->Option Bool:=
 match bx ops g.1 with
 |some p=>fun T=>dN g.2 (Tr.A p T)
 |none=>fun _=>some false
def dh (a b:Unit->k6):Option Bool->k6
 |some t=>bif t then a ()else b ()
 |none=> .J
def r7 (ops:List Oper) (g:Option (Nat×Bool)) (step:Cl) (k:qo):Cl:=
 match g with
 |none=>step
 |some g=>⟨fun ev fr T s=>dh (fun _=>step.run ev fr T s) (fun _=>k.run ev fr T (.Y []) s) (Xk ops g T)⟩
def ZN (ops:List Oper) (o:Oper) (k:qo):Cl:=r7 ops o.guard (Xf E (XL E o.type o.op) k) k
def th:Cl:=⟨fun _ fr T s=> .O ⟨.J,fr,T,s⟩⟩
def aW (ops:List Oper):List Oper->Cl
 | []=>th
 |o::rest=>ZN E ops o (Z2 o.dst (aW ops rest))
abbrev WG:=List (Nat×Nat)
inductive k_ where
 |J
 |O (b:Nat)
 |Y
abbrev aH:=List (Nat×k_×(Nat->Option CG->Bool))
structure j0 where
 o:Oper
 so:cf
 i:Nat
 a:Nat
 b:List Nat
structure bn where
 T:Tr AV
 a:St
 b:WG
 c:aH
def Z8:Option AV->Option Nat
 |some (.J b _)=>some b
 |some (.Z b _ _ _ _)=>some b
 |some (.bW b)=>some b
 |_=>none
def ff:Option Nat->k_
 |some b=> .O b
 |none=> .J
def WQ (so:cf) (T:Tr AV):k_:=
 match so with
 | .O _=> .J
 | .d_ _=> .J
 | .an _=> .J
 | .Y x _=>ff (Z8 (x T))
 | .a_ true x _=>ff (Z8 (x T))
 |_=> .Y
def XK:cf->Bool
 | .bW _=>false
 | .Z=>false
 |_=>true
def gf (b:Nat):k_->Bool
 | .J=>false
 | .O c=>Nat.beq b c
 | .Y=>true
def Yj (Wk b:Nat):WG->Bool
 | []=>false
 |p::l=>bif Nat.beq p.2 b&& !(Nat.testBit Wk p.1)then true else Yj Wk b l
def dO (Wk:Nat):WG->Tr CG->Tr CG
 | [],h=>h
 |p::l,h=>dO Wk l (bif Nat.testBit Wk p.1 then h else h.u p.2 none)
def Ws (Wk:Nat) (news:WG) (h:Tr CG):k_->Tr CG
 | .J=> .J
 | .O b=>bif Yj Wk b news then .J else Tr.u .J b (h.g b)
 | .Y=>dO Wk news h
def XN (T:Tr AV):List Nat->Tr AV->Tr AV
 | [],t=>t
 |i::l,t=>XN T l (t.u i (T.g i))
def b6 (v:AV):Tr AV:= .O .J (some v) .J
def K0:qo:=⟨fun _ fr _ v s=> .O ⟨.J,fr,b6 v,s⟩⟩
def Zo (aX:k_):k6->Option (k_×AV×St)
 | .O ⟨.J,_,.O .J (some v) .J,s⟩=>some (aX,v,s)
 |_=>none
def St.B (s:St) (h:Tr CG):St:= {a:=s.a,c:=s.a,d:=[],b:=h}
def XS (ev:Ev) (fr:Fr) (d:j0) (q:bn) (T:Tr AV):Option (k_×AV×St):=
 bif XK d.so then Zo (WQ d.so T) ((Xf E d.so K0).run ev fr T (q.a.B (Ws d.a q.b q.a.b (WQ d.so T))))else none
def Xl (ops:List Oper) (ev:Ev) (fr:Fr) (d:j0) (q:bn):Option (k_×AV×St):=
 match d.o.guard with
 |none=>XS E ev fr d q (XN q.T d.b .J)
 |some g=>(Xk ops g q.T).bind fun t=>bif t then XS E ev fr d q (XN q.T d.b .J)else some (.J,.Y [],q.a.B .J)
def Y3 (b:Nat):Nat->List Nat
 |0=>[]
 |n+1=>b::Y3 (b+1) n
def WH (h':Tr CG):List Nat->Tr CG->Tr CG
 | [],h=>h
 |b::l,h=>WH h' l (h.u b (h'.g b))
def XG (i:Nat) (news:WG):List Nat->WG
 | []=>news
 |b::l=>(i,b)::XG i news l
def ae (Wk b n:Nat) (o:Option CG):aH->Bool
 | []=>true
 |p::l=>bif Nat.testBit Wk p.1 then ae Wk b n o l else bif gf b p.2.1 then p.2.2 n o&&ae Wk b n o l else ae Wk b n o l
def WR (Wk next n:Nat) (h:Tr CG) (q:bn):List Nat->Bool
 | []=>true
 |b::l=>Nat.blt b next&& !(Yj Wk b q.b)&&ae Wk b n (h.g b) q.c&&WR Wk next n h q l
def L' (a b:AV):Bool:=ab a b||ay a (some b)
def pG (v:AV):Option AV->Bool
 |some u=>L' u v
 |none=>false
def dP (d:j0) (q:bn) (r:k_×AV×St):Nat->Option CG->Bool:=
 match d.so,r.1 with
 | .Y _ f,.O b=>fun n o=>pG r.2.1 (f (XN q.T d.b .J) {a:=n,c:=n,d:=[],b:=Tr.u .J b o})&&CD q.a.a 40 r.2.1
 |_,_=>fun _ _=>false
def Wt (nt:Nat) (d:j0) (q:bn) (r:k_×AV×St):Option bn:=
 bif Nat.ble q.a.a r.2.2.a&&WR d.a q.a.a r.2.2.a r.2.2.b q r.2.2.d then
  (zY d.o.dst nt r.2.1 q.T).bind fun T=>
   some {T,a:= {a:=r.2.2.a,c:=q.a.c,d:=below q.a.c r.2.2.d q.a.d,b:=WH r.2.2.b (Y3 q.a.a (r.2.2.a-q.a.a)) (WH r.2.2.b r.2.2.d q.a.b)},b:=XG d.i (XG d.i q.b (Y3 q.a.a (r.2.2.a-q.a.a))) r.2.2.d,c:=(d.i,r.1,dP d q r)::q.c}
 else none
def fQ (ops:List Oper) (ev:Ev) (fr:Fr):List j0->bn->Option bn
 | [],q=>some q
 |d::l,q=>(Xl E ops ev fr d q).bind fun r=>(Wt fr.nt d q r).bind fun q'=>fQ ops ev fr l q'
def dQ:k6->Option (AV×St)
 | .O ⟨.O v,_,_,s⟩=>some (v,s)
 |_=>none
def om (ev:Ev) (fr:Fr) (d:j0) (q:bn) (T:Tr AV):Option (AV×St):=
 match d.so with
 | .aG _=>dQ ((Xf E d.so K0).run ev fr T (q.a.B (Ws d.a q.b q.a.b .Y)))
 | .Z1 _ _=>dQ ((Xf E d.so K0).run ev fr T (q.a.B (Ws d.a q.b q.a.b .Y)))
 |_=>none
def dR (ops:List Oper) (ev:Ev) (fr:Fr) (d:j0) (q:bn):Option (AV×St):=
 match d.o.guard with
 |none=>om E ev fr d q (XN q.T d.b .J)
 |some g=>(Xk ops g q.T).bind fun t=>bif t then om E ev fr d q (XN q.T d.b .J)else none
def vu:List Nat->Bool
 | []=>true
 |_::_=>false
def aY (ops:List Oper) (ev:Ev) (fr:Fr) (p:Nat):List j0->bn->Option bn
 | [],q=>some q
 |d::l,q=>bif Nat.testBit d.a p then(Wt fr.nt d q (.J,.Y [],q.a.B .J)).bind fun q'=>aY ops ev fr p l q'
  else(Xl E ops ev fr d q).bind fun r=>bif Nat.beq r.2.2.a q.a.a&&vu r.2.2.d then(Wt fr.nt d q r).bind fun q'=>aY ops ev fr p l q' else none
def dS (Wk:Nat):WG->Bool
 | []=>true
 |p::l=>Nat.testBit Wk p.1&&dS Wk l
def Zt:List Oper->Tr AV->Tr AV
 | [],T=>T
 |o::l,T=>match o.dst with
  |some d=>Zt l (Tr.z none (s_ d) T)
  |none=>Zt l T
def vv (fr:Fr) (T:Tr AV) (v:AV):Option bn->k6
 |some q=> .O ⟨.O v,fr,T,q.a⟩
 |none=> .J
def lQ (ops:List Oper) (ev:Ev) (fr:Fr) (T0:Tr AV) (d:j0) (l:List j0) (q:bn):Option (AV×St)->k6
 |some p=>bif dS d.a q.b then vv fr (Zt ops T0) p.1 ((Wt fr.nt d q (.Y,.Y [],p.2)).bind (aY E ops ev fr d.i l))else .J
 |none=> .J
def Z9 (ops:List Oper) (ev:Ev) (fr:Fr) (T0:Tr AV):List j0->bn->k6
 | [],q=> .O ⟨.J,fr,q.T,q.a⟩
 |d::l,q=>match Xl E ops ev fr d q with
  |some r=>match Wt fr.nt d q r with
   |some q'=>Z9 ops ev fr T0 l q'
   |none=> .J
  |none=>lQ E ops ev fr T0 d l q (dR E ops ev fr d q)
def Wu (ops:List Oper):List Nat:=(Region.before ops.toArray).toList
def b_:List Operand->List Nat
 | []=>[]
 | .tmp t::l=>t::b_ l
 |_::l=>b_ l
def YE (bs:List Nat):List Oper->Nat->List j0
 | [],_=>[]
 |o::l,i=> {o,so:=XL E o.type o.op,i,a:=(l_ bs i).getD 0,b:=b_ o.op.operands.toList}::YE bs l (i+1)
def jU (t:Nat) (o:Oper):Bool:=match o.dst with
 |some d=>Nat.beq d t
 |none=>false
def j7 (bs:List Nat) (i Wk t:Nat):List Oper->Nat->Bool
 | [],_=>true
 |o::l,j=>(Nat.beq i j|| !(jU t o)||Nat.testBit Wk j||Nat.testBit ((l_ bs j).getD 0) i)&&j7 bs i Wk t l (j+1)
def kW (ops:List Oper) (bs:List Nat) (i Wk:Nat):List Nat->Bool
 | []=>true
 |t::l=>j7 bs i Wk t ops 0&&kW ops bs i Wk l
def oo (d:Nat):List Oper->Bool
 | []=>true
 |o::l=> !(jU d o)&&oo d l
def bo (i:Nat):List Edge->Bool
 | []=>true
 |e::l=>(match e.ground with| .gcOnly _=>true|_=>Nat.blt e.on i)&&bo i l
def gX:List Edge->Bool
 | []=>false
 |e::l=>match e.ground with| .gcOnly _=>true|_=>gX l
def lS:List Oper->Bool
 | []=>false
 |o::l=>bif gX o.after.toList then true else lS l
def oq (i:Nat):List Nat->Nat
 | []=>0
 |a::l=>bif Nat.beq a i then 0 else oq i l+1
def iV (n:Nat) (j8:List Nat) (i:Nat):List Edge->Bool
 | []=>true
 |e::l=>(!(Region.binds .gc e)||(Nat.blt e.on n&&Nat.blt (oq e.on j8) (oq i j8)))&&iV n j8 i l
def qF (n:Nat) (j8:List Nat):List Oper->Nat->Bool
 | [],_=>true
 |o::l,i=>iV n j8 i o.after.toList&&qF n j8 l (i+1)
def rY (ops:List Oper) (bs:List Nat) (i:Nat) (o:Oper) (rest:List Oper):Bool:=
 let Wk:=(l_ bs i).getD 0
 kW ops bs i Wk (b_ o.op.operands.toList)&&bo i o.after.toList&&
 (match o.dst with|some d=>oo d rest|none=>true)&&(match o.guard with|some (j,_)=>Nat.testBit Wk j|none=>true)
def fg (ops:List Oper) (bs:List Nat):List Oper->Nat->Bool
 | [],_=>true
 |o::l,i=>rY ops bs i o l&&fg ops bs l (i+1)
def X0 (ops:List Oper):Bool:=
 fg ops (Wu ops) ops 0&&bif lS ops then qF (Xu ops) (Region.linearise .gc ops.toArray 0) ops 0 else true
def pH (ops:List Oper) (ds:List j0):Cl:=
 bif X0 ops then⟨fun ev fr T s=>Z9 E ops ev fr T ds {T,a:=s,b:=[],c:=[]}⟩else⟨fun _ _ _ _=> .J⟩
def pI (ops:List Oper) (draw:Bool):Cl:=
 bif draw then pH E ops (YE E (Wu ops) ops 0)else aW E ops ops
def fR (a b:vt) (fr:Fr) (T:Tr AV) (s:St):Option AV->k6
 |some (.bool t)=>bif t then a fr T s else b fr T s
 |_=> .J
def mW (k:vt) (r:cP):k6:=
 match r.c with
 | .J=>k r.a r.T r.b
 |_=> .O r
def fh (id:Nat) (r:cP):k6:=
 match r.c with
 | .Z i=>bif Nat.beq i id then .O ⟨.J,r.a,r.T,r.b⟩else .O r
 |_=> .O r
def di (fr:Fr) (T:Tr AV) (s:St):Option Code->k6
 |none=> .O ⟨.J,fr,T,s⟩
 |some .ret=> .O ⟨.Y,fr,T,s⟩
 |some (.exit id)=> .O ⟨.Z id,fr,T,s⟩
 |some _=> .J
def YS (l:Nat) (fr:Fr) (T:Tr AV) (s:St):Option CG->k6
 |some (.O lp)=>match lp.a with
  | .busy=> .J
  |_=>di fr T (s.z l (some (.O {lp with a:= .exhausted}))) lp.b
 |_=> .J
def j9 (ev:Ev) (params:List Nat) (assign body:Code) (fr:Fr) (T:Tr AV) (s:St):AV->k6
 | .an (.func g) first captured=>match fr.a with
  |none=>
   let s1:=s.g (.Z true)
   let s2:=s1.g (.O {a:= .ready,b:=none,d:=0,nt:=fr.nt,c:=T,params,assign,body})
   let Yx:Fr:= {fr with defers:= {a:= .J s.a,args:=[]}::fr.defers}
   bif CV E g then X4 Yx T s2 (fun _ s3=>YS s1.a Yx T s3 (s3.b.g s1.a)) (WM E ev g (first++[.an (.yield s1.a) [] []]++captured) s2)else .J
  |some _=> .J
 |_=> .J
def dj (ev:Ev) (params:List Nat) (assign body:Code) (fr:Fr) (T:Tr AV) (s:St):Option AV->k6
 |some v=>j9 E ev params assign body fr T s v
 |none=> .J
def Yr:Code->Cl
 | .skip=>th
 | .label _=>th
 | .region _ ops draw=>pI E ops.toList draw
 | .seq a b=>let ka:=Yr a;let kb:=Yr b
  ⟨fun ev fr T s=>(ka.run ev fr T s).g (mW (kb.run ev))⟩
 | .cond x a b=>let ka:=Yr a;let kb:=Yr b
  ⟨fun ev fr T s=>fR (ka.run ev) (kb.run ev) fr T s (Ci E x T)⟩
 | .block id body=>let k:=Yr body
  ⟨fun ev fr T s=>(k.run ev fr T s).g (fh id)⟩
 | .loop body=>let k:=Yr body
  ⟨fun ev fr T s=>(k.run ev fr T s).g (mW (ev (.loop body)))⟩
 | .scope body=>Yr body
 | .exit id=>⟨fun _ fr T s=> .O ⟨.Z id,fr,T,s⟩⟩
 | .ret=>⟨fun _ fr T s=> .O ⟨.Y,fr,T,s⟩⟩
 | .rangeFunc f params assign body=>⟨fun ev fr T s=>dj E ev params.toList assign body fr T s (Ci E f T)⟩
 | .goto _=>⟨fun _ _ _ _=> .J⟩
 | .refuse _=>⟨fun _ _ _ _=> .J⟩
def ev (n:Nat):Ev:=Nat.rec (fun _ _ _ _=> .J) (fun _ ih c=>(Yr E c).run ih) n
def call (n:Nat) (f:FuncId) (args:List AV) (s:St):Option CR:=WM E (ev E n) f args s
end run
end
def w_.g:w_->Nat
 | .J=>0
 | .O p=>2*p.g+1
 | .Y p=>2*p.g+2
theorem Hn:∀(n k:Nat),k<=n->(iz n k).g=k
 |0,k,h=>by
  have:k=0:=by omega
  subst this;rfl
 |n+1,k,h=>by
  unfold iz;cases hk:Nat.beq k 0 with
  |true=>
   have:=Qb hk;subst this;rfl
  |false=>
   have Yh:k≠0:=Nat.ne_of_beq_eq_false hk;simp only[cond_false];cases ho:Nat.beq (k % 2) 1 with
   |true=>
    have:=Qb ho;simp only[cond_true,w_.g,Hn n (k/2) (by omega)];omega
   |false=>
    have:=Nat.ne_of_beq_eq_false ho;simp only[cond_false,w_.g,Hn n (k/2-1) (by omega)];omega
theorem Sm {a b:Nat} (h:s_ a=s_ b):a=b:=by
 have ha:=Hn a a (Qj a);have hb:=Hn b b (Qj b);unfold s_ at h;rw[<-ha,h,hb]
section tree
variable {α : Type}
@[simp] theorem vw (p:w_):Tr.A p (.J:Tr α)=none:=by cases p<;>rfl
@[simp] theorem getP_here (l r:Tr α) (v:Option α):Tr.A .J (.O l v r)=v:=rfl
@[simp] theorem vy (p:w_) (l r:Tr α) (v:Option α):Tr.A (.O p) (.O l v r)=Tr.A p l:=rfl
@[simp] theorem vz (p:w_) (l r:Tr α) (v:Option α):Tr.A (.Y p) (.O l v r)=Tr.A p r:=rfl
@[simp] theorem z9 (x:Option α):Tr.z x .J (.J:Tr α)= .O .J x .J:=rfl
@[simp] theorem setP_here (x v:Option α) (l r:Tr α):Tr.z x .J (.O l v r)= .O l x r:=rfl
@[simp] theorem zZ (x:Option α) (p:w_):Tr.z x (.O p) (.J:Tr α)= .O (Tr.z x p .J) none .J:=rfl
@[simp] theorem setP_lft (x v:Option α) (p:w_) (l r:Tr α):Tr.z x (.O p) (.O l v r)= .O (Tr.z x p l) v r:=rfl
@[simp] theorem Aaa (x:Option α) (p:w_):Tr.z x (.Y p) (.J:Tr α)= .O .J none (Tr.z x p .J):=rfl
@[simp] theorem setP_rgt (x v:Option α) (p:w_) (l r:Tr α):Tr.z x (.Y p) (.O l v r)= .O l v (Tr.z x p r):=rfl
theorem BI (x:Option α):∀(p:w_) (t:Tr α),Tr.A p (Tr.z x p t)=x
 | .J,.J=>rfl
 | .J,.O _ _ _=>rfl
 | .O p,.J=>BI x p .J
 | .O p,.O l _ _=>BI x p l
 | .Y p,.J=>BI x p .J
 | .Y p,.O _ _ r=>BI x p r
theorem Dv (x:Option α):∀(p q:w_) (t:Tr α),p≠q->Tr.A p (Tr.z x q t)=Tr.A p t
 | .J,.J,_,h=>absurd rfl h
 | .J,.O _,.J,_=>rfl
 | .J,.O _,.O _ _ _,_=>rfl
 | .J,.Y _,.J,_=>rfl
 | .J,.Y _,.O _ _ _,_=>rfl
 | .O p,.J,.J,_=>by simp
 | .O _,.J,.O _ _ _,_=>rfl
 | .O p,.O q,.J,h=>by simpa using Dv x p q .J (fun e=>h (e▸rfl))
 | .O p,.O q,.O l _ _,h=>Dv x p q l (fun e=>h (e▸rfl))
 | .O p,.Y q,.J,_=>by simp
 | .O _,.Y _,.O _ _ _,_=>rfl
 | .Y p,.J,.J,_=>by simp
 | .Y _,.J,.O _ _ _,_=>rfl
 | .Y p,.O q,.J,_=>by simp
 | .Y _,.O _,.O _ _ _,_=>rfl
 | .Y p,.Y q,.J,h=>by simpa using Dv x p q .J (fun e=>h (e▸rfl))
 | .Y p,.Y q,.O _ _ r,h=>Dv x p q r (fun e=>h (e▸rfl))
theorem Oh (t:Tr α) (k:Nat) (x:Option α):(t.u k x).g k=x:=BI x _ t
theorem SI (t:Tr α) (j k:Nat) (x:Option α) (h:j≠k):(t.u k x).g j=t.g j:=
 Dv x _ _ t (fun e=>h (Sm e))
theorem Ay (t:Tr α) (j k:Nat) (x:Option α):(t.u k x).g j=if j=k then x else t.g j:=by
 split
 .next h=>subst h;exact Oh t j x
 .next h=>exact SI t j k x h
@[simp] theorem get_nil (k:Nat):(.J:Tr α).g k=none:=vw _
end tree
section lists
variable {α β : Type}
@[simp] theorem DT (l:List α):Xu l=l.length:=by
 induction l with
 |nil=>rfl
 |cons a l ih=>show Xu l+1=_;rw[ih];rfl
theorem HT {a:α} {o:Option (List α)} {r:List α} (h:ep a o=some r):∃l,o=some l/\r=a::l:=by
 cases o with
 |none=>cases h
 |some l=>exact⟨l,rfl,(Option.some.inj h).symm⟩
theorem BS:∀ {n:Nat} {l r:List α},pa n l=some r->∃post,l=r++post/\r.length=n
 |0,l,r,h=>by
  obtain rfl: []=r:=Option.some.inj h;exact⟨l,U,U⟩
 |n+1,[],r,h=>by cases h
 |n+1,a::l,r,h=>by
  obtain⟨q,hq,rfl⟩:=HT (show ep a (pa n l)=some r from h);obtain⟨post,rfl,hl⟩:=BS hq;exact⟨post,U,by simp[hl]⟩
theorem Dq:∀(r post:List α),pa r.length (r++post)=some r
 | [],_=>rfl
 |a::r,post=>by
  show ep a (pa r.length (r++post))=_;rw[Dq r post];rfl
theorem BF:∀ {n:Nat} {l r:List α},XE n l=some r->∃pre,l=pre++r/\pre.length=n
 |0,l,r,h=>⟨[],by simpa using Option.some.inj h,rfl⟩
 |n+1,[],r,h=>by cases h
 |n+1,a::l,r,h=>by
  obtain⟨pre,rfl,hl⟩:=BF (show XE n l=some r from h);exact⟨a::pre,U,by simp[hl]⟩
theorem Dw:∀(pre r:List α),XE pre.length (pre++r)=some r
 | [],_=>rfl
 |_::pre,r=>Dw pre r
theorem GN:∀ {vs l r:List α},cV vs l=some r->∃aI post,l=aI++post/\aI.length=vs.length/\r=vs++post
 | [],l,r,h=>⟨[],l,rfl,rfl,(Option.some.inj h).symm⟩
 |v::vs,[],r,h=>by cases h
 |v::vs,a::l,r,h=>by
  obtain⟨q,hq,rfl⟩:=HT (show ep v (cV vs l)=some r from h);obtain⟨aI,post,rfl,hl,rfl⟩:=GN hq;exact⟨a::aI,post,U,by simp[hl],U⟩
theorem Jl:∀ {k:Nat} {vs l r:List α},over vs k l=some r->
 ∃pre aI post,l=pre++aI++post/\pre.length=k/\aI.length=vs.length/\r=pre++vs++post
 |0,vs,l,r,h=>by
  obtain⟨aI,post,rfl,hl,rfl⟩:=GN (show cV vs l=some r from h);exact⟨[],aI,post,by simp,U,hl,by simp⟩
 |k+1,vs,[],r,h=>by cases h
 |k+1,vs,a::l,r,h=>by
  obtain⟨q,hq,rfl⟩:=HT (show ep a (over vs k l)=some r from h);obtain⟨pre,aI,post,rfl,hp,hm,rfl⟩:=Jl hq;exact⟨a::pre,aI,post,by simp,by simp[hp],hm,by simp⟩
theorem E4:∀(l:List α) (n:Nat),l_ l n=l[n]?
 | [],n=>by simp[l_]
 |a::l,0=>rfl
 |a::l,n+1=>by
  rw[List.getElem?_cons_succ];exact E4 l n
theorem FX {l r:List α} {lo n:Nat} (h:v_ l lo n=some r):∃pre post,l=pre++r++post/\pre.length=lo/\r.length=n:=by
 unfold v_ at h;obtain⟨q,hq,ht⟩:=Qa.1 h;obtain⟨pre,rfl,hp⟩:=BF hq;obtain⟨post,rfl,hr⟩:=BS ht;exact⟨pre,post,by simp,hp,hr⟩
theorem U7 {f:α->Option β} {a:α} {l:List α} {r:List β} (h:mV f (a::l)=some r):
 ∃b bs,f a=some b/\mV f l=some bs/\r=b::bs:=by
 have h':vi (f a) (mV f l)=some r:=h;cases ha:f a with
 |none=>rw[ha]at h';cases hb:mV f l<;>rw[hb]at h'<;>cases h'
 |some b=>
  rw[ha]at h';cases hb:mV f l with
  |none=>rw[hb]at h';cases h'
  |some bs=>rw[hb]at h';exact⟨b,bs,rfl,rfl,(Option.some.inj h').symm⟩
end lists
section tables
variable {α : Type}
theorem JL:∀(l:List α) (k:Nat),(au l)[k]?=l[2*k]?
 | [],k=>by simp[au]
 | [a],k=>by cases k with
  |zero=>rfl
  |succ k=>simp[au]
 |a::b::l,0=>rfl
 |a::b::l,k+1=>by
  show(a::au l)[k+1]?=_;have h2:2*(k+1)=2*k+1+1:=by omega
  rw[h2];simpa using JL l k
theorem F4 (l:List α):(au l).length=(l.length+1)/2:=by
 match l with
 | []=>simp[au]
 | [a]=>simp[au]
 |a::b::l=>
  show(au l).length+1=_;rw[F4 l];simp;omega
theorem vA:∀(n:Nat) (l:List α) (k:Nat),l.length<=n->Tr.A (iz k k) (ll n l)=l[k]?:=by
 have key:∀(n:Nat) (l:List α) (m k:Nat),l.length<=n->k<=m->Tr.A (iz m k) (ll n l)=l[k]?:=by
  intro n;induction n with
  |zero=>
   intro l m k hl _;have:l=[]:=List.eq_nil_of_length_eq_zero (by omega);subst this;simp[ll]
  |succ n ih=>
   intro l m k hl hk;cases l with
   |nil=>simp[ll]
   |cons a l=>
    have ZI:l.length<=n:=by simpa using hl
    have h1:(au l).length<=n:=by rw[F4];omega
    have h2:(au l.tail).length<=n:=by rw[F4];simp;omega
    cases m with
    |zero=>
     have:k=0:=by omega
     subst this;rfl
    |succ m=>
     show Tr.A (iz (m+1) k) (.O (ll n (au l)) (some a) (ll n (au l.tail)))=_;unfold iz;cases hk0:Nat.beq k 0 with
     |true=>
      have:=Qb hk0;subst this;rfl
     |false=>
      have Yh:k≠0:=Nat.ne_of_beq_eq_false hk0;simp only[cond_false];cases ho:Nat.beq (k % 2) 1 with
      |true=>
       have:=Qb ho;simp only[cond_true,vy];rw[ih (au l) m (k/2) h1 (by omega),JL];have:k=2*(k/2)+1:=by omega
       conv=>rhs;rw[this]
       simp
      |false=>
       have:=Nat.ne_of_beq_eq_false ho;simp only[cond_false,vz];rw[ih (au l.tail) m (k/2-1) h2 (by omega),JL];have:k=2*(k/2-1)+1+1:=by omega
       conv=>rhs;rw[this]
       cases l<;>simp
 exact fun n l k hl=>key n l k k hl (Qj k)
theorem E0 (n:Nat) (l:List α) (k:Nat) (hl:l.length<=n):(ll n l).g k=l[k]?:=vA n l k hl
end tables
structure Pl where
 b:Nat
 a:Nat
 c:Nat
structure Cx where
 a:Nat->Pl
 M:Nat->Option (List Value)
 D:Nat->Prop
 b:Nat->Nat->Nat
 G:Nat->Nat->Prop
 X:Nat->Prop
def uK (C:Cx) (a:Option Addr):Prop:=∀ad,a=some ad->C.X ad.block
def Cx.g (C:Cx):Cx:= {C with D:=fun _=>False,G:=fun _ _=>False}
def YT {α:Type} (ms:List α) (off:Nat) (vs:List α):Prop:=∃pre post,ms=pre++vs++post/\pre.length=off
def qG (C:Cx) (b off sz:Nat):Option Nat->Nat->Prop
 |some n,c=>c=n/\0<n
 |none,c=>(C.a b).a+off+c*sz=(C.a b).c/\0<sz
def j_ (cs:List AV):Prop:=∀v∈cs,v.z=true
mutual
inductive VR:Cx->AV->Value->Prop where
 |bool {C:Cx} (b:Bool):VR C (.bool b) (.bool b)
 |int {C:Cx} (k:IntKind) (n:Int):VR C (.int k n) (.int k n)
 |an {C:Cx} {l:List UInt8} {s:ByteArray} (h:s.data.toList=l):VR C (.aG l) (.string s)
 |W2 {C:Cx}:VR C .W2 (.pointer none)
 |aG {C:Cx} {b off:Nat} (h:C.D b):VR C (.J b off) (.pointer (some ⟨(C.a b).b,(C.a b).a+off,none⟩))
 |XD {C:Cx} {Cv off:Nat} {cs:List AV} {ms vs:List Value} (hm:C.M Cv=some ms) (ha:YT ms off vs) (hv:Wx C cs vs) (WS:j_ cs):
  VR C (.XD cs) (.pointer (some ⟨Cv,off,none⟩))
 |Ca {C:Cx} (a:Option Addr) (hx:uK C a):VR C .Ca (.slice a 0 0)
 |O {C:Cx} {b off len sz:Nat} {cap:Option Nat} {c:Nat} (h:C.D b) (hc:qG C b off sz cap c) (Zu:len<=c):
  VR C (.Z b off len sz cap) (.slice (some ⟨(C.a b).b,(C.a b).a+off,none⟩) len c)
 |XT {C:Cx} {b off sz:Nat} {a:Addr} {c:Nat} (hx:C.X a.block) (h:C.D b) (hc:c=0\/(a=⟨(C.a b).b,(C.a b).a+off,none⟩/\(C.a b).a+off+c*sz=(C.a b).c/\0<sz)):
  VR C (.Z b off 0 sz (some 0)) (.slice (some a) 0 c)
 |Xm {C:Cx} {sz:Nat} {cl:Bool} {len c:Nat} (a:Option Addr) (h:len*sz=0) (Zu:len<=c):VR C (.Ck [] len sz cl) (.slice a len c)
 |Ck {C:Cx} {Cv off len sz c:Nat} {cl:Bool} {cs:List AV} {ms vs:List Value} (hl:cs.length=len*sz) (hm:C.M Cv=some ms) (ha:YT ms off vs)
  (hv:Wx C cs vs) (hc:cl=true->Wx C.g cs vs) (WS:j_ cs) (Zu:len<=c):VR C (.Ck cs len sz cl) (.slice (some ⟨Cv,off,none⟩) len c)
 |WZ {C:Cx}:VR C .WZ (.map none)
 |b_ {C:Cx} {b:Nat} (h:C.D b):VR C (.bW b) (.map (some (C.a b).b))
 |eQ {C:Cx} {b n:Nat} (h:C.G b n):VR C (.eQ b n) (.int .i64 (C.b b n))
 |cU {C:Cx} (p:Option Addr):VR C .cU (.pointer p)
 |Z {C:Cx} {fn:Fn} {a b:List AV} {x y:Array Value} (hf:∀l,fn≠ .yield l) (ha:Wx C a x.toList) (hb:Wx C b y.toList):VR C (.an fn a b) (.func fn x y)
 |bW {C:Cx} {l:Nat} (h:C.D l):VR C (.an (.yield l) [] []) (.func (.yield (C.a l).b) #[] #[])
 |C7 {C:Cx}:VR C .C7 .nilFunc
 |Y {C:Cx} {t:TypeId} {v:AV} {x:Value} (h:VR C v x):VR C (.a_ t v) (.iface t x)
 |CS {C:Cx}:VR C .CS .nilIface
 |a_ {C:Cx} {cs:List AV} {x:Array Value} (h:Wx C cs x.toList) (WS:j_ cs):VR C (.O cs) (.agg x)
 |J {C:Cx} {cs:List AV} {x:Array Value} (h:Wx C cs x.toList):VR C (.Y cs) (.tuple x)
inductive Wx:Cx->List AV->List Value->Prop where
 |O {C:Cx}:Wx C [] []
 |J {C:Cx} {v:AV} {x:Value} {vs:List AV} {xs:List Value} (h:VR C v x) (t:Wx C vs xs):Wx C (v::vs) (x::xs)
end
structure m_ (C C':Cx):Prop where
 D:∀b,C.D b->C'.D b
 a:∀b,C.D b->C'.a b=C.a b
 M:∀b ms,C.M b=some ms->C'.M b=some ms
 G:∀b n,C.G b n->C'.G b n
 c:∀b n,C.G b n->C'.b b n=C.b b n
 X:∀b,C.X b->C'.X b
theorem m_.g (C:Cx):m_ C C:=⟨fun _ h=>h,fun _ _=>rfl,fun _ _ h=>h,fun _ _ h=>h,fun _ _ _=>rfl,fun _ h=>h⟩
theorem m_.u {A B C:Cx} (h:m_ A B) (g:m_ B C):m_ A C:=
 ⟨fun b x=>g.D b (h.D b x),fun b x=>(g.a b (h.D b x)).trans (h.a b x),fun b ms x=>g.M b ms (h.M b ms x),fun b n x=>g.G b n (h.G b n x),
  fun b n x=>(g.c b n (h.G b n x)).trans (h.c b n x),fun b x=>g.X b (h.X b x)⟩
theorem m_.z {C C':Cx} (h:m_ C C'):m_ C.g C'.g:=⟨fun _ x=>x.elim,fun _ x=>x.elim,h.M,fun _ _ x=>x.elim,fun _ _ x=>x.elim,h.X⟩
theorem m_.B (C:Cx):m_ C.g C:=⟨fun _ x=>x.elim,fun _ x=>x.elim,fun _ _ h=>h,fun _ _ x=>x.elim,fun _ _ x=>x.elim,fun _ h=>h⟩
theorem uK.mono {C C':Cx} (e:m_ C C') {a:Option Addr} (h:uK C a):uK C' a:=fun ad x=>e.X _ (h ad x)
theorem uK.none {C:Cx}:uK C none:=fun _ x=>by cases x
theorem uK.some {C:Cx} {a:Addr} (h:C.X a.block):uK C (some a):=fun _ x=>by cases x;exact h
mutual
theorem VR.g {C C':Cx} (e:m_ C C'):∀ {v:AV} {x:Value},VR C v x->VR C' v x
 |_,_,.bool b=> .bool b
 |_,_,.int k n=> .int k n
 |_,_,.an h=> .an h
 |_,_,.W2=> .W2
 |_,_,.aG (b:=b) (off:=off) h=>by rw[<-e.a b h];exact .aG (e.D _ h)
 |_,_,.XD hm ha hv WS=> .XD (e.M _ _ hm) ha (Wx.z e hv) WS
 |_,_,.Ca a hx=> .Ca a (hx.mono e)
 |_,_,.O (b:=b) (cap:=cap) h hc Zu=>by
  rw[<-e.a b h];refine .O (e.D _ h) ?_ Zu;cases cap with
  |some n=>exact hc
  |none=>simpa[qG,e.a b h]using hc
 |_,_,.XT (b:=b) hx h hc=> .XT (e.X _ hx) (e.D _ h) (by rw[e.a b h];exact hc)
 |_,_,.Xm a h Zu=> .Xm a h Zu
 |_,_,.Ck hl hm ha hv hc WS Zu=> .Ck hl (e.M _ _ hm) ha (Wx.z e hv) (fun x=>Wx.z e.z (hc x)) WS Zu
 |_,_,.WZ=> .WZ
 |_,_,.b_ (b:=b) h=>by rw[<-e.a b h];exact .b_ (e.D _ h)
 |_,_,.eQ (b:=b) (n:=n) h=>by rw[<-e.c b n h];exact .eQ (e.G _ _ h)
 |_,_,.cU p=> .cU p
 |_,_,.Z hf ha hb=> .Z hf (Wx.z e ha) (Wx.z e hb)
 |_,_,.bW (l:=l) h=>by rw[<-e.a l h];exact .bW (e.D _ h)
 |_,_,.C7=> .C7
 |_,_,.Y h=> .Y (VR.g e h)
 |_,_,.CS=> .CS
 |_,_,.a_ h WS=> .a_ (Wx.z e h) WS
 |_,_,.J h=> .J (Wx.z e h)
theorem Wx.z {C C':Cx} (e:m_ C C'):∀ {v:List AV} {x:List Value},Wx C v x->Wx C' v x
 |_,_,.O=> .O
 |_,_,.J h t=> .J (VR.g e h) (Wx.z e t)
end
theorem Wx.g {C:Cx}:∀ {v:List AV} {x:List Value},Wx C v x->x.length=v.length
 |_,_,.O=>rfl
 |_,_,.J _ t=>by simp[Wx.g t]
theorem Wx.u {C:Cx}:∀ {a:List AV} {x:List Value} {b:List AV} {y:List Value},Wx C a x->Wx C b y->Wx C (a++b) (x++y)
 |_,_,_,_,.O,g=>g
 |_,_,_,_,.J h t,g=> .J h (Wx.u t g)
theorem AB {C:Cx}:∀ {a b:List AV} {x:List Value},Wx C (a++b) x->∃y z,x=y++z/\Wx C a y/\Wx C b z
 | [],_,x,h=>⟨[],x,rfl,.O,h⟩
 |_::_,_,_,.J h t=>by
  obtain⟨y,z,rfl,h1,h2⟩:=AB t;exact⟨_::y,z,U,.J h h1,h2⟩
theorem Wx.I {C:Cx}:∀ {a:List AV} {x:List Value} {i:Nat} {v:AV},Wx C a x->a[i]?=some v->∃y,x[i]?=some y/\VR C v y
 |_,_,i,_,.O,h=>by simp at h
 |_,_,0,_,.J h _,e=>by grind
 |_,_,i+1,_,.J _ t,e=>by
  obtain⟨y,hy,h⟩:=Wx.I t (by simpa using e);exact⟨y,by simpa using hy,h⟩
theorem Wx.A {C:Cx} {v:AV} {x:Value} (h:VR C v x):Wx C [v] [x]:= .J h .O
theorem YT.aI {α:Type} {ms:List α} {off:Nat} {a b c:List α} (h:YT ms off (a++b++c)):YT ms (off+a.length) b:=by
 obtain⟨pre,post,rfl,rfl⟩:=h;exact⟨pre++a,c++post,by simp,by simp⟩
theorem YT.left {α:Type} {ms:List α} {off:Nat} {a b:List α} (h:YT ms off (a++b)):YT ms off a:=by
 obtain⟨pre,post,rfl,rfl⟩:=h;exact⟨pre,b++post,by simp,U⟩
theorem YT.right {α:Type} {ms:List α} {off:Nat} {a b:List α} (h:YT ms off (a++b)):YT ms (off+a.length) b:=by
 obtain⟨pre,post,rfl,rfl⟩:=h;exact⟨pre++a,post,by simp,by simp⟩
theorem YT.get {α:Type} {ms:List α} {off:Nat} {vs:List α} (h:YT ms off vs) (i:Nat) (hi:i<vs.length):ms[off+i]?=vs[i]?:=by
 obtain⟨pre,post,rfl,rfl⟩:=h;rw[List.append_assoc,List.getElem?_append_right (by omega),List.getElem?_append_left (by omega)]
 congr 1;omega
theorem YT.le {α:Type} {ms:List α} {off:Nat} {vs:List α} (h:YT ms off vs):off+vs.length<=ms.length:=by
 obtain⟨pre,post,rfl,rfl⟩:=h;simp
theorem YT.whole {α:Type} (vs:List α):YT vs 0 vs:=⟨[],[],by simp,rfl⟩
theorem DX:∀(n:Nat) {C:Cx} {v:AV} {x:Value},VR C v x->Cr n v=true->VR C.g v x:=by
 intro n;induction n with
 |zero=>intro C v x _ h;simp[Cr]at h
 |succ n ih=>
  have many:∀ {C:Cx} {l:List AV} {xs:List Value},Wx C l xs->l.all (Cr n)=true->Wx C.g l xs:=by
   intro C l;induction l with
   |nil=>intro xs h _;cases h;exact .O
   |cons a l il=>
    intro xs h hc;cases h with
    |J h t=>
     simp only[List.all_cons,Qf]at hc;exact .J (ih h hc.1) (il t hc.2)
  intro C v x h hc;cases h with
  |bool b=>exact .bool b
  |int k m=>exact .int k m
  |an h=>exact .an h
  |W2=>exact .W2
  |aG h=>simp[Cr]at hc
  |XD hm ha hv WS=>exact .XD hm ha (many hv (by simpa[Cr]using hc)) WS
  |Ca a hx=>exact .Ca a hx
  |O h dk Zu=>simp[Cr]at hc
  |XT hx h dk=>simp[Cr]at hc
  |Xm a h Zu=>exact .Xm a h Zu
  |Ck hl hm ha hv Y8 WS Zu=>
   have:_=true:=(by simpa[Cr]using hc)
   exact .Ck hl hm ha (Y8 this) (fun _=>Y8 this) WS Zu
  |WZ=>exact .WZ
  |b_ h=>simp[Cr]at hc
  |eQ h=>simp[Cr]at hc
  |cU p=>exact .cU p
  |Z hf ha hb=>
   rename_i fn a b x y
   cases fn with
   |yield l=>exact absurd rfl (hf l)
   |func f=>simp only[Cr,Qf]at hc;exact .Z hf (many ha hc.1) (many hb hc.2)
   |method m=>simp only[Cr,Qf]at hc;exact .Z hf (many ha hc.1) (many hb hc.2)
   |methodOf t m=>simp only[Cr,Qf]at hc;exact .Z hf (many ha hc.1) (many hb hc.2)
   |via t p f q=>simp only[Cr,Qf]at hc;exact .Z hf (many ha hc.1) (many hb hc.2)
  |bW h=>simp[Cr]at hc
  |C7=>exact .C7
  |Y h=>exact .Y (ih h (by simpa[Cr]using hc))
  |CS=>exact .CS
  |a_ h WS=>exact .a_ (many h (by simpa[Cr]using hc)) WS
  |J h=>exact .J (many h (by simpa[Cr]using hc))
theorem Bs (n:Nat) {C:Cx}:∀ {l:List AV} {xs:List Value},Wx C l xs->l.all (Cr n)=true->Wx C.g l xs
 |_,_,.O,_=> .O
 |_,_,.J h t,hc=>by
  simp only[List.all_cons,Qf]at hc;exact .J (DX n h hc.1) (Bs n t hc.2)
def TR (C:Cx) (nt:Nat) (T:Tr AV) (a:Array Value):Prop:=
 a.size=nt/\∀i v,T.g i=some v->∃x,a[i]?=some x/\VR C v x
inductive WT (C:Cx) (b:Nat):List XA->List MapEntry->Prop where
 |O:WT C b [] []
 |J {k v:AV} {n:Nat} {e:MapEntry} {l:List XA} {es:List MapEntry} (hk:VR C k e.key) (hv:VR C v e.val) (hg:C.G b n) (hn:e.born=C.b b n) (t:WT C b l es):
  WT C b ((k,v,n)::l) (e::es)
def Aab (l:List XA):Prop:=(∀e∈l,iG e.1=true)/\(l.map (·.1)).Nodup
inductive OR (C:Cx) (b:Nat):CG->Obj->Prop where
 |J {cs:List AV} {t:TypeId} {part:Bool} {c:Array Value} {fr:Nat×Nat} {vs:List Value} (hv:Wx C cs vs) (ha:YT c.toList (C.a b).a vs) (hs:c.size=(C.a b).c)
  (WS:j_ cs) (hf:c.size<=fr.1\/fr.2<=fr.1) (hp:part=false->(C.a b).a=0/\cs.length=c.size/\fr=(0,0)):OR C b (.J cs t part) (.cells c t fr)
 |Y {es:List XA} {clock:Nat} {arr:Array MapEntry} {l:List MapEntry} (hp:l.Perm arr.toList) (h:WT C b es l) (hk:Aab es) (hn:(l.map (·.born)).Nodup)
  (hc:∀n,C.G b n->C.b b n<clock) (hg:∀n,C.G b n->n<clock) (hi:∀n m,C.G b n->C.G b m->C.b b n=C.b b m->n=m):OR C b (.Y es clock) (.map arr clock)
 |Ym {l:List UInt8} {s:ByteArray} {pos:Nat} (h:s.data.toList=l) (hb:(C.a b).a=0):OR C b (.Ym l pos) (.stringIter s pos)
 |pK {since Xv:Nat} {seen:List Nat} {arr:Array Nat} (hb:(C.a b).a=0):OR C b (.aO none since seen Xv) (.mapIter none since arr Xv)
 |aO {m since Xv:Nat} {seen:List Nat} {arr:Array Nat} (hd:C.D m) (hg:∀n∈seen,C.G m n) (h:arr.toList=seen.map (C.b m)) (hb:(C.a b).a=0):
  OR C b (.aO (some m) since seen Xv) (.mapIter (some (C.a m).b) since arr Xv)
 |O {lp:bV} {L:Loop} (hs:L.state=lp.a) (hp:L.pending=lp.b) (ht:TR C lp.nt lp.c L.tmps) (ti:L.params.toList=lp.params)
  (ha:L.assign=lp.assign) (hb:L.body=lp.body):OR C b (.O lp) (.loop L)
 |Z:OR C b (.Z true) (.deferred (some []))
 |rZ:OR C b (.Z false) (.deferred none)
theorem TR.mono {C C':Cx} (e:m_ C C') {nt:Nat} {T:Tr AV} {a:Array Value} (h:TR C nt T a):TR C' nt T a:=
 ⟨h.1,fun i v hi=>let⟨x,hx,hv⟩:=h.2 i v hi;⟨x,hx,hv.g e⟩⟩
theorem WT.B {C C':Cx} (e:m_ C C') {b:Nat} {l:List XA} {es:List MapEntry} (h:WT C b l es):WT C' b l es:=by
 induction h with
 |O=>exact .O
 |J hk hv hg hn _ ih=>exact .J (hk.g e) (hv.g e) (e.G _ _ hg) (hn.trans (e.c _ _ hg).symm) ih
theorem OR.g {C C':Cx} (e:m_ C C') {b:Nat} {o:CG} {x:Obj} (hd:C.D b) (hg:∀n,C'.G b n->C.G b n) (h:OR C b o x):OR C' b o x:=by
 have Y1:=e.a b hd;cases h with
 |J hv ha hs WS hf hp=>exact .J (hv.z e) (by rw[Y1];exact ha) (by rw[Y1];exact hs) WS hf (by rw[Y1];exact hp)
 |Y hp h hk hn hc kB hi=>exact .Y hp (h.B e) hk hn (fun n hn=>by rw[e.c _ _ (hg n hn)];exact hc n (hg n hn)) (fun n hn=>kB n (hg n hn)) (fun n m h1 h2 he=>hi n m (hg n h1) (hg m h2) (by rw[<-e.c _ _ (hg n h1),<-e.c _ _ (hg m h2)];exact he))
 |Ym h hb=>exact .Ym h (by rw[Y1];exact hb)
 |pK hb=>exact .pK (by rw[Y1];exact hb)
 |aO hd hg h hb=>
  rw[<-e.a _ hd];refine .aO (e.D _ hd) (fun n hn=>e.G _ _ (hg n hn)) (h.trans ?_) (by rw[Y1];exact hb);exact List.map_congr_left fun n hn=>(e.c _ _ (hg n hn)).symm
 |O hs hp ht ti ha hb=>exact .O hs hp (ht.mono e) ti ha hb
 |Z=>exact .Z
 |rZ=>exact .rZ
structure WW (C:Cx) (S:St) (w:World):Prop where
 a:∀b o,S.b.g b=some o->C.D b/\∃x,w.heap[(C.a b).b]?=some x/\OR C b o x
 inj:∀b b' o o',S.b.g b=some o->S.b.g b'=some o'->(C.a b).b=(C.a b').b->b=b'
 d:∀b,C.D b->b<S.a
 l:∀Cv ms,C.M Cv=some ms->∃c e fr,w.heap[Cv]?=some (.cells c e fr)/\c.toList=ms
 g:∀b o,S.b.g b=some o->C.M (C.a b).b=none
 f:∀b n,C.G b n->C.D b
 i:∀k,C.X k->k<w.heap.size
 j:∀b,C.D b->C.X (C.a b).b
 m:∀Cv ms,C.M Cv=some ms->C.X Cv
def aZ (S:St) (log:List Nat) (b:Nat):Prop:=b∈log\/S.c<=b
structure CE (C:Cx) (S:St) (w:World) (C':Cx) (S':St) (w':World):Prop where
 a:m_ C C'
 c:WW C' S' w'
 e:S'.c=S.c
 i:∀b∈S.d,b∈S'.d
 j:S.a<=S'.a
 d:w.heap.size<=w'.heap.size
 z:∀Cv,Cv<w.heap.size->(∀b o,S.b.g b=some o->aZ S S'.d b->(C.a b).b≠Cv)->w'.heap[Cv]?=w.heap[Cv]?
 f:∀b,C.D b->¬aZ S S'.d b->S'.b.g b=S.b.g b/\∀n,C'.G b n->C.G b n
 m:∀b,C'.D b->C.D b\/S.a<=b
 own:∀b o,S'.b.g b=some o->(C.D b/\∃o0,S.b.g b=some o0)\/w.heap.size<=(C'.a b).b\/
  ∃b0 o0,S.b.g b0=some o0/\aZ S S'.d b0/\(C.a b0).b=(C'.a b).b
 l:∀Cv ms,C'.M Cv=some ms->C.M Cv=some ms\/w.heap.size<=Cv\/∃b0 o0,S.b.g b0=some o0/\aZ S S'.d b0/\(C.a b0).b=Cv
 k:w'.tape=w.tape/\w'.os=w.os/\w'.output=w.output
theorem CE.g {C:Cx} {S:St} {w:World} (h:WW C S w):CE C S w C S w where
 a:= .g C
 c:=h
 e:=rfl
 i:=fun _ h=>h
 j:=Qj _
 d:=Qj _
 z:=fun _ _ _=>rfl
 f:=fun _ _ _=>⟨rfl,fun _ h=>h⟩
 m:=fun _ h=> .inl h
 own:=fun b o hb=> .inl ⟨(h.a b o hb).1,o,hb⟩
 l:=fun _ _ h=> .inl h
 k:=⟨rfl,rfl,rfl⟩
theorem aZ.mono {S:St} {l l':List Nat} {b:Nat} (h:aZ S l b) (hl:∀b∈l,b∈l'):aZ S l' b:=h.imp (hl b) id
theorem CE.u {C C₁ C₂:Cx} {S S₁ S₂:St} {w w₁ w₂:World} (h:CE C S w C₁ S₁ w₁) (g:CE C₁ S₁ w₁ C₂ S₂ w₂):CE C S w C₂ S₂ w₂ where
 a:=h.a.u g.a
 c:=g.c
 e:=g.e.trans h.e
 i:=fun b hb=>g.i b (h.i b hb)
 j:=Nat.le_trans h.j g.j
 d:=Nat.le_trans h.d g.d
 z:=by
  intro Cv sb hn;have h1:=h.z Cv sb (fun b o hb hl=>hn b o hb (hl.mono g.i));rw[<-h1];refine g.z Cv (Nat.lt_of_lt_of_le sb h.d) ?_;intro b o hb hl e;have ZI:aZ S S₂.d b:=hl.imp id (fun x=>by rw[h.e]at x;exact x);rcases h.own b o hb with⟨hd,o0,h0⟩|hs|⟨b0,o0,h0,eH,e0⟩
  .exact hn b o0 h0 ZI (by rw[<-h.a.a b hd];exact e)
  .omega
  .exact hn b0 o0 h0 (eH.mono g.i) (e0.trans e)
 f:=by
  intro b hd hm;have h1:=h.f b hd (fun x=>hm (x.mono g.i));have h2:=g.f b (h.a.D b hd) (fun x=>hm (x.imp id (fun y=>by rw[h.e]at y;exact y)));exact⟨h2.1.trans h1.1,fun n hn=>h1.2 n (h2.2 n hn)⟩
 m:=by
  intro b hb;rcases g.m b hb with h1|h1
  .exact h.m b h1
  .exact .inr (Nat.le_trans h.j h1)
 own:=by
  intro b o hb;rcases g.own b o hb with⟨hd,o1,h1⟩|hs|⟨b1,o1,h1,dC,e1⟩
  .rcases h.own b o1 h1 with⟨vB,o0,h0⟩|hs|⟨b0,o0,h0,eH,e0⟩
   .exact .inl ⟨vB,o0,h0⟩
   .exact .inr (.inl (by rw[g.a.a b hd];exact hs))
   .exact .inr (.inr ⟨b0,o0,h0,eH.mono g.i,by rw[g.a.a b hd];exact e0⟩)
  .exact .inr (.inl (Nat.le_trans h.d hs))
  .have hl1':aZ S S₂.d b1:=dC.imp id (fun x=>by rw[h.e]at x;exact x);rcases h.own b1 o1 h1 with⟨vB,o0,h0⟩|hs|⟨b0,o0,h0,eH,e0⟩
   .exact .inr (.inr ⟨b1,o0,h0,hl1',by rw[<-e1,h.a.a b1 vB]⟩)
   .grind
   .exact .inr (.inr ⟨b0,o0,h0,eH.mono g.i,e0.trans e1⟩)
 l:=by
  intro Cv ms hm;rcases g.l Cv ms hm with h1|hs|⟨b1,o1,h1,dC,e1⟩
  .rcases h.l Cv ms h1 with h0|hs|⟨b0,o0,h0,eH,e0⟩
   .exact .inl h0
   .exact .inr (.inl hs)
   .exact .inr (.inr ⟨b0,o0,h0,eH.mono g.i,e0⟩)
  .exact .inr (.inl (Nat.le_trans h.d hs))
  .have hl1':aZ S S₂.d b1:=dC.imp id (fun x=>by rw[h.e]at x;exact x);rcases h.own b1 o1 h1 with⟨vB,o0,h0⟩|hs|⟨b0,o0,h0,eH,e0⟩
   .exact .inr (.inr ⟨b1,o0,h0,hl1',by rw[<-e1,h.a.a b1 vB]⟩)
   .grind
   .exact .inr (.inr ⟨b0,o0,h0,eH.mono g.i,e0.trans e1⟩)
 k:=⟨g.k.1.trans h.k.1,g.k.2.1.trans h.k.2.1,g.k.2.2.trans h.k.2.2⟩
theorem WW.I {C:Cx} {S:St} {w:World} (h:WW C S w) (n:Nat) (l:List Nat):WW C {S with c:=n,d:=l} w:=
 ⟨h.a,h.inj,h.d,h.l,h.g,h.f,h.i,h.j,h.m⟩
theorem B6 {n:Nat}:∀ {a l:List Nat} {b:Nat},(b∈a/\b<n)\/b∈l->b∈below n a l
 | [],l,b,h=>by
  rcases h with⟨h,_⟩|h
  .cases h
  .exact h
 |c::a,l,b,h=>by
  unfold below;cases hc:Nat.blt c n with
  |true=>
   rcases h with⟨h,hn⟩|h
   .rcases Qk.1 h with rfl|h
    .exact Qh ..
    .simp_all [Qg,B6]
   .simp_all [Qg,B6]
  |false=>
   have qp:¬c<n:=fun x=>by grind [Nat.blt_eq]
   rcases h with⟨h,hn⟩|h
   .rcases Qk.1 h with rfl|h
    .exact absurd hn qp
    .exact B6 (.inl ⟨h,hn⟩)
   .exact B6 (.inr h)
theorem CE.J {C C':Cx} {S S':St} {w w':World} (hS:WW C S w) (h:CE C S.u w C' S' w'):CE C S w C' (S.G S') w' where
 a:=h.a
 c:=h.c.I _ _
 e:=rfl
 i:=fun b hb=>B6 (.inr hb)
 j:=h.j
 d:=h.d
 z:=fun Cv hb hn=>h.z Cv hb (fun b o hbo hm=>hn b o hbo (by
  have C5:=hS.d b (hS.a b o hbo).1;rcases hm with hm|hm
  .rcases Nat.lt_or_ge b S.c with mX|mX
   .exact .inl (B6 (.inl ⟨hm,mX⟩))
   .exact .inr mX
  .have:S.a<=b:=hm;omega))
 f:=fun b hd hm=>h.f b hd (fun x=>hm (by
  have C5:=hS.d b hd;rcases x with x|x
  .rcases Nat.lt_or_ge b S.c with mX|mX
   .exact .inl (B6 (.inl ⟨x,mX⟩))
   .exact .inr mX
  .have:S.a<=b:=x;omega))
 m:=h.m
 own:=fun b o hb=>(h.own b o hb).imp id (Or.imp id fun⟨b0,o0,h0,hm,e⟩=>⟨b0,o0,h0,by
  have C5:=hS.d b0 (hS.a b0 o0 h0).1;rcases hm with hm|hm
  .rcases Nat.lt_or_ge b0 S.c with mX|mX
   .exact .inl (B6 (.inl ⟨hm,mX⟩))
   .exact .inr mX
  .have:S.a<=b0:=hm;omega,e⟩)
 l:=fun Cv ms mN=>(h.l Cv ms mN).imp id (Or.imp id fun⟨b0,o0,h0,hm,e⟩=>⟨b0,o0,h0,by
  have C5:=hS.d b0 (hS.a b0 o0 h0).1;rcases hm with hm|hm
  .rcases Nat.lt_or_ge b0 S.c with mX|mX
   .exact .inl (B6 (.inl ⟨hm,mX⟩))
   .exact .inr mX
  .have:S.a<=b0:=hm;omega,e⟩)
 k:=h.k
theorem B1 {w:World} {Cv:Nat} {x:Obj} (h:w.heap[Cv]?=some x):Cv<w.heap.size:=by grind
def Cx.I (C C':Cx):Cx:= {C with M:=C'.M,X:=C'.X}
theorem CE.N {C C':Cx} {S S':St} {w w':World} (hS:WW C S w) (h:CE C S.u w C' S' w') (hl:S'.d=[]):CE C S w (C.I C') S w':=by
 have Xo:∀b o,S.b.g b=some o->¬aZ S.u S'.d b:=by
  intro b o hb hm;have C5:=hS.d b (hS.a b o hb).1;rcases hm with hm|hm
  .rw[hl]at hm;cases hm
  .have:S.a<=b:=hm;omega
 have vC:∀Cv,Cv<w.heap.size->w'.heap[Cv]?=w.heap[Cv]?:=fun Cv hb=>h.z Cv hb (fun b o hbo hm=>absurd hm (Xo b o hbo));have e:m_ C (C.I C'):=⟨fun _ h=>h,fun _ _=>rfl,h.a.M,fun _ _ h=>h,fun _ _ _=>rfl,h.a.X⟩
 refine⟨e,?_,rfl,fun _ h=>h,Qj _,h.d,fun Cv hb _=>vC Cv hb,fun _ _ _=>⟨rfl,fun _ h=>h⟩,fun _ h=> .inl h,fun b o hb=> .inl ⟨(hS.a b o hb).1,o,hb⟩,?_,h.k⟩
 .refine⟨?_,hS.inj,hS.d,h.c.l,?_,hS.f,h.c.i,fun b hd=>h.a.X _ (hS.j b hd),h.c.m⟩
  .intro b o hb;obtain⟨hd,x,hx,hr⟩:=hS.a b o hb;exact⟨hd,x,by rw[<-hx];exact vC _ (B1 hx),hr.g e hd (fun _ h=>h)⟩
  .intro b o hb;obtain⟨hd,x,hx,hr⟩:=hS.a b o hb;cases hm:C'.M (C.a b).b with
   |none=>exact hm
   |some ms=>
    exfalso;rcases h.l _ _ hm with h1|h1|⟨b0,o0,h0,eH,_⟩
    .rw[hS.g b o hb]at h1;cases h1
    .have:=B1 hx;omega
    .exact Xo b0 o0 h0 eH
 .intro Cv ms hm;rcases h.l Cv ms hm with h1|h1|⟨b0,o0,h0,eH,_⟩
  .exact .inl h1
  .exact .inr (.inl h1)
  .exact absurd eH (Xo b0 o0 h0)
theorem Bx (Cv off n:Nat):(⟨Cv,off,none⟩:Addr).add n=⟨Cv,off+n,none⟩:=by
 unfold Addr.add;split
 .next h=>subst h;rfl
 .rfl
structure Wd (E:c_) (P:Program):Prop where
 c:∀t i,E.b.g t=some i->P.info? t=some i
 d:∀f fn,E.a.g f=some fn->P.funcs[f]?=some fn
 a:∀t,E.e t=true->P.stoodInHeld t=false
 b:∀f fn,E.a.g f=some fn->(fn.name== "runtime.NumGoroutine")=false
theorem Fe {E:c_} {P:Program} (h:Wd E P) {t:TypeId} {d:TypeDesc} (e:Wb E t=some d):P.underlying t=some d:=by
 unfold Wb at e;cases hi:E.b.g t with
 |none=>rw[hi]at e;cases e
 |some i=>
  rw[hi]at e;have hp:=h.c t i hi;unfold Program.underlying;rw[hp];simp only at e;unfold nS at e;split at e
  .next n u hd=>
   cases hu:E.b.g u with
   |none=>rw[hu]at e;cases e
   |some j=>
    rw[hu]at e;have:=h.c u j hu;obtain⟨d1,d2,d3,d4,d5,d6,d7,d8,d9,d10⟩:=i;simp only at hd;subst hd;simp only[this,Option.map_some];exact e
  .grind
theorem Ag {E:c_} {P:Program} (h:Wd E P) {t:TypeId} {d:TypeDesc} (e:Wb E t=some d) (w:World):(underlying t).run P w= .ok d w:=
 run_underlying (Fe h e) w
theorem BA {E:c_} {P:Program} (h:Wd E P) {t:TypeId} {i:TypeInfo} (e:E.b.g t=some i) (w:World):(typeInfo t).run P w= .ok i w:=by
 simp[typeInfo,h.c t i e]
theorem A1 {E:c_} {P:Program} (h:Wd E P) {t:TypeId} {n:Nat} (e:an E t=some n) (w:World):(Go.sizeOf t).run P w= .ok n w:=by
 unfold an at e;cases hi:E.b.g t with
 |none=>rw[hi]at e;cases e
 |some i=>rw[hi]at e;simp[Go.sizeOf,BA h hi,Option.some.inj e]
theorem N1 {E:c_} {P:Program} (h:Wd E P) {t:TypeId} {n:Nat} (e:i_ E t=some n) (w:World):
 ∃i,(typeInfo t).run P w= .ok i w/\i.bytes=n:=by
 unfold i_ at e;cases hi:E.b.g t with
 |none=>rw[hi]at e;cases e
 |some i=>rw[hi]at e;exact⟨i,BA h hi w,Option.some.inj e⟩
theorem Mj {E:c_} {P:Program} (h:Wd E P) {t:TypeId} {b:Bool} (e:j' E t=some b) (w:World):(Go.isAgg t).run P w= .ok b w:=by
 unfold j' at e;split at e
 .next fs hd=>cases e;simp[Go.isAgg,Ag h hd]
 .next n x hd=>cases e;simp[Go.isAgg,Ag h hd]
 .next d h1 h2 hd=>
  cases e;simp only[Go.isAgg,Sem.run_bind,Ag h hd,Result.andThen_ok];cases d<;>first|rfl|exact absurd rfl (h1 _)|exact absurd rfl (h2 _ _)
 .cases e
theorem NK {C:Cx} {v:Value} {x:AV} (h:eR v=some x):VR C x v/\x.z=true:=by
 unfold eR at h;split at h<;>first|cases h|skip
 .exact⟨.bool _,U⟩
 .exact⟨.int _ _,U⟩
 .exact⟨.an U,U⟩
 .exact⟨.W2,U⟩
 .exact⟨.Ca _ .none,U⟩
 .exact⟨.WZ,U⟩
 .exact⟨.C7,U⟩
 .exact⟨.CS,U⟩
theorem GP {C:Cx}:∀ {l:List Value} {r:List AV},mV eR l=some r->Wx C r l/\j_ r
 | [],r,h=>by
  obtain rfl: []=r:=Option.some.inj h;exact⟨.O,fun _ h=>by cases h⟩
 |a::l,r,h=>by
  obtain⟨b,bs,hb,vD,rfl⟩:=U7 h;have h1:=NK (C:=C) hb;have h2:=GP (C:=C) vD;exact⟨.J h1.1 h2.1,fun v hv=>by
   rcases Qk.1 hv with rfl|hv
   .exact h1.2
   .exact h2.2 v hv⟩
theorem Mu {C:Cx} {v:Value} {x:AV} (h:nR v=some x):VR C x v:=by
 unfold nR at h;split at h
 .next cs=>
  cases hm:mV eR cs.toList with
  |none=>rw[hm]at h;cases h
  |some l=>rw[hm]at h;cases h;exact .a_ (GP hm).1 (GP (C:=C) hm).2
 .next cs=>
  cases hm:mV eR cs.toList with
  |none=>rw[hm]at h;cases h
  |some l=>rw[hm]at h;cases h;exact .J (GP hm).1
 .exact(NK h).1
theorem Fs {o:Option AV} {z:AV} (h:oZ o=some z):o=some z/\z.u=false:=by
 unfold oZ at h;split at h
 .cases h
 .next hn=>
  refine⟨h,?_⟩;cases z with
  |Y vs=>exact absurd h (hn vs)
  |_=>rfl
theorem GH {E:c_} {P:Program} (h:Wd E P) {t:TypeId} {z:AV} (e:h_ E t=some z) (w:World):
 ∃x,(zeroValue t).run P w= .ok x w/\(∀C,VR C z x)/\∀i,P.info? t=some i->i.zero=some x:=by
 unfold h_ at e;cases hi:E.b.g t with
 |none=>rw[hi]at e;cases e
 |some i=>
  rw[hi]at e;simp only at e;cases hz:i.zero with
  |none=>rw[hz]at e;cases e
  |some x=>
   rw[hz]at e;exact⟨x,by simp[zeroValue,BA h hi,hz],fun C=>Mu (Fs e).1,fun j hj=>by
    rw[h.c t i hi]at hj;cases hj;exact hz⟩
theorem Dp {E:c_} {t:TypeId} {z:AV} (e:h_ E t=some z):z.u=false:=by
 unfold h_ at e;cases hi:E.b.g t with
 |none=>rw[hi]at e;cases e
 |some i=>grind [Fs]
theorem VR.u {C:Cx} {v:AV} {x:Value} (h:VR C v x):Wx C v.g x.cells.toList:=by
 cases h<;>first|exact .A (by constructor<;>assumption)|skip
 all_goals first
  |assumption
  |(exact .one (.agg ‹_› ‹_›))
  |(exact .one (.tuple ‹_›))
  |(refine .one ?_;first|exact .ptr ‹_›|exact .XD ‹_› ‹_› ‹_› ‹_›|exact .slice ‹_› ‹_› ‹_›|exact .Ck ‹_› ‹_› ‹_› ‹_› ‹_› ‹_› ‹_›|exact .Xm _ ‹_› ‹_›|exact .func ‹_› ‹_› ‹_›)
theorem VR.A {C:Cx} {v:AV} {x:Value} (h:VR C v x) (ht:v.u=false):j_ v.g:=by
 cases h<;>first
  |assumption
  |(intro u hu;simp only[AV.g,Qp]at hu;subst hu;first|rfl|(simp[AV.u]at ht))
theorem VR.tj {C:Cx} {v:AV} {x:Value} (h:VR C v x) (hc:v.z=true):x.oneCell'=true:=by
 cases h<;>first|rfl|(simp[AV.z]at hc)
theorem WW.B {C:Cx} {S:St} {w:World} (h:WW C S w) {b:Nat} {o:CG} (hb:S.b.g b=some o):(C.a b).b<w.heap.size:=by
 obtain⟨_,x,hx,_⟩:=h.a b o hb;rcases Nat.lt_or_ge (C.a b).b w.heap.size with h|h
 .exact h
 .grind
theorem Hs {o:Option CG} {cs:List AV} (h:Ww o=some cs):∃t part,o=some (.J cs t part):=by
 unfold Ww at h;split at h
 .cases h;exact⟨_,_,rfl⟩
 .cases h
theorem Jz {o:Option CG} {es:List XA} (h:eS o=some es):∃cl,o=some (.Y es cl):=by
 unfold eS at h;split at h
 .cases h;exact⟨_,rfl⟩
 .cases h
theorem WW.u {C:Cx} {S:St} {w:World} (h:WW C S w) {b:Nat} {cs:List AV} (hb:Ww (S.b.g b)=some cs):
 C.D b/\∃c e fr vs,w.heap[(C.a b).b]?=some (.cells c e fr)/\Wx C cs vs/\YT c.toList (C.a b).a vs/\c.size=(C.a b).c/\j_ cs/\(c.size<=fr.1\/fr.2<=fr.1):=by
 obtain⟨t,part,hs⟩:=Hs hb;obtain⟨hd,x,hx,hr⟩:=h.a b _ hs;cases hr with
 |J hv ha X2 WS hf hp=>exact⟨hd,_,_,_,_,hx,hv,ha,X2,WS,hf⟩
theorem V7 {w:World} {Cv:Nat} {c:Array Value} {e:TypeId} {fr:Nat×Nat} (h:w.heap[Cv]?=some (.cells c e fr)) (off:Nat):
 w.cell? ⟨Cv,off,none⟩=c[off]?:=by simp[World.cell?,h]
def mY (w:World) (a:Addr) (vs:List Value):Prop:=∀j v,vs[j]?=some v->w.cell? (a.add j)=some v
theorem JF {w:World} {Cv off:Nat} {c:Array Value} {e:TypeId} {fr:Nat×Nat} {vs:List Value} (h:w.heap[Cv]?=some (.cells c e fr)) (ha:YT c.toList off vs):
 mY w ⟨Cv,off,none⟩ vs:=by
 intro j v hj;rw[Bx,V7 h];have C5:j<vs.length:=by grind
 have:=ha.get j C5;rw[<-hj,<-this];simp
theorem YT.sub {α:Type} {ms:List α} {off:Nat} {vs a b c:List α} (h:YT ms off vs) (e:vs=a++b++c):YT ms (off+a.length) b:=by
 subst e;exact h.aI
theorem j_.sub {a b:List AV} (h:j_ (a++b)):j_ a/\j_ b:=
 ⟨fun v hv=>h v (List.mem_append_left _ hv),fun v hv=>h v (List.mem_append_right _ hv)⟩
theorem j_.append {a b:List AV} (h:j_ a) (g:j_ b):j_ (a++b):=fun v hv=>(List.mem_append.1 hv).elim (h v) (g v)
theorem N2 {C:Cx} {S:St} {w:World} (h:WW C S w) {n:Nat} {v:AV} {x:Value} (hv:VR C v x) {l:List AV} (e:Zb S n v=some l):
 ∃a vs,x= .pointer (some a)/\Wx C l vs/\mY w a vs/\j_ l/\l.length=n:=by
 cases hv with
 |aG hd=>
  simp only[Zb]at e;obtain⟨cs,WS,e1⟩:=Qa.1 e;obtain⟨q,hq,e2⟩:=Qa.1 e1;obtain⟨pre,rfl,hp⟩:=BF hq;obtain⟨post,rfl,hl⟩:=BS e2;obtain⟨_,c,ty,fr,vs,hx,Xr,ha,X2,hc,_⟩:=h.u WS;obtain⟨y,z,rfl,h1,h2⟩:=AB Xr;obtain⟨z1,z2,rfl,h3,h4⟩:=AB h2;refine⟨_,z1,U,h3,JF hx ?_,(hc.sub.2).sub.1,hl⟩;have:=ha.sub (a:=y) (b:=z1) (c:=z2) (by simp);rw[h1.g,hp]at this;exact this
 |XD hm ha Xr hc=>
  simp only[Zb]at e;obtain⟨post,rfl,hl⟩:=BS e;obtain⟨z1,z2,rfl,h3,h4⟩:=AB Xr;obtain⟨c,ty,fr,hx,rfl⟩:=h.l _ _ hm;exact⟨_,z1,U,h3,JF hx ha.left,hc.sub.1,hl⟩
 |_=>simp[Zb]at e
theorem Jb {P:Program} {w:World} {a:Addr} {vs:List Value} (h:mY w a vs) (n:Nat) (hn:vs.length=n):
 (loadCells a n).run P w= .ok vs.toArray w:=by
 subst hn;exact run_loadCells_list w a vs h
theorem Y_ {P:Program} {w:World} {a:Addr} {v:Value} (h:mY w a [v]):(load a).run P w= .ok v w:=by
 have:=h 0 v rfl;have ha:a.add 0=a:=by simp[Addr.add]
 rw[ha]at this;simp[this]
theorem GS {E:c_} {P:Program} (he:Wd E P) {C:Cx} {S:St} {w:World} (h:WW C S w) {t:TypeId} {v r:AV} {x:Value} (hv:VR C v x)
 (e:Wq E t S v=some r):∃a y,x= .pointer (some a)/\(Go.loadVar t a).run P w= .ok y w/\VR C r y:=by
 unfold Wq at e;cases h1:j' E t with
 |none=>rw[h1]at e;simp at e
 |some b=>
 cases h2:Am.an E t with
 |none=>rw[h1,h2]at e;cases b<;>simp at e
 |some n=>
 rw[h1,h2]at e;cases b with
 |true=>
  simp only[kN]at e;obtain⟨l,hl,e1⟩:=Qa.1 e;cases e1;obtain⟨a,vs,rfl,h3,h4,h5,h6⟩:=N2 h hv hl;refine⟨a,.agg vs.toArray,U,?_,.a_ h3 h5⟩;simp[Go.loadVar,Mj he h1,A1 he h2,Jb h4 n (h3.g.trans h6)]
 |false=>
  simp only[pc]at e;obtain⟨l,hl,e1⟩:=Qa.1 e;obtain⟨a,vs,rfl,h3,h4,h5,h6⟩:=N2 h hv hl;unfold oneV at e1;split at e1
  .next u=>
   cases e1;cases h3 with
   |J h7 h8=>
    cases h8;exact⟨a,_,U,by simp only[Go.loadVar,Sem.run_bind,Mj he h1,Result.andThen_ok,Bool.false_eq_true,if_false];exact Y_ h4,h7⟩
  .cases e1
def Cx.A (C:Cx) (b:Nat) (p:Pl):Cx:= {C with a:=fun k=>if k=b then p else C.a k,D:=fun k=>C.D k\/k=b,X:=fun k=>C.X k\/k=p.b}
theorem m_.A {C:Cx} {b:Nat} {p:Pl} (h:¬C.D b):m_ C (C.A b p):=
 ⟨fun _ h=> .inl h,fun k hk=>by
  have:k≠b:=fun e=>h (e▸hk);simp[Cx.A,this],fun _ _ h=>h,fun _ _ h=>h,fun _ _ _=>rfl,fun _ h=> .inl h⟩
theorem QS {w:World} {o:Obj} {Cv:Nat} {x:Obj} (h:w.heap[Cv]?=some x):(w.heap.push o)[Cv]?=some x:=by
 have:=B1 h;rw[Array.getElem?_push_lt this,<-h];simp[this]
def e_.u (w:World) (o:Obj):World:= {w with heap:=w.heap.push o}
theorem FP (b:Nat) (l:List Nat):b∈Yn b l/\∀k∈l,k∈Yn b l:=by
 cases l with
 |nil=>simp[Yn]
 |cons c l=>grind [Yn,Qb]
theorem DJ (S:St) (b:Nat) (o:Option CG):aZ S (S.z b o).d b/\∀k∈S.d,k∈(S.z b o).d:=by
 unfold St.z aZ;cases hb:Nat.blt b S.c with
 |true=>exact⟨.inl (FP b _).1,(FP b _).2⟩
 |false=>exact⟨.inr (by
  rcases Nat.lt_or_ge b S.c with h|h
  .grind [Nat.blt_eq]
  .exact h),fun k hk=>hk⟩
theorem Jj (S:St) (b k:Nat) (o:Option CG):(S.z b o).b.g k=if k=b then o else S.b.g k:=Ay _ _ _ _
theorem Kb (S:St) (k:Nat) (o:CG):(S.g o).b.g k=if k=S.a then some o else S.b.g k:=Ay _ _ _ _
theorem CE.A {C:Cx} {S:St} {w:World} (h:WW C S w) (o:CG) (x:Obj) (sz:Nat) (hx:OR (C.A S.a ⟨w.heap.size,0,sz⟩) S.a o x):
 CE C S w (C.A S.a ⟨w.heap.size,0,sz⟩) (S.g o) (e_.u w x):=by
 have Zw:¬C.D S.a:=fun hd=>Nat.lt_irrefl _ (h.d _ hd);have e:=m_.A (C:=C) (p:=⟨w.heap.size,0,sz⟩) Zw;have dq:=fun k=>Kb S k o;refine⟨e,⟨?_,?_,?_,?_,?_,?_,?_,?_,fun Cv ms hm=> .inl (h.m Cv ms hm)⟩,rfl,fun _ h=>h,Nat.le_succ _,by simp[e_.u],?_,?_,?_,?_,fun _ _ h=> .inl h,⟨rfl,rfl,rfl⟩⟩
 .intro b ob hb;rw[dq]at hb;split at hb
  .next eN=>
   subst eN;cases hb;refine⟨.inr U,x,?_,hx⟩;simp only[Cx.A,if_true,e_.u];exact Array.getElem?_push_size
  .next eN=>
   obtain⟨hd,y,hy,hr⟩:=h.a b ob hb;refine⟨.inl hd,y,?_,hr.g e hd (fun _ h=>h)⟩;simp only[Cx.A,eN,if_false,e_.u];exact QS hy
 .intro b b' ob ob' hb ZJ heq;rw[dq]at hb ZJ;split at hb
  .next h1=>
   split at ZJ
   .next h2=>rw[h1,h2]
   .next h2=>
    exfalso;subst h1;simp only[Cx.A,if_true,h2,if_false]at heq;have:=h.B ZJ;omega
  .next h1=>
   split at ZJ
   .next h2=>
    exfalso;subst h2;simp only[Cx.A,if_true,h1,if_false]at heq;have:=h.B hb;omega
   .next h2=>
    simp only[Cx.A,h1,h2,if_false]at heq;exact h.inj b b' ob ob' hb ZJ heq
 .rintro b (hd|rfl)
  .exact Nat.lt_succ_of_lt (h.d b hd)
  .exact Nat.lt_succ_self _
 .intro Cv ms hm;obtain⟨c,ty,fr,hc,e⟩:=h.l Cv ms hm;exact⟨c,ty,fr,QS hc,e⟩
 .intro b ob hb;rw[dq]at hb;split at hb
  .next eN=>
   subst eN;cases hm:C.M w.heap.size with
   |none=>simpa[Cx.A]using hm
   |some ms=>
    obtain⟨c,ty,fr,hc,_⟩:=h.l _ ms hm;simp at hc
  .next eN=>simpa[Cx.A,eN]using h.g b ob hb
 .exact fun b n hg=> .inl (h.f b n hg)
 .rintro k (hk|rfl)
  .exact Nat.lt_of_lt_of_le (h.i k hk) (by simp[e_.u])
  .simp[e_.u]
 .rintro b (hd|rfl)
  .have:b≠S.a:=by rintro rfl;exact Zw hd
   exact .inl (by simpa[Cx.A,this]using h.j b hd)
  .exact .inr (by simp[Cx.A])
 .intro Cv hb _;show(w.heap.push x)[Cv]?=_;rw[Array.getElem?_push_lt hb];simp[hb]
 .intro b hd _;have Yh:b≠S.a:=by rintro rfl;exact Zw hd
  exact⟨by rw[dq,if_neg Yh],fun _ h=>h⟩
 .rintro b (hd|rfl)
  .exact .inl hd
  .exact .inr (Qj _)
 .intro b ob hb;rw[dq]at hb;split at hb
  .grind [Cx.A]
  .next eN=>exact .inl ⟨(h.a b ob hb).1,ob,hb⟩
theorem Bk (C:Cx) (b:Nat) (p:Pl):(C.A b p).a b=p:=by simp[Cx.A]
theorem IJ (C:Cx) (b:Nat) (p:Pl):(C.A b p).D b:= .inr rfl
theorem LK {C:Cx} {S:St} {w w':World} (h:WW C S w) (hs:w.heap.size<=w'.heap.size) (hk:∀Cv,Cv<w.heap.size->w'.heap[Cv]?=w.heap[Cv]?)
 (hm:w'.tape=w.tape/\w'.os=w.os/\w'.output=w.output):CE C S w C S w':=by
 refine⟨.g C,⟨?_,h.inj,h.d,?_,h.g,h.f,fun k hk=>Nat.lt_of_lt_of_le (h.i k hk) hs,h.j,h.m⟩,rfl,fun _ h=>h,Qj _,hs,fun Cv hb _=>hk Cv hb,fun _ _ _=>⟨rfl,fun _ h=>h⟩,fun _ h=> .inl h,
  fun b o hb=> .inl ⟨(h.a b o hb).1,o,hb⟩,fun _ _ h=> .inl h,hm⟩
 .intro b o hb;obtain⟨hd,y,hy,hr⟩:=h.a b o hb;exact⟨hd,y,by rw[hk _ (B1 hy)];exact hy,hr⟩
 .intro Cv ms hm;obtain⟨c,ty,fr,hc,e⟩:=h.l Cv ms hm;exact⟨c,ty,fr,by rw[hk _ (B1 hc)];exact hc,e⟩
theorem HZ {C:Cx} {S:St} {w:World} (h:WW C S w) (x:Obj):CE C S w C S (e_.u w x):=
 LK h (by simp[e_.u]) (fun Cv hb=>by
  show(w.heap.push x)[Cv]?=_;rw[Array.getElem?_push_lt hb];simp[hb]) ⟨rfl,rfl,rfl⟩
def Cx.U (C:Cx) (b:Nat):Cx:= {C with X:=fun k=>C.X k\/k=b}
theorem m_.ot {C:Cx} {b:Nat}:m_ C (C.U b):=⟨fun _ h=>h,fun _ _=>rfl,fun _ _ h=>h,fun _ _ h=>h,fun _ _ _=>rfl,fun _ h=> .inl h⟩
theorem CE.known {C:Cx} {S:St} {w:World} (h:WW C S w) {b:Nat} (hb:b<w.heap.size):CE C S w (C.U b) S w:=by
 refine⟨.ot,⟨fun k o hk=>?_,h.inj,h.d,h.l,h.g,h.f,fun k hk=>hk.elim (h.i k) (fun e=>e▸hb),fun k hk=> .inl (h.j k hk),fun k ms hk=> .inl (h.m k ms hk)⟩,rfl,fun _ h=>h,Qj _,Qj _,fun _ _ _=>rfl,fun _ _ _=>⟨rfl,fun _ h=>h⟩,fun _ h=> .inl h,
  fun b o hb=> .inl ⟨(h.a b o hb).1,o,hb⟩,fun _ _ h=> .inl h,⟨rfl,rfl,rfl⟩⟩
 obtain⟨hd,y,hy,hr⟩:=h.a k o hk;exact⟨hd,y,hy,hr.g .ot hd (fun _ h=>h)⟩
theorem Kh {C:Cx} {S:St} {w:World} (h:WW C S w) (x:Obj):CE C S w (C.U w.heap.size) S (e_.u w x):=
 (HZ h x).u (CE.known (HZ h x).c (by simp[e_.u]))
theorem CE.I {C:Cx} {S:St} {w:World} (h:WW C S w) (n:Nat):CE C S w C S {w with drawn:=n}:=
 LK h (Qj _) (fun _ _=>rfl) ⟨rfl,rfl,rfl⟩
def e_.g (w:World) (Cv:Nat) (o:Obj):World:= {w with heap:=w.heap.setIfInBounds Cv o}
theorem Bf {w:World} {Cv:Nat} {o:Obj} (k:Nat):(e_.g w Cv o).heap[k]?=if k=Cv then(if Cv<w.heap.size then some o else none)else w.heap[k]?:=by grind [e_.g]
theorem Kg {C C':Cx} {S:St} {w:World} (h:WW C S w) {b:Nat} {o0:CG} (er:S.b.g b=some o0) (e:m_ C C') (hD:∀k,C'.D k->C.D k)
 (hM:C'.M=C.M) (hX:C'.X=C.X) (hG:∀k n,C'.G k n->C.G k n\/k=b) (o:CG) (x:Obj) (hx:OR C' b o x):
 CE C S w C' (S.z b (some o)) (e_.g w (C.a b).b x):=by
 have dq:=fun k=>Jj S b k (some o);have C5:=h.B er;have vB:=(h.a b o0 er).1;have hG':∀k,k≠b->∀n,C'.G k n->C.G k n:=fun k hk n hg=>(hG k n hg).resolve_right hk;have f:∀j oj,(if j=b then some o else S.b.g j)=some oj->∃q,S.b.g j=some q:=by grind
 refine⟨e,⟨?_,?_,?_,?_,?_,?_,fun k hk=>by simpa[e_.g]using h.i k (hX▸hk),fun k hk=>by rw[e.a _ (hD k hk),hX];exact h.j k (hD k hk),fun Cv ms hm=>by rw[hX];exact h.m Cv ms (hM▸hm)⟩,rfl,(DJ S b _).2,Qj _,by simp[e_.g],?_,?_,fun k hk=> .inl (hD k hk),?_,fun _ _ hm=> .inl (hM▸hm),⟨rfl,rfl,rfl⟩⟩
 .intro k ok hk;rw[dq]at hk;split at hk
  .next e'=>subst e';cases hk;exact⟨e.D _ vB,x,by rw[e.a _ vB,Bf];simp[C5],hx⟩
  .next e'=>
   obtain⟨hd,y,hy,hr⟩:=h.a k ok hk;refine⟨e.D _ hd,y,?_,hr.g e hd (hG' k e')⟩;rw[e.a _ hd,Bf,if_neg (fun e''=>e' (h.inj k b ok o0 hk er e''))];exact hy
 .intro k k' ok tk hk iX heq;rw[dq]at hk iX;obtain⟨q,hq⟩:=f k ok hk;obtain⟨q',hq'⟩:=f k' tk iX;rw[e.a _ (h.a k q hq).1,e.a _ (h.a k' q' hq').1]at heq;exact h.inj k k' q q' hq hq' heq
 .exact fun k hk=>h.d k (hD k hk)
 .intro Cv ms hm;rw[hM]at hm;obtain⟨c,ty,fr,hc,e⟩:=h.l Cv ms hm;refine⟨c,ty,fr,?_,e⟩;rw[Bf,if_neg];· exact hc
  intro e';have:=h.g b o0 er;rw[<-e',hm]at this;cases this
 .intro k ok hk;rw[dq]at hk;obtain⟨q,hq⟩:=f k ok hk;rw[hM,e.a _ (h.a k q hq).1];exact h.g k q hq
 .intro k n hg;rcases hG k n hg with hg|rfl
  .exact e.D _ (h.f k n hg)
  .exact e.D _ vB
 .intro Cv _ hn;rw[Bf,if_neg];intro e;exact hn b o0 er (DJ S b _).1 e.symm
 .intro k hd hm;have hk:k≠b:=by rintro rfl;exact hm (DJ S k _).1
  exact⟨by rw[dq,if_neg hk],hG' k hk⟩
 .intro k ok hk;rw[dq]at hk;obtain⟨q,hq⟩:=f k ok hk;exact .inl ⟨(h.a k q hq).1,q,hq⟩
theorem CE.B {C:Cx} {S:St} {w:World} (h:WW C S w) {b:Nat} {o0:CG} (er:S.b.g b=some o0) (o:CG) (x:Obj) (hx:OR C b o x):
 CE C S w C (S.z b (some o)) (e_.g w (C.a b).b x):=
 Kg h er (.g C) (fun _ h=>h) rfl rfl (fun _ _ h=> .inl h) o x hx
theorem CE.O {C:Cx} {S:St} {w:World} (h:WW C S w) (b:Nat):CE C S w C (S.z b none) w:=by
 have dq:=fun k=>Jj S b k none;have f:∀j oj,(S.z b none).b.g j=some oj->S.b.g j=some oj:=by grind
 exact⟨.g C,⟨fun k ok hk=>h.a k ok (f k ok hk),fun k k' ok tk hk iX=>h.inj k k' ok tk (f k ok hk) (f k' tk iX),h.d,h.l,
  fun k ok hk=>h.g k ok (f k ok hk),h.f,h.i,h.j,h.m⟩,rfl,(DJ S b _).2,Qj _,Qj _,fun _ _ _=>rfl,
  fun k _ hm=>⟨by
   have Yh:k≠b:=by rintro rfl;exact hm (DJ S k _).1
   rw[dq,if_neg Yh],fun _ h=>h⟩,fun _ h=> .inl h,
  fun k ok hk=> .inl ⟨(h.a k ok (f k ok hk)).1,ok,f k ok hk⟩,fun _ _ h=> .inl h,⟨rfl,rfl,rfl⟩⟩
def y_ (c:Array Value) (k:Nat):List Value->Array Value
 | []=>c
 |v::vs=>y_ (c.setIfInBounds k v) (k+1) vs
theorem DC (c:Array Value) (k:Nat) (vs:List Value):(y_ c k vs).size=c.size:=by
 induction vs generalizing c k with
 |nil=>rfl
 |cons v vs ih=>simp[y_,ih]
theorem FI:∀(vs:List Value) (c:Array Value) (k:Nat) (pre aI post:List Value),c.toList=pre++aI++post->pre.length=k->aI.length=vs.length->
 (y_ c k vs).toList=pre++vs++post
 | [],c,k,pre,aI,post,h,_,hm=>by
  have:aI=[]:=List.eq_nil_of_length_eq_zero hm;subst this;simpa[y_]using h
 |v::vs,c,k,pre,[],post,_,_,hm=>by simp at hm
 |v::vs,c,k,pre,m::aI,post,h,hk,hm=>by
  have ih:=FI vs (c.setIfInBounds k v) (k+1) (pre++[v]) aI post (by
   rw[Array.toList_setIfInBounds,h];subst hk;simp) (by simp[hk]) (by simpa using hm)
  simpa[y_]using ih
theorem NR {w : World} {Cv : Nat} {x : Obj} (h : w.heap[Cv]? = some x) (f : Obj -> Obj) : w.heap.modify Cv f = w.heap.setIfInBounds Cv (f x) := by
  apply Array.ext_getElem?;intro i;rw [Array.getElem?_modify, Array.getElem?_setIfInBounds];split
  . next e => subst e; rw [h]; simp; rcases Nat.lt_or_ge Cv w.heap.size with h' | h'
              . exact h'
              . rw [Array.getElem?_eq_none h'] at h; cases h
  . rfl
theorem RU {w:World} {Cv off:Nat} {c:Array Value} {e:TypeId} {fr:Nat×Nat} (h:w.heap[Cv]?=some (.cells c e fr)) (v:Value):
 w.setCell ⟨Cv,off,none⟩ v=e_.g w Cv (.cells (c.setIfInBounds off v) e fr):=by
 unfold World.setCell e_.g;rw[NR h];rfl
theorem Me (w:World) (Cv:Nat) (a b:Obj):e_.g (e_.g w Cv a) Cv b=e_.g w Cv b:=by
 unfold e_.g;simp
theorem Vh {w:World} {Cv off:Nat} {c:Array Value} {e:TypeId} {fr:Nat×Nat} (h:w.heap[Cv]?=some (.cells c e fr)) (hf:c.size<=fr.1\/fr.2<=fr.1) (ho:off<c.size):
 w.frozen? ⟨Cv,off,none⟩=false:=by
 unfold World.frozen?;simp only[h];obtain⟨lo,hi⟩:=fr;simp at hf|-;omega
theorem Et {P : Program} : ∀ (vs : List Value) {w : World} {Cv off i : Nat} {c : Array Value} {e : TypeId} {fr : Nat × Nat}, w.heap[Cv]? = some (.cells c e fr) ->
    (c.size <= fr.1 \/ fr.2 <= fr.1) -> off + i + vs.length <= c.size -> (∀ v ∈ vs, v.oneCell' = true) ->
    (storeCells ⟨Cv, off, none⟩ vs i).run P w = .ok () (e_.g w Cv (.cells (y_ c (off + i) vs) e fr))
  | [], w, Cv, off, i, c, e, fr, h, _, _, _ => by
    have : e_.g w Cv (.cells c e fr) = w := by
      unfold e_.g;have : w.heap.setIfInBounds Cv (.cells c e fr) = w.heap := by
        apply Array.ext_getElem?;intro k;rw [Array.getElem?_setIfInBounds];split
        . next e => subst e; rw [h]; simp; rcases Nat.lt_or_ge Cv w.heap.size with h' | h'
                    . exact h'
                    . rw [Array.getElem?_eq_none h'] at h; cases h
        . rfl
      rw [this]
    simp [storeCells, y_, this]
  | v :: vs, w, Cv, off, i, c, e, fr, h, hf, hl, ho => by
    have C5 : off + i < c.size := by simp at hl; omega
    have h1 : (store (⟨Cv, off + i, none⟩ : Addr) v).run P w = .ok () (e_.g w Cv (.cells (c.setIfInBounds (off + i) v) e fr)) := by
      rw [run_store P w _ v _ (ho v (Qh ..)), V7 h];simp only [Array.getElem?_eq_getElem C5, Vh h hf C5];rw [RU h]; rfl
    have sb : Cv < w.heap.size := by
      rcases Nat.lt_or_ge Cv w.heap.size with h' | h'
      . exact h'
      . rw [Array.getElem?_eq_none h'] at h; cases h
    have h2 := Et (P := P) vs (w := e_.g w Cv (.cells (c.setIfInBounds (off + i) v) e fr)) (Cv := Cv) (off := off) (i := i + 1) (c := c.setIfInBounds (off + i) v) (e := e) (fr := fr)
      (by rw [Bf]; simp [sb]) (by simpa using hf) (by simp at hl |-; omega) (fun u hu => ho u (Qg _ hu))
    unfold storeCells;rw [Bx];simp only [Sem.run_bind, h1, Result.andThen_ok, h2, Me];rfl
theorem LW {P:Program} {C:Cx} {S S':St} {w:World} (h:WW C S w) {b off:Nat} {vs:List AV} {xs:List Value} (hv:Wx C vs xs) (hc:j_ vs)
 (e:aT S b off vs=some S'):∃w',(storeCells ⟨(C.a b).b,(C.a b).a+off,none⟩ xs).run P w= .ok () w'/\CE C S w C S' w'/\C.D b:=by
 unfold aT at e;cases hb:S.b.g b with
 |none=>rw[hb]at e;simp[fH]at e
 |some ob=>
  rw[hb]at e;unfold fH at e;split at e
  .next cs t part heq=>
   cases heq;unfold eT at e;split at e
   .next Yg hov=>
    cases e;obtain⟨pre,aI,post,rfl,hp,hm,rfl⟩:=Jl hov;obtain⟨hd,x,hx,hr⟩:=h.a b _ hb;cases hr with
    |J sd ha X2 WS hf jV=>
    rename_i c fr ys
    obtain⟨y,z3,rfl,h1,h4⟩:=AB sd;obtain⟨y1,z2,rfl,h2,h3⟩:=AB h1;obtain⟨p0,q0,Y8,Z4⟩:=ha;have hle:(C.a b).a+off+xs.length<=c.size:=by
     have:=congrArg List.length Y8;simp at this;have e1:=h2.g;have e2:=h3.g;have e3:=hv.g;omega
    have vE:∀u∈xs,u.oneCell'=true:=by
     intro u hu;obtain⟨i,hi⟩:=List.getElem?_of_mem hu;have hil:i<vs.length:=by
      have:=hv.g;rcases Nat.lt_or_ge i xs.length with h'|h'
      .omega
      .rw[List.getElem?_eq_none h']at hi;cases hi
     obtain⟨y',uL,hr⟩:=hv.I (Qi hil);rw[hi]at uL;cases uL;exact hr.tj (hc _ (Ql hil))
    refine⟨_,by simpa using Et (P:=P) xs (i:=0) hx hf (by simpa using hle) vE,?_,hd⟩;have Zx:(y_ c ((C.a b).a+off) xs).toList=(p0++y1)++xs++(z3++q0):=by
     refine FI xs c _ (p0++y1) z2 (z3++q0) (by rw[Y8];simp) ?_ ?_
     .simp[Z4,h2.g,hp]
     .rw[h3.g,hv.g,hm]
    refine CE.B h hb _ _ (.J (vs:=y1++xs++z3) ?_ ⟨p0,q0,by rw[Zx];simp,Z4⟩ (by rw[DC];exact X2) ?_ (by rw[DC];exact hf) ?_)
    .exact(h2.u hv).u h4
    .exact(WS.sub.1.sub.1.append hc).append WS.sub.2
    .intro uf;obtain⟨a1,a2,a3⟩:=jV uf;refine⟨a1,?_,a3⟩;rw[DC,<-a2];simp[hm]
   .cases e
  .cases e
theorem TB {E:c_} {P:Program} (he:Wd E P) {C:Cx} {S S':St} {w:World} (h:WW C S w) {t:TypeId} {n:Nat} (hn:an E t=some n) {v p:AV} {x px:Value}
 (hv:VR C v x) (hp:VR C p px) (e:dH n S v p=some S'):∃a w',px= .pointer (some a)/\(Go.storeVar t a x).run P w= .ok () w'/\CE C S w C S' w':=by
 unfold dH at e;split at e
 .next b off=>
  cases hb:(Nat.beq (Xu v.g) n&& !v.u)with
  |false=>rw[hb]at e;cases e
  |true=>
   rw[hb]at e;simp only[Qf,Bool.not_eq_true']at hb;have hlen:v.g.length=n:=by have:=Qb hb.1;simpa using this
   cases hp with
   |aG hd=>
    obtain⟨w',hw,ht,_⟩:=LW (P:=P) h hv.u (hv.A hb.2) e;refine⟨_,w',U,?_,ht⟩;have:x.cells.size=n:=by
     have:=hv.u.g;simpa[hlen]using this
    simp[Go.storeVar,A1 he hn,this];exact hw
 .cases e
theorem MO {C:Cx} {S:St} {w:World} (h:WW C S w) {b:Nat} {o0:CG} (er:S.b.g b=some o0) (o:CG) (x:Obj) (base sz:Nat)
 (hx:OR (C.A S.a ⟨(C.a b).b,base,sz⟩) S.a o x):
 CE C S w (C.A S.a ⟨(C.a b).b,base,sz⟩) ((S.z b none).g o) (e_.g w (C.a b).b x):=by
 have Zw:¬C.D S.a:=fun hd=>Nat.lt_irrefl _ (h.d _ hd);have vB:=(h.a b o0 er).1;have eN:b≠S.a:=fun e=>Zw (e▸vB);have e:=m_.A (C:=C) (p:=⟨(C.a b).b,base,sz⟩) Zw;have C5:=h.B er;have dq:∀k,((S.z b none).g o).b.g k=if k=S.a then some o else if k=b then none else S.b.g k:=by
  intro k;rw[Kb];show(if k=S.a then _ else _)=_;split
  .rfl
  .exact Jj _ _ _ _
 have hold:∀k ok,k≠S.a->((S.z b none).g o).b.g k=some ok->k≠b/\S.b.g k=some ok:=by
  intro k ok hk hg;rw[dq,if_neg hk]at hg;split at hg
  .cases hg
  .next h'=>exact⟨h',hg⟩
 have dr:aZ S ((S.z b none).g o).d b:=(DJ S b none).1;refine⟨e,⟨?_,?_,?_,?_,?_,?_,?_,?_,fun Cv ms hm=> .inl (h.m Cv ms hm)⟩,rfl,(DJ S b none).2,Nat.le_succ _,by simp[e_.g],?_,?_,?_,?_,fun _ _ h=> .inl h,⟨rfl,rfl,rfl⟩⟩
 .intro k ok hk;by_cases mO:k=S.a
  .subst mO;rw[dq,if_pos rfl]at hk;cases hk;exact⟨.inr U,x,by rw[Bf];simp[Cx.A,C5],hx⟩
  .obtain⟨hkb,hg⟩:=hold k ok mO hk;obtain⟨hd,y,hy,hr⟩:=h.a k ok hg;refine⟨.inl hd,y,?_,hr.g e hd (fun _ h=>h)⟩;simp only[Cx.A,mO,if_false];rw[Bf,if_neg (fun e'=>hkb (h.inj k b ok o0 hg er e'))];exact hy
 .intro k k' ok tk hk iX heq;by_cases h1:k=S.a
  .by_cases h2:k'=S.a
   .rw[h1,h2]
   .exfalso;obtain⟨hkb,hg⟩:=hold k' tk h2 iX;subst h1;simp only[Cx.A,if_true,h2,if_false]at heq;exact hkb (h.inj k' b tk o0 hg er heq.symm)
  .obtain⟨hkb,hg⟩:=hold k ok h1 hk;by_cases h2:k'=S.a
   .exfalso;subst h2;simp only[Cx.A,if_true,h1,if_false]at heq;exact hkb (h.inj k b ok o0 hg er heq)
   .obtain⟨_,kB⟩:=hold k' tk h2 iX;simp only[Cx.A,h1,h2,if_false]at heq;exact h.inj k k' ok tk hg kB heq
 .rintro k (hd|rfl)
  .exact Nat.lt_succ_of_lt (h.d k hd)
  .exact Nat.lt_succ_self _
 .intro Cv ms hm;obtain⟨c,ty,fr,hc,e'⟩:=h.l Cv ms hm;refine⟨c,ty,fr,?_,e'⟩;rw[Bf,if_neg];· exact hc
  intro e'';have zA:C.M Cv=some ms:=hm;have:=h.g b o0 er;rw[<-e'',zA]at this;cases this
 .intro k ok hk;by_cases mO:k=S.a
  .subst mO;simpa[Cx.A]using h.g b o0 er
  .obtain⟨_,hg⟩:=hold k ok mO hk;simpa[Cx.A,mO]using h.g k ok hg
 .exact fun b n hg=> .inl (h.f b n hg)
 .rintro k (hk|rfl)
  .simpa[e_.g]using h.i k hk
  .simpa[e_.g]using C5
 .rintro k (hd|rfl)
  .have:k≠S.a:=fun e'=>Nat.lt_irrefl _ (e'▸h.d k hd);exact .inl (by simpa[Cx.A,this]using h.j k hd)
  .exact .inr (by simp[Cx.A])
 .intro Cv _ hn;rw[Bf,if_neg];intro e';exact hn b o0 er dr e'.symm
 .intro k hd hm;have mO:k≠S.a:=by rintro rfl;exact Zw hd
  have hkb:k≠b:=by rintro rfl;exact hm dr
  exact⟨by rw[dq,if_neg mO,if_neg hkb],fun _ h=>h⟩
 .rintro k (hd|rfl)
  .exact .inl hd
  .exact .inr (Qj _)
 .intro k ok hk;by_cases mO:k=S.a
  .subst mO;exact .inr (.inr ⟨b,o0,er,dr,by simp[Cx.A]⟩)
  .obtain⟨_,hg⟩:=hold k ok mO hk;exact .inl ⟨(h.a k ok hg).1,ok,hg⟩
end Am
