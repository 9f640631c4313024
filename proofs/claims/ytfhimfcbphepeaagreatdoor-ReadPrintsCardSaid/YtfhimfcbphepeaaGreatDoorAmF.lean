/- The abstract machine: rules for calls with unknown arguments. -/
import Derived.Test.YtfhimfcbphepeaaGreatDoorAmE
set_option linter.unusedSectionVars false
set_option linter.unusedVariables false
set_option linter.unusedSimpArgs false
namespace Am
open Go
section
variable (E : a_)
def nU (o:Oper) (fr:Fr) (T:Tr AV) (s:St) (v:AV) (s':St):Prop:=
 ∃N,∀n,N<=n->∀k:td,(Z0 E (ZW E o.type o.op) k).run (ev E n) fr T s=k.run (ev E n) fr T v s'
def Cj (f:FuncId) (args:List AV) (s:St) (v:AV):Prop:=∃N,∀n,N<=n->Y8 E (ev E n) f args s=some (.same v)
end
section
variable {E : a_} {fr : Fr} {T : Tr AV} {s : St} {Q : dJ -> Prop}
theorem Ea (n:Nat) (c:Code):ev E (n+1) c=(ZK E c).run (ev E n):=rfl
noncomputable def mQ (d:Option Nat) (v:AV) (T:Tr AV):Tr AV:=match d with
 |some d=>T.A d (some v)
 |none=>T
def YW (nt:Nat):Option Nat->Bool
 |some d=>Nat.blt d nt
 |none=>true
theorem BW {dst:Option Nat} {k:Cl} (ev:Ev) (v:AV) (hd:YW fr.nt dst=true):(bD dst k).run ev fr T v s=k.run ev fr (mQ dst v T) s:=by
 cases dst with
 |none=>rfl
 |some d=>
  show(bif Nat.blt d fr.nt then k.run ev fr (Tr.B (some v) (r_ d) T) s else .J)=_;have:Nat.blt d fr.nt=true:=hd;rw[this];rfl
theorem FD {all:List Oper} {g:Nat×Bool} {oj:Oper} {d:Nat} {b:Bool} (hj:pa all g.1=some oj) (hd:oj.dst=some d) (hv:T.u d=some (.bool b)):Zs all g T=some (bif g.2 then b else !b):=by
 unfold Zs fw;rw[hj];simp only[Qe,hd];show iJ g.2 (T.u d)=_;rw[hv];rfl
theorem Gf {o:Oper} {x:Tr AV->Option AV} {f:Tr AV->St->Option AV} {v:AV} (aY:ZW E o.type o.op= .Z x f) (hv:f T s=some v):nU E o fr T s v s:=⟨0,fun n _ k=>by
 rw[aY];show ZR (fun v=>k.run (ev E n) fr T v s) (f T s)=_;rw[hv];rfl⟩
theorem E6 {o:Oper} {b:Bool} {x:Tr AV->Option AV} {f:Tr AV->St->Option (AV×St)} {v:AV} {s':St} (aY:ZW E o.type o.op= .I_ b x f) (hv:f T s=some (v,s')):nU E o fr T s v s':=⟨0,fun n _ k=>by
 rw[aY];show rU (k.run (ev E n) fr T) (f T s)=_;rw[hv];rfl⟩
theorem Gg {o:Oper} {f:Tr AV->Option Mk} {ob:Cv} {g:Nat->AV} (aY:ZW E o.type o.op= .make f) (hv:f T=some (.J ob g)):nU E o fr T s (g s.a) (s.A ob):=⟨0,fun n _ k=>by
 rw[aY];show rb s (k.run (ev E n) fr T) (f T)=_;rw[hv];rfl⟩
theorem Yb {o:Oper} {F:Tr AV->St->Option (FuncId×List AV)} {f:FuncId} {args:List AV} {v:AV} (aY:ZW E o.type o.op= .H_ F) (hv:F T s=some (f,args)) (hc:Cj E f args s v):nU E o fr T s v s:=by
 obtain⟨N,hc⟩:=hc;refine⟨N,fun n hn k=>?_⟩;rw[aY];show ZB fr T s (k.run (ev E n) fr T) ((F T s).bind fun p=>Y8 E (ev E n) p.1 p.2 s)=_;rw[hv];simp only[Qe];rw[hc n hn];rfl
theorem UV {o:Oper} {F:Tr AV->Option AV} {A:Tr AV->Option (List AV)} {f:FuncId} {first captured args:List AV} {v:AV} (aY:ZW E o.type o.op= .dN F A) (hF:F T=some (.G' (.func f) first captured)) (hA:A T=some args)
 (hb:CI E f=true) (hc:Cj E f (first++args++captured) s v):nU E o fr T s v s:=by
 obtain⟨N,hc⟩:=hc;refine⟨N,fun n hn k=>?_⟩;rw[aY];show ZB fr T s (k.run (ev E n) fr T) ((F T).bind fun g=>(A T).bind fun args=>aj E (ev E n) args s g)=_;rw[hF,hA];simp only[Qe,aj,hb,cond_true];rw[hc n hn];rfl
theorem Cj.ay {f:FuncId} {args:List AV} {v:AV} (h:E.d f args=some v):Cj E f args s v:=⟨0,fun n _=>by unfold Y8;rw[h]⟩
def jJ:AV->Bool
 | .bool _=>true
 | .int _ _=>true
 | .J _=>true
 |_=>false
theorem Fw {E:a_} {f:FuncId} {v:AV} {s st:St} (hk:∀n w,CW w n 40 v []=some (v,[])) (hp:∀b,v≠ .Z b 0):frozen E f s v st=some (v,st):=by
 have h3:yf st v=CW st 0 40 v []:=by
  unfold yf;split
  .next b=>exact absurd rfl (hp b)
  .rfl
 unfold frozen YE pg;split
 .rfl
 .split
  .simp only[hk,Qe,r1]
  .rfl
 .simp only[h3,hk,Qe,r1]
 .simp only[hk,Qe,r1]
end
noncomputable def envK (P:Program) (nt nf mask:Nat) (K:FuncId->List AV->Option AV):a_:= {rv P nt nf mask []with d:=K}
def CM (P:Program) (f:FuncId) (args:List AV) (v:AV):Prop:=
 ∀(C:Cx) (S:St) (w:World) (xs:Array Value) (c:Frame) (cs:List Frame),Y0 C args xs.toList->YR C S w->k9 P (lone (Frame.enter P f xs .normal) (c::cs) w) c cs C S w (.same v)
def Cx.u (w:World):Cx:=
 ⟨fun _=>⟨0,0,0⟩,fun Cr=>match w.heap[Cr]? with
  |some (.cells c _ _)=>some c.toList
  |_=>none,fun _=>False,fun _ _=>0,fun _ _=>False,fun k=>k<w.heap.size⟩
theorem W3 (w:World):YR (Cx.u w) S0 w:=by
 have bG:∀b o,¬S0.heap.u b=some o:=fun b o hb=>by rw[show S0.heap= .J from rfl,AX]at hb;cases hb
 have hM:∀Cr ms,(Cx.u w).M Cr=some ms->∃c e fr,w.heap[Cr]?=some (.cells c e fr)/\c.toList=ms:=by
  intro Cr ms hm;simp only[Cx.u]at hm;split at hm
  .next c e fr hx=>cases hm;exact⟨c,e,fr,hx,rfl⟩
  .cases hm
 refine⟨fun b o hb=>absurd hb (bG b o),fun b _ o _ hb=>absurd hb (bG b o),fun b hb=>hb.elim,hM,fun b o hb=>absurd hb (bG b o),fun b n hb=>hb.elim,fun _ h=>h,fun b hb=>hb.elim,fun Cr ms hm=>?_⟩;obtain⟨c,e,fr,hx,_⟩:=hM Cr ms hm;exact B0 hx
section
variable {E : a_} {fr : Fr} {T : Tr AV} {s : St} {o : Oper}
theorem zX {op:BinOp} {t:TypeId} {x y:Operand} {k:IntKind} (hu:CS E t=some (.int k)) {f:IntKind->Int->Int->Option AV} (hf:rL op=some f):lz E op t x y=cu E (tu f) x y:=by
 unfold lz;rw[hu];cases op<;>first|(exfalso;simp[rL]at hf;done)|(simp only[hf])
theorem MI {n:Int} (h0: -9223372036854775808<=n) (h1:n<9223372036854775808):IntKind.i64.wrap n=n:=Go.IntWalk.i64_in _ (by omega)
theorem Gk {n:Int} (h0: -9223372036854775808<=n) (h1:n<9223372036854775808):dO .i64 n= .int .i64 n:=by
 unfold dO;rw[MI h0 h1]
theorem FX {α:Type} {l:List α} {a n:Nat} (h:a+n<=l.length):y_ l a n=some ((l.drop a).take n):=by
 have h1:∀(a:Nat) (l:List α),a<=l.length->ab a l=some (l.drop a):=by
  intro a;induction a with
  |zero=>intro l _;rfl
  |succ a ih=>
   intro l hl;cases l with
   |nil=>simp at hl
   |cons b l=>exact ih l (by simpa using hl)
 have h2:∀(n:Nat) (l:List α),n<=l.length->o_ n l=some (l.take n):=by
  intro n;induction n with
  |zero=>intro l _;simp;rfl
  |succ n ih=>
   intro l hl;cases l with
   |nil=>simp at hl
   |cons b l=>
    show kW b (o_ n l)=_;rw[ih l (by simpa using hl)];rfl
 unfold y_;rw[h1 a l (by omega)];exact h2 n _ (by simp;omega)
theorem Eg {d m n:Nat} {k:IntKind} (h:n<=m):YB d m (some (.int k (n:Nat)))=some n:=by
 have hk:Ze (.int k (n:Nat))=some n:=rfl;have hb:Nat.ble n m=true:=Qd h;simp only[YB,hk,Qe,hb,cond_true]
theorem LV {x:Operand} {v:AV} (h:Ch E x T=some v):Zg E (some x) T=some (some v):=by simp only[Zg,h,Qe]
theorem Uj {x:Operand} {l:List Operand} {v:AV} {vs:List AV} (h:Ch E x T=some v) (t:CV E l T=some vs):CV E (x::l) T=some (v::vs):=by simp only[CV,h,t,Qe]
theorem RK {c:Call} {f:FuncId} {args:List AV} {v:AV} (ho:o.op= .call c) (hc:c.callee= .value (.func f)) (hb:CI E f=true) (ha:CV E c.args.toList T=some args) (h:Cj E f args s v):nU E o fr T s v s:=
 Yb (F:=fun T _=>(CV E c.args.toList T).bind fun args=>some (f,args)) (by
  rw[ho];show YC E o.type c=_;unfold YC;rw[hc];simp only[hb,cond_true]) (by simp only[ha,Qe]) h
theorem Qz {c:Call} {t:Nat} {f:FuncId} {first captured args:List AV} {v:AV} (ho:o.op= .call c) (hc:c.callee= .value (.tmp t)) (hf:T.u t=some (.G' (.func f) first captured)) (hb:CI E f=true)
 (ha:CV E c.args.toList T=some args) (h:Cj E f (first++args++captured) s v):nU E o fr T s v s:=
 UV (F:=Ch E (.tmp t)) (A:=CV E c.args.toList) (by
  rw[ho];show YC E o.type c=_;unfold YC;rw[hc]) hf ha hb h
end
abbrev Sl:=List (Nat×AV)
def e_:Nat->Sl->Option AV
 |_,[]=>none
 |k,p::l=>bif Nat.beq k p.1 then some p.2 else e_ k l
def k8 (l:Sl) (T:Tr AV):Prop:=∀k v,e_ k l=some v->T.u k=some v
theorem k8.put {l:Sl} {T:Tr AV} (h:k8 l T) (d:Nat) (v:AV):k8 ((d,v)::l) (T.A d (some v)):=by
 intro k u hk;rw[Ap];unfold e_ at hk;cases hb:Nat.beq k d with
 |true=>grind [Qb]
 |false=>
  rw[hb]at hk;have:=Nat.ne_of_beq_eq_false hb;rw[if_neg this];exact h k u hk
theorem k8.nil (T:Tr AV):k8 [] T:=fun _ _ h=>by cases h
theorem k8.sub {l l':Sl} {T:Tr AV} (h:k8 l T) (hs:∀p∈l',e_ p.1 l=some p.2):k8 l' T:=by
 intro k v hk;have:∃p∈l',p.1=k/\p.2=v:=by
  clear hs;induction l' with
  |nil=>cases hk
  |cons p l' ih=>grind [Option.some.injEq,e_,Qb]
 obtain⟨p,hp,rfl,rfl⟩:=this;exact h _ _ (hs p hp)
noncomputable def Cg:Operand->Sl->Option AV
 | .tmp t,l=>e_ t l
 | .const v,_=>qV v
 | .func f,_=>some (.G' (.func f) [] [])
 | .global _,_=>none
theorem Ae {E:a_} {l:Sl} {T:Tr AV} (h:k8 l T) {x:Operand} {v:AV} (hx:Cg x l=some v):Ch E x T=some v:=by
 cases x with
 |tmp t=>exact h t v hx
 |const c=>
  simp only[Cg]at hx;simp only[Ch];rw[hx];rfl
 |func f=>exact hx
 |global g=>cases hx
noncomputable def Za:List Operand->Sl->Option (List AV)
 | [],_=>some []
 |x::xs,l=>match Cg x l with
  |some v=>match Za xs l with
   |some vs=>some (v::vs)
   |none=>none
  |none=>none
theorem AW {E:a_} {l:Sl} {T:Tr AV} (h:k8 l T):∀ {xs:List Operand} {vs:List AV},Za xs l=some vs->CV E xs T=some vs
 | [],vs,hx=>hx
 |x::xs,vs,hx=>by
  unfold Za at hx;split at hx
  .next v hv=>
   split at hx
   .next us hus=>cases hx;exact Uj (Ae h hv) (AW h hus)
   .cases hx
  .cases hx
section
variable (E : a_)
def AtEx (KP:AV->Sl->St->Prop) (K:Sl->St->Prop) (ex:Ex) (l:Sl) (s:St):Prop:=match ex with
 | .J=>K l s
 | .O v=>KP v l s
 |_=>False
def CC (KP:AV->Sl->St->Prop) (all ops:List Oper) (fr:Fr) (l:Sl) (s:St) (K:Sl->St->Prop):Prop:=
 ∀T,k8 l T->∃N ex l' T' s',AtEx KP K ex l' s'/\k8 l' T'/\∀n,N<=n->(cy E all ops).run (ev E n) fr T s= .one ⟨ex,fr,T',s'⟩
def CA (c:Code) (fr:Fr) (l:Sl) (s:St) (Q:Ex->Fr->Sl->St->Prop):Prop:=
 ∀T,k8 l T->∃N ex ZN l' T' s',Q ex ZN l' s'/\k8 l' T'/\∀n,N<=n->(ZK E c).run (ev E n) fr T s= .one ⟨ex,ZN,T',s'⟩
def ZU (o:Oper) (fr:Fr) (l:Sl) (s:St) (v:AV) (s':St):Prop:=∀T,k8 l T->nU E o fr T s v s'
end
section
variable {E : a_} {fr : Fr} {l : Sl} {s : St} {all rest : List Oper} {o : Oper}
theorem CC.done {KP:AV->Sl->St->Prop} {K:Sl->St->Prop} (h:K l s):CC E KP all [] fr l s K:=fun T hT=>⟨0,.J,l,T,s,h,hT,fun _ _=>rfl⟩
theorem CC.op {KP:AV->Sl->St->Prop} {K:Sl->St->Prop} {v:AV} {s':St} {d:Nat} (ho:ZU E o fr l s v s') (hg:o.guard=none) (hd:o.dst=some d) (C8:Nat.blt d fr.nt=true) (h:CC E KP all rest fr ((d,v)::l) s' K):CC E KP all (o::rest) fr l s K:=by
 intro T hT;obtain⟨N,ho⟩:=ho T hT;obtain⟨M,ex,l',T',s2,hk,dU,hr⟩:=h _ (hT.put d v);refine⟨max N M,ex,l',T',s2,hk,dU,fun n hn=>?_⟩;show(da E all o (bD o.dst (cy E all rest))).run (ev E n) fr T s=_;unfold da q_;rw[hg];simp only;rw[ho n (by omega),BW _ _ (by rw[hd];exact C8),hd];exact hr n (by omega)
theorem HU {KP:AV->Sl->St->Prop} {K:Sl->St->Prop} {v:AV} {s':St} (ho:ZU E o fr l s v s') (hg:o.guard=none) (hd:o.dst=none) (h:CC E KP all rest fr l s' K):CC E KP all (o::rest) fr l s K:=by
 intro T hT;obtain⟨N,ho⟩:=ho T hT;obtain⟨M,ex,l',T',s2,hk,dU,hr⟩:=h _ hT;refine⟨max N M,ex,l',T',s2,hk,dU,fun n hn=>?_⟩;show(da E all o (bD o.dst (cy E all rest))).run (ev E n) fr T s=_;unfold da q_;rw[hg];simp only;rw[ho n (by omega),BW _ _ (by rw[hd];rfl),hd];exact hr n (by omega)
theorem CC.go {KP:AV->Sl->St->Prop} {K:Sl->St->Prop} {v:AV} {s':St} {d j e:Nat} {w b:Bool} {oj:Oper} (hg:o.guard=some (j,w)) (hj:pa all j=some oj) (he:oj.dst=some e) (hl:e_ e l=some (.bool b)) (hb:b=w)
 (ho:ZU E o fr l s v s') (hd:o.dst=some d) (C8:Nat.blt d fr.nt=true) (h:CC E KP all rest fr ((d,v)::l) s' K):CC E KP all (o::rest) fr l s K:=by
 intro T hT;obtain⟨N,ho⟩:=ho T hT;obtain⟨M,ex,l',T',s2,hk,dU,hr⟩:=h _ (hT.put d v);refine⟨max N M,ex,l',T',s2,hk,dU,fun n hn=>?_⟩;show(da E all o (bD o.dst (cy E all rest))).run (ev E n) fr T s=_;unfold da q_;rw[hg];simp only;rw[FD (g:=(j,w)) hj he (hT e _ hl)];have:(bif w then b else !b)=true:=by rw[hb];cases w<;>rfl
 rw[this];simp only[gZ,cond_true];rw[ho n (by omega),BW _ _ (by rw[hd];exact C8),hd];exact hr n (by omega)
theorem KZ {KP:AV->Sl->St->Prop} {K:Sl->St->Prop} {d j e:Nat} {w b:Bool} {oj:Oper} (hg:o.guard=some (j,w)) (hj:pa all j=some oj) (he:oj.dst=some e) (hl:e_ e l=some (.bool b)) (hb:b= !w)
 (hd:o.dst=some d) (C8:Nat.blt d fr.nt=true) (h:CC E KP all rest fr ((d,.O [])::l) s K):CC E KP all (o::rest) fr l s K:=by
 intro T hT;obtain⟨M,ex,l',T',s2,hk,dU,hr⟩:=h _ (hT.put d (.O []));refine⟨M,ex,l',T',s2,hk,dU,fun n hn=>?_⟩;show(da E all o (bD o.dst (cy E all rest))).run (ev E n) fr T s=_;unfold da q_;rw[hg];simp only;rw[FD (g:=(j,w)) hj he (hT e _ hl)];have:(bif w then b else !b)=false:=by rw[hb];cases w<;>rfl
 rw[this];simp only[gZ,cond_false];rw[BW _ _ (by rw[hd];exact C8),hd];exact hr n hn
variable {Q : Ex -> Fr -> Sl -> St -> Prop}
theorem CA.sub {c:Code} {l':Sl} (h:CA E c fr l' s Q) (hs:∀p∈l',e_ p.1 l=some p.2):CA E c fr l s Q:=fun T hT=>h T (hT.sub hs)
theorem HY {k:Nat} {ops:Array Oper} (h:CC E (fun v l s=>Q (.O v) fr l s) ops.toList ops.toList fr l s (Q .J fr)):CA E (.region k ops false) fr l s Q:=fun T hT=>
 let⟨N,ex,l',T',s',h1,h2,h3⟩:=h T hT;⟨N,ex,fr,l',T',s',(match ex,h1 with
  | .J,h1=>h1
  | .O _,h1=>h1),h2,h3⟩
abbrev wX (E:a_) (b:Code) (Q:Ex->Fr->Sl->St->Prop) (ex:Ex) (fr:Fr) (l:Sl) (s:St):Prop:=match ex with
 | .J=>CA E b fr l s Q
 |ex=>Q ex fr l s
theorem BT {a b:Code} (h:CA E a fr l s (wX E b Q)):CA E (.seq a b) fr l s Q:=by
 intro T hT;obtain⟨N,ex,ZN,l',T',s',hq,dU,hr⟩:=h T hT;unfold wX at hq;cases ex with
 |J=>
  obtain⟨M,tV,ic,l2,T2,s2,np,hT2,tO⟩:=hq T' dU;refine⟨max N M,tV,ic,l2,T2,s2,np,hT2,fun n hn=>?_⟩;show(f_.u ((ZK E a).run (ev E n) fr T s) (oP ((ZK E b).run (ev E n))))=_;rw[hr n (by omega)];exact tO n (by omega)
 |_=>
  refine⟨N,_,ZN,l',T',s',hq,dU,fun n hn=>?_⟩;show(f_.u ((ZK E a).run (ev E n) fr T s) (oP ((ZK E b).run (ev E n))))=_;rw[hr n hn];rfl
theorem Hi {k:Nat} {ops:Array Oper} {b:Code} (h:CC E (fun v l s=>Q (.O v) fr l s) ops.toList ops.toList fr l s fun l s=>CA E b fr l s Q):CA E (.seq (.region k ops false) b) fr l s Q:=BT (HY h)
theorem HZ {x:Operand} {a b:Code} {t:Bool} (hx:Cg x l=some (.bool t)) (h1:t=true->CA E a fr l s Q) (h0:t=false->CA E b fr l s Q):CA E (.cond x a b) fr l s Q:=by
 intro T hT;cases t with
 |true=>
  obtain⟨N,ex,ZN,l',T',s',hq,dU,hr⟩:=h1 rfl T hT;refine⟨N,ex,ZN,l',T',s',hq,dU,fun n hn=>?_⟩;show kt ((ZK E a).run (ev E n)) ((ZK E b).run (ev E n)) fr T s (Ch E x T)=_;rw[Ae hT hx];exact hr n hn
 |false=>
  obtain⟨N,ex,ZN,l',T',s',hq,dU,hr⟩:=h0 rfl T hT;refine⟨N,ex,ZN,l',T',s',hq,dU,fun n hn=>?_⟩;show kt ((ZK E a).run (ev E n)) ((ZK E b).run (ev E n)) fr T s (Ch E x T)=_;rw[Ae hT hx];exact hr n hn
abbrev pW (id:Nat) (Q:Ex->Fr->Sl->St->Prop) (ex:Ex) (fr:Fr) (l:Sl) (s:St):Prop:=match ex with
 | .G' i=>bif Nat.beq i id then Q .J fr l s else Q (.G' i) fr l s
 |ex=>Q ex fr l s
theorem CA.block {id:Nat} {b:Code} (h:CA E b fr l s (pW id Q)):CA E (.block id b) fr l s Q:=by
 intro T hT;obtain⟨N,ex,ZN,l',T',s',hq,dU,hr⟩:=h T hT;unfold pW at hq;cases ex with
 |G' i=>
  simp only at hq;cases hb:Nat.beq i id with
  |true=>
   rw[hb]at hq;refine⟨N,.J,ZN,l',T',s',hq,dU,fun n hn=>?_⟩;show(f_.u ((ZK E b).run (ev E n) fr T s) (fA id))=_;rw[hr n hn];simp only[f_.u,fA,hb,cond_true]
  |false=>
   rw[hb]at hq;refine⟨N,.G' i,ZN,l',T',s',hq,dU,fun n hn=>?_⟩;show(f_.u ((ZK E b).run (ev E n) fr T s) (fA id))=_;rw[hr n hn];simp only[f_.u,fA,hb,cond_false]
 |_=>
  refine⟨N,_,ZN,l',T',s',hq,dU,fun n hn=>?_⟩;show(f_.u ((ZK E b).run (ev E n) fr T s) (fA id))=_;rw[hr n hn];rfl
theorem Gi (h:Q .J fr l s):CA E .skip fr l s Q:=fun T hT=>⟨0,_,fr,l,T,s,h,hT,fun _ _=>rfl⟩
theorem QB {id:Nat} (h:Q (.G' id) fr l s):CA E (.exit id) fr l s Q:=fun T hT=>⟨0,_,fr,l,T,s,h,hT,fun _ _=>rfl⟩
theorem AA (h:Q .Z fr l s):CA E .ret fr l s Q:=fun T hT=>⟨0,_,fr,l,T,s,h,hT,fun _ _=>rfl⟩
theorem A3 {b:Code} (h:CA E b fr l s (wX E (.loop b) Q)):CA E (.loop b) fr l s Q:=by
 intro T hT;obtain⟨N,ex,ZN,l',T',s',hq,dU,hr⟩:=h T hT;unfold wX at hq;cases ex with
 |J=>
  obtain⟨M,tV,ic,l2,T2,s2,np,hT2,tO⟩:=hq T' dU;refine⟨max N (M+1),tV,ic,l2,T2,s2,np,hT2,fun n hn=>?_⟩;obtain⟨m,rfl⟩:∃m,n=m+1:=⟨n-1,by omega⟩
  show(f_.u ((ZK E b).run (ev E (m+1)) fr T s) (oP (ev E (m+1) (.loop b))))=_;rw[hr (m+1) (by omega)];exact tO m (by omega)
 |_=>
  refine⟨N,_,ZN,l',T',s',hq,dU,fun n hn=>?_⟩;show(f_.u ((ZK E b).run (ev E n) fr T s) (oP (ev E n (.loop b))))=_;rw[hr n hn];rfl
theorem CA.mono {c:Code} {Q':Ex->Fr->Sl->St->Prop} (h:CA E c fr l s Q) (hq:∀ex fr l s,Q ex fr l s->Q' ex fr l s):CA E c fr l s Q':=fun T hT=>
 let⟨N,ex,ZN,l',T',s',h1,h2,h3⟩:=h T hT;⟨N,ex,ZN,l',T',s',hq _ _ _ _ h1,h2,h3⟩
def Zm (E:a_) (o:Oper) (l:Sl) (v:AV):Prop:=
 aQ (ZW E o.type o.op)=true/\∀T,k8 l T->ZH (ZW E o.type o.op) T= .J/\∀(ev:Ev) (fr:Fr) (s:St) (k:td),(Z0 E (ZW E o.type o.op) k).run ev fr T s=k.run ev fr T v s
theorem Yi {v:AV} (h:Zm E o l v):ZU E o fr l s v s:=fun T hT=>⟨0,fun n _ k=>(h.2 T hT).2 (ev E n) fr s k⟩
theorem A7 {f:Tr AV->Option AV} {v:AV} (aY:ZW E o.type o.op= .O f) (hv:∀T,k8 l T->f T=some v):Zm E o l v:=by
 refine⟨by rw[aY];rfl,fun T hT=>⟨by rw[aY];rfl,fun ev fr s k=>?_⟩⟩;rw[aY];show ZR (fun v=>k.run ev fr T v s) (f T)=_;rw[hv T hT];rfl
theorem NS {x:Tr AV->Option AV} {f:Tr AV->St->Option AV} {v:AV} (aY:ZW E o.type o.op= .Z x f) (hx:∀T,k8 l T->dk (x T)=none) (hv:∀T s,k8 l T->f T s=some v):Zm E o l v:=by
 refine⟨by rw[aY];rfl,fun T hT=>⟨by rw[aY];show lG (dk (x T))=_;rw[hx T hT];rfl,fun ev fr s k=>?_⟩⟩;rw[aY];show ZR (fun v=>k.run ev fr T v s) (f T s)=_;rw[hv T s hT];rfl
theorem TC {x:Operand} {v:AV} (ho:o.op= .move x) (hx:Cg x l=some v):Zm E o l v:=A7 (f:=Ch E x) (by rw[ho];rfl) fun _ hT=>Ae hT hx
theorem Zm.assign {x:Operand} {v:AV} (ho:o.op= .assign x) (hx:Cg x l=some v):Zm E o l v:=A7 (f:=Ch E x) (by rw[ho];rfl) fun _ hT=>Ae hT hx
theorem Q1 {c x y:Operand} {v:AV} {b:Bool} (ho:o.op= .pick c x y) (hc:Cg c l=some (.bool b)) (hb:b=true) (hx:Cg x l=some v):Zm E o l v:=
 A7 (f:=fun T=>(Ch E c T).bind (pK (Ch E x) (Ch E y) T)) (by rw[ho];rfl) fun _ hT=>by subst hb;simp only[Ae hT hc,Qe,pK,cond_true,Ae hT hx]
theorem Q3 {c x y:Operand} {v:AV} {b:Bool} (ho:o.op= .pick c x y) (hc:Cg c l=some (.bool b)) (hb:b=false) (hy:Cg y l=some v):Zm E o l v:=
 A7 (f:=fun T=>(Ch E c T).bind (pK (Ch E x) (Ch E y) T)) (by rw[ho];rfl) fun _ hT=>by subst hb;simp only[Ae hT hc,Qe,pK,cond_false,Ae hT hy]
theorem Yc {t:TypeId} {x:Operand} {b:Bool} (ho:o.op= .unOp .not t x) (hx:Cg x l=some (.bool b)):Zm E o l (.bool (!b)):=
 A7 (f:=fun T=>(Ch E x T).bind (xW .not)) (by rw[ho];rfl) fun _ hT=>by simp only[Ae hT hx,Qe,xW]
theorem Dv {op:BinOp} {t yt:TypeId} {x y:Operand} {k:IntKind} {a b:Int} {v:AV} {f:IntKind->Int->Int->Option AV} (ho:o.op= .binOp op t x y yt) (hu:CS E t=some (.int k)) (hf:rL op=some f)
 (hx:Cg x l=some (.int k a)) (hy:Cg y l=some (.int k b)) (hv:f k a b=some v):Zm E o l v:=
 A7 (f:=fun T=>(Ch E x T).bind fun a=>(Ch E y T).bind fun b=>Am.tu f a b) (by rw[ho];exact zX hu hf) fun _ hT=>by simp only[Ae hT hx,Ae hT hy,Qe,Am.tu,if_true,hv]
theorem Zm.add {t yt:TypeId} {x y:Operand} {a b:Int} (ho:o.op= .binOp .add t x y yt) (hu:CS E t=some (.int .i64)) (hx:Cg x l=some (.int .i64 a)) (hy:Cg y l=some (.int .i64 b))
 (h: -9223372036854775808<=a+b/\a+b<9223372036854775808):Zm E o l (.int .i64 (a+b)):=Dv ho hu rfl hx hy (by rw[Gk h.1 h.2])
theorem TF {t yt:TypeId} {x y:Operand} {a b:Nat} (ho:o.op= .binOp .add t x y yt) (hu:CS E t=some (.int .i64)) (hx:Cg x l=some (.int .i64 (a:Nat))) (hy:Cg y l=some (.int .i64 (b:Nat)))
 (h:a+b<9223372036854775808):Zm E o l (.int .i64 ((a+b:Nat):Int)):=Zm.add ho hu hx hy (by omega)
theorem Bx {op:BinOp} {t yt:TypeId} {x y:Operand} {a b:List UInt8} {v:AV} {f:List UInt8->List UInt8->Option AV} (ho:o.op= .binOp op t x y yt) (hu:CS E t=some .string) (hf:xV op=some f)
 (hx:Cg x l=some (.J a)) (hy:Cg y l=some (.J b)) (hv:f a b=some v):Zm E o l v:=
 A7 (f:=fun T=>(Ch E x T).bind fun a=>(Ch E y T).bind fun b=>Am.u9 f a b) (by
  rw[ho];show lz E op t x y=_;unfold lz;rw[hu];simp only[hf];rfl) fun _ hT=>by simp only[Ae hT hx,Ae hT hy,Qe,Am.u9,hv]
theorem Az {c:Call} {t:TypeId} {ts:List TypeId} {x:Operand} {w:List UInt8} (ho:o.op= .call c) (hc:c.callee= .builtin .len) (ht:c.argTypes.toList=t::ts) (ha:c.args.toList=[x]) (hu:CS E t=some .string)
 (hx:Cg x l=some (.J w)):Zm E o l (.int .i64 (w.length:Nat)):=
 A7 (f:=fun T=>(Ch E x T).bind Am.rO) (by
  rw[ho];show YC E o.type c=_;unfold YC;rw[hc];simp only;rw[ht,ha];show uB E t x=_;unfold uB;rw[hu]) fun _ hT=>by simp only[Ae hT hx,Qe,Am.rO,BV]
theorem Q5 {t:TypeId} {x i:Operand} {w:List UInt8} {k:IntKind} {n:Nat} {b:UInt8} (ho:o.op= .index t x i) (hu:CS E t=some .string) (hx:Cg x l=some (.J w)) (hi:Cg i l=some (.int k (n:Nat)))
 (hb:w[n]?=some b):Zm E o l (.int .u8 b.toNat):=
 A7 (f:=fun T=>(Ch E i T).bind fun iv=>(Ze iv).bind fun k=>(Ch E x T).bind (mi k)) (by
  rw[ho];show pG E t x i=_;unfold pG;rw[hu]) fun _ hT=>by
  have hn:pa w n=some b:=by rw[EN];exact hb
  have hk:Ze (.int k (n:Nat))=some n:=rfl;simp only[Ae hT hx,Ae hT hi,Qe,hk,mi,hn]
theorem Bf {t:TypeId} {x i:Operand} {w:List UInt8} {k:IntKind} {n:Nat} (ho:o.op= .index t x i) (hu:CS E t=some .string) (hx:Cg x l=some (.J w)) (hi:Cg i l=some (.int k (n:Nat)))
 (hn:n<w.length):Zm E o l (.int .u8 (w.getD n 0).toNat):=Q5 ho hu hx hi (by rw[List.getD,Qi hn];rfl)
noncomputable def iU:Option Operand->Sl->Option (Option AV)
 |none,_=>some none
 |some x,l=>(Cg x l).bind fun v=>some (some v)
theorem DA {T:Tr AV} (hT:k8 l T) {x:Option Operand} {v:Option AV} (h:iU x l=some v):Zg E x T=some v:=by
 cases x with
 |none=>exact h
 |some x=>
  obtain⟨u,hu,h2⟩:=Qa.1 h;cases h2;exact LV (Ae hT hu)
theorem Q0 {t:TypeId} {x:Operand} {lo hi:Option Operand} {w:List UInt8} {zY zZ:Option AV} {a h:Nat} (ho:o.op= .slice t x lo hi none) (hu:CS E t=some .string) (hx:Cg x l=some (.J w))
 (pq:iU lo l=some zY) (tg:iU hi l=some zZ) (hh:YB w.length w.length zZ=some h) (ha:YB 0 h zY=some a) (hah:a<=h/\h<=w.length):Zm E o l (.J ((w.drop a).take (h-a))):=
 A7 (f:=fun T=>(Ch E x T).bind fun a=>(Zg E lo T).bind fun l=>(Zg E hi T).bind fun h=>gR l h a) (by
  rw[ho];show fk E t x lo hi none=_;unfold fk;rw[hu]) fun _ hT=>by
  simp only[Ae hT hx,DA hT pq,DA hT tg,Qe,gR,BV,hh,ha];rw[FX (by omega)];rfl
theorem Zm.extract {x:Operand} {i:Nat} {vs:List AV} {v:AV} (ho:o.op= .extract x i) (hx:Cg x l=some (.O vs)) (hv:pa vs i=some v):Zm E o l v:=
 A7 (f:=fun T=>(Ch E x T).bind (gY i)) (by rw[ho];rfl) fun _ hT=>by simp only[Ae hT hx,Qe,gY,hv]
theorem Dq {c:Call} {f:FuncId} {args:List AV} {v:AV} (ho:o.op= .call c) (hc:c.callee= .value (.func f)) (hb:CI E f=true) (ha:Za c.args.toList l=some args) (h:Cj E f args s v):ZU E o fr l s v s:=
 fun _ hT=>RK ho hc hb (AW hT ha) h
theorem F8 {c:Call} {t:Nat} {f:FuncId} {first captured args:List AV} {v:AV} (ho:o.op= .call c) (hc:c.callee= .value (.tmp t)) (hf:e_ t l=some (.G' (.func f) first captured)) (hb:CI E f=true)
 (ha:Za c.args.toList l=some args) (h:Cj E f (first++args++captured) s v):ZU E o fr l s v s:=fun _ hT=>Qz ho hc (hT t _ hf) hb (AW hT ha) h
theorem MB {KP:AV->Sl->St->Prop} {K:Sl->St->Prop} {d j e:Nat} {w:Bool} {oj:Oper} (hg:o.guard=some (j,w)) (hj:pa all j=some oj) (he:oj.dst=some e) (hl:e_ e l=some (.O []))
 (hd:o.dst=some d) (C8:Nat.blt d fr.nt=true) (h:CC E KP all rest fr ((d,.O [])::l) s K):CC E KP all (o::rest) fr l s K:=by
 intro T hT;obtain⟨M,ex,l',T',s2,hk,dU,hr⟩:=h _ (hT.put d (.O []));refine⟨M,ex,l',T',s2,hk,dU,fun n hn=>?_⟩;show(da E all o (bD o.dst (cy E all rest))).run (ev E n) fr T s=_;unfold da q_;rw[hg];simp only;have:Zs all (j,w) T=some false:=by
  unfold Zs fw;simp only[hj,Qe,he];show iJ w (T.u e)=_;rw[hT e _ hl];rfl
 rw[this];simp only[gZ,cond_false];rw[BW _ _ (by rw[hd];exact C8),hd];exact hr n hn
theorem Ya {KP:AV->Sl->St->Prop} {K:Sl->St->Prop} {j e:Nat} {w b:Bool} {oj:Oper} (_hg:o.guard=some (j,w)) (_hj:pa all j=some oj) (_he:oj.dst=some e) (_hl:e_ e l=some (.bool b))
 (h1:b=true->CC E KP all (o::rest) fr l s K) (h0:b=false->CC E KP all (o::rest) fr l s K):CC E KP all (o::rest) fr l s K:=by
 cases hb:b with
 |true=>exact h1 hb
 |false=>exact h0 hb
theorem Ai {α:Type} {b:Code} (I:α->Sl×St) (μ:α->Nat) (G:α->Prop) (a0:α) (hG:G a0) (hs:s=(I a0).2) (hl:∀p∈(I a0).1,e_ p.1 l=some p.2)
 (step:∀a,G a->CA E b fr (I a).1 (I a).2 fun ex ZN l' s'=>match ex with
  | .J=>∃a',G a'/\μ a'<μ a/\ZN=fr/\s'=(I a').2/\∀p∈(I a').1,e_ p.1 l'=some p.2
  |ex=>Q ex ZN l' s'):CA E (.loop b) fr l s Q:=by
 have key:∀m a,μ a<=m->G a->∀l',(∀p∈(I a).1,e_ p.1 l'=some p.2)->CA E (.loop b) fr l' (I a).2 Q:=by
  intro m;induction m with
  |zero=>
   intro a hm hg l' ck;refine CA.sub (A3 (CA.mono (step a hg) fun ex ic l2 s2 h=>?_)) ck;cases ex with
   |J=>obtain⟨a',_,C8,_⟩:=h;omega
   |_=>exact h
  |succ m ih=>
   intro a hm hg l' ck;refine CA.sub (A3 (CA.mono (step a hg) fun ex ic l2 s2 h=>?_)) ck;cases ex with
   |J=>grind
   |_=>exact h
 subst hs;exact key _ a0 (Qj _) hG l hl
theorem CC.q {KP:AV->Sl->St->Prop} {K:Sl->St->Prop} {v:AV} {d:Nat} (ho:Zm E o l v) (hg:o.guard=none) (hd:o.dst=some d) (C8:Nat.blt d fr.nt=true) (h:CC E KP all rest fr ((d,v)::l) s K):CC E KP all (o::rest) fr l s K:=
 CC.op (Yi ho) hg hd C8 h
def bV:Nat->List AV->Sl->Sl
 |_,[],l=>l
 |i,v::vs,l=>bV (i+1) vs ((i,v)::l)
theorem BZ:∀(vs:List AV) (i:Nat) {l:Sl} {T:Tr AV},k8 l T->k8 (bV i vs l) (br i vs T)
 | [],_,_,_,h=>h
 |v::vs,i,_,_,h=>BZ vs (i+1) (h.put i v)
noncomputable def bS:List kJ->St->Option St
 | [],s=>some s
 |d::ds,s=>match d.a with
  | .J r=>match s.heap.u r with
   |some (.G' true)=>bS ds (s.B r (some (.G' false)))
   |_=>none
  |_=>none
theorem EE {ev:Ev}:∀ {ds:List kJ} {s s':St},bS ds s=some s'->x_ E ev ds none s=some (none,s')
 | [],s,s',h=>by cases h;rfl
 |d::ds,s,s',h=>by
  obtain⟨t,as⟩:=d;unfold bS at h;cases t with
  |fn f c=>cases h
  |J r=>
   simp only at h;split at h
   .simp_all [Qe,x_,mz,EE]
   .cases h
noncomputable def CO (E:a_) (s:St) (l:Sl):List ResultVar->Option (List AV)
 | []=>some []
 | .tmp t::rs=>(e_ t l).bind fun v=>(CO E s l rs).bind fun r=>some (v::r)
 | .cell a t::rs=>(e_ a l).bind fun p=>(Zd E t s p).bind fun v=>(CO E s l rs).bind fun r=>some (v::r)
theorem BG {T:Tr AV} (hT:k8 l T):∀ {rs:List ResultVar} {vs:List AV},CO E s l rs=some vs->aX E s T rs=some vs
 | [],vs,h=>h
 | .tmp t::rs,vs,h=>by
  obtain⟨v,hv,h⟩:=Qa.1 h;obtain⟨r,hr,h⟩:=Qa.1 h;cases h;simp only[aX,hT t v hv,BG hT hr,Qe]
 | .cell a t::rs,vs,h=>by
  obtain⟨p,hp,h⟩:=Qa.1 h;obtain⟨v,hv,h⟩:=Qa.1 h;obtain⟨r,hr,h⟩:=Qa.1 h;cases h;simp only[aX,hT a p hp,hv,BG hT hr,Qe]
def EndL (E:a_) (f:FuncId) (rs:List ResultVar) (s:St) (v:AV) (ex:Ex) (fr:Fr) (l:Sl) (st:St):Prop:=
 (ex= .Z\/ex= .J)/\∃Zy,bS fr.defers st=some Zy/\∃vs,CO E Zy l rs=some vs/\k_ E f s (eT vs) Zy=some (.same v)
theorem IC {f:FuncId} {fn:Func} {c:Code} {args:List AV} {v:AV} {rs:List ResultVar} {fr:Fr} {l0:Sl} (hm:E.d f args=none) (hf:E.a.u f=some fn) (hc:fn.body=some c) (hr:fn.results.toList=rs)
 (cI:frame fn.ntmps args none=fr) (hl:bV 0 args []=l0) (h:CA E c fr l0 s.u (EndL E f rs s v)):Cj E f args s v:=by
 subst cI hl hr;obtain⟨N,ex,ZN,l',T',s',⟨hex,Zy,hu,vs,Zh,ss⟩,dU,gD⟩:=h _ (BZ args 0 (k8.nil .J));refine⟨N+1,fun n hn=>?_⟩;obtain⟨m,rfl⟩:∃m,n=m+1:=⟨n-1,by omega⟩
 unfold Y8;rw[hm];simp only[hf,hc,Qe];rw[Ea,gD m (by omega)];show ZF E (ev E (m+1)) f fn s ⟨ex,ZN,T',s'⟩=_;unfold ZF;have kQ:gu ex=some none:=by rcases hex with h|h<;>rw[h]<;>rfl
 simp only[kQ,Qe,EE hu,r9,BG dU Zh,ss]
end
section
variable {E : a_} {fr : Fr} {l : Sl} {s : St} {o : Oper}
theorem ZU.alloc {t:TypeId} {z:AV} (ho:o.op= .alloc t) (hz:i_ E t=some z):ZU E o fr l s (.Z s.a 0) (s.A (.J z.u t false)):=fun T hT=>
 Gg (f:=fun _=>some (.J (.J z.u t false) fun b=> .Z b 0)) (by
  rw[ho];show lD E t=_;unfold lD;rw[hz];simp only[D7 hz,cond_false]) rfl
theorem ZU.box {t:TypeId} {x:Operand} {v:AV} (ho:o.op= .box t x) (hx:Cg x l=some v) (hv:v.A=false):ZU E o fr l s (.Z s.a 0) (s.A (.J v.u t false)):=fun T hT=>
 Gg (f:=fun T=>(Ch E x T).bind fun v=>bif v.A then none else some (.J (.J v.u t false) fun b=> .Z b 0)) (g:=fun b=> .Z b 0) (by rw[ho];rfl) (by
  simp only[Ae hT hx,Qe,hv,cond_false])
theorem DU {n b off:Nat} {v:AV} {cs bq:List AV} {e:TypeId} {part:Bool} (hg:s.heap.u b=some (.J cs e part)) (hl:v.u.length=n) (ht:v.A=false) (ho:over v.u off cs=some bq):
 gm n s v (.Z b off)=some (s.B b (some (.J bq e part))):=by
 have h1:Nat.beq (ZA v.u) n=true:=by rw[BV,hl];exact Nat.beq_refl n
 simp only[gm,h1,ht,Bool.not_false,Bool.and_true,cond_true,fO,hg,jU,ho,putCells]
theorem Ek {t:TypeId} {a x:Operand} {n:Nat} {p v:AV} {s':St} (ho:o.op= .store t a x) (hn:an E t=some n) (ha:Cg a l=some p) (hx:Cg x l=some v) (hs:gm n s v p=some s'):ZU E o fr l s (.O []) s':=fun T hT=>
 E6 (b:=true) (x:=Ch E a) (f:=fun T s=>(Ch E a T).bind fun p=>(Ch E x T).bind fun v=>ja (gm n s v p)) (by
  rw[ho];show l9 E t a x=_;unfold l9;rw[hn]) (by simp only[Ae hT ha,Ae hT hx,Qe,hs,ja])
theorem A4 {t:TypeId} {n b off:Nat} {v:AV} {cs:List AV} {e:TypeId} {part:Bool} (h1:j_ E t=some false) (h2:an E t=some n) (hg:s.heap.u b=some (.J cs e part)) (hv:cs[off]?=some v):
 Zd E t s (.Z b off)=some v:=by
 have C8:off<cs.length:=by
  rcases Nat.lt_or_ge off cs.length with h|h
  .exact h
  .rw[List.getElem?_eq_none h]at hv;cases hv
 have hc:=FX (l:=cs) (a:=off) (n:=1) (by omega);unfold y_ at hc;unfold Zd;rw[h1,h2];simp only[rI,cf,hg,Y4,Qe];rw[hc];have:(cs.drop off).take 1=[v]:=by
  rw[List.drop_eq_getElem_cons C8];rw[Qi C8]at hv;cases hv;rfl
 rw[this];rfl
theorem AS {t:TypeId} {n b off:Nat} {cs:List AV} {e:TypeId} {part:Bool} (h1:j_ E t=some true) (h2:an E t=some n) (hg:s.heap.u b=some (.J cs e part)) (hn:off+n<=cs.length):
 Zd E t s (.Z b off)=some (.agg ((cs.drop off).take n)):=by
 have hc:=FX (l:=cs) (a:=off) (n:=n) hn;unfold y_ at hc;unfold Zd;rw[h1,h2];simp only[oZ,cf,hg,Y4,Qe];rw[hc];rfl
theorem Bs {t:TypeId} {a:Operand} {p v:AV} (ho:o.op= .load t a) (ha:Cg a l=some p) (hv:Zd E t s p=some v):ZU E o fr l s v s:=fun T hT=>
 Gf (x:=Ch E a) (f:=fun T s=>(Ch E a T).bind (Zd E t s)) (by rw[ho];rfl) (by simp only[Ae hT ha,Qe,hv])
theorem Yf {t:TypeId} {a:Operand} {n:Nat} {cs:List AV} (ho:o.op= .load t a) (ha:Cg a l=some (.Zu cs)) (h1:j_ E t=some true) (h2:an E t=some n) (hn:n<=cs.length):Zm E o l (.agg (cs.take n)):=
 NS (x:=Ch E a) (f:=fun T s=>(Ch E a T).bind (Zd E t s)) (by rw[ho];rfl) (fun T hT=>by rw[Ae hT ha];rfl) fun T s hT=>by
  have hc:=FX (l:=cs) (a:=0) (n:=n) (by omega);unfold y_ at hc;have h0:ab 0 cs=some cs:=rfl;rw[h0]at hc;simp only[Ae hT ha,Qe];unfold Zd;rw[h1,h2];simp only[oZ,cf];simp only[Qe]at hc;rw[hc];rfl
theorem UX {t:TypeId} {a:Operand} {n:Nat} {v:AV} {cs:List AV} (ho:o.op= .load t a) (ha:Cg a l=some (.Zu (v::cs))) (h1:j_ E t=some false) (h2:an E t=some n):Zm E o l v:=
 NS (x:=Ch E a) (f:=fun T s=>(Ch E a T).bind (Zd E t s)) (by rw[ho];rfl) (fun T hT=>by rw[Ae hT ha];rfl) fun T s hT=>by
  simp only[Ae hT ha,Qe];unfold Zd;rw[h1,h2];rfl
theorem HV {t:TypeId} {x:Operand} {i off n:Nat} {agg:Bool} {b k:Nat} (ho:o.op= .fieldAddr t x i) (hf:de E t i=some (off,n+1,agg)) (hx:Cg x l=some (.Z b k)):Zm E o l (.Z b (k+off)):=
 A7 (f:=fun T=>(Ch E x T).bind (aA off)) (by
  rw[ho];show cK E t x i=_;unfold cK;rw[hf]) fun T hT=>by simp only[Ae hT hx,Qe,aA]
theorem UY {t:TypeId} {x:Operand} {i off n:Nat} {cs:List AV} {v:AV} (ho:o.op= .field t x i) (hf:de E t i=some (off,n,false)) (hx:Cg x l=some (.agg cs)) (hv:pa cs off=some v):Zm E o l v:=
 A7 (f:=fun T=>(Ch E x T).bind (fb off)) (by
  rw[ho];show pF E t x i=_;unfold pF;rw[hf]) fun T hT=>by simp only[Ae hT hx,Qe,fb,hv]
noncomputable def lO:List (Nat×Operand)->Sl->Option (List (Nat×AV))
 | [],_=>some []
 |p::ps,l=>(Cg p.2 l).bind fun v=>(lO ps l).bind fun r=>some ((p.1,v)::r)
theorem Hy {T:Tr AV} (hT:k8 l T):∀ {ps:List (Nat×Operand)} {r:List (Nat×AV)},lO ps l=some r->fg E ps T=some r
 | [],r,h=>h
 |p::ps,r,h=>by
  obtain⟨v,hv,h⟩:=Qa.1 h;obtain⟨q,hq,h⟩:=Qa.1 h;cases h;simp only[fg,Ae hT hv,Hy hT hq,Qe]
theorem Yh {t:TypeId} {parts:Array (Nat×Operand)} {pl:List AV×(Nat->Option (Nat×Nat))} {ps:List (Nat×AV)} {cs:List AV} (ho:o.op= .build t parts) (hp:eZ E t=some pl) (hq:lO parts.toList l=some ps)
 (hf:eJ pl.2 ps pl.1=some cs):Zm E o l (.agg cs):=
 A7 (f:=fun T=>(fg E parts.toList T).bind fun ps=>xU (eJ pl.2 ps pl.1)) (by
  rw[ho];show pE E t parts.toList=_;unfold pE;rw[hp]) fun T hT=>by simp only[Hy hT hq,Qe,hf,xU]
theorem Bv {t e:TypeId} {len sz:Nat} {parts:Array (Nat×Operand)} {z:AV} {ps:List (Nat×AV)} {cs:List AV} (ho:o.op= .buildSlice t (len+1) parts) (hu:CS E t=some (.slice e)) (hs:an E e=some sz) (hz:i_ E e=some z)
 (hk:(Nat.beq (ZA z.u) sz&&Nat.ble ((len+1)*sz) 16777216&& !(Nat.beq sz 0))=true) (hq:lO parts.toList l=some ps) (hf:eJ (fun i=>some (i*sz,sz)) ps (bp z.u (len+1))=some cs):
 ZU E o fr l s (.slice s.a 0 (len+1) sz (some (len+1))) (s.A (.J cs e false)):=fun T hT=>
 Gg (f:=fun T=>(fg E parts.toList T).bind fun ps=>ei e sz (len+1) (eJ (fun i=>some (i*sz,sz)) ps (bp z.u (len+1)))) (g:=fun b=> .slice b 0 (len+1) sz (some (len+1))) (by
  rw[ho];show b8 E t (len+1) parts.toList=_;unfold b8;rw[hu];simp only[hs,hz,hk,cond_true]) (by
  simp only[Hy hT hq,Qe,hf];rfl)
theorem Q4 {f:FuncId} {a b:Array Operand} {va vb:List AV} (ho:o.op= .makeFunc (.func f) a b) (ha:Za a.toList l=some va) (hb:Za b.toList l=some vb):Zm E o l (.G' (.func f) va vb):=
 A7 (f:=fun T=>(CV E a.toList T).bind fun x=>(CV E b.toList T).bind fun y=>some (.G' (.func f) x y)) (by rw[ho];rfl) fun T hT=>by simp only[AW hT ha,AW hT hb,Qe]
theorem ZU.append {c:Call} {t e:TypeId} {ts:List TypeId} {x y:Operand} {sz CZ n:Nat} {z a b v:AV} {new:List AV} {s':St} (ho:o.op= .call c) (hc:c.callee= .builtin .append) (ht:c.argTypes.toList=t::ts) (ha:c.args.toList=[x,y])
 (hu:CS E t=some (.slice e)) (af:an E e=some sz) (kO:p_ E e=some CZ) (hz:i_ E e=some z) (hk:(!(Nat.beq (ZA z.u) sz)||Nat.beq sz 0|| !(iD E ts.head?))=false) (h0:aB E ts.head?=false)
 (hx:Cg x l=some a) (hy:Cg y l=some b) (hn:YQ s sz b=some (new,n)) (hr:CJ s e sz CZ new n a=some (v,s')):ZU E o fr l s v s':=fun T hT=>
 E6 (b:=false) (x:=Ch E x) (f:=fun T s=>(Ch E x T).bind fun a=>(Ch E y T).bind fun b=>(YQ s sz b).bind fun p=>CJ s e sz CZ p.1 p.2 a) (by
  rw[ho];show YC E o.type c=_;unfold YC;rw[hc];simp only;rw[ht,ha];show iE E t ts.head? x y=_;unfold iE;rw[hu];simp only[af,kO,hz,hk,h0,cond_false]) (by simp only[Ae hT hx,Ae hT hy,Qe,hn,hr])
end
def Yn (ts:List Nat) (l:Sl):Sl:=match ts with
 | []=>[]
 |t::ts=>match e_ t l with
  |some v=>(t,v)::Yn ts l
  |none=>Yn ts l
theorem Iq {l:Sl} {k:Nat} {v:AV}:∀ {ts:List Nat},e_ k (Yn ts l)=some v->k∈ts/\e_ k l=some v
 | [],h=>by cases h
 |t::ts,h=>by
  unfold Yn at h;cases hl:e_ t l with
  |none=>
   rw[hl]at h;have:=Iq (ts:=ts) h;exact⟨Qg _ this.1,this.2⟩
  |some u=>
   rw[hl]at h;simp only[e_]at h;cases hb:Nat.beq k t with
   |true=>
    rw[hb]at h;have:=Qb hb;subst this;simp only[cond_true]at h;exact⟨Qh ..,by rw[hl];exact h⟩
   |false=>
    rw[hb]at h;have:=Iq (ts:=ts) h;exact⟨Qg _ this.1,this.2⟩
theorem k8.Yn {l:Sl} {T:Tr AV} (h:k8 l T) (ts:List Nat):k8 (Yn ts l) (aw T ts .J):=by
 intro k v hk;obtain⟨h1,h2⟩:=Iq hk;rw[EL,if_pos h1];exact h k v h2
section
variable (E : a_)
def OpA (o:Oper) (fr:Fr) (l:Sl) (v:AV):Prop:=
 aQ (ZW E o.type o.op)=true/\∀T,k8 l T->∃N,∀n,N<=n->∀(s:St) (k:td),(Z0 E (ZW E o.type o.op) k).run (ev E n) fr T s=k.run (ev E n) fr T v s
end
section
variable {E : a_} {fr : Fr} {l : Sl} {st : St} {o : Oper} {all rest : List Oper} {i : Nat} {js : List Nat} {nw : Bool} {K : Sl -> St -> Prop}
theorem Ve {c:Call} {f:FuncId} {args:List AV} {v:AV} (ho:o.op= .call c) (hc:c.callee= .value (.func f)) (hb:CI E f=true) (ha:Za c.args.toList l=some args) (hm:E.d f args=some v):OpA E o fr l v:=by
 have aY:ZW E o.type o.op= .H_ (fun T _=>(CV E c.args.toList T).bind fun args=>some (f,args)):=by
  rw[ho];show YC E o.type c=_;unfold YC;rw[hc];simp only[hb,cond_true]
 refine⟨by rw[aY];rfl,fun T hT=>⟨0,fun n _ s k=>?_⟩⟩;rw[aY];show ZB fr T s (k.run (ev E n) fr T) (((CV E c.args.toList T).bind fun args=>some (f,args)).bind fun p=>Y8 E (ev E n) p.1 p.2 s)=_;rw[AW hT ha];simp only[Qe];unfold Y8;rw[hm];rfl
theorem Aaa (n:Nat):Nat.ble n n=true:=Qd (Qj n)
noncomputable def St.G (st s2:St):St:=
 {a:=s2.a,b:=st.b,c:=below st.b s2.c st.c,heap:=Z1 s2.heap (dm st.a (s2.a-st.a)) (Z1 s2.heap s2.c st.heap)}
variable {Q : Ex -> Fr -> Sl -> St -> Prop}
end
section
variable (E : a_)
def CD (f:FuncId) (args:List AV) (s:St) (R:AV->St->Prop):Prop:=
 ∃N cr,(∀n,N<=n->Y8 E (ev E n) f args s=some cr)/\match cr with
  | .same v=>R v s
  | .J v s'=>R v s'
  | .O _ _=>False
end
section
variable {E : a_} {fr : Fr} {l : Sl} {s : St} {o : Oper} {all rest : List Oper} {K : Sl -> St -> Prop} {Q : Ex -> Fr -> Sl -> St -> Prop}
theorem NQ {KP:AV->Sl->St->Prop} {d:Nat} (h:∀T,k8 l T->∃v s',nU E o fr T s v s'/\CC E KP all rest fr ((d,v)::l) s' K) (hg:o.guard=none) (hd:o.dst=some d) (C8:Nat.blt d fr.nt=true):CC E KP all (o::rest) fr l s K:=by
 intro T hT;obtain⟨v,s',⟨N,ho⟩,h⟩:=h T hT;obtain⟨M,ex,l',T',s2,hk,dU,hr⟩:=h _ (hT.put d v);refine⟨max N M,ex,l',T',s2,hk,dU,fun n hn=>?_⟩;show(da E all o (bD o.dst (cy E all rest))).run (ev E n) fr T s=_;unfold da q_;rw[hg];simp only;rw[ho n (by omega),BW _ _ (by rw[hd];exact C8),hd];exact hr n (by omega)
theorem RJ {KP:AV->Sl->St->Prop} {c:Call} {f:FuncId} {args:List AV} {d:Nat} (ho:o.op= .call c) (hc:c.callee= .value (.func f)) (hb:CI E f=true) (ha:Za c.args.toList l=some args) (hg:o.guard=none) (hd:o.dst=some d)
 (C8:Nat.blt d fr.nt=true) (h:CD E f args s fun v s'=>CC E KP all rest fr ((d,v)::l) s' K):CC E KP all (o::rest) fr l s K:=by
 obtain⟨N,cr,hN,h⟩:=h;have aY:ZW E o.type o.op= .H_ (fun T _=>(CV E c.args.toList T).bind fun args=>some (f,args)):=by
  rw[ho];show YC E o.type c=_;unfold YC;rw[hc];simp only[hb,cond_true]
 have go:∀ {v:AV} {s':St},(∀(T:Tr AV) (k:AV->St->f_),ZB fr T s k (some cr)=k v s')->∀T,k8 l T->nU E o fr T s v s':=by
  intro v s' xB T hT;refine⟨N,fun n hn k=>?_⟩;rw[aY];show ZB fr T s (k.run (ev E n) fr T) (((CV E c.args.toList T).bind fun args=>some (f,args)).bind fun p=>Y8 E (ev E n) p.1 p.2 s)=_;rw[AW hT ha];simp only[Qe];rw[hN n hn,xB]
 refine NQ (fun T hT=>?_) hg hd C8;cases cr with
 |same v=>exact⟨v,s,go (fun _ _=>rfl) T hT,h⟩
 |J v s'=>exact⟨v,s',go (fun _ _=>rfl) T hT,h⟩
 |O v s'=>exact h.elim
def pX (b:Nat) (k:Bool->St->Prop) (ex:Ex) (s:St) (lp:dc):Prop:=match ex with
 | .J=>k true (s.B b (some (.Z {lp with a:= .ready,b:=none})))
 | .Z=>k false (s.B b (some (.Z {lp with a:= .done,b:=some .ret})))
 | .G' id=>k false (s.B b (some (.Z {lp with a:= .done,b:=some (.exit id)})))
 | .O _=>False
theorem UT {KP:AV->Sl->St->Prop} {c:Call} {t b d:Nat} {lp:dc} {args:List AV} {TA:Tr AV} {lA:Sl} (ho:o.op= .call c) (hc:c.callee= .value (.tmp t)) (hf:e_ t l=some (.G' (.yield b) [] [])) (ha:Za c.args.toList l=some args)
 (hg:o.guard=none) (hd:o.dst=some d) (C8:Nat.blt d fr.nt=true) (hlp:s.heap.u b=some (.Z lp)) (hp:fc lp.nt lp.params args lp.c=some TA) (hA:k8 lA TA)
 (h:CA E lp.assign {nt:=lp.nt,defers:=[],Zv:=none,a:=some b} lA s fun ex fr1 l1 s1=>ex= .J/\∃wS,s1.heap.u b=some (.Z wS)/\wS.a= .ready/\
  CA E lp.body fr1 l1 (s1.B b (some (.Z {wS with a:= .busy}))) fun tV ic _ s2=>ic.defers=[]/\∃fW,s2.heap.u b=some (.Z fW)/\
   pX b (fun v s'=>CC E KP all rest fr ((d,.bool v)::l) s' K) tV s2 fW):CC E KP all (o::rest) fr l s K:=by
 refine NQ (fun T hT=>?_) hg hd C8;have aY:ZW E o.type o.op= .dN (Ch E (.tmp t)) (CV E c.args.toList):=by
  rw[ho];show YC E o.type c=_;unfold YC;rw[hc]
 obtain⟨N,ex,fr1,l1,T1,s1,⟨hex,wS,hlp1,Zc,jf⟩,hT1,hr1⟩:=h TA hA;subst hex;obtain⟨M,tV,ic,l2,T2,s2,⟨uU,fW,hlp2,hq⟩,hT2,tO⟩:=jf T1 hT1;have key:∀n,max N M+1<=n->∀k:td,(Z0 E (ZW E o.type o.op) k).run (ev E n) fr T s=ZB fr T s (k.run (ev E n) fr T) (n7 b tV s2 (some (.Z fW))):=by
  intro n hn k;obtain⟨m,rfl⟩:∃m,n=m+1:=⟨n-1,by omega⟩
  rw[aY];show ZB fr T s (k.run (ev E (m+1)) fr T) ((Ch E (.tmp t) T).bind fun g=>(CV E c.args.toList T).bind fun args=>aj E (ev E (m+1)) args s g)=_;have hft:Ch E (.tmp t) T=some (.G' (.yield b) [] []):=hT t _ hf;rw[hft,AW hT ha];simp only[Qe,aj,rT,rS,hlp,hp];rw[Ea,hr1 m (by omega)];simp only[gw,hlp1,n8,Zc];rw[Ea,tO m (by omega)];simp only[pM,uU,hlp2]
 cases tV with
 |J=>exact⟨.bool true,_,⟨max N M+1,fun n hn k=>by rw[key n hn k];rfl⟩,hq⟩
 |Z=>exact⟨.bool false,_,⟨max N M+1,fun n hn k=>by rw[key n hn k];rfl⟩,hq⟩
 |G' id=>exact⟨.bool false,_,⟨max N M+1,fun n hn k=>by rw[key n hn k];rfl⟩,hq⟩
 |O v=>exact hq.elim
noncomputable def aR (s:St) (nt:Nat) (T:Tr AV) (params:List Nat) (assign body:Code):St:=
 (s.A (.G' true)).A (.Z {a:= .ready,b:=none,fn:=0,nt,c:=T,params,assign,body})
def Aab (b:Nat) (Q:Ex->St->Prop) (s:St):Prop:=∃lp,s.heap.u b=some (.Z lp)/\lp.a≠ .busy/\
 match lp.b with
 |none=>Q .J (s.B b (some (.Z {lp with a:= .exhausted})))
 |some .ret=>Q .Z (s.B b (some (.Z {lp with a:= .exhausted})))
 |some (.exit id)=>Q (.G' id) (s.B b (some (.Z {lp with a:= .exhausted})))
 |some _=>False
theorem IA {f:Operand} {params:Array Nat} {assign body:Code} {g:FuncId} {first captured:List AV} (hf:Cg f l=some (.G' (.func g) first captured)) (hr:fr.a=none) (hb:CI E g=true)
 (h:∀T,k8 l T->CD E g (first++[.G' (.yield (s.a+1)) [] []]++captured) (aR s fr.nt T params.toList assign body) fun _ s3=>
  Aab (s.a+1) (fun ex s4=>Q ex {fr with defers:= {a:= .J s.a,args:=[]}::fr.defers} l s4) s3):CA E (.rangeFunc f params assign body) fr l s Q:=by
 intro T hT;obtain⟨N,cr,hN,h⟩:=h T hT;have CG:∀n,N<=n->(ZK E (.rangeFunc f params assign body)).run (ev E n) fr T s=
  ZB {fr with defers:= {a:= .J s.a,args:=[]}::fr.defers} T (aR s fr.nt T params.toList assign body)
   (fun _ s3=>bO (s.a+1) {fr with defers:= {a:= .J s.a,args:=[]}::fr.defers} T s3 (s3.heap.u (s.a+1))) (some cr):=by
  intro n hn;show hO E (ev E n) params.toList assign body fr T s (Ch E f T)=_;rw[Ae hT hf];unfold hO nD;simp only[hr,hb,cond_true];have:=hN n hn;unfold aR at this;show ZB _ _ _ _ (Y8 E (ev E n) g (first++[.G' (.yield (s.a+1)) [] []]++captured) _)=_;exact congrArg (ZB _ _ _ _) this
 have fin:∀s3:St,Aab (s.a+1) (fun ex s4=>Q ex {fr with defers:= {a:= .J s.a,args:=[]}::fr.defers} l s4) s3->
  ∃ex s4,Q ex {fr with defers:= {a:= .J s.a,args:=[]}::fr.defers} l s4/\
   bO (s.a+1) {fr with defers:= {a:= .J s.a,args:=[]}::fr.defers} T s3 (s3.heap.u (s.a+1))= .one ⟨ex, {fr with defers:= {a:= .J s.a,args:=[]}::fr.defers},T,s4⟩:=by
  rintro s3 ⟨lp,hlp,Zc,hq⟩;rw[hlp];have Aac:∀x:f_,(match lp.a with| .busy=>f_.J|_=>x)=x:=by
   intro x;split
   .next h=>exact absurd h Zc
   .rfl
  cases hp:lp.b with
  |none=>
   rw[hp]at hq;refine⟨_,_,hq,?_⟩;simp only[bO,Aac,hp,hJ]
  |some cd=>
   rw[hp]at hq;cases cd with
   |ret=>
    refine⟨_,_,hq,?_⟩;simp only[bO,Aac,hp,hJ]
   |exit id=>
    refine⟨_,_,hq,?_⟩;simp only[bO,Aac,hp,hJ]
   |_=>exact hq.elim
 cases cr with
 |same v=>
  obtain⟨ex,s4,hq,he⟩:=fin _ h;exact⟨N,ex,_,l,T,s4,hq,hT,fun n hn=>by rw[CG n hn];exact he⟩
 |J v s3=>
  obtain⟨ex,s4,hq,he⟩:=fin _ h;exact⟨N,ex,_,l,T,s4,hq,hT,fun n hn=>by rw[CG n hn];exact he⟩
 |O v s3=>exact h.elim
theorem CD.unit {f:FuncId} {fn:Func} {c:Code} {args:List AV} {R:AV->St->Prop} {fr:Fr} {l0:Sl} (hm:E.d f args=none) (hf:E.a.u f=some fn) (hc:fn.body=some c) (hr:fn.results.toList=[])
 (cI:frame fn.ntmps args none=fr) (hl:bV 0 args []=l0) (h:CA E c fr l0 s.u fun ex fr _ st=>(ex= .Z\/ex= .J)/\fr.defers=[]/\(st.c=[]->R (.O []) s)/\R (.O []) (s.M st)):CD E f args s R:=by
 subst cI hl;obtain⟨N,ex,ZN,l',T',s',⟨hex,hd,hR0,hR1⟩,dU,gD⟩:=h _ (BZ args 0 (k8.nil .J));have hfz:frozen E f s (.O []) s'=some (.O [],s'):=Fw (fun _ _=>rfl) (fun _ e=>by cases e);refine⟨N+1,bh s (.O []) s' s'.c,fun n hn=>?_,?_⟩
 .obtain⟨m,rfl⟩:∃m,n=m+1:=⟨n-1,by omega⟩
  unfold Y8;rw[hm];simp only[hf,hc,Qe];rw[Ea,gD m (by omega)];show ZF E (ev E (m+1)) f fn s ⟨ex,ZN,T',s'⟩=_;unfold ZF;have kQ:gu ex=some none:=by rcases hex with h|h<;>rw[h]<;>rfl
  simp only[kQ,Qe,hd,x_,r9,hr,aX];unfold k_;show(frozen E f s (.O []) s').bind _=_;rw[hfz];rfl
 .unfold bh;cases CU:s'.c with
  |nil=>exact hR0 CU
  |cons a b=>exact hR1
end
section
variable {E : a_} {fr : Fr} {l : Sl} {st : St} {o : Oper} {all rest : List Oper} {i : Nat} {js : List Nat} {nw : Bool} {K : Sl -> St -> Prop}
def Yv (all:List Oper) (l:Sl) (o:Oper):Prop:=o.guard=none\/∃g,o.guard=some g/\∀T,k8 l T->Zs all g T=some true
theorem AB {j e:Nat} {w b:Bool} {oj:Oper} (hg:o.guard=some (j,w)) (hj:pa all j=some oj) (he:oj.dst=some e) (hl:e_ e l=some (.bool b)) (hb:b=w):Yv all l o:=
 .inr ⟨_,hg,fun T hT=>by rw[FD (g:=(j,w)) hj he (hT e _ hl),hb];cases w<;>rfl⟩
def Alone (E:a_) (o:Oper) (fr:Fr) (T:Tr AV) (v:AV) (s:St):Prop:=∃N,∀n,N<=n->(Z0 E (ZW E o.type o.op) K0).run (ev E n) fr T s= .one ⟨.J,fr,fy v,s⟩
theorem Jj {v:AV} {s:St} {T:Tr AV} (h:∃N,∀n,N<=n->∀(k:td),(Z0 E (ZW E o.type o.op) k).run (ev E n) fr T s=k.run (ev E n) fr T v s):Alone E o fr T v s:=by
 obtain⟨N,h⟩:=h;exact⟨N,fun n hn=>by rw[h n hn K0];rfl⟩
theorem Lz {t e:TypeId} {x i:Operand} {sz len k b off:Nat} {ik:IntKind} {cap:Option Nat} (ho:o.op= .indexAddr t x i) (hu:CS E t=some (.slice e)) (hs:an E e=some (sz+1)) (hx:Cg x l=some (.slice b off len (sz+1) cap))
 (hi:Cg i l=some (.int ik (k:Nat))) (hk:k<len):Zm E o l (.Z b (off+k*(sz+1))):=
 A7 (f:=fun T=>(Ch E i T).bind fun iv=>(Ze iv).bind fun k=>(Ch E x T).bind (Yr (sz+1) k)) (by
  rw[ho];show ZP E t x i=_;unfold ZP;rw[hu];simp only[hs]) fun T hT=>by
  have h1:Ze (.int ik (k:Nat))=some k:=rfl;have h2:Nat.blt k len=true:=by simpa[Nat.blt_eq]using hk
  simp only[Ae hT hx,Ae hT hi,Qe,h1,Yr,h2,cond_true]
end
section
variable {E : a_}
theorem Mi {f:FuncId} {v:AV} {s st:St} (hk:∀n w,CW w n 40 v []=some (v,[])) (hu:∀m,Cw m 40 v=true) (hl:st.c=[]):k_ E f s v st=some (.same v):=by
 have hf:frozen E f s v st=some (v,st):=Fw hk fun b e=>by
  subst e;have:b+1<=0:=Qc (hu 0);omega
 unfold k_;rw[hf];simp only[Qe,bh,hl,hu,cond_true]
theorem Cj.flat {f:FuncId} {fn:Func} {c:Code} {args:List AV} {s:St} {v:AV} {rs:List ResultVar} {fr:Fr} {l0:Sl} (hm:E.d f args=none) (hf:E.a.u f=some fn) (hc:fn.body=some c) (hr:fn.results.toList=rs)
 (cI:frame fn.ntmps args none=fr) (hl:bV 0 args []=l0) (hk:∀n w,CW w n 40 v []=some (v,[])) (hu:∀m,Cw m 40 v=true)
 (h:CA E c fr l0 s.u fun ex fr l st=>(ex= .Z\/ex= .J)/\fr.defers=[]/\st.c=[]/\∃vs,CO E st l rs=some vs/\eT vs=v):Cj E f args s v:=
 IC hm hf hc hr cI hl (h.mono fun ex fr l st ⟨hex,hd,CU,vs,Zh,hv⟩=>⟨hex,st,by rw[hd];rfl,vs,Zh,by rw[hv];exact Mi hk hu CU⟩)
theorem Aa {s:St} {l:Sl} {t:Nat} {v:AV} {rs:List ResultVar} {vs:List AV} (hl:e_ t l=some v) (h:CO E s l rs=some vs):CO E s l (.tmp t::rs)=some (v::vs):=by
 unfold CO;rw[hl];simp only[Qe,h]
def u3 {α:Type} (p:α->Bool) (l:List α):Nat:=(l.takeWhile p).length
theorem twA_le {α:Type} (p:α->Bool) (l:List α):u3 p l<=l.length:=(List.takeWhile_sublist _).length_le
theorem RZ {α:Type} {p:α->Bool}:∀ {l:List α} {k:Nat} {a:α},k<=u3 p l->l[k]?=some a->(p a=true↔k<u3 p l)
 | [],k,_,_,h=>by simp at h
 |b::l,0,a,_,h=>by
  simp only[List.getElem?_cons_zero,Option.some.injEq]at h;subst h;cases hp:p b<;>simp[u3,List.takeWhile,hp]
 |b::l,k+1,a,h,hl=>by
  cases hp:p b with
  |false=>simp[u3,List.takeWhile,hp]at h
  |true=>
   simp only[u3,List.takeWhile,hp,List.length_cons]at h|-;have:=RZ (p:=p) (l:=l) (k:=k) (a:=a) (by unfold u3;omega) (by simpa using hl);rw[this];unfold u3;omega
theorem Vq {α:Type} {p:α->Bool}:∀ {l:List α},l.any p=decide (u3 (fun x=> !p x) l<l.length)
 | []=>rfl
 |b::l=>by
  have ih:=Vq (p:=p) (l:=l);cases hp:p b with
  |true=>simp[u3,List.takeWhile,hp]
  |false=>
   simp only[List.any_cons,hp,Bool.false_or,ih,u3,List.takeWhile,Bool.not_false,List.length_cons]
   congr 1
   exact propext ⟨fun h=>by omega,fun h=>by omega⟩
end
section
variable (E : a_)
end
section
variable {E : a_} {fr : Fr} {l : Sl} {st : St} {o : Oper} {all rest : List Oper} {i : Nat} {js ms : List Nat} {K : Sl -> St -> Prop}
theorem Ps {Yw:Nat}:∀ {news:YI} {h:Tr Cv},(∀p∈news,Nat.testBit Yw p.1=true)->iK Yw news h=h
 | [],_,_=>rfl
 |p::news,h,hn=>by
  unfold iK;rw[hn p (Qh ..),cond_true];exact Ps fun q hq=>hn q (Qg _ hq)
end
def c_ (s:St) (e:TypeId) (sz:Nat) (v:AV) (cs:List AV) (n:Nat):Prop:=
 (v= .Ca/\n=0/\cs=[])\/∃b,v= .slice b 0 n sz none/\b<s.a/\s.heap.u b=some (.J cs e true)/\cs.length=n*sz/\n≠0
theorem c_.nil (s:St) (e:TypeId) (sz:Nat):c_ s e sz .Ca [] 0:= .inl ⟨rfl,rfl,rfl⟩
def CT (c:Nat):AV->Bool
 | .slice b _ _ _ _=>Nat.beq b c
 |_=>false
theorem c_.aI {s s':St} {e:TypeId} {sz n:Nat} {v:AV} {cs:List AV} (h:c_ s e sz v cs n) (hn:s.a<=s'.a) (hh:∀c,CT c v=true->s'.heap.u c=s.heap.u c):c_ s' e sz v cs n:=by
 rcases h with h|⟨b,rfl,hb,hg,hl,h0⟩
 .exact .inl h
 .exact .inr ⟨b,U,by omega,by rw[hh b (Nat.beq_refl b),hg],hl,h0⟩
theorem EF {α:Type} (l:List α):o_ l.length l=some l:=by
 have:=FF l [];rwa[List.append_nil]at this
theorem c_.append {s:St} {e:TypeId} {sz CZ n:Nat} {v:AV} {cs new:List AV} (h:c_ s e sz v cs n) (cm:new.length=sz) (af:0<sz) (dt:m_ 1 CZ=true) (en:m_ (n+1) CZ=true):
 ∃v' s',CJ s e sz CZ new 1 v=some (v',s')/\c_ s' e sz v' (cs++new) (n+1)/\CT s.a v'=true/\s'.a=s.a+1/\s'.b=s.b/\(∀c∈s'.c,c∈s.c\/(c<s.b/\CT c v=true))/\
  ∀c,c<s.a->CT c v=false->s'.heap.u c=s.heap.u c:=by
 rcases h with⟨rfl,rfl,rfl⟩|⟨b,rfl,hb,hg,hl,h0⟩
 .refine⟨.slice s.a 0 1 sz none,s.A (.J new e true),?_,.inr ⟨s.a,rfl,Nat.lt_succ_self _,?_,by rw[List.nil_append,cm];omega,by omega⟩,Nat.beq_refl _,rfl,rfl,fun c hc=> .inl hc,fun c hc _=>?_⟩
  .simp only[CJ,dt,cond_true];rfl
  .show(s.heap.A s.a _).u s.a=_;rw[Ap,if_pos rfl,List.nil_append]
  .show(s.heap.A s.a _).u c=_;rw[Ap,if_neg (by omega)]
 .have b7:mq sz n 1 none cs=false:=by
   show Nat.ble ((n+1)*sz) (ZA cs)=false;rw[BV,hl];have:(n+1)*sz=n*sz+sz:=Nat.succ_mul ..;cases hb:Nat.ble ((n+1)*sz) (n*sz)with
   |false=>rfl
   |true=>have:=Qc hb;omega
  refine⟨.slice s.a 0 (n+1) sz none,(s.B b none).A (.J (cs++new) e true),?_,.inr ⟨s.a,rfl,Nat.lt_succ_self _,?_,by rw[Qm,hl,cm,Nat.succ_mul],by omega⟩,Nat.beq_refl _,rfl,rfl,fun c hc=>?_,fun c hc ho=>?_⟩
  .unfold CJ;simp only[show Nat.beq 1 0=false from rfl,cond_false,Nat.beq_refl,en,Bool.and_self,cond_true,hg,dg,fp];rw[show ab 0 cs=some cs from rfl];simp only[Qe,b7,cond_false,Bool.true_or,cond_true];rw[<-hl,EF];rfl
  .show((s.heap.A b none).A s.a _).u s.a=_;rw[Ap,if_pos rfl]
  .have CU:c∈(bif Nat.blt b s.b then Z7 b s.c else s.c):=hc;cases tf:Nat.blt b s.b with
   |false=>rw[tf]at CU;exact .inl CU
   |true=>
    rw[tf,cond_true]at CU;have vO:b<s.b:=by simpa[Nat.blt_eq]using tf
    have:c=b\/c∈s.c:=by
     revert CU;cases s.c with
     |nil=>intro h;exact .inl (by simpa[Z7]using h)
     |cons d l=>
      intro h;have h':c∈(bif Nat.beq b d then d::l else b::d::l):=h;cases hd:Nat.beq b d with
      |true=>rw[hd]at h';exact .inr h'
      |false=>
       rw[hd]at h';rcases Qk.1 h' with h'|h'
       .exact .inl h'
       .exact .inr h'
    rcases this with rfl|h
    .exact .inr ⟨vO,Nat.beq_refl _⟩
    .exact .inl h
  .show((s.heap.A b none).A s.a _).u c=_;have rZ:c≠b:=fun h=>by subst h;rw[show CT c (.slice c 0 n sz none)=true from Nat.beq_refl c]at ho;cases ho
   rw[Ap,if_neg (by omega),Ap,if_neg rZ]
def jK (cs:List AV) (n sz:Nat):AV:=bif Nat.beq n 0 then .Ca else .Ck cs n sz true
theorem Xj {w:St} {from_ m:Nat} {v:AV} {ks:List Nat} (hv:jJ v=true):CW w from_ (m+1) v ks=some (v,ks):=by cases v<;>first|rfl|cases hv
theorem Je {w:St} {from_ m:Nat} {ks:List Nat}:∀ {cs:List AV},cs.all jJ=true->CW.many (CW w from_ (m+1)) cs ks=some (cs,ks)
 | [],_=>rfl
 |c::cs,h=>by
  simp only[List.all_cons,Qf]at h;unfold CW.many;rw[Xj h.1];simp only[Qe];rw[Je h.2];rfl
theorem Jc {s : St} : ∀ {ks : List Nat}, (∀ b ∈ ks, s.b <= b) -> (r1 s ks).c = s.c
  | [], _ => rfl
  | b :: ks, h => by
    unfold r1;have hb : Nat.blt b s.b = false := by
      have := h b (Qh ..);cases hc : Nat.blt b s.b with
      | false => rfl
      | true => have : b < s.b := by simpa [Nat.blt_eq] using hc
                omega
    have : (s.B b none).c = s.c := by show (bif Nat.blt b s.b then _ else _) = _; rw [hb]; rfl
    rw [Jc (s := s.B b none) fun c hc => h c (Qg _ hc), this]
section
variable {E : a_} {fr : Fr} {l : Sl} {st : St} {o : Oper} {all rest : List Oper} {i : Nat} {js ms : List Nat} {K : Sl -> St -> Prop}
end
theorem Gw {st s2:St} (hn:s2.a=st.a+1) (c:Nat):(st.G s2).heap.u c=if c=st.a\/c∈s2.c then s2.heap.u c else st.heap.u c:=by
 show(Z1 s2.heap (dm st.a (s2.a-st.a)) (Z1 s2.heap s2.c st.heap)).u c=_;rw[hn,Nat.add_sub_cancel_left,show dm st.a 1=[st.a]from rfl,BI,BI];by_cases h1:c=st.a
 .rw[if_pos (by rw[h1];exact Qp.2 rfl),if_pos (.inl h1)]
 .rw[if_neg (by rw[Qp];exact h1)];by_cases h2:c∈s2.c
  .rw[if_pos h2,if_pos (.inr h2)]
  .rw[if_neg h2,if_neg (fun h=>h.elim h1 h2)]
theorem c_.appendM {st:St} {e:TypeId} {sz CZ n:Nat} {v:AV} {cs new:List AV} (h:c_ st e sz v cs n) (cm:new.length=sz) (af:0<sz) (dt:m_ 1 CZ=true) (en:m_ (n+1) CZ=true):
 ∃v' s2,CJ (st.J st.heap) e sz CZ new 1 v=some (v',s2)/\s2.a=st.a+1/\(∀b∈s2.c,b<st.a)/\c_ (st.G s2) e sz v' (cs++new) (n+1)/\CT st.a v'=true/\
  (∀c,c<st.a->CT c v=false->(st.G s2).heap.u c=st.heap.u c)/\(st.b=0->(st.G s2).c=st.c):=by
 have h':c_ (st.J st.heap) e sz v cs n:=h.aI (Qj _) fun _ _=>rfl;obtain⟨v',s2,h1,h2,h3,h4,h5,h6,h7⟩:=h'.append cm af dt en;have h4':s2.a=st.a+1:=h4;have wY:∀c,CT c v'=true->c=st.a:=fun c hc=>by
  rcases h2 with⟨rfl,h,_⟩|⟨b,rfl,_⟩
  .cases hc
  .have e1:=Qb hc;have e2:=Qb h3;exact e1.symm.trans e2
 have CU:∀b∈s2.c,b<st.a/\CT b v=true:=fun b hb=>by
  rcases h6 b hb with h|h
  .cases h
  .exact h
 refine⟨v',s2,h1,h4,fun b hb=>(CU b hb).1,h2.aI (Qj _) fun c hc=>by rw[Gw h4',if_pos (.inl (wY c hc))],h3,fun c hc ho=>?_,fun hb=>?_⟩
 .rw[Gw h4',if_neg (by
   rintro(h|h)
   .omega
   .rw[(CU c h).2]at ho;cases ho)]
 .show below st.b s2.c st.c=_;rw[hb];have:∀L l:List Nat,below 0 L l=l:=fun L=>by
   induction L with
   |nil=>intro l;rfl
   |cons b L ih=>intro l;exact ih l
  exact this _ _
section
variable (E : a_)
def kD (b:Nat) (args:List AV) (s:St) (P:Bool->St->Prop):Prop:=
 ∃lp TA lA,s.heap.u b=some (.Z lp)/\fc lp.nt lp.params args lp.c=some TA/\k8 lA TA/\
  CA E lp.assign {nt:=lp.nt,defers:=[],Zv:=none,a:=some b} lA s fun ex fr1 l1 s1=>ex= .J/\∃wS,s1.heap.u b=some (.Z wS)/\wS.a= .ready/\
   CA E lp.body fr1 l1 (s1.B b (some (.Z {wS with a:= .busy}))) fun tV ic _ s2=>ic.defers=[]/\∃fW,s2.heap.u b=some (.Z fW)/\pX b P tV s2 fW
end
section
variable {E : a_} {fr : Fr} {l : Sl} {s : St} {o : Oper} {all rest : List Oper} {K : Sl -> St -> Prop}
theorem pX.mono {b:Nat} {P P':Bool->St->Prop} {ex:Ex} {s:St} {lp:dc} (h:pX b P ex s lp) (hp:∀v s,P v s->P' v s):pX b P' ex s lp:=by
 cases ex with
 |J=>exact hp _ _ h
 |Z=>exact hp _ _ h
 |G' id=>exact hp _ _ h
 |O v=>exact h
theorem KY {KP:AV->Sl->St->Prop} {c:Call} {t b d:Nat} {args:List AV} {P:Bool->St->Prop} (ho:o.op= .call c) (hc:c.callee= .value (.tmp t)) (hf:e_ t l=some (.G' (.yield b) [] [])) (ha:Za c.args.toList l=some args)
 (hg:o.guard=none) (hd:o.dst=some d) (C8:Nat.blt d fr.nt=true) (h:kD E b args s P) (hk:∀v s',P v s'->CC E KP all rest fr ((d,.bool v)::l) s' K):CC E KP all (o::rest) fr l s K:=by
 obtain⟨lp,TA,lA,h1,h2,h3,h4⟩:=h;exact UT ho hc hf ha hg hd C8 h1 h2 h3 (h4.mono fun ex fr1 l1 s1 ⟨e1,wS,e2,e3,e4⟩=>⟨e1,wS,e2,e3,e4.mono fun tV ic _ s2 ⟨f1,fW,f2,f3⟩=>⟨f1,fW,f2,f3.mono hk⟩⟩)
end
theorem CD.gen {E:a_} {s:St} {f:FuncId} {fn:Func} {c:Code} {args:List AV} {R:AV->St->Prop} {rs:List ResultVar} {fr:Fr} {l0:Sl} (hm:E.d f args=none) (hf:E.a.u f=some fn) (hc:fn.body=some c) (hr:fn.results.toList=rs)
 (cI:frame fn.ntmps args none=fr) (hl:bV 0 args []=l0) (h:CA E c fr l0 s.u fun ex fr l st=>(ex= .Z\/ex= .J)/\∃Zy,bS fr.defers st=some Zy/\∃vs,CO E Zy l rs=some vs/\∃cr,k_ E f s (eT vs) Zy=some cr/\match cr with
  | .same v=>R v s
  | .J v s'=>R v s'
  | .O _ _=>False):CD E f args s R:=by
 subst cI hl hr;obtain⟨N,ex,ZN,l',T',s',⟨hex,Zy,hu,vs,Zh,cr,ss,hR⟩,dU,gD⟩:=h _ (BZ args 0 (k8.nil .J));refine⟨N+1,cr,fun n hn=>?_,hR⟩;obtain⟨m,rfl⟩:∃m,n=m+1:=⟨n-1,by omega⟩
 unfold Y8;rw[hm];simp only[hf,hc,Qe];rw[Ea,gD m (by omega)];show ZF E (ev E (m+1)) f fn s ⟨ex,ZN,T',s'⟩=_;unfold ZF;have kQ:gu ex=some none:=by rcases hex with h|h<;>rw[h]<;>rfl
 simp only[kQ,Qe,EE hu,r9,BG dU Zh,ss]
theorem LQ {s:St} {b:Nat} {o:Option Cv} (h:s.c≠ []\/b<s.b):(s.B b o).c≠ []:=by
 show(bif Nat.blt b s.b then Z7 b s.c else s.c)≠ [];cases hb:Nat.blt b s.b with
 |true=>
  rw[cond_true];unfold Z7;split
  .exact List.cons_ne_nil _ _
  .cases Nat.beq b _<;>exact List.cons_ne_nil _ _
 |false=>
  rw[cond_false];rcases h with h|h
  .exact h
  .have:Nat.blt b s.b=true:=by simpa[Nat.blt_eq]using h
   rw[hb]at this;cases this
theorem CD.mono {E:a_} {f:FuncId} {args:List AV} {s:St} {R R':AV->St->Prop} (h:CD E f args s R) (hr:∀v s,R v s->R' v s):CD E f args s R':=by
 obtain⟨N,cr,h1,h2⟩:=h;refine⟨N,cr,h1,?_⟩;cases cr with
 |same v=>exact hr _ _ h2
 |J v s'=>exact hr _ _ h2
 |O v s'=>exact h2
end Am
