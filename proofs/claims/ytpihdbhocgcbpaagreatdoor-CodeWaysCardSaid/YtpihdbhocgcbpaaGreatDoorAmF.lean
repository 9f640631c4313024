/- The abstract machine: rules for calls with unknown arguments. -/
import Derived.Test.YtpihdbhocgcbpaaGreatDoorAmE
set_option linter.unusedSectionVars false
set_option linter.unusedVariables false
set_option linter.unusedSimpArgs false
namespace Am
open Go
section
variable (E : c_)
def hQ (o:Oper) (fr:Fr) (T:Tr AV) (s:St) (v:AV) (s':St):Prop:=
 ∃N,∀n,N<=n->∀k:qo,(Xf E (XL E o.type o.op) k).run (ev E n) fr T s=k.run (ev E n) fr T v s'
def Co (f:FuncId) (args:List AV) (s:St) (v:AV):Prop:=∃N,∀n,N<=n->WM E (ev E n) f args s=some (.J v)
end
section
variable {E : c_} {fr : Fr} {T : Tr AV} {s : St} {Q : cP -> Prop}
theorem DV (n:Nat) (c:Code):ev E (n+1) c=(Yr E c).run (ev E n):=rfl
noncomputable def dZ (d:Option Nat) (v:AV) (T:Tr AV):Tr AV:=match d with
 |some d=>T.u d (some v)
 |none=>T
def Wz (nt:Nat):Option Nat->Bool
 |some d=>Nat.blt d nt
 |none=>true
theorem BG {dst:Option Nat} {k:Cl} (ev:Ev) (v:AV) (hd:Wz fr.nt dst=true):(Z2 dst k).run ev fr T v s=k.run ev fr (dZ dst v T) s:=by
 cases dst with
 |none=>rfl
 |some d=>
  show(bif Nat.blt d fr.nt then k.run ev fr (Tr.z (some v) (s_ d) T) s else .J)=_;have:Nat.blt d fr.nt=true:=hd;rw[this];rfl
theorem Fh {all:List Oper} {g:Nat×Bool} {oj:Oper} {d:Nat} {b:Bool} (hj:l_ all g.1=some oj) (hd:oj.dst=some d) (hv:T.g d=some (.bool b)):Xk all g T=some (bif g.2 then b else !b):=by
 unfold Xk bx;rw[hj];simp only[Qe,hd];show dN g.2 (T.g d)=_;rw[hv];rfl
theorem H0 {o:Oper} {x:Tr AV->Option AV} {f:Tr AV->St->Option AV} {v:AV} (XB:XL E o.type o.op= .Y x f) (hv:f T s=some v):hQ E o fr T s v s:=⟨0,fun n _ k=>by
 rw[XB];show Ye (fun v=>k.run (ev E n) fr T v s) (f T s)=_;rw[hv];rfl⟩
theorem H1 {o:Oper} {b:Bool} {x:Tr AV->Option AV} {f:Tr AV->St->Option (AV×St)} {v:AV} {s':St} (XB:XL E o.type o.op= .a_ b x f) (hv:f T s=some (v,s')):hQ E o fr T s v s':=⟨0,fun n _ k=>by
 rw[XB];show pF (k.run (ev E n) fr T) (f T s)=_;rw[hv];rfl⟩
theorem EF {o:Oper} {f:Tr AV->Option Mk} {ob:CG} {g:Nat->AV} (XB:XL E o.type o.op= .an f) (hv:f T=some (.J ob g)):hQ E o fr T s (g s.a) (s.g ob):=⟨0,fun n _ k=>by
 rw[XB];show oi s (k.run (ev E n) fr T) (f T)=_;rw[hv];rfl⟩
theorem OM {o:Oper} {F:Tr AV->St->Option (FuncId×List AV)} {f:FuncId} {args:List AV} {v:AV} (XB:XL E o.type o.op= .aG F) (hv:F T s=some (f,args)) (hc:Co E f args s v):hQ E o fr T s v s:=by
 obtain⟨N,hc⟩:=hc;refine⟨N,fun n hn k=>?_⟩;rw[XB];show X4 fr T s (k.run (ev E n) fr T) ((F T s).bind fun p=>WM E (ev E n) p.1 p.2 s)=_;rw[hv];simp only[Qe];rw[hc n hn];rfl
theorem Te {o:Oper} {F:Tr AV->Option AV} {A:Tr AV->Option (List AV)} {f:FuncId} {first captured args:List AV} {v:AV} (XB:XL E o.type o.op= .Z1 F A) (hF:F T=some (.an (.func f) first captured)) (hA:A T=some args)
 (hb:CV E f=true) (hc:Co E f (first++args++captured) s v):hQ E o fr T s v s:=by
 obtain⟨N,hc⟩:=hc;refine⟨N,fun n hn k=>?_⟩;rw[XB];show X4 fr T s (k.run (ev E n) fr T) ((F T).bind fun g=>(A T).bind fun args=>Xz E (ev E n) args s g)=_;rw[hF,hA];simp only[Qe,Xz,hb,cond_true];rw[hc n hn];rfl
theorem Co.XF {f:FuncId} {args:List AV} {v:AV} (h:E.d f args=some v):Co E f args s v:=⟨0,fun n _=>by unfold WM;rw[h]⟩
def aL:AV->Bool
 | .bool _=>true
 | .int _ _=>true
 | .aG _=>true
 |_=>false
theorem P4 {f:FuncId} {v:AV} {s st:St} (hv:aL v=true) (hl:st.d=[]):k9 E f s v st=some (.J v):=by
 have hk:∀n w,C9 w n 40 v []=some (v,[]):=by
  intro n w;cases v<;>first|rfl|cases hv
 have hu:CD s.a 40 v=true:=by cases v<;>first|rfl|cases hv
 have hf:qT E f s v st=some (v,st):=by
  unfold qT Wa;split
  .rfl
  .rw[hl];simp only[hk,Qe,q_]
  .simp only[hk,Qe,q_]
 unfold k9;rw[hf];simp only[Qe,Zs,hl,hu,cond_true]
end
noncomputable def qU (P:Program) (nt nf mask:Nat) (K:FuncId->List AV->Option AV):c_:= {qS P nt nf mask []with d:=K}
def Wh (P:Program) (f:FuncId) (args:List AV) (v:AV):Prop:=
 ∀(C:Cx) (S:St) (w:World) (xs:Array Value) (c:Frame) (cs:List Frame),Wx C args xs.toList->WW C S w->o_ P (lone (Frame.enter P f xs .normal) (c::cs) w) c cs C S w (.J v)
def C6 (P:Program) (K:FuncId->List AV->Option AV):Prop:=∀f args v,K f args=some v->Wh P f args v
theorem Vu {P:Program} {nt nf:Nat} (h:Zd P nt nf) (mask:Nat) (K:FuncId->List AV->Option AV):Wd (qU P nt nf mask K) P:=by
 have:=MA h mask [];exact⟨this.c,this.d,this.a,this.b⟩
theorem xA {P:Program} {nt nf:Nat} (h:Zd P nt nf) (mask:Nat) (K:FuncId->List AV->Option AV):ZW (qU P nt nf mask K) P:=
 Vq (Vu h mask K) fun f fn hf=>by
  have:P.funcs.toList[f]?=some fn:=by rw[<-E0 nf P.funcs.toList f (by simpa using h.a)];exact hf
  exact(List.all_eq_true.1 h.b) fn (List.mem_of_getElem? this)
theorem Vv {P:Program} {nt nf mask:Nat} {K:FuncId->List AV->Option AV} (hK:C6 P K):fu (qU P nt nf mask K) P:=
 fun f args v h C S w xs c cs _ hv hS=>hK f args v h C S w xs c cs hv hS
theorem noGlob (P:Program) (nt nf mask:Nat) (K:FuncId->List AV->Option AV) (C:Cx):WN (qU P nt nf mask K) C:=fun g cs hg=>by cases hg
theorem BM {P:Program} {nt nf mask:Nat} (hp:Zd P nt nf) {K:FuncId->List AV->Option AV} (hK:C6 P K) {f:FuncId} {args:List AV} {v:AV} (h:Co (qU P nt nf mask K) f args S0 v)
 (ha:args.all (Cr 40)=true) (hv:Cr 40 v=true):Wh P f args v:=by
 intro C S w xs c cs Xr hS;obtain⟨N,h⟩:=h;have hx:=xA hp mask K;have he:=Vu hp mask K;have Wv:=Qs he hx (MG he hx) (Vv hK) (fun _ ev _=>I7 ev) N;have:=Wv f args (.J v) C.g S0 w xs c cs (h N (Qj _)) (noGlob _ _ _ _ _ _) (Bs 40 Xr ha) (xy C hS);obtain⟨C1,x,w',hs,t,aJ⟩:=this;have eb:m_ C1.g (C.I C1):=⟨fun _ x=>x.elim,fun _ x=>x.elim,fun _ _ h=>h,fun _ _ x=>x.elim,fun _ _ x=>x.elim,fun _ h=>h⟩
 exact⟨_,x,w',hs,M5 hS t,(DX 40 aJ hv).g eb⟩
def Cx.memory (w:World):Cx:=
 ⟨fun _=>⟨0,0,0⟩,fun Cv=>match w.heap[Cv]? with
  |some (.cells c _ _)=>some c.toList
  |_=>none,fun _=>False,fun _ _=>0,fun _ _=>False,fun k=>k<w.heap.size⟩
theorem U4 (w:World):WW (Cx.memory w) S0 w:=by
 have Xo:∀b o,¬S0.b.g b=some o:=fun b o hb=>by rw[show S0.b= .J from rfl,AS]at hb;cases hb
 have hM:∀Cv ms,(Cx.memory w).M Cv=some ms->∃c e fr,w.heap[Cv]?=some (.cells c e fr)/\c.toList=ms:=by
  intro Cv ms hm;simp only[Cx.memory]at hm;split at hm
  .next c e fr hx=>cases hm;exact⟨c,e,fr,hx,rfl⟩
  .cases hm
 refine⟨fun b o hb=>absurd hb (Xo b o),fun b _ o _ hb=>absurd hb (Xo b o),fun b hb=>hb.elim,hM,fun b o hb=>absurd hb (Xo b o),fun b n hb=>hb.elim,fun _ h=>h,fun b hb=>hb.elim,fun Cv ms hm=>?_⟩;obtain⟨c,e,fr,hx,_⟩:=hM Cv ms hm;exact B1 hx
section
variable {E : c_} {fr : Fr} {T : Tr AV} {s : St} {o : Oper}
theorem xB {op:BinOp} {t:TypeId} {x y:Operand} {k:IntKind} (hu:Wb E t=some (.int k)) {f:IntKind->Int->Int->Option AV} (hf:pf op=some f):iC E op t x y=Zh E (qA f) x y:=by
 unfold iC;rw[hu];cases op<;>first|(exfalso;simp[pf]at hf;done)|(simp only[hf])
theorem LY {n:Int} (h0: -9223372036854775808<=n) (h1:n<9223372036854775808):IntKind.i64.wrap n=n:=Go.IntWalk.i64_in _ (by omega)
theorem LX {n:Int} (h0: -9223372036854775808<=n) (h1:n<9223372036854775808):Zf .i64 n= .int .i64 n:=by
 unfold Zf;rw[LY h0 h1]
theorem Hp {α:Type} {l:List α} {a n:Nat} (h:a+n<=l.length):v_ l a n=some ((l.drop a).take n):=by
 have h1:∀(a:Nat) (l:List α),a<=l.length->XE a l=some (l.drop a):=by
  intro a;induction a with
  |zero=>intro l _;rfl
  |succ a ih=>
   intro l hl;cases l with
   |nil=>simp at hl
   |cons b l=>exact ih l (by simpa using hl)
 have h2:∀(n:Nat) (l:List α),n<=l.length->pa n l=some (l.take n):=by
  intro n;induction n with
  |zero=>intro l _;simp;rfl
  |succ n ih=>
   intro l hl;cases l with
   |nil=>simp at hl
   |cons b l=>
    show ep b (pa n l)=_;rw[ih l (by simpa using hl)];rfl
 unfold v_;rw[h1 a l (by omega)];exact h2 n _ (by simp;omega)
theorem JW {d m n:Nat} {k:IntKind} (h:n<=m):WB d m (some (.int k (n:Nat)))=some n:=by
 have hk:Xb (.int k (n:Nat))=some n:=rfl;have hb:Nat.ble n m=true:=Qd h;simp only[WB,hk,Qe,hb,cond_true]
theorem Sn {x:Operand} {v:AV} (h:Ci E x T=some v):XR E (some x) T=some (some v):=by simp only[XR,h,Qe]
theorem ND:CZ E [] T=some []:=rfl
theorem HE {x:Operand} {l:List Operand} {v:AV} {vs:List AV} (h:Ci E x T=some v) (t:CZ E l T=some vs):CZ E (x::l) T=some (v::vs):=by simp only[CZ,h,t,Qe]
theorem Q2 {c:Call} {f:FuncId} {args:List AV} {v:AV} (ho:o.op= .call c) (hc:c.callee= .value (.func f)) (hb:CV E f=true) (ha:CZ E c.args.toList T=some args) (h:Co E f args s v):hQ E o fr T s v s:=
 OM (F:=fun T _=>(CZ E c.args.toList T).bind fun args=>some (f,args)) (by
  rw[ho];show Wo E o.type c=_;unfold Wo;rw[hc];simp only[hb,cond_true]) (by simp only[ha,Qe]) h
theorem OL {c:Call} {t:Nat} {f:FuncId} {first captured args:List AV} {v:AV} (ho:o.op= .call c) (hc:c.callee= .value (.tmp t)) (hf:T.g t=some (.an (.func f) first captured)) (hb:CV E f=true)
 (ha:CZ E c.args.toList T=some args) (h:Co E f (first++args++captured) s v):hQ E o fr T s v s:=
 Te (F:=Ci E (.tmp t)) (A:=CZ E c.args.toList) (by
  rw[ho];show Wo E o.type c=_;unfold Wo;rw[hc]) hf ha hb h
end
abbrev Sl:=List (Nat×AV)
def d_:Nat->Sl->Option AV
 |_,[]=>none
 |k,p::l=>bif Nat.beq k p.1 then some p.2 else d_ k l
def k8 (l:Sl) (T:Tr AV):Prop:=∀k v,d_ k l=some v->T.g k=some v
theorem k8.put {l:Sl} {T:Tr AV} (h:k8 l T) (d:Nat) (v:AV):k8 ((d,v)::l) (T.u d (some v)):=by
 intro k u hk;rw[Ay];unfold d_ at hk;cases hb:Nat.beq k d with
 |true=>grind [Qb]
 |false=>
  rw[hb]at hk;have:=Nat.ne_of_beq_eq_false hb;rw[if_neg this];exact h k u hk
theorem k8.nil (T:Tr AV):k8 [] T:=fun _ _ h=>by cases h
theorem k8.sub {l l':Sl} {T:Tr AV} (h:k8 l T) (hs:∀p∈l',d_ p.1 l=some p.2):k8 l' T:=by
 intro k v hk;have:∃p∈l',p.1=k/\p.2=v:=by
  clear hs;induction l' with
  |nil=>cases hk
  |cons p l' ih=>grind [Option.some.injEq,d_,Qb]
 obtain⟨p,hp,rfl,rfl⟩:=this;exact h _ _ (hs p hp)
noncomputable def Cg:Operand->Sl->Option AV
 | .tmp t,l=>d_ t l
 | .const v,_=>nR v
 | .func f,_=>some (.an (.func f) [] [])
 | .global _,_=>none
theorem Ae {E:c_} {l:Sl} {T:Tr AV} (h:k8 l T) {x:Operand} {v:AV} (hx:Cg x l=some v):Ci E x T=some v:=by
 cases x with
 |tmp t=>exact h t v hx
 |const c=>
  simp only[Cg]at hx;simp only[Ci];rw[hx];rfl
 |func f=>exact hx
 |global g=>cases hx
noncomputable def WC:List Operand->Sl->Option (List AV)
 | [],_=>some []
 |x::xs,l=>match Cg x l with
  |some v=>match WC xs l with
   |some vs=>some (v::vs)
   |none=>none
  |none=>none
theorem AO {E:c_} {l:Sl} {T:Tr AV} (h:k8 l T):∀ {xs:List Operand} {vs:List AV},WC xs l=some vs->CZ E xs T=some vs
 | [],vs,hx=>hx
 |x::xs,vs,hx=>by
  unfold WC at hx;split at hx
  .next v hv=>
   split at hx
   .next us hus=>cases hx;exact HE (Ae h hv) (AO h hus)
   .cases hx
  .cases hx
section
variable (E : c_)
def AtEx (KP:AV->Sl->St->Prop) (K:Sl->St->Prop) (ex:Ex) (l:Sl) (s:St):Prop:=match ex with
 | .J=>K l s
 | .O v=>KP v l s
 |_=>False
def CA (KP:AV->Sl->St->Prop) (all ops:List Oper) (fr:Fr) (l:Sl) (s:St) (K:Sl->St->Prop):Prop:=
 ∀T,k8 l T->∃N ex l' T' s',AtEx KP K ex l' s'/\k8 l' T'/\∀n,N<=n->(aW E all ops).run (ev E n) fr T s= .O ⟨ex,fr,T',s'⟩
def Cu (c:Code) (fr:Fr) (l:Sl) (s:St) (Q:Ex->Fr->Sl->St->Prop):Prop:=
 ∀T,k8 l T->∃N ex Yx l' T' s',Q ex Yx l' s'/\k8 l' T'/\∀n,N<=n->(Yr E c).run (ev E n) fr T s= .O ⟨ex,Yx,T',s'⟩
def Zl (o:Oper) (fr:Fr) (l:Sl) (s:St) (v:AV) (s':St):Prop:=∀T,k8 l T->hQ E o fr T s v s'
end
section
variable {E : c_} {fr : Fr} {l : Sl} {s : St} {all rest : List Oper} {o : Oper}
theorem CA.done {KP:AV->Sl->St->Prop} {K:Sl->St->Prop} (h:K l s):CA E KP all [] fr l s K:=fun T hT=>⟨0,.J,l,T,s,h,hT,fun _ _=>rfl⟩
theorem CA.op {KP:AV->Sl->St->Prop} {K:Sl->St->Prop} {v:AV} {s':St} {d:Nat} (ho:Zl E o fr l s v s') (hg:o.guard=none) (hd:o.dst=some d) (C5:Nat.blt d fr.nt=true) (h:CA E KP all rest fr ((d,v)::l) s' K):CA E KP all (o::rest) fr l s K:=by
 intro T hT;obtain⟨N,ho⟩:=ho T hT;obtain⟨M,ex,l',T',s2,hk,af,hr⟩:=h _ (hT.put d v);refine⟨max N M,ex,l',T',s2,hk,af,fun n hn=>?_⟩;show(ZN E all o (Z2 o.dst (aW E all rest))).run (ev E n) fr T s=_;unfold ZN r7;rw[hg];simp only;rw[ho n (by omega),BG _ _ (by rw[hd];exact C5),hd];exact hr n (by omega)
theorem Hz {KP:AV->Sl->St->Prop} {K:Sl->St->Prop} {v:AV} {s':St} (ho:Zl E o fr l s v s') (hg:o.guard=none) (hd:o.dst=none) (h:CA E KP all rest fr l s' K):CA E KP all (o::rest) fr l s K:=by
 intro T hT;obtain⟨N,ho⟩:=ho T hT;obtain⟨M,ex,l',T',s2,hk,af,hr⟩:=h _ hT;refine⟨max N M,ex,l',T',s2,hk,af,fun n hn=>?_⟩;show(ZN E all o (Z2 o.dst (aW E all rest))).run (ev E n) fr T s=_;unfold ZN r7;rw[hg];simp only;rw[ho n (by omega),BG _ _ (by rw[hd];rfl),hd];exact hr n (by omega)
theorem CA.go {KP:AV->Sl->St->Prop} {K:Sl->St->Prop} {v:AV} {s':St} {d j e:Nat} {w b:Bool} {oj:Oper} (hg:o.guard=some (j,w)) (hj:l_ all j=some oj) (he:oj.dst=some e) (hl:d_ e l=some (.bool b)) (hb:b=w)
 (ho:Zl E o fr l s v s') (hd:o.dst=some d) (C5:Nat.blt d fr.nt=true) (h:CA E KP all rest fr ((d,v)::l) s' K):CA E KP all (o::rest) fr l s K:=by
 intro T hT;obtain⟨N,ho⟩:=ho T hT;obtain⟨M,ex,l',T',s2,hk,af,hr⟩:=h _ (hT.put d v);refine⟨max N M,ex,l',T',s2,hk,af,fun n hn=>?_⟩;show(ZN E all o (Z2 o.dst (aW E all rest))).run (ev E n) fr T s=_;unfold ZN r7;rw[hg];simp only;rw[Fh (g:=(j,w)) hj he (hT e _ hl)];have:(bif w then b else !b)=true:=by rw[hb];cases w<;>rfl
 rw[this];simp only[dh,cond_true];rw[ho n (by omega),BG _ _ (by rw[hd];exact C5),hd];exact hr n (by omega)
theorem CA.skip {KP:AV->Sl->St->Prop} {K:Sl->St->Prop} {d j e:Nat} {w b:Bool} {oj:Oper} (hg:o.guard=some (j,w)) (hj:l_ all j=some oj) (he:oj.dst=some e) (hl:d_ e l=some (.bool b)) (hb:b= !w)
 (hd:o.dst=some d) (C5:Nat.blt d fr.nt=true) (h:CA E KP all rest fr ((d,.Y [])::l) s K):CA E KP all (o::rest) fr l s K:=by
 intro T hT;obtain⟨M,ex,l',T',s2,hk,af,hr⟩:=h _ (hT.put d (.Y []));refine⟨M,ex,l',T',s2,hk,af,fun n hn=>?_⟩;show(ZN E all o (Z2 o.dst (aW E all rest))).run (ev E n) fr T s=_;unfold ZN r7;rw[hg];simp only;rw[Fh (g:=(j,w)) hj he (hT e _ hl)];have:(bif w then b else !b)=false:=by rw[hb];cases w<;>rfl
 rw[this];simp only[dh,cond_false];rw[BG _ _ (by rw[hd];exact C5),hd];exact hr n hn
variable {Q : Ex -> Fr -> Sl -> St -> Prop}
theorem Cu.sub {c:Code} {l':Sl} (h:Cu E c fr l' s Q) (hs:∀p∈l',d_ p.1 l=some p.2):Cu E c fr l s Q:=fun T hT=>h T (hT.sub hs)
theorem Do {k:Nat} {ops:Array Oper} (h:CA E (fun v l s=>Q (.O v) fr l s) ops.toList ops.toList fr l s (Q .J fr)):Cu E (.region k ops false) fr l s Q:=fun T hT=>
 let⟨N,ex,l',T',s',h1,h2,h3⟩:=h T hT;⟨N,ex,fr,l',T',s',(match ex,h1 with
  | .J,h1=>h1
  | .O _,h1=>h1),h2,h3⟩
abbrev uz (E:c_) (b:Code) (Q:Ex->Fr->Sl->St->Prop) (ex:Ex) (fr:Fr) (l:Sl) (s:St):Prop:=match ex with
 | .J=>Cu E b fr l s Q
 |ex=>Q ex fr l s
theorem B0 {a b:Code} (h:Cu E a fr l s (uz E b Q)):Cu E (.seq a b) fr l s Q:=by
 intro T hT;obtain⟨N,ex,Yx,l',T',s',hq,af,hr⟩:=h T hT;unfold uz at hq;cases ex with
 |J=>
  obtain⟨M,oH,cR,l2,T2,s2,kD,uu,mR⟩:=hq T' af;refine⟨max N M,oH,cR,l2,T2,s2,kD,uu,fun n hn=>?_⟩;show(k6.g ((Yr E a).run (ev E n) fr T s) (mW ((Yr E b).run (ev E n))))=_;rw[hr n (by omega)];exact mR n (by omega)
 |_=>
  refine⟨N,_,Yx,l',T',s',hq,af,fun n hn=>?_⟩;show(k6.g ((Yr E a).run (ev E n) fr T s) (mW ((Yr E b).run (ev E n))))=_;rw[hr n hn];rfl
theorem G5 {k:Nat} {ops:Array Oper} {b:Code} (h:CA E (fun v l s=>Q (.O v) fr l s) ops.toList ops.toList fr l s fun l s=>Cu E b fr l s Q):Cu E (.seq (.region k ops false) b) fr l s Q:=B0 (Do h)
theorem H4 {x:Operand} {a b:Code} {t:Bool} (hx:Cg x l=some (.bool t)) (h1:t=true->Cu E a fr l s Q) (h0:t=false->Cu E b fr l s Q):Cu E (.cond x a b) fr l s Q:=by
 intro T hT;cases t with
 |true=>
  obtain⟨N,ex,Yx,l',T',s',hq,af,hr⟩:=h1 rfl T hT;refine⟨N,ex,Yx,l',T',s',hq,af,fun n hn=>?_⟩;show fR ((Yr E a).run (ev E n)) ((Yr E b).run (ev E n)) fr T s (Ci E x T)=_;rw[Ae hT hx];exact hr n hn
 |false=>
  obtain⟨N,ex,Yx,l',T',s',hq,af,hr⟩:=h0 rfl T hT;refine⟨N,ex,Yx,l',T',s',hq,af,fun n hn=>?_⟩;show fR ((Yr E a).run (ev E n)) ((Yr E b).run (ev E n)) fr T s (Ci E x T)=_;rw[Ae hT hx];exact hr n hn
abbrev ss (id:Nat) (Q:Ex->Fr->Sl->St->Prop) (ex:Ex) (fr:Fr) (l:Sl) (s:St):Prop:=match ex with
 | .Z i=>bif Nat.beq i id then Q .J fr l s else Q (.Z i) fr l s
 |ex=>Q ex fr l s
theorem Cu.block {id:Nat} {b:Code} (h:Cu E b fr l s (ss id Q)):Cu E (.block id b) fr l s Q:=by
 intro T hT;obtain⟨N,ex,Yx,l',T',s',hq,af,hr⟩:=h T hT;unfold ss at hq;cases ex with
 |Z i=>
  simp only at hq;cases hb:Nat.beq i id with
  |true=>
   rw[hb]at hq;refine⟨N,.J,Yx,l',T',s',hq,af,fun n hn=>?_⟩;show(k6.g ((Yr E b).run (ev E n) fr T s) (fh id))=_;rw[hr n hn];simp only[k6.g,fh,hb,cond_true]
  |false=>
   rw[hb]at hq;refine⟨N,.Z i,Yx,l',T',s',hq,af,fun n hn=>?_⟩;show(k6.g ((Yr E b).run (ev E n) fr T s) (fh id))=_;rw[hr n hn];simp only[k6.g,fh,hb,cond_false]
 |_=>
  refine⟨N,_,Yx,l',T',s',hq,af,fun n hn=>?_⟩;show(k6.g ((Yr E b).run (ev E n) fr T s) (fh id))=_;rw[hr n hn];rfl
theorem Cu.skip (h:Q .J fr l s):Cu E .skip fr l s Q:=fun T hT=>⟨0,_,fr,l,T,s,h,hT,fun _ _=>rfl⟩
theorem Ko {id:Nat} (h:Q (.Z id) fr l s):Cu E (.exit id) fr l s Q:=fun T hT=>⟨0,_,fr,l,T,s,h,hT,fun _ _=>rfl⟩
theorem A9 (h:Q .Y fr l s):Cu E .ret fr l s Q:=fun T hT=>⟨0,_,fr,l,T,s,h,hT,fun _ _=>rfl⟩
theorem A2 {b:Code} (h:Cu E b fr l s (uz E (.loop b) Q)):Cu E (.loop b) fr l s Q:=by
 intro T hT;obtain⟨N,ex,Yx,l',T',s',hq,af,hr⟩:=h T hT;unfold uz at hq;cases ex with
 |J=>
  obtain⟨M,oH,cR,l2,T2,s2,kD,uu,mR⟩:=hq T' af;refine⟨max N (M+1),oH,cR,l2,T2,s2,kD,uu,fun n hn=>?_⟩;obtain⟨m,rfl⟩:∃m,n=m+1:=⟨n-1,by omega⟩
  show(k6.g ((Yr E b).run (ev E (m+1)) fr T s) (mW (ev E (m+1) (.loop b))))=_;rw[hr (m+1) (by omega)];exact mR m (by omega)
 |_=>
  refine⟨N,_,Yx,l',T',s',hq,af,fun n hn=>?_⟩;show(k6.g ((Yr E b).run (ev E n) fr T s) (mW (ev E n (.loop b))))=_;rw[hr n hn];rfl
theorem Cu.mono {c:Code} {Q':Ex->Fr->Sl->St->Prop} (h:Cu E c fr l s Q) (hq:∀ex fr l s,Q ex fr l s->Q' ex fr l s):Cu E c fr l s Q':=fun T hT=>
 let⟨N,ex,Yx,l',T',s',h1,h2,h3⟩:=h T hT;⟨N,ex,Yx,l',T',s',hq _ _ _ _ h1,h2,h3⟩
def X3 (E:c_) (o:Oper) (l:Sl) (v:AV):Prop:=
 XK (XL E o.type o.op)=true/\∀T,k8 l T->WQ (XL E o.type o.op) T= .J/\∀(ev:Ev) (fr:Fr) (s:St) (k:qo),(Xf E (XL E o.type o.op) k).run ev fr T s=k.run ev fr T v s
theorem VU {v:AV} (h:X3 E o l v):Zl E o fr l s v s:=fun T hT=>⟨0,fun n _ k=>(h.2 T hT).2 (ev E n) fr s k⟩
theorem A5 {f:Tr AV->Option AV} {v:AV} (XB:XL E o.type o.op= .O f) (hv:∀T,k8 l T->f T=some v):X3 E o l v:=by
 refine⟨by rw[XB];rfl,fun T hT=>⟨by rw[XB];rfl,fun ev fr s k=>?_⟩⟩;rw[XB];show Ye (fun v=>k.run ev fr T v s) (f T)=_;rw[hv T hT];rfl
theorem MT {x:Tr AV->Option AV} {f:Tr AV->St->Option AV} {v:AV} (XB:XL E o.type o.op= .Y x f) (hx:∀T,k8 l T->Z8 (x T)=none) (hv:∀T s,k8 l T->f T s=some v):X3 E o l v:=by
 refine⟨by rw[XB];rfl,fun T hT=>⟨by rw[XB];show ff (Z8 (x T))=_;rw[hx T hT];rfl,fun ev fr s k=>?_⟩⟩;rw[XB];show Ye (fun v=>k.run ev fr T v s) (f T s)=_;rw[hv T s hT];rfl
theorem RA {x:Operand} {v:AV} (ho:o.op= .move x) (hx:Cg x l=some v):X3 E o l v:=A5 (f:=Ci E x) (by rw[ho];rfl) fun _ hT=>Ae hT hx
theorem X3.assign {x:Operand} {v:AV} (ho:o.op= .assign x) (hx:Cg x l=some v):X3 E o l v:=A5 (f:=Ci E x) (by rw[ho];rfl) fun _ hT=>Ae hT hx
theorem OO {c x y:Operand} {v:AV} {b:Bool} (ho:o.op= .pick c x y) (hc:Cg c l=some (.bool b)) (hb:b=true) (hx:Cg x l=some v):X3 E o l v:=
 A5 (f:=fun T=>(Ci E c T).bind (lH (Ci E x) (Ci E y) T)) (by rw[ho];rfl) fun _ hT=>by subst hb;simp only[Ae hT hc,Qe,lH,cond_true,Ae hT hx]
theorem OP {c x y:Operand} {v:AV} {b:Bool} (ho:o.op= .pick c x y) (hc:Cg c l=some (.bool b)) (hb:b=false) (hy:Cg y l=some v):X3 E o l v:=
 A5 (f:=fun T=>(Ci E c T).bind (lH (Ci E x) (Ci E y) T)) (by rw[ho];rfl) fun _ hT=>by subst hb;simp only[Ae hT hc,Qe,lH,cond_false,Ae hT hy]
theorem VO {t:TypeId} {x:Operand} {b:Bool} (ho:o.op= .unOp .not t x) (hx:Cg x l=some (.bool b)):X3 E o l (.bool (!b)):=
 A5 (f:=fun T=>(Ci E x T).bind (N_ .not)) (by rw[ho];rfl) fun _ hT=>by simp only[Ae hT hx,Qe,N_]
theorem D6 {op:BinOp} {t yt:TypeId} {x y:Operand} {k:IntKind} {a b:Int} {v:AV} {f:IntKind->Int->Int->Option AV} (ho:o.op= .binOp op t x y yt) (hu:Wb E t=some (.int k)) (hf:pf op=some f)
 (hx:Cg x l=some (.int k a)) (hy:Cg y l=some (.int k b)) (hv:f k a b=some v):X3 E o l v:=
 A5 (f:=fun T=>(Ci E x T).bind fun a=>(Ci E y T).bind fun b=>Am.qA f a b) (by rw[ho];exact xB hu hf) fun _ hT=>by simp only[Ae hT hx,Ae hT hy,Qe,Am.qA,if_true,hv]
theorem X3.add {t yt:TypeId} {x y:Operand} {a b:Int} (ho:o.op= .binOp .add t x y yt) (hu:Wb E t=some (.int .i64)) (hx:Cg x l=some (.int .i64 a)) (hy:Cg y l=some (.int .i64 b))
 (h: -9223372036854775808<=a+b/\a+b<9223372036854775808):X3 E o l (.int .i64 (a+b)):=D6 ho hu rfl hx hy (by rw[LX h.1 h.2])
theorem IH {t yt:TypeId} {x y:Operand} {a b:Nat} (ho:o.op= .binOp .add t x y yt) (hu:Wb E t=some (.int .i64)) (hx:Cg x l=some (.int .i64 (a:Nat))) (hy:Cg y l=some (.int .i64 (b:Nat)))
 (h:a+b<9223372036854775808):X3 E o l (.int .i64 ((a+b:Nat):Int)):=X3.add ho hu hx hy (by omega)
theorem R8 {op:BinOp} {t yt:TypeId} {x y:Operand} {a b:List UInt8} {v:AV} {f:List UInt8->List UInt8->Option AV} (ho:o.op= .binOp op t x y yt) (hu:Wb E t=some .string) (hf:vl op=some f)
 (hx:Cg x l=some (.aG a)) (hy:Cg y l=some (.aG b)) (hv:f a b=some v):X3 E o l v:=
 A5 (f:=fun T=>(Ci E x T).bind fun a=>(Ci E y T).bind fun b=>Am.rS f a b) (by
  rw[ho];show iC E op t x y=_;unfold iC;rw[hu];simp only[hf];rfl) fun _ hT=>by simp only[Ae hT hx,Ae hT hy,Qe,Am.rS,hv]
theorem EG {c:Call} {t:TypeId} {ts:List TypeId} {x:Operand} {w:List UInt8} (ho:o.op= .call c) (hc:c.callee= .builtin .len) (ht:c.argTypes.toList=t::ts) (ha:c.args.toList=[x]) (hu:Wb E t=some .string)
 (hx:Cg x l=some (.aG w)):X3 E o l (.int .i64 (w.length:Nat)):=
 A5 (f:=fun T=>(Ci E x T).bind Am.po) (by
  rw[ho];show Wo E o.type c=_;unfold Wo;rw[hc];simp only;rw[ht,ha];show pr E t x=_;unfold pr;rw[hu]) fun _ hT=>by simp only[Ae hT hx,Qe,Am.po,DT]
theorem OS {t:TypeId} {x i:Operand} {w:List UInt8} {k:IntKind} {n:Nat} {b:UInt8} (ho:o.op= .index t x i) (hu:Wb E t=some .string) (hx:Cg x l=some (.aG w)) (hi:Cg i l=some (.int k (n:Nat)))
 (hb:w[n]?=some b):X3 E o l (.int .u8 b.toNat):=
 A5 (f:=fun T=>(Ci E i T).bind fun iv=>(Xb iv).bind fun k=>(Ci E x T).bind (iA k)) (by
  rw[ho];show lv E t x i=_;unfold lv;rw[hu]) fun _ hT=>by
  have hn:l_ w n=some b:=by rw[E4];exact hb
  have hk:Xb (.int k (n:Nat))=some n:=rfl;simp only[Ae hT hx,Ae hT hi,Qe,hk,iA,hn]
theorem DF {t:TypeId} {x i:Operand} {w:List UInt8} {k:IntKind} {n:Nat} (ho:o.op= .index t x i) (hu:Wb E t=some .string) (hx:Cg x l=some (.aG w)) (hi:Cg i l=some (.int k (n:Nat)))
 (hn:n<w.length):X3 E o l (.int .u8 (w.getD n 0).toNat):=OS ho hu hx hi (by rw[List.getD,Qi hn];rfl)
noncomputable def fA:Option Operand->Sl->Option (Option AV)
 |none,_=>some none
 |some x,l=>(Cg x l).bind fun v=>some (some v)
theorem E3 {T:Tr AV} (hT:k8 l T) {x:Option Operand} {v:Option AV} (h:fA x l=some v):XR E x T=some v:=by
 cases x with
 |none=>exact h
 |some x=>
  obtain⟨u,hu,h2⟩:=Qa.1 h;cases h2;exact Sn (Ae hT hu)
theorem X3.extract {x:Operand} {i:Nat} {vs:List AV} {v:AV} (ho:o.op= .extract x i) (hx:Cg x l=some (.Y vs)) (hv:l_ vs i=some v):X3 E o l v:=
 A5 (f:=fun T=>(Ci E x T).bind (dc i)) (by rw[ho];rfl) fun _ hT=>by simp only[Ae hT hx,Qe,dc,hv]
theorem A7 {c:Call} {f:FuncId} {args:List AV} {v:AV} (ho:o.op= .call c) (hc:c.callee= .value (.func f)) (hb:CV E f=true) (ha:WC c.args.toList l=some args) (h:Co E f args s v):Zl E o fr l s v s:=
 fun _ hT=>Q2 ho hc hb (AO hT ha) h
theorem Eb {c:Call} {t:Nat} {f:FuncId} {first captured args:List AV} {v:AV} (ho:o.op= .call c) (hc:c.callee= .value (.tmp t)) (hf:d_ t l=some (.an (.func f) first captured)) (hb:CV E f=true)
 (ha:WC c.args.toList l=some args) (h:Co E f (first++args++captured) s v):Zl E o fr l s v s:=fun _ hT=>OL ho hc (hT t _ hf) hb (AO hT ha) h
theorem LO {KP:AV->Sl->St->Prop} {K:Sl->St->Prop} {d j e:Nat} {w:Bool} {oj:Oper} (hg:o.guard=some (j,w)) (hj:l_ all j=some oj) (he:oj.dst=some e) (hl:d_ e l=some (.Y []))
 (hd:o.dst=some d) (C5:Nat.blt d fr.nt=true) (h:CA E KP all rest fr ((d,.Y [])::l) s K):CA E KP all (o::rest) fr l s K:=by
 intro T hT;obtain⟨M,ex,l',T',s2,hk,af,hr⟩:=h _ (hT.put d (.Y []));refine⟨M,ex,l',T',s2,hk,af,fun n hn=>?_⟩;show(ZN E all o (Z2 o.dst (aW E all rest))).run (ev E n) fr T s=_;unfold ZN r7;rw[hg];simp only;have:Xk all (j,w) T=some false:=by
  unfold Xk bx;simp only[hj,Qe,he];show dN w (T.g e)=_;rw[hT e _ hl];rfl
 rw[this];simp only[dh,cond_false];rw[BG _ _ (by rw[hd];exact C5),hd];exact hr n hn
theorem VN {KP:AV->Sl->St->Prop} {K:Sl->St->Prop} {j e:Nat} {w b:Bool} {oj:Oper} (_hg:o.guard=some (j,w)) (_hj:l_ all j=some oj) (_he:oj.dst=some e) (_hl:d_ e l=some (.bool b))
 (h1:b=true->CA E KP all (o::rest) fr l s K) (h0:b=false->CA E KP all (o::rest) fr l s K):CA E KP all (o::rest) fr l s K:=by
 cases hb:b with
 |true=>exact h1 hb
 |false=>exact h0 hb
theorem Ai {α:Type} {b:Code} (I:α->Sl×St) (μ:α->Nat) (G:α->Prop) (a0:α) (hG:G a0) (hs:s=(I a0).2) (hl:∀p∈(I a0).1,d_ p.1 l=some p.2)
 (step:∀a,G a->Cu E b fr (I a).1 (I a).2 fun ex Yx l' s'=>match ex with
  | .J=>∃a',G a'/\μ a'<μ a/\Yx=fr/\s'=(I a').2/\∀p∈(I a').1,d_ p.1 l'=some p.2
  |ex=>Q ex Yx l' s'):Cu E (.loop b) fr l s Q:=by
 have key:∀m a,μ a<=m->G a->∀l',(∀p∈(I a).1,d_ p.1 l'=some p.2)->Cu E (.loop b) fr l' (I a).2 Q:=by
  intro m;induction m with
  |zero=>
   intro a hm hg l' ZI;refine Cu.sub (A2 (Cu.mono (step a hg) fun ex cR l2 s2 h=>?_)) ZI;cases ex with
   |J=>obtain⟨a',_,C5,_⟩:=h;omega
   |_=>exact h
  |succ m ih=>
   intro a hm hg l' ZI;refine Cu.sub (A2 (Cu.mono (step a hg) fun ex cR l2 s2 h=>?_)) ZI;cases ex with
   |J=>grind
   |_=>exact h
 subst hs;exact key _ a0 (Qj _) hG l hl
theorem CA.q {KP:AV->Sl->St->Prop} {K:Sl->St->Prop} {v:AV} {d:Nat} (ho:X3 E o l v) (hg:o.guard=none) (hd:o.dst=some d) (C5:Nat.blt d fr.nt=true) (h:CA E KP all rest fr ((d,v)::l) s K):CA E KP all (o::rest) fr l s K:=
 CA.op (VU ho) hg hd C5 h
def YW:Nat->List AV->Sl->Sl
 |_,[],l=>l
 |i,v::vs,l=>YW (i+1) vs ((i,v)::l)
theorem Dx:∀(vs:List AV) (i:Nat) {l:Sl} {T:Tr AV},k8 l T->k8 (YW i vs l) (YC i vs T)
 | [],_,_,_,h=>h
 |v::vs,i,_,_,h=>Dx vs (i+1) (h.put i v)
noncomputable def ZE:List fY->St->Option St
 | [],s=>some s
 |d::ds,s=>match d.a with
  | .J r=>match s.b.g r with
   |some (.Z true)=>ZE ds (s.z r (some (.Z false)))
   |_=>none
  |_=>none
theorem FE {ev:Ev}:∀ {ds:List fY} {s s':St},ZE ds s=some s'->z8 E ev ds none s=some (none,s')
 | [],s,s',h=>by cases h;rfl
 |d::ds,s,s',h=>by
  obtain⟨t,as⟩:=d;unfold ZE at h;cases t with
  |O f c=>cases h
  |J r=>
   simp only at h;split at h
   .simp_all [Qe,z8,iQ,FE]
   .cases h
noncomputable def CK (E:c_) (s:St) (l:Sl):List ResultVar->Option (List AV)
 | []=>some []
 | .tmp t::rs=>(d_ t l).bind fun v=>(CK E s l rs).bind fun r=>some (v::r)
 | .cell a t::rs=>(d_ a l).bind fun p=>(Wq E t s p).bind fun v=>(CK E s l rs).bind fun r=>some (v::r)
theorem BO {T:Tr AV} (hT:k8 l T):∀ {rs:List ResultVar} {vs:List AV},CK E s l rs=some vs->YK E s T rs=some vs
 | [],vs,h=>h
 | .tmp t::rs,vs,h=>by
  obtain⟨v,hv,h⟩:=Qa.1 h;obtain⟨r,hr,h⟩:=Qa.1 h;cases h;simp only[YK,hT t v hv,BO hT hr,Qe]
 | .cell a t::rs,vs,h=>by
  obtain⟨p,hp,h⟩:=Qa.1 h;obtain⟨v,hv,h⟩:=Qa.1 h;obtain⟨r,hr,h⟩:=Qa.1 h;cases h;simp only[YK,hT a p hp,hv,BO hT hr,Qe]
def EndL (E:c_) (f:FuncId) (rs:List ResultVar) (s:St) (v:AV) (ex:Ex) (fr:Fr) (l:Sl) (st:St):Prop:=
 (ex= .Y\/ex= .J)/\∃Yk,ZE fr.defers st=some Yk/\∃vs,CK E Yk l rs=some vs/\k9 E f s (Zi vs) Yk=some (.J v)
theorem Ic {f:FuncId} {fn:Func} {c:Code} {args:List AV} {v:AV} {rs:List ResultVar} {fr:Fr} {l0:Sl} (hm:E.d f args=none) (hf:E.a.g f=some fn) (hc:fn.body=some c) (hr:fn.results.toList=rs)
 (Z6:n_ fn.ntmps args none=fr) (hl:YW 0 args []=l0) (h:Cu E c fr l0 s.u (EndL E f rs s v)):Co E f args s v:=by
 subst Z6 hl hr;obtain⟨N,ex,Yx,l',T',s',⟨hex,Yk,hu,vs,Xr,hlv⟩,af,dV⟩:=h _ (Dx args 0 (k8.nil .J));refine⟨N+1,fun n hn=>?_⟩;obtain⟨m,rfl⟩:∃m,n=m+1:=⟨n-1,by omega⟩
 unfold WM;rw[hm];simp only[hf,hc,Qe];rw[DV,dV m (by omega)];show ZM E (ev E (m+1)) f fn s ⟨ex,Yx,T',s'⟩=_;unfold ZM;have jc:fb ex=some none:=by rcases hex with h|h<;>rw[h]<;>rfl
 simp only[jc,Qe,FE hu,t_,BO af Xr,hlv]
end
section
variable {E : c_} {fr : Fr} {l : Sl} {s : St} {o : Oper}
theorem Zl.alloc {t:TypeId} {z:AV} (ho:o.op= .alloc t) (hz:h_ E t=some z):Zl E o fr l s (.J s.a 0) (s.g (.J z.g t false)):=fun T hT=>
 EF (f:=fun _=>some (.J (.J z.g t false) fun b=> .J b 0)) (by
  rw[ho];show gW E t=_;unfold gW;rw[hz];simp only[Dp hz,cond_false]) rfl
theorem BR {t:TypeId} {x:Operand} {v:AV} (ho:o.op= .box t x) (hx:Cg x l=some v) (hv:v.u=false):Zl E o fr l s (.J s.a 0) (s.g (.J v.g t false)):=fun T hT=>
 EF (f:=fun T=>(Ci E x T).bind fun v=>bif v.u then none else some (.J (.J v.g t false) fun b=> .J b 0)) (g:=fun b=> .J b 0) (by rw[ho];rfl) (by
  simp only[Ae hT hx,Qe,hv,cond_false])
theorem BH {n b off:Nat} {v:AV} {cs Yg:List AV} {e:TypeId} {part:Bool} (hg:s.b.g b=some (.J cs e part)) (hl:v.g.length=n) (ht:v.u=false) (ho:over v.g off cs=some Yg):
 dH n s v (.J b off)=some (s.z b (some (.J Yg e part))):=by
 have h1:Nat.beq (Xu v.g) n=true:=by rw[DT,hl];exact Nat.beq_refl n
 simp only[dH,h1,ht,Bool.not_false,Bool.and_true,cond_true,aT,hg,fH,ho,eT]
theorem BL {t:TypeId} {a x:Operand} {n:Nat} {p v:AV} {s':St} (ho:o.op= .store t a x) (hn:an E t=some n) (ha:Cg a l=some p) (hx:Cg x l=some v) (hs:dH n s v p=some s'):Zl E o fr l s (.Y []) s':=fun T hT=>
 H1 (b:=true) (x:=Ci E a) (f:=fun T s=>(Ci E a T).bind fun p=>(Ci E x T).bind fun v=>eU (dH n s v p)) (by
  rw[ho];show dM E t a x=_;unfold dM;rw[hn]) (by simp only[Ae hT ha,Ae hT hx,Qe,hs,eU])
theorem AA {t:TypeId} {n b off:Nat} {v:AV} {cs:List AV} {e:TypeId} {part:Bool} (h1:j' E t=some false) (h2:an E t=some n) (hg:s.b.g b=some (.J cs e part)) (hv:cs[off]?=some v):
 Wq E t s (.J b off)=some v:=by
 have C5:off<cs.length:=by
  rcases Nat.lt_or_ge off cs.length with h|h
  .exact h
  .rw[List.getElem?_eq_none h]at hv;cases hv
 have hc:=Hp (l:=cs) (a:=off) (n:=1) (by omega);unfold v_ at hc;unfold Wq;rw[h1,h2];simp only[pc,Zb,hg,Ww,Qe];rw[hc];have:(cs.drop off).take 1=[v]:=by
  rw[List.drop_eq_getElem_cons C5];rw[Qi C5]at hv;cases hv;rfl
 rw[this];rfl
theorem Bl {t:TypeId} {n b off:Nat} {cs:List AV} {e:TypeId} {part:Bool} (h1:j' E t=some true) (h2:an E t=some n) (hg:s.b.g b=some (.J cs e part)) (hn:off+n<=cs.length):
 Wq E t s (.J b off)=some (.O ((cs.drop off).take n)):=by
 have hc:=Hp (l:=cs) (a:=off) (n:=n) hn;unfold v_ at hc;unfold Wq;rw[h1,h2];simp only[kN,Zb,hg,Ww,Qe];rw[hc];rfl
theorem AQ {t:TypeId} {a:Operand} {p v:AV} (ho:o.op= .load t a) (ha:Cg a l=some p) (hv:Wq E t s p=some v):Zl E o fr l s v s:=fun T hT=>
 H0 (x:=Ci E a) (f:=fun T s=>(Ci E a T).bind (Wq E t s)) (by rw[ho];rfl) (by simp only[Ae hT ha,Qe,hv])
theorem VQ {t:TypeId} {a:Operand} {n:Nat} {cs:List AV} (ho:o.op= .load t a) (ha:Cg a l=some (.XD cs)) (h1:j' E t=some true) (h2:an E t=some n) (hn:n<=cs.length):X3 E o l (.O (cs.take n)):=
 MT (x:=Ci E a) (f:=fun T s=>(Ci E a T).bind (Wq E t s)) (by rw[ho];rfl) (fun T hT=>by rw[Ae hT ha];rfl) fun T s hT=>by
  have hc:=Hp (l:=cs) (a:=0) (n:=n) (by omega);unfold v_ at hc;have h0:XE 0 cs=some cs:=rfl;rw[h0]at hc;simp only[Ae hT ha,Qe];unfold Wq;rw[h1,h2];simp only[kN,Zb];simp only[Qe]at hc;rw[hc];rfl
theorem Ti {t:TypeId} {a:Operand} {n:Nat} {v:AV} {cs:List AV} (ho:o.op= .load t a) (ha:Cg a l=some (.XD (v::cs))) (h1:j' E t=some false) (h2:an E t=some n):X3 E o l v:=
 MT (x:=Ci E a) (f:=fun T s=>(Ci E a T).bind (Wq E t s)) (by rw[ho];rfl) (fun T hT=>by rw[Ae hT ha];rfl) fun T s hT=>by
  simp only[Ae hT ha,Qe];unfold Wq;rw[h1,h2];rfl
theorem H3 {t:TypeId} {x:Operand} {i off n:Nat} {agg:Bool} {b k:Nat} (ho:o.op= .fieldAddr t x i) (hf:Z7 E t i=some (off,n+1,agg)) (hx:Cg x l=some (.J b k)):X3 E o l (.J b (k+off)):=
 A5 (f:=fun T=>(Ci E x T).bind (YB off)) (by
  rw[ho];show Zq E t x i=_;unfold Zq;rw[hf]) fun T hT=>by simp only[Ae hT hx,Qe,YB]
theorem Tj {t:TypeId} {x:Operand} {i off n:Nat} {cs:List AV} {v:AV} (ho:o.op= .field t x i) (hf:Z7 E t i=some (off,n,false)) (hx:Cg x l=some (.O cs)) (hv:l_ cs off=some v):X3 E o l v:=
 A5 (f:=fun T=>(Ci E x T).bind (bl off)) (by
  rw[ho];show lu E t x i=_;unfold lu;rw[hf]) fun T hT=>by simp only[Ae hT hx,Qe,bl,hv]
noncomputable def hY:List (Nat×Operand)->Sl->Option (List (Nat×AV))
 | [],_=>some []
 |p::ps,l=>(Cg p.2 l).bind fun v=>(hY ps l).bind fun r=>some ((p.1,v)::r)
theorem GK {T:Tr AV} (hT:k8 l T):∀ {ps:List (Nat×Operand)} {r:List (Nat×AV)},hY ps l=some r->bp E ps T=some r
 | [],r,h=>h
 |p::ps,r,h=>by
  obtain⟨v,hv,h⟩:=Qa.1 h;obtain⟨q,hq,h⟩:=Qa.1 h;cases h;simp only[bp,Ae hT hv,GK hT hq,Qe]
theorem VT {t:TypeId} {parts:Array (Nat×Operand)} {pl:List AV×(Nat->Option (Nat×Nat))} {ps:List (Nat×AV)} {cs:List AV} (ho:o.op= .build t parts) (hp:bk E t=some pl) (hq:hY parts.toList l=some ps)
 (hf:aP pl.2 ps pl.1=some cs):X3 E o l (.O cs):=
 A5 (f:=fun T=>(bp E parts.toList T).bind fun ps=>vk (aP pl.2 ps pl.1)) (by
  rw[ho];show lq E t parts.toList=_;unfold lq;rw[hp]) fun T hT=>by simp only[GK hT hq,Qe,hf,vk]
theorem AX {t e:TypeId} {len sz:Nat} {parts:Array (Nat×Operand)} {z:AV} {ps:List (Nat×AV)} {cs:List AV} (ho:o.op= .buildSlice t (len+1) parts) (hu:Wb E t=some (.slice e)) (hs:an E e=some sz) (hz:h_ E e=some z)
 (hk:(Nat.beq (Xu z.g) sz&&Nat.ble ((len+1)*sz) 16777216&& !(Nat.beq sz 0))=true) (hq:hY parts.toList l=some ps) (hf:aP (fun i=>some (i*sz,sz)) ps (Xj z.g (len+1))=some cs):
 Zl E o fr l s (.Z s.a 0 (len+1) sz (some (len+1))) (s.g (.J cs e false)):=fun T hT=>
 EF (f:=fun T=>(bp E parts.toList T).bind fun ps=>ax e sz (len+1) (aP (fun i=>some (i*sz,sz)) ps (Xj z.g (len+1)))) (g:=fun b=> .Z b 0 (len+1) sz (some (len+1))) (by
  rw[ho];show YJ E t (len+1) parts.toList=_;unfold YJ;rw[hu];simp only[hs,hz,hk,cond_true]) (by
  simp only[GK hT hq,Qe,hf];rfl)
theorem OQ {f:FuncId} {a b:Array Operand} {va vb:List AV} (ho:o.op= .makeFunc (.func f) a b) (ha:WC a.toList l=some va) (hb:WC b.toList l=some vb):X3 E o l (.an (.func f) va vb):=
 A5 (f:=fun T=>(CZ E a.toList T).bind fun x=>(CZ E b.toList T).bind fun y=>some (.an (.func f) x y)) (by rw[ho];rfl) fun T hT=>by simp only[AO hT ha,AO hT hb,Qe]
theorem Zl.append {c:Call} {t e:TypeId} {ts:List TypeId} {x y:Operand} {sz VZ n:Nat} {z a b v:AV} {new:List AV} {s':St} (ho:o.op= .call c) (hc:c.callee= .builtin .append) (ht:c.argTypes.toList=t::ts) (ha:c.args.toList=[x,y])
 (hu:Wb E t=some (.slice e)) (X2:an E e=some sz) (cQ:i_ E e=some VZ) (hz:h_ E e=some z) (hk:(!(Nat.beq (Xu z.g) sz)||Nat.beq sz 0|| !(ZY E ts.head?))=false) (h0:Xw E ts.head?=false)
 (hx:Cg x l=some a) (hy:Cg y l=some b) (hn:CY s sz b=some (new,n)) (hr:CP s e sz VZ new n a=some (v,s')):Zl E o fr l s v s':=fun T hT=>
 H1 (b:=false) (x:=Ci E x) (f:=fun T s=>(Ci E x T).bind fun a=>(Ci E y T).bind fun b=>(CY s sz b).bind fun p=>CP s e sz VZ p.1 p.2 a) (by
  rw[ho];show Wo E o.type c=_;unfold Wo;rw[hc];simp only;rw[ht,ha];show aU E t ts.head? x y=_;unfold aU;rw[hu];simp only[X2,cQ,hz,hk,h0,cond_false]) (by simp only[Ae hT hx,Ae hT hy,Qe,hn,hr])
end
def CW (ts:List Nat) (l:Sl):Sl:=match ts with
 | []=>[]
 |t::ts=>match d_ t l with
  |some v=>(t,v)::CW ts l
  |none=>CW ts l
theorem HJ {l:Sl} {k:Nat} {v:AV}:∀ {ts:List Nat},d_ k (CW ts l)=some v->k∈ts/\d_ k l=some v
 | [],h=>by cases h
 |t::ts,h=>by
  unfold CW at h;cases hl:d_ t l with
  |none=>
   rw[hl]at h;have:=HJ (ts:=ts) h;exact⟨Qg _ this.1,this.2⟩
  |some u=>
   rw[hl]at h;simp only[d_]at h;cases hb:Nat.beq k t with
   |true=>
    rw[hb]at h;have:=Qb hb;subst this;simp only[cond_true]at h;exact⟨Qh ..,by rw[hl];exact h⟩
   |false=>
    rw[hb]at h;have:=HJ (ts:=ts) h;exact⟨Qg _ this.1,this.2⟩
theorem k8.CW {l:Sl} {T:Tr AV} (h:k8 l T) (ts:List Nat):k8 (CW ts l) (XN T ts .J):=by
 intro k v hk;obtain⟨h1,h2⟩:=HJ hk;rw[E2,if_pos h1];exact h k v h2
section
variable (E : c_)
def T_ (o:Oper) (fr:Fr) (l:Sl) (v:AV):Prop:=
 XK (XL E o.type o.op)=true/\∀T,k8 l T->∃N,∀n,N<=n->∀(s:St) (k:qo),(Xf E (XL E o.type o.op) k).run (ev E n) fr T s=k.run (ev E n) fr T v s
end
section
variable {E : c_} {fr : Fr} {l : Sl} {st : St} {o : Oper} {all rest : List Oper} {i : Nat} {js : List Nat} {nw : Bool} {K : Sl -> St -> Prop}
theorem Tp {c:Call} {f:FuncId} {args:List AV} {v:AV} (ho:o.op= .call c) (hc:c.callee= .value (.func f)) (hb:CV E f=true) (ha:WC c.args.toList l=some args) (hm:E.d f args=some v):T_ E o fr l v:=by
 have XB:XL E o.type o.op= .aG (fun T _=>(CZ E c.args.toList T).bind fun args=>some (f,args)):=by
  rw[ho];show Wo E o.type c=_;unfold Wo;rw[hc];simp only[hb,cond_true]
 refine⟨by rw[XB];rfl,fun T hT=>⟨0,fun n _ s k=>?_⟩⟩;rw[XB];show X4 fr T s (k.run (ev E n) fr T) (((CZ E c.args.toList T).bind fun args=>some (f,args)).bind fun p=>WM E (ev E n) p.1 p.2 s)=_;rw[AO hT ha];simp only[Qe];unfold WM;rw[hm];rfl
theorem xC (n:Nat):Nat.ble n n=true:=Qd (Qj n)
noncomputable def St.A (st s2:St):St:=
 {a:=s2.a,c:=st.c,d:=below st.c s2.d st.d,b:=WH s2.b (Y3 st.a (s2.a-st.a)) (WH s2.b s2.d st.b)}
variable {Q : Ex -> Fr -> Sl -> St -> Prop}
end
section
variable (E : c_)
def Wm (f:FuncId) (args:List AV) (s:St) (R:AV->St->Prop):Prop:=
 ∃N cr,(∀n,N<=n->WM E (ev E n) f args s=some cr)/\match cr with
  | .J v=>R v s
  | .O v s'=>R v s'
  | .Y _ _=>False
end
section
variable {E : c_} {fr : Fr} {l : Sl} {s : St} {o : Oper} {all rest : List Oper} {K : Sl -> St -> Prop} {Q : Ex -> Fr -> Sl -> St -> Prop}
theorem MP {KP:AV->Sl->St->Prop} {d:Nat} (h:∀T,k8 l T->∃v s',hQ E o fr T s v s'/\CA E KP all rest fr ((d,v)::l) s' K) (hg:o.guard=none) (hd:o.dst=some d) (C5:Nat.blt d fr.nt=true):CA E KP all (o::rest) fr l s K:=by
 intro T hT;obtain⟨v,s',⟨N,ho⟩,h⟩:=h T hT;obtain⟨M,ex,l',T',s2,hk,af,hr⟩:=h _ (hT.put d v);refine⟨max N M,ex,l',T',s2,hk,af,fun n hn=>?_⟩;show(ZN E all o (Z2 o.dst (aW E all rest))).run (ev E n) fr T s=_;unfold ZN r7;rw[hg];simp only;rw[ho n (by omega),BG _ _ (by rw[hd];exact C5),hd];exact hr n (by omega)
theorem Q1 {KP:AV->Sl->St->Prop} {c:Call} {f:FuncId} {args:List AV} {d:Nat} (ho:o.op= .call c) (hc:c.callee= .value (.func f)) (hb:CV E f=true) (ha:WC c.args.toList l=some args) (hg:o.guard=none) (hd:o.dst=some d)
 (C5:Nat.blt d fr.nt=true) (h:Wm E f args s fun v s'=>CA E KP all rest fr ((d,v)::l) s' K):CA E KP all (o::rest) fr l s K:=by
 obtain⟨N,cr,hN,h⟩:=h;have XB:XL E o.type o.op= .aG (fun T _=>(CZ E c.args.toList T).bind fun args=>some (f,args)):=by
  rw[ho];show Wo E o.type c=_;unfold Wo;rw[hc];simp only[hb,cond_true]
 have go:∀ {v:AV} {s':St},(∀(T:Tr AV) (k:AV->St->k6),X4 fr T s k (some cr)=k v s')->∀T,k8 l T->hQ E o fr T s v s':=by
  intro v s' rF T hT;refine⟨N,fun n hn k=>?_⟩;rw[XB];show X4 fr T s (k.run (ev E n) fr T) (((CZ E c.args.toList T).bind fun args=>some (f,args)).bind fun p=>WM E (ev E n) p.1 p.2 s)=_;rw[AO hT ha];simp only[Qe];rw[hN n hn,rF]
 refine MP (fun T hT=>?_) hg hd C5;cases cr with
 |J v=>exact⟨v,s,go (fun _ _=>rfl) T hT,h⟩
 |O v s'=>exact⟨v,s',go (fun _ _=>rfl) T hT,h⟩
 |Y v s'=>exact h.elim
def mc (b:Nat) (k:Bool->St->Prop) (ex:Ex) (s:St) (lp:bV):Prop:=match ex with
 | .J=>k true (s.z b (some (.O {lp with a:= .ready,b:=none})))
 | .Y=>k false (s.z b (some (.O {lp with a:= .done,b:=some .ret})))
 | .Z id=>k false (s.z b (some (.O {lp with a:= .done,b:=some (.exit id)})))
 | .O _=>False
theorem SZ {KP:AV->Sl->St->Prop} {c:Call} {t b d:Nat} {lp:bV} {args:List AV} {TA:Tr AV} {lA:Sl} (ho:o.op= .call c) (hc:c.callee= .value (.tmp t)) (hf:d_ t l=some (.an (.yield b) [] [])) (ha:WC c.args.toList l=some args)
 (hg:o.guard=none) (hd:o.dst=some d) (C5:Nat.blt d fr.nt=true) (hlp:s.b.g b=some (.O lp)) (hp:bm lp.nt lp.params args lp.c=some TA) (hA:k8 lA TA)
 (h:Cu E lp.assign {nt:=lp.nt,defers:=[],Xi:=none,a:=some b} lA s fun ex fr1 l1 s1=>ex= .J/\∃tD,s1.b.g b=some (.O tD)/\tD.a= .ready/\
  Cu E lp.body fr1 l1 (s1.z b (some (.O {tD with a:= .busy}))) fun oH cR _ s2=>cR.defers=[]/\∃tE,s2.b.g b=some (.O tE)/\
   mc b (fun v s'=>CA E KP all rest fr ((d,.bool v)::l) s' K) oH s2 tE):CA E KP all (o::rest) fr l s K:=by
 refine MP (fun T hT=>?_) hg hd C5;have XB:XL E o.type o.op= .Z1 (Ci E (.tmp t)) (CZ E c.args.toList):=by
  rw[ho];show Wo E o.type c=_;unfold Wo;rw[hc]
 obtain⟨N,ex,fr1,l1,T1,s1,⟨hex,tD,hlp1,XM,cy⟩,hT1,hr1⟩:=h TA hA;subst hex;obtain⟨M,oH,cR,l2,T2,s2,⟨pT,tE,hlp2,hq⟩,uu,mR⟩:=cy T1 hT1;have key:∀n,max N M+1<=n->∀k:qo,(Xf E (XL E o.type o.op) k).run (ev E n) fr T s=X4 fr T s (k.run (ev E n) fr T) (fO b oH s2 (some (.O tE))):=by
  intro n hn k;obtain⟨m,rfl⟩:∃m,n=m+1:=⟨n-1,by omega⟩
  rw[XB];show X4 fr T s (k.run (ev E (m+1)) fr T) ((Ci E (.tmp t) T).bind fun g=>(CZ E c.args.toList T).bind fun args=>Xz E (ev E (m+1)) args s g)=_;have hft:Ci E (.tmp t) T=some (.an (.yield b) [] []):=hT t _ hf;rw[hft,AO hT ha];simp only[Qe,Xz,lO,kT,hlp,hp];rw[DV,hr1 m (by omega)];simp only[aj,hlp1,fP,XM];rw[DV,mR m (by omega)];simp only[iT,pT,hlp2]
 cases oH with
 |J=>exact⟨.bool true,_,⟨max N M+1,fun n hn k=>by rw[key n hn k];rfl⟩,hq⟩
 |Y=>exact⟨.bool false,_,⟨max N M+1,fun n hn k=>by rw[key n hn k];rfl⟩,hq⟩
 |Z id=>exact⟨.bool false,_,⟨max N M+1,fun n hn k=>by rw[key n hn k];rfl⟩,hq⟩
 |O v=>exact hq.elim
noncomputable def Zp (s:St) (nt:Nat) (T:Tr AV) (params:List Nat) (assign body:Code):St:=
 (s.g (.Z true)).g (.O {a:= .ready,b:=none,d:=0,nt,c:=T,params,assign,body})
def xD (b:Nat) (Q:Ex->St->Prop) (s:St):Prop:=∃lp,s.b.g b=some (.O lp)/\lp.a≠ .busy/\
 match lp.b with
 |none=>Q .J (s.z b (some (.O {lp with a:= .exhausted})))
 |some .ret=>Q .Y (s.z b (some (.O {lp with a:= .exhausted})))
 |some (.exit id)=>Q (.Z id) (s.z b (some (.O {lp with a:= .exhausted})))
 |some _=>False
theorem LQ {f:Operand} {params:Array Nat} {assign body:Code} {g:FuncId} {first captured:List AV} (hf:Cg f l=some (.an (.func g) first captured)) (hr:fr.a=none) (hb:CV E g=true)
 (h:∀T,k8 l T->Wm E g (first++[.an (.yield (s.a+1)) [] []]++captured) (Zp s fr.nt T params.toList assign body) fun _ s3=>
  xD (s.a+1) (fun ex s4=>Q ex {fr with defers:= {a:= .J s.a,args:=[]}::fr.defers} l s4) s3):Cu E (.rangeFunc f params assign body) fr l s Q:=by
 intro T hT;obtain⟨N,cr,hN,h⟩:=h T hT;have CF:∀n,N<=n->(Yr E (.rangeFunc f params assign body)).run (ev E n) fr T s=
  X4 {fr with defers:= {a:= .J s.a,args:=[]}::fr.defers} T (Zp s fr.nt T params.toList assign body)
   (fun _ s3=>YS (s.a+1) {fr with defers:= {a:= .J s.a,args:=[]}::fr.defers} T s3 (s3.b.g (s.a+1))) (some cr):=by
  intro n hn;show dj E (ev E n) params.toList assign body fr T s (Ci E f T)=_;rw[Ae hT hf];unfold dj j9;simp only[hr,hb,cond_true];have:=hN n hn;unfold Zp at this;show X4 _ _ _ _ (WM E (ev E n) g (first++[.an (.yield (s.a+1)) [] []]++captured) _)=_;exact congrArg (X4 _ _ _ _) this
 have fin:∀s3:St,xD (s.a+1) (fun ex s4=>Q ex {fr with defers:= {a:= .J s.a,args:=[]}::fr.defers} l s4) s3->
  ∃ex s4,Q ex {fr with defers:= {a:= .J s.a,args:=[]}::fr.defers} l s4/\
   YS (s.a+1) {fr with defers:= {a:= .J s.a,args:=[]}::fr.defers} T s3 (s3.b.g (s.a+1))= .O ⟨ex, {fr with defers:= {a:= .J s.a,args:=[]}::fr.defers},T,s4⟩:=by
  rintro s3 ⟨lp,hlp,XM,hq⟩;rw[hlp];have xE:∀x:k6,(match lp.a with| .busy=>k6.J|_=>x)=x:=by
   intro x;split
   .next h=>exact absurd h XM
   .rfl
  cases hp:lp.b with
  |none=>
   rw[hp]at hq;refine⟨_,_,hq,?_⟩;simp only[YS,xE,hp,di]
  |some cd=>
   rw[hp]at hq;cases cd with
   |ret=>
    refine⟨_,_,hq,?_⟩;simp only[YS,xE,hp,di]
   |exit id=>
    refine⟨_,_,hq,?_⟩;simp only[YS,xE,hp,di]
   |_=>exact hq.elim
 cases cr with
 |J v=>
  obtain⟨ex,s4,hq,he⟩:=fin _ h;exact⟨N,ex,_,l,T,s4,hq,hT,fun n hn=>by rw[CF n hn];exact he⟩
 |O v s3=>
  obtain⟨ex,s4,hq,he⟩:=fin _ h;exact⟨N,ex,_,l,T,s4,hq,hT,fun n hn=>by rw[CF n hn];exact he⟩
 |Y v s3=>exact h.elim
theorem Wm.unit {f:FuncId} {fn:Func} {c:Code} {args:List AV} {R:AV->St->Prop} {fr:Fr} {l0:Sl} (hm:E.d f args=none) (hf:E.a.g f=some fn) (hc:fn.body=some c) (hr:fn.results.toList=[])
 (Z6:n_ fn.ntmps args none=fr) (hl:YW 0 args []=l0) (h:Cu E c fr l0 s.u fun ex fr _ st=>(ex= .Y\/ex= .J)/\fr.defers=[]/\(st.d=[]->R (.Y []) s)/\R (.Y []) (s.G st)):Wm E f args s R:=by
 subst Z6 hl;obtain⟨N,ex,Yx,l',T',s',⟨hex,hd,hR0,hR1⟩,af,dV⟩:=h _ (Dx args 0 (k8.nil .J));have rK:qT E f s (.Y []) s'=some (.Y [],s'):=by
  unfold qT Wa;split
  .rfl
  .split<;>rfl
  .rfl
 refine⟨N+1,Zs s (.Y []) s' s'.d,fun n hn=>?_,?_⟩
 .obtain⟨m,rfl⟩:∃m,n=m+1:=⟨n-1,by omega⟩
  unfold WM;rw[hm];simp only[hf,hc,Qe];rw[DV,dV m (by omega)];show ZM E (ev E (m+1)) f fn s ⟨ex,Yx,T',s'⟩=_;unfold ZM;have jc:fb ex=some none:=by rcases hex with h|h<;>rw[h]<;>rfl
  simp only[jc,Qe,hd,z8,t_,hr,YK];unfold k9;show(qT E f s (.Y []) s').bind _=_;rw[rK];rfl
 .unfold Zs;cases CU:s'.d with
  |nil=>exact hR0 CU
  |cons a b=>exact hR1
end
section
variable {E : c_} {fr : Fr} {l : Sl} {st : St} {o : Oper} {all rest : List Oper} {i : Nat} {js : List Nat} {nw : Bool} {K : Sl -> St -> Prop}
def Wf (all:List Oper) (l:Sl) (o:Oper):Prop:=o.guard=none\/∃g,o.guard=some g/\∀T,k8 l T->Xk all g T=some true
theorem AF {j e:Nat} {w b:Bool} {oj:Oper} (hg:o.guard=some (j,w)) (hj:l_ all j=some oj) (he:oj.dst=some e) (hl:d_ e l=some (.bool b)) (hb:b=w):Wf all l o:=
 .inr ⟨_,hg,fun T hT=>by rw[Fh (g:=(j,w)) hj he (hT e _ hl),hb];cases w<;>rfl⟩
def Alone (E:c_) (o:Oper) (fr:Fr) (T:Tr AV) (v:AV) (s:St):Prop:=∃N,∀n,N<=n->(Xf E (XL E o.type o.op) K0).run (ev E n) fr T s= .O ⟨.J,fr,b6 v,s⟩
theorem IE {v:AV} {s:St} {T:Tr AV} (h:∃N,∀n,N<=n->∀(k:qo),(Xf E (XL E o.type o.op) k).run (ev E n) fr T s=k.run (ev E n) fr T v s):Alone E o fr T v s:=by
 obtain⟨N,h⟩:=h;exact⟨N,fun n hn=>by rw[h n hn K0];rfl⟩
theorem Ey {t e:TypeId} {x i:Operand} {sz len k b off:Nat} {ik:IntKind} {cap:Option Nat} (ho:o.op= .indexAddr t x i) (hu:Wb E t=some (.slice e)) (hs:an E e=some (sz+1)) (hx:Cg x l=some (.Z b off len (sz+1) cap))
 (hi:Cg i l=some (.int ik (k:Nat))) (hk:k<len):X3 E o l (.J b (off+k*(sz+1))):=
 A5 (f:=fun T=>(Ci E i T).bind fun iv=>(Xb iv).bind fun k=>(Ci E x T).bind (OK (sz+1) k)) (by
  rw[ho];show Yy E t x i=_;unfold Yy;rw[hu];simp only[hs]) fun T hT=>by
  have h1:Xb (.int ik (k:Nat))=some k:=rfl;have h2:Nat.blt k len=true:=by simpa[Nat.blt_eq]using hk
  simp only[Ae hT hx,Ae hT hi,Qe,h1,OK,h2,cond_true]
end
section
variable {E : c_}
theorem Di {f:FuncId} {v:AV} {s st:St} (hk:∀n w,C9 w n 40 v []=some (v,[])) (hu:∀m,CD m 40 v=true) (hl:st.d=[]):k9 E f s v st=some (.J v):=by
 have hf:qT E f s v st=some (v,st):=by
  unfold qT Wa;split
  .rfl
  .rw[hl];simp only[hk,Qe,q_]
  .simp only[hk,Qe,q_]
 unfold k9;rw[hf];simp only[Qe,Zs,hl,hu,cond_true]
theorem Co.flat {f:FuncId} {fn:Func} {c:Code} {args:List AV} {s:St} {v:AV} {rs:List ResultVar} {fr:Fr} {l0:Sl} (hm:E.d f args=none) (hf:E.a.g f=some fn) (hc:fn.body=some c) (hr:fn.results.toList=rs)
 (Z6:n_ fn.ntmps args none=fr) (hl:YW 0 args []=l0) (hk:∀n w,C9 w n 40 v []=some (v,[])) (hu:∀m,CD m 40 v=true)
 (h:Cu E c fr l0 s.u fun ex fr l st=>(ex= .Y\/ex= .J)/\fr.defers=[]/\st.d=[]/\∃vs,CK E st l rs=some vs/\Zi vs=v):Co E f args s v:=
 Ic hm hf hc hr Z6 hl (h.mono fun ex fr l st ⟨hex,hd,CU,vs,Xr,hv⟩=>⟨hex,st,by rw[hd];rfl,vs,Xr,by rw[hv];exact Di hk hu CU⟩)
theorem Ac {s:St} {l:Sl} {t:Nat} {v:AV} {rs:List ResultVar} {vs:List AV} (hl:d_ t l=some v) (h:CK E s l rs=some vs):CK E s l (.tmp t::rs)=some (v::vs):=by
 unfold CK;rw[hl];simp only[Qe,h]
def rM {α:Type} (p:α->Bool) (l:List α):Nat:=(l.takeWhile p).length
theorem twA_le {α:Type} (p:α->Bool) (l:List α):rM p l<=l.length:=(List.takeWhile_sublist _).length_le
theorem QE {α:Type} {p:α->Bool}:∀ {l:List α} {k:Nat} {a:α},k<=rM p l->l[k]?=some a->(p a=true↔k<rM p l)
 | [],k,_,_,h=>by simp at h
 |b::l,0,a,_,h=>by
  simp only[List.getElem?_cons_zero,Option.some.injEq]at h;subst h;cases hp:p b<;>simp[rM,List.takeWhile,hp]
 |b::l,k+1,a,h,hl=>by
  cases hp:p b with
  |false=>simp[rM,List.takeWhile,hp]at h
  |true=>
   simp only[rM,List.takeWhile,hp,List.length_cons]at h|-;have:=QE (p:=p) (l:=l) (k:=k) (a:=a) (by unfold rM;omega) (by simpa using hl);rw[this];unfold rM;omega
theorem T3 {α:Type} {p:α->Bool}:∀ {l:List α},l.any p=decide (rM (fun x=> !p x) l<l.length)
 | []=>rfl
 |b::l=>by
  have ih:=T3 (p:=p) (l:=l);cases hp:p b with
  |true=>simp[rM,List.takeWhile,hp]
  |false=>
   simp only[List.any_cons,hp,Bool.false_or,ih,rM,List.takeWhile,Bool.not_false,List.length_cons]
   congr 1
   exact propext ⟨fun h=>by omega,fun h=>by omega⟩
end
section
variable (E : c_)
end
section
variable {E : c_} {fr : Fr} {l : Sl} {st : St} {o : Oper} {all rest : List Oper} {i : Nat} {js ms : List Nat} {K : Sl -> St -> Prop}
theorem Oe {Wk:Nat}:∀ {news:WG} {h:Tr CG},(∀p∈news,Nat.testBit Wk p.1=true)->dO Wk news h=h
 | [],_,_=>rfl
 |p::news,h,hn=>by
  unfold dO;rw[hn p (Qh ..),cond_true];exact Oe fun q hq=>hn q (Qg _ hq)
end
def a_ (s:St) (e:TypeId) (sz:Nat) (v:AV) (cs:List AV) (n:Nat):Prop:=
 (v= .Ca/\n=0/\cs=[])\/∃b,v= .Z b 0 n sz none/\b<s.a/\s.b.g b=some (.J cs e true)/\cs.length=n*sz/\n≠0
theorem a_.nil (s:St) (e:TypeId) (sz:Nat):a_ s e sz .Ca [] 0:= .inl ⟨rfl,rfl,rfl⟩
def CB (c:Nat):AV->Bool
 | .Z b _ _ _ _=>Nat.beq b c
 |_=>false
theorem a_.CQ {s s':St} {e:TypeId} {sz n:Nat} {v:AV} {cs:List AV} (h:a_ s e sz v cs n) (hn:s.a<=s'.a) (hh:∀c,CB c v=true->s'.b.g c=s.b.g c):a_ s' e sz v cs n:=by
 rcases h with h|⟨b,rfl,hb,hg,hl,h0⟩
 .exact .inl h
 .exact .inr ⟨b,U,by omega,by rw[hh b (Nat.beq_refl b),hg],hl,h0⟩
theorem DI {α:Type} (l:List α):pa l.length l=some l:=by
 have:=Dq l [];rwa[List.append_nil]at this
theorem a_.append {s:St} {e:TypeId} {sz VZ n:Nat} {v:AV} {cs new:List AV} (h:a_ s e sz v cs n) (XV:new.length=sz) (X2:0<sz) (aq:k7 1 VZ=true) (ao:k7 (n+1) VZ=true):
 ∃v' s',CP s e sz VZ new 1 v=some (v',s')/\a_ s' e sz v' (cs++new) (n+1)/\CB s.a v'=true/\s'.a=s.a+1/\s'.c=s.c/\(∀c∈s'.d,c∈s.d\/(c<s.c/\CB c v=true))/\
  ∀c,c<s.a->CB c v=false->s'.b.g c=s.b.g c:=by
 rcases h with⟨rfl,rfl,rfl⟩|⟨b,rfl,hb,hg,hl,h0⟩
 .refine⟨.Z s.a 0 1 sz none,s.g (.J new e true),?_,.inr ⟨s.a,rfl,Nat.lt_succ_self _,?_,by rw[List.nil_append,XV];omega,by omega⟩,Nat.beq_refl _,rfl,rfl,fun c hc=> .inl hc,fun c hc _=>?_⟩
  .simp only[CP,aq,cond_true];rfl
  .show(s.b.u s.a _).g s.a=_;rw[Ay,if_pos rfl,List.nil_append]
  .show(s.b.u s.a _).g c=_;rw[Ay,if_neg (by omega)]
 .have a9:jS sz n 1 none cs=false:=by
   show Nat.ble ((n+1)*sz) (Xu cs)=false;rw[DT,hl];have:(n+1)*sz=n*sz+sz:=Nat.succ_mul ..;cases hb:Nat.ble ((n+1)*sz) (n*sz)with
   |false=>rfl
   |true=>have:=Qc hb;omega
  refine⟨.Z s.a 0 (n+1) sz none,(s.z b none).g (.J (cs++new) e true),?_,.inr ⟨s.a,rfl,Nat.lt_succ_self _,?_,by rw[Qm,hl,XV,Nat.succ_mul],by omega⟩,Nat.beq_refl _,rfl,rfl,fun c hc=>?_,fun c hc ho=>?_⟩
  .unfold CP;simp only[show Nat.beq 1 0=false from rfl,cond_false,Nat.beq_refl,ao,Bool.and_self,cond_true,hg,aw,da];rw[show XE 0 cs=some cs from rfl];simp only[Qe,a9,cond_false,Bool.true_or,cond_true];rw[<-hl,DI];rfl
  .show((s.b.u b none).u s.a _).g s.a=_;rw[Ay,if_pos rfl]
  .have CU:c∈(bif Nat.blt b s.c then Yn b s.d else s.d):=hc;cases zC:Nat.blt b s.c with
   |false=>rw[zC]at CU;exact .inl CU
   |true=>
    rw[zC,cond_true]at CU;have zH:b<s.c:=by simpa[Nat.blt_eq]using zC
    have:c=b\/c∈s.d:=by
     revert CU;cases s.d with
     |nil=>intro h;exact .inl (by simpa[Yn]using h)
     |cons d l=>
      intro h;have h':c∈(bif Nat.beq b d then d::l else b::d::l):=h;cases hd:Nat.beq b d with
      |true=>rw[hd]at h';exact .inr h'
      |false=>
       rw[hd]at h';rcases Qk.1 h' with h'|h'
       .exact .inl h'
       .exact .inr h'
    rcases this with rfl|h
    .exact .inr ⟨zH,Nat.beq_refl _⟩
    .exact .inl h
  .show((s.b.u b none).u s.a _).g c=_;have se:c≠b:=fun h=>by subst h;rw[show CB c (.Z c 0 n sz none)=true from Nat.beq_refl c]at ho;cases ho
   rw[Ay,if_neg (by omega),Ay,if_neg se]
def bH (cs:List AV) (n sz:Nat):AV:=bif Nat.beq n 0 then .Ca else .Ck cs n sz true
theorem Vd {w:St} {from_ m:Nat} {v:AV} {ks:List Nat} (hv:aL v=true):C9 w from_ (m+1) v ks=some (v,ks):=by cases v<;>first|rfl|cases hv
theorem FR {w:St} {from_ m:Nat} {ks:List Nat}:∀ {cs:List AV},cs.all aL=true->C9.many (C9 w from_ (m+1)) cs ks=some (cs,ks)
 | [],_=>rfl
 |c::cs,h=>by
  simp only[List.all_cons,Qf]at h;unfold C9.many;rw[Vd h.1];simp only[Qe];rw[FR h.2];rfl
theorem O3 {cs:List AV} (h:cs.all aL=true):cs.all (Cr 40)=true:=by
 rw[List.all_eq_true]at h|-;intro v hv;have:=h v hv;cases v<;>first|rfl|cases this
theorem I8 {s : St} : ∀ {ks : List Nat}, (∀ b ∈ ks, s.c <= b) -> (q_ s ks).d = s.d
  | [], _ => rfl
  | b :: ks, h => by
    unfold q_;have hb : Nat.blt b s.c = false := by
      have := h b (Qh ..);cases hc : Nat.blt b s.c with
      | false => rfl
      | true => have : b < s.c := by simpa [Nat.blt_eq] using hc
                omega
    have : (s.z b none).d = s.d := by show (bif Nat.blt b s.c then _ else _) = _; rw [hb]; rfl
    rw [I8 (s := s.z b none) fun c hc => h c (Qg _ hc), this]
section
variable {E : c_} {fr : Fr} {l : Sl} {st : St} {o : Oper} {all rest : List Oper} {i : Nat} {js ms : List Nat} {K : Sl -> St -> Prop}
end
theorem FM {st s2:St} (hn:s2.a=st.a+1) (c:Nat):(st.A s2).b.g c=if c=st.a\/c∈s2.d then s2.b.g c else st.b.g c:=by
 show(WH s2.b (Y3 st.a (s2.a-st.a)) (WH s2.b s2.d st.b)).g c=_;rw[hn,Nat.add_sub_cancel_left,show Y3 st.a 1=[st.a]from rfl,B5,B5];by_cases h1:c=st.a
 .rw[if_pos (by rw[h1];exact Qp.2 rfl),if_pos (.inl h1)]
 .rw[if_neg (by rw[Qp];exact h1)];by_cases h2:c∈s2.d
  .rw[if_pos h2,if_pos (.inr h2)]
  .rw[if_neg h2,if_neg (fun h=>h.elim h1 h2)]
theorem a_.tL {st:St} {e:TypeId} {sz VZ n:Nat} {v:AV} {cs new:List AV} (h:a_ st e sz v cs n) (XV:new.length=sz) (X2:0<sz) (aq:k7 1 VZ=true) (ao:k7 (n+1) VZ=true):
 ∃v' s2,CP (st.B st.b) e sz VZ new 1 v=some (v',s2)/\s2.a=st.a+1/\(∀b∈s2.d,b<st.a)/\a_ (st.A s2) e sz v' (cs++new) (n+1)/\CB st.a v'=true/\
  (∀c,c<st.a->CB c v=false->(st.A s2).b.g c=st.b.g c)/\(st.c=0->(st.A s2).d=st.d):=by
 have h':a_ (st.B st.b) e sz v cs n:=h.CQ (Qj _) fun _ _=>rfl;obtain⟨v',s2,h1,h2,h3,h4,h5,h6,h7⟩:=h'.append XV X2 aq ao;have h4':s2.a=st.a+1:=h4;have jK:∀c,CB c v'=true->c=st.a:=fun c hc=>by
  rcases h2 with⟨rfl,h,_⟩|⟨b,rfl,_⟩
  .cases hc
  .have e1:=Qb hc;have e2:=Qb h3;exact e1.symm.trans e2
 have CU:∀b∈s2.d,b<st.a/\CB b v=true:=fun b hb=>by
  rcases h6 b hb with h|h
  .cases h
  .exact h
 refine⟨v',s2,h1,h4,fun b hb=>(CU b hb).1,h2.CQ (Qj _) fun c hc=>by rw[FM h4',if_pos (.inl (jK c hc))],h3,fun c hc ho=>?_,fun hb=>?_⟩
 .rw[FM h4',if_neg (by
   rintro(h|h)
   .omega
   .rw[(CU c h).2]at ho;cases ho)]
 .show below st.c s2.d st.d=_;rw[hb];have:∀L l:List Nat,below 0 L l=l:=fun L=>by
   induction L with
   |nil=>intro l;rfl
   |cons b L ih=>intro l;exact ih l
  exact this _ _
section
variable (E : c_)
def C_ (b:Nat) (args:List AV) (s:St) (P:Bool->St->Prop):Prop:=
 ∃lp TA lA,s.b.g b=some (.O lp)/\bm lp.nt lp.params args lp.c=some TA/\k8 lA TA/\
  Cu E lp.assign {nt:=lp.nt,defers:=[],Xi:=none,a:=some b} lA s fun ex fr1 l1 s1=>ex= .J/\∃tD,s1.b.g b=some (.O tD)/\tD.a= .ready/\
   Cu E lp.body fr1 l1 (s1.z b (some (.O {tD with a:= .busy}))) fun oH cR _ s2=>cR.defers=[]/\∃tE,s2.b.g b=some (.O tE)/\mc b P oH s2 tE
end
section
variable {E : c_} {fr : Fr} {l : Sl} {s : St} {o : Oper} {all rest : List Oper} {K : Sl -> St -> Prop}
theorem mc.mono {b:Nat} {P P':Bool->St->Prop} {ex:Ex} {s:St} {lp:bV} (h:mc b P ex s lp) (hp:∀v s,P v s->P' v s):mc b P' ex s lp:=by
 cases ex with
 |J=>exact hp _ _ h
 |Y=>exact hp _ _ h
 |Z id=>exact hp _ _ h
 |O v=>exact h
theorem EZ {KP:AV->Sl->St->Prop} {c:Call} {t b d:Nat} {args:List AV} {P:Bool->St->Prop} (ho:o.op= .call c) (hc:c.callee= .value (.tmp t)) (hf:d_ t l=some (.an (.yield b) [] [])) (ha:WC c.args.toList l=some args)
 (hg:o.guard=none) (hd:o.dst=some d) (C5:Nat.blt d fr.nt=true) (h:C_ E b args s P) (hk:∀v s',P v s'->CA E KP all rest fr ((d,.bool v)::l) s' K):CA E KP all (o::rest) fr l s K:=by
 obtain⟨lp,TA,lA,h1,h2,h3,h4⟩:=h;exact SZ ho hc hf ha hg hd C5 h1 h2 h3 (h4.mono fun ex fr1 l1 s1 ⟨e1,tD,e2,e3,e4⟩=>⟨e1,tD,e2,e3,e4.mono fun oH cR _ s2 ⟨f1,tE,f2,f3⟩=>⟨f1,tE,f2,f3.mono hk⟩⟩)
end
theorem Wm.gen {E:c_} {s:St} {f:FuncId} {fn:Func} {c:Code} {args:List AV} {R:AV->St->Prop} {rs:List ResultVar} {fr:Fr} {l0:Sl} (hm:E.d f args=none) (hf:E.a.g f=some fn) (hc:fn.body=some c) (hr:fn.results.toList=rs)
 (Z6:n_ fn.ntmps args none=fr) (hl:YW 0 args []=l0) (h:Cu E c fr l0 s.u fun ex fr l st=>(ex= .Y\/ex= .J)/\∃Yk,ZE fr.defers st=some Yk/\∃vs,CK E Yk l rs=some vs/\∃cr,k9 E f s (Zi vs) Yk=some cr/\match cr with
  | .J v=>R v s
  | .O v s'=>R v s'
  | .Y _ _=>False):Wm E f args s R:=by
 subst Z6 hl hr;obtain⟨N,ex,Yx,l',T',s',⟨hex,Yk,hu,vs,Xr,cr,hlv,hR⟩,af,dV⟩:=h _ (Dx args 0 (k8.nil .J));refine⟨N+1,cr,fun n hn=>?_,hR⟩;obtain⟨m,rfl⟩:∃m,n=m+1:=⟨n-1,by omega⟩
 unfold WM;rw[hm];simp only[hf,hc,Qe];rw[DV,dV m (by omega)];show ZM E (ev E (m+1)) f fn s ⟨ex,Yx,T',s'⟩=_;unfold ZM;have jc:fb ex=some none:=by rcases hex with h|h<;>rw[h]<;>rfl
 simp only[jc,Qe,FE hu,t_,BO af Xr,hlv]
theorem BB {s:St} {b:Nat} {o:Option CG} (h:s.d≠ []\/b<s.c):(s.z b o).d≠ []:=by
 show(bif Nat.blt b s.c then Yn b s.d else s.d)≠ [];cases hb:Nat.blt b s.c with
 |true=>
  rw[cond_true];unfold Yn;split
  .exact List.cons_ne_nil _ _
  .cases Nat.beq b _<;>exact List.cons_ne_nil _ _
 |false=>
  rw[cond_false];rcases h with h|h
  .exact h
  .have:Nat.blt b s.c=true:=by simpa[Nat.blt_eq]using h
   rw[hb]at this;cases this
theorem Wm.mono {E:c_} {f:FuncId} {args:List AV} {s:St} {R R':AV->St->Prop} (h:Wm E f args s R) (hr:∀v s,R v s->R' v s):Wm E f args s R':=by
 obtain⟨N,cr,h1,h2⟩:=h;refine⟨N,cr,h1,?_⟩;cases cr with
 |J v=>exact hr _ _ h2
 |O v s'=>exact hr _ _ h2
 |Y v s'=>exact h2
end Am
