/- The abstract machine: rules for calls with unknown arguments. -/
import Derived.Test.YtfhimfcbphepeaaGreatDoorAmE
set_option linter.unusedSectionVars false
set_option linter.unusedVariables false
set_option linter.unusedSimpArgs false
namespace Am
open Go
section
variable (E : Env)
def jc (o:Oper) (fr:Fr) (T:Tr AV) (s:St) (v:AV) (s':St):Prop:=
 ∃N,∀n,N<=n->∀k:oM,(Xd E (Xz E o.type o.op) k).run (ev E n) fr T s=k.run (ev E n) fr T v s'
def Cc (f:FuncId) (args:List AV) (s:St) (v:AV):Prop:=∃N,∀n,N<=n->WA E (ev E n) f args s=some (.same v)
end
section
variable {E : Env} {fr : Fr} {T : Tr AV} {s : St} {Q : bO -> Prop}
theorem Fk (n:Nat) (c:Code):ev E (n+1) c=(XO E c).run (ev E n):=rfl
noncomputable def ix (d:Option Nat) (v:AV) (T:Tr AV):Tr AV:=match d with
 |some d=>T.set d (some v)
 |none=>T
def WB (nt:Nat):Option Nat->Bool
 |some d=>Nat.blt d nt
 |none=>true
theorem BA {dst:Option Nat} {k:Cl} (ev:Ev) (v:AV) (hd:WB fr.nt dst=true):(YS dst k).run ev fr T v s=k.run ev fr (ix dst v T) s:=by
 cases dst with
 |none=>rfl
 |some d=>
  show(bif Nat.blt d fr.nt then k.run ev fr (Tr.dz (some v) (pathOf d) T) s else .stuck)=_;have:Nat.blt d fr.nt=true:=hd;rw[this];rfl
theorem EL {all:List Oper} {g:Nat×Bool} {oj:Oper} {d:Nat} {b:Bool} (hj:nth all g.1=some oj) (hd:oj.dst=some d) (hv:T.get d=some (.bool b)):WN all g T=some (bif g.2 then b else !b):=by
 unfold WN aK;rw[hj];simp only[Qe,hd];show cN g.2 (T.get d)=_;rw[hv];rfl
theorem Fw {o:Oper} {x:Tr AV->Option AV} {f:Tr AV->St->Option AV} {v:AV} (Yc:Xz E o.type o.op= .read x f) (hv:f T s=some v):jc E o fr T s v s:=⟨0,fun n _ k=>by
 rw[Yc];show X0 (fun v=>k.run (ev E n) fr T v s) (f T s)=_;rw[hv];rfl⟩
theorem Hm {o:Oper} {b:Bool} {x:Tr AV->Option AV} {f:Tr AV->St->Option (AV×St)} {v:AV} {s':St} (Yc:Xz E o.type o.op= .act b x f) (hv:f T s=some (v,s')):jc E o fr T s v s':=⟨0,fun n _ k=>by
 rw[Yc];show nv (k.run (ev E n) fr T) (f T s)=_;rw[hv];rfl⟩
theorem Fx {o:Oper} {f:Tr AV->Option Mk} {ob:Cw} {g:Nat->AV} (Yc:Xz E o.type o.op= .make f) (hv:f T=some (.obj ob g)):jc E o fr T s (g s.next) (s.alloc ob):=⟨0,fun n _ k=>by
 rw[Yc];show mc s (k.run (ev E n) fr T) (f T)=_;rw[hv];rfl⟩
theorem VL {o:Oper} {F:Tr AV->St->Option (FuncId×List AV)} {f:FuncId} {args:List AV} {v:AV} (Yc:Xz E o.type o.op= .call F) (hv:F T s=some (f,args)) (hc:Cc E f args s v):jc E o fr T s v s:=by
 obtain⟨N,hc⟩:=hc;refine⟨N,fun n hn k=>?_⟩;rw[Yc];show Xy fr T s (k.run (ev E n) fr T) ((F T s).bind fun p=>WA E (ev E n) p.1 p.2 s)=_;rw[hv];simp only[Qe];rw[hc n hn];rfl
theorem SL {o:Oper} {F:Tr AV->Option AV} {A:Tr AV->Option (List AV)} {f:FuncId} {first captured args:List AV} {v:AV} (Yc:Xz E o.type o.op= .ah F A) (hF:F T=some (.func (.func f) first captured)) (hA:A T=some args)
 (hb:C7 E f=true) (hc:Cc E f (first++args++captured) s v):jc E o fr T s v s:=by
 obtain⟨N,hc⟩:=hc;refine⟨N,fun n hn k=>?_⟩;rw[Yc];show Xy fr T s (k.run (ev E n) fr T) ((F T).bind fun g=>(A T).bind fun args=>Yi E (ev E n) args s g)=_;rw[hF,hA];simp only[Qe,Yi,hb,cond_true];rw[hc n hn];rfl
theorem Cc.Y3 {f:FuncId} {args:List AV} {v:AV} (h:E.Y3 f args=some v):Cc E f args s v:=⟨0,fun n _=>by unfold WA;rw[h]⟩
def er:AV->Bool
 | .bool _=>true
 | .int _ _=>true
 | .str _=>true
 |_=>false
theorem E6 {E:Env} {f:FuncId} {v:AV} {s st:St} (hk:∀n w,Cs w n 40 v []=some (v,[])) (hp:∀b,v≠ .ptr b 0):frozen E f s v st=some (v,st):=by
 have h3:oK st v=Cs st 0 40 v []:=by
  unfold oK;split
  .next b=>exact absurd rfl (hp b)
  .rfl
 unfold frozen Wm eN;split
 .rfl
 .split
  .simp only[hk,Qe,kill]
  .rfl
 .simp only[h3,hk,Qe,kill]
 .simp only[hk,Qe,kill]
theorem Gg {f:FuncId} {v:AV} {s st:St} (hv:er v=true) (hl:st.log=[]):leave E f s v st=some (.same v):=by
 have hk:∀n w,Cs w n 40 v []=some (v,[]):=by
  intro n w;cases v<;>first|rfl|cases hv
 have hu:Cr s.next 40 v=true:=by cases v<;>first|rfl|cases hv
 have hf:frozen E f s v st=some (v,st):=E6 hk (fun b e=>by subst e;cases hv);unfold leave;rw[hf];simp only[Qe,YF,hl,hu,cond_true]
end
noncomputable def envK (P:Program) (nt nf mask:Nat) (K:FuncId->List AV->Option AV):Env:= {pk P nt nf mask []with Y3:=K}
def Wq (P:Program) (f:FuncId) (args:List AV) (v:AV):Prop:=
 ∀(C:Cx) (S:St) (w:World) (xs:Array Value) (c:Frame) (cs:List Frame),Wc C args xs.toList->W2 C S w->Returns P (lone (Frame.enter P f xs .normal) (c::cs) w) c cs C S w (.same v)
def Cx.memory (w:World):Cx:=
 ⟨fun _=>⟨0,0,0⟩,fun Ci=>match w.heap[Ci]? with
  |some (.cells c _ _)=>some c.toList
  |_=>none,fun _=>False,fun _ _=>0,fun _ _=>False,fun k=>k<w.heap.size⟩
theorem Ul (w:World):W2 (Cx.memory w) S0 w:=by
 have Z4:∀b o,¬S0.heap.get b=some o:=fun b o hb=>by rw[show S0.heap= .nil from rfl,AM]at hb;cases hb
 have hM:∀Ci ms,(Cx.memory w).M Ci=some ms->∃c e fr,w.heap[Ci]?=some (.cells c e fr)/\c.toList=ms:=by
  intro Ci ms hm;simp only[Cx.memory]at hm;split at hm
  .next c e fr hx=>cases hm;exact⟨c,e,fr,hx,rfl⟩
  .cases hm
 refine⟨fun b o hb=>absurd hb (Z4 b o),fun b _ o _ hb=>absurd hb (Z4 b o),fun b hb=>hb.elim,hM,fun b o hb=>absurd hb (Z4 b o),fun b n hb=>hb.elim,fun _ h=>h,fun b hb=>hb.elim,fun Ci ms hm=>?_⟩;obtain⟨c,e,fr,hx,_⟩:=hM Ci ms hm;exact Bq hx
section
variable {E : Env} {fr : Fr} {T : Tr AV} {s : St} {o : Oper}
theorem vJ {op:BinOp} {t:TypeId} {x y:Operand} {k:IntKind} (hu:CN E t=some (.int k)) {f:IntKind->Int->Int->Option AV} (hf:mN op=some f):kg E op t x y=YA E (oE f) x y:=by
 unfold kg;rw[hu];cases op<;>first|(exfalso;simp[mN]at hf;done)|(simp only[hf])
theorem LM {n:Int} (h0: -9223372036854775808<=n) (h1:n<9223372036854775808):IntKind.i64.wrap n=n:=Go.IntWalk.i64_in _ (by omega)
theorem Gq {n:Int} (h0: -9223372036854775808<=n) (h1:n<9223372036854775808):dj .i64 n= .int .i64 n:=by
 unfold dj;rw[LM h0 h1]
theorem Hf {α:Type} {l:List α} {a n:Nat} (h:a+n<=l.length):cut l a n=some ((l.drop a).take n):=by
 have h1:∀(a:Nat) (l:List α),a<=l.length->XK a l=some (l.drop a):=by
  intro a;induction a with
  |zero=>intro l _;rfl
  |succ a ih=>
   intro l hl;cases l with
   |nil=>simp at hl
   |cons b l=>exact ih l (by simpa using hl)
 have h2:∀(n:Nat) (l:List α),n<=l.length->takeN n l=some (l.take n):=by
  intro n;induction n with
  |zero=>intro l _;simp;rfl
  |succ n ih=>
   intro l hl;cases l with
   |nil=>simp at hl
   |cons b l=>
    show fi b (takeN n l)=_;rw[ih l (by simpa using hl)];rfl
 unfold cut;rw[h1 a l (by omega)];exact h2 n _ (by simp;omega)
theorem Au {d m n:Nat} {k:IntKind} (h:n<=m):WM d m (some (.int k (n:Nat)))=some n:=by
 have hk:Xi (.int k (n:Nat))=some n:=rfl;have hb:Nat.ble n m=true:=Qd h;simp only[WM,hk,Qe,hb,cond_true]
theorem KJ {x:Operand} {v:AV} (h:Cg E x T=some v):XC E (some x) T=some (some v):=by simp only[XC,h,Qe]
theorem TJ:CO E [] T=some []:=rfl
theorem KI {x:Operand} {l:List Operand} {v:AV} {vs:List AV} (h:Cg E x T=some v) (t:CO E l T=some vs):CO E (x::l) T=some (v::vs):=by simp only[CO,h,t,Qe]
theorem PL {c:Call} {f:FuncId} {args:List AV} {v:AV} (ho:o.op= .call c) (hc:c.callee= .value (.func f)) (hb:C7 E f=true) (ha:CO E c.args.toList T=some args) (h:Cc E f args s v):jc E o fr T s v s:=
 VL (F:=fun T _=>(CO E c.args.toList T).bind fun args=>some (f,args)) (by
  rw[ho];show Wz E o.type c=_;unfold Wz;rw[hc];simp only[hb,cond_true]) (by simp only[ha,Qe]) h
theorem OI {c:Call} {t:Nat} {f:FuncId} {first captured args:List AV} {v:AV} (ho:o.op= .call c) (hc:c.callee= .value (.tmp t)) (hf:T.get t=some (.func (.func f) first captured)) (hb:C7 E f=true)
 (ha:CO E c.args.toList T=some args) (h:Cc E f (first++args++captured) s v):jc E o fr T s v s:=
 SL (F:=Cg E (.tmp t)) (A:=CO E c.args.toList) (by
  rw[ho];show Wz E o.type c=_;unfold Wz;rw[hc]) hf ha hb h
end
abbrev Sl:=List (Nat×AV)
def look:Nat->Sl->Option AV
 |_,[]=>none
 |k,p::l=>bif Nat.beq k p.1 then some p.2 else look k l
def Has (l:Sl) (T:Tr AV):Prop:=∀k v,look k l=some v->T.get k=some v
theorem Has.put {l:Sl} {T:Tr AV} (h:Has l T) (d:Nat) (v:AV):Has ((d,v)::l) (T.set d (some v)):=by
 intro k u hk;rw[Ay];unfold look at hk;cases hb:Nat.beq k d with
 |true=>grind [Qb]
 |false=>
  rw[hb]at hk;have:=Nat.ne_of_beq_eq_false hb;rw[if_neg this];exact h k u hk
theorem Has.nil (T:Tr AV):Has [] T:=fun _ _ h=>by cases h
theorem Has.sub {l l':Sl} {T:Tr AV} (h:Has l T) (hs:∀p∈l',look p.1 l=some p.2):Has l' T:=by
 intro k v hk;have:∃p∈l',p.1=k/\p.2=v:=by
  clear hs;induction l' with
  |nil=>cases hk
  |cons p l' ih=>grind [Option.some.injEq,look,Qb]
 obtain⟨p,hp,rfl,rfl⟩:=this;exact h _ _ (hs p hp)
noncomputable def Ch:Operand->Sl->Option AV
 | .tmp t,l=>look t l
 | .const v,_=>lQ v
 | .func f,_=>some (.func (.func f) [] [])
 | .global _,_=>none
theorem Ae {E:Env} {l:Sl} {T:Tr AV} (h:Has l T) {x:Operand} {v:AV} (hx:Ch x l=some v):Cg E x T=some v:=by
 cases x with
 |tmp t=>exact h t v hx
 |const c=>
  simp only[Ch]at hx;simp only[Cg];rw[hx];rfl
 |func f=>exact hx
 |global g=>cases hx
noncomputable def WV:List Operand->Sl->Option (List AV)
 | [],_=>some []
 |x::xs,l=>match Ch x l with
  |some v=>match WV xs l with
   |some vs=>some (v::vs)
   |none=>none
  |none=>none
theorem AX {E:Env} {l:Sl} {T:Tr AV} (h:Has l T):∀ {xs:List Operand} {vs:List AV},WV xs l=some vs->CO E xs T=some vs
 | [],vs,hx=>hx
 |x::xs,vs,hx=>by
  unfold WV at hx;split at hx
  .next v hv=>
   split at hx
   .next us hus=>cases hx;exact KI (Ae h hv) (AX h hus)
   .cases hx
  .cases hx
section
variable (E : Env)
def AtEx (KP:AV->Sl->St->Prop) (K:Sl->St->Prop) (ex:Ex) (l:Sl) (s:St):Prop:=match ex with
 | .normal=>K l s
 | .panic v=>KP v l s
 |_=>False
def CB (KP:AV->Sl->St->Prop) (all ops:List Oper) (fr:Fr) (l:Sl) (s:St) (K:Sl->St->Prop):Prop:=
 ∀T,Has l T->∃N ex l' T' s',AtEx KP K ex l' s'/\Has l' T'/\∀n,N<=n->(al E all ops).run (ev E n) fr T s= .one ⟨ex,fr,T',s'⟩
def Cz (c:Code) (fr:Fr) (l:Sl) (s:St) (Q:Ex->Fr->Sl->St->Prop):Prop:=
 ∀T,Has l T->∃N ex Yf l' T' s',Q ex Yf l' s'/\Has l' T'/\∀n,N<=n->(XO E c).run (ev E n) fr T s= .one ⟨ex,Yf,T',s'⟩
def Zl (o:Oper) (fr:Fr) (l:Sl) (s:St) (v:AV) (s':St):Prop:=∀T,Has l T->jc E o fr T s v s'
end
section
variable {E : Env} {fr : Fr} {l : Sl} {s : St} {all rest : List Oper} {o : Oper}
theorem Fu {KP:AV->Sl->St->Prop} {K:Sl->St->Prop} (h:K l s):CB E KP all [] fr l s K:=fun T hT=>⟨0,.normal,l,T,s,h,hT,fun _ _=>rfl⟩
theorem CB.op {KP:AV->Sl->St->Prop} {K:Sl->St->Prop} {v:AV} {s':St} {d:Nat} (ho:Zl E o fr l s v s') (hg:o.guard=none) (hd:o.dst=some d) (Co:Nat.blt d fr.nt=true) (h:CB E KP all rest fr ((d,v)::l) s' K):CB E KP all (o::rest) fr l s K:=by
 intro T hT;obtain⟨N,ho⟩:=ho T hT;obtain⟨M,ex,l',T',s2,hk,ZQ,hr⟩:=h _ (hT.put d v);refine⟨max N M,ex,l',T',s2,hk,ZQ,fun n hn=>?_⟩;show(Zv E all o (YS o.dst (al E all rest))).run (ev E n) fr T s=_;unfold Zv guarded;rw[hg];simp only;rw[ho n (by omega),BA _ _ (by rw[hd];exact Co),hd];exact hr n (by omega)
theorem MM {KP:AV->Sl->St->Prop} {K:Sl->St->Prop} {v:AV} {s':St} (ho:Zl E o fr l s v s') (hg:o.guard=none) (hd:o.dst=none) (h:CB E KP all rest fr l s' K):CB E KP all (o::rest) fr l s K:=by
 intro T hT;obtain⟨N,ho⟩:=ho T hT;obtain⟨M,ex,l',T',s2,hk,ZQ,hr⟩:=h _ hT;refine⟨max N M,ex,l',T',s2,hk,ZQ,fun n hn=>?_⟩;show(Zv E all o (YS o.dst (al E all rest))).run (ev E n) fr T s=_;unfold Zv guarded;rw[hg];simp only;rw[ho n (by omega),BA _ _ (by rw[hd];rfl),hd];exact hr n (by omega)
theorem MO {KP:AV->Sl->St->Prop} {K:Sl->St->Prop} {v:AV} {s':St} {d j e:Nat} {w b:Bool} {oj:Oper} (hg:o.guard=some (j,w)) (hj:nth all j=some oj) (he:oj.dst=some e) (hl:look e l=some (.bool b)) (hb:b=w)
 (ho:Zl E o fr l s v s') (hd:o.dst=some d) (Co:Nat.blt d fr.nt=true) (h:CB E KP all rest fr ((d,v)::l) s' K):CB E KP all (o::rest) fr l s K:=by
 intro T hT;obtain⟨N,ho⟩:=ho T hT;obtain⟨M,ex,l',T',s2,hk,ZQ,hr⟩:=h _ (hT.put d v);refine⟨max N M,ex,l',T',s2,hk,ZQ,fun n hn=>?_⟩;show(Zv E all o (YS o.dst (al E all rest))).run (ev E n) fr T s=_;unfold Zv guarded;rw[hg];simp only;rw[EL (g:=(j,w)) hj he (hT e _ hl)];have:(bif w then b else !b)=true:=by rw[hb];cases w<;>rfl
 rw[this];simp only[cp,cond_true];rw[ho n (by omega),BA _ _ (by rw[hd];exact Co),hd];exact hr n (by omega)
theorem JK {KP:AV->Sl->St->Prop} {K:Sl->St->Prop} {d j e:Nat} {w b:Bool} {oj:Oper} (hg:o.guard=some (j,w)) (hj:nth all j=some oj) (he:oj.dst=some e) (hl:look e l=some (.bool b)) (hb:b= !w)
 (hd:o.dst=some d) (Co:Nat.blt d fr.nt=true) (h:CB E KP all rest fr ((d,.tuple [])::l) s K):CB E KP all (o::rest) fr l s K:=by
 intro T hT;obtain⟨M,ex,l',T',s2,hk,ZQ,hr⟩:=h _ (hT.put d (.tuple []));refine⟨M,ex,l',T',s2,hk,ZQ,fun n hn=>?_⟩;show(Zv E all o (YS o.dst (al E all rest))).run (ev E n) fr T s=_;unfold Zv guarded;rw[hg];simp only;rw[EL (g:=(j,w)) hj he (hT e _ hl)];have:(bif w then b else !b)=false:=by rw[hb];cases w<;>rfl
 rw[this];simp only[cp,cond_false];rw[BA _ _ (by rw[hd];exact Co),hd];exact hr n hn
variable {Q : Ex -> Fr -> Sl -> St -> Prop}
theorem Cz.sub {c:Code} {l':Sl} (h:Cz E c fr l' s Q) (hs:∀p∈l',look p.1 l=some p.2):Cz E c fr l s Q:=fun T hT=>h T (hT.sub hs)
theorem MQ {k:Nat} {ops:Array Oper} (h:CB E (fun v l s=>Q (.panic v) fr l s) ops.toList ops.toList fr l s (Q .normal fr)):Cz E (.region k ops false) fr l s Q:=fun T hT=>
 let⟨N,ex,l',T',s',h1,h2,h3⟩:=h T hT;⟨N,ex,fr,l',T',s',(match ex,h1 with
  | .normal,h1=>h1
  | .panic _,h1=>h1),h2,h3⟩
abbrev sW (E:Env) (b:Code) (Q:Ex->Fr->Sl->St->Prop) (ex:Ex) (fr:Fr) (l:Sl) (s:St):Prop:=match ex with
 | .normal=>Cz E b fr l s Q
 |ex=>Q ex fr l s
theorem DK {a b:Code} (h:Cz E a fr l s (sW E b Q)):Cz E (.seq a b) fr l s Q:=by
 intro T hT;obtain⟨N,ex,Yf,l',T',s',hq,ZQ,hr⟩:=h T hT;unfold sW at hq;cases ex with
 |normal=>
  obtain⟨M,pq,cV,l2,T2,s2,lj,kN,qz⟩:=hq T' ZQ;refine⟨max N M,pq,cV,l2,T2,s2,lj,kN,fun n hn=>?_⟩;show(Out.then ((XO E a).run (ev E n) fr T s) (lu ((XO E b).run (ev E n))))=_;rw[hr n (by omega)];exact qz n (by omega)
 |_=>
  refine⟨N,_,Yf,l',T',s',hq,ZQ,fun n hn=>?_⟩;show(Out.then ((XO E a).run (ev E n) fr T s) (lu ((XO E b).run (ev E n))))=_;rw[hr n hn];rfl
theorem Gp {k:Nat} {ops:Array Oper} {b:Code} (h:CB E (fun v l s=>Q (.panic v) fr l s) ops.toList ops.toList fr l s fun l s=>Cz E b fr l s Q):Cz E (.seq (.region k ops false) b) fr l s Q:=DK (MQ h)
theorem Hq {x:Operand} {a b:Code} {t:Bool} (hx:Ch x l=some (.bool t)) (h1:t=true->Cz E a fr l s Q) (h0:t=false->Cz E b fr l s Q):Cz E (.cond x a b) fr l s Q:=by
 intro T hT;cases t with
 |true=>
  obtain⟨N,ex,Yf,l',T',s',hq,ZQ,hr⟩:=h1 rfl T hT;refine⟨N,ex,Yf,l',T',s',hq,ZQ,fun n hn=>?_⟩;show eT ((XO E a).run (ev E n)) ((XO E b).run (ev E n)) fr T s (Cg E x T)=_;rw[Ae hT hx];exact hr n hn
 |false=>
  obtain⟨N,ex,Yf,l',T',s',hq,ZQ,hr⟩:=h0 rfl T hT;refine⟨N,ex,Yf,l',T',s',hq,ZQ,fun n hn=>?_⟩;show eT ((XO E a).run (ev E n)) ((XO E b).run (ev E n)) fr T s (Cg E x T)=_;rw[Ae hT hx];exact hr n hn
abbrev qA (id:Nat) (Q:Ex->Fr->Sl->St->Prop) (ex:Ex) (fr:Fr) (l:Sl) (s:St):Prop:=match ex with
 | .exit i=>bif Nat.beq i id then Q .normal fr l s else Q (.exit i) fr l s
 |ex=>Q ex fr l s
theorem Cz.block {id:Nat} {b:Code} (h:Cz E b fr l s (qA id Q)):Cz E (.block id b) fr l s Q:=by
 intro T hT;obtain⟨N,ex,Yf,l',T',s',hq,ZQ,hr⟩:=h T hT;unfold qA at hq;cases ex with
 |exit i=>
  simp only at hq;cases hb:Nat.beq i id with
  |true=>
   rw[hb]at hq;refine⟨N,.normal,Yf,l',T',s',hq,ZQ,fun n hn=>?_⟩;show(Out.then ((XO E b).run (ev E n) fr T s) (ef id))=_;rw[hr n hn];simp only[Out.then,ef,hb,cond_true]
  |false=>
   rw[hb]at hq;refine⟨N,.exit i,Yf,l',T',s',hq,ZQ,fun n hn=>?_⟩;show(Out.then ((XO E b).run (ev E n) fr T s) (ef id))=_;rw[hr n hn];simp only[Out.then,ef,hb,cond_false]
 |_=>
  refine⟨N,_,Yf,l',T',s',hq,ZQ,fun n hn=>?_⟩;show(Out.then ((XO E b).run (ev E n) fr T s) (ef id))=_;rw[hr n hn];rfl
theorem Ho (h:Q .normal fr l s):Cz E .skip fr l s Q:=fun T hT=>⟨0,_,fr,l,T,s,h,hT,fun _ _=>rfl⟩
theorem VV {id:Nat} (h:Q (.exit id) fr l s):Cz E (.exit id) fr l s Q:=fun T hT=>⟨0,_,fr,l,T,s,h,hT,fun _ _=>rfl⟩
theorem Bp (h:Q .ret fr l s):Cz E .ret fr l s Q:=fun T hT=>⟨0,_,fr,l,T,s,h,hT,fun _ _=>rfl⟩
theorem Dh {b:Code} (h:Cz E b fr l s (sW E (.loop b) Q)):Cz E (.loop b) fr l s Q:=by
 intro T hT;obtain⟨N,ex,Yf,l',T',s',hq,ZQ,hr⟩:=h T hT;unfold sW at hq;cases ex with
 |normal=>
  obtain⟨M,pq,cV,l2,T2,s2,lj,kN,qz⟩:=hq T' ZQ;refine⟨max N (M+1),pq,cV,l2,T2,s2,lj,kN,fun n hn=>?_⟩;obtain⟨m,rfl⟩:∃m,n=m+1:=⟨n-1,by omega⟩
  show(Out.then ((XO E b).run (ev E (m+1)) fr T s) (lu (ev E (m+1) (.loop b))))=_;rw[hr (m+1) (by omega)];exact qz m (by omega)
 |_=>
  refine⟨N,_,Yf,l',T',s',hq,ZQ,fun n hn=>?_⟩;show(Out.then ((XO E b).run (ev E n) fr T s) (lu (ev E n (.loop b))))=_;rw[hr n hn];rfl
theorem Cz.mono {c:Code} {Q':Ex->Fr->Sl->St->Prop} (h:Cz E c fr l s Q) (hq:∀ex fr l s,Q ex fr l s->Q' ex fr l s):Cz E c fr l s Q':=fun T hT=>
 let⟨N,ex,Yf,l',T',s',h1,h2,h3⟩:=h T hT;⟨N,ex,Yf,l',T',s',hq _ _ _ _ h1,h2,h3⟩
def X9 (E:Env) (o:Oper) (l:Sl) (v:AV):Prop:=
 Yb (Xz E o.type o.op)=true/\∀T,Has l T->Xh (Xz E o.type o.op) T= .nothing/\∀(ev:Ev) (fr:Fr) (s:St) (k:oM),(Xd E (Xz E o.type o.op) k).run ev fr T s=k.run ev fr T v s
theorem VT {v:AV} (h:X9 E o l v):Zl E o fr l s v s:=fun T hT=>⟨0,fun n _ k=>(h.2 T hT).2 (ev E n) fr s k⟩
theorem AE {f:Tr AV->Option AV} {v:AV} (Yc:Xz E o.type o.op= .pure f) (hv:∀T,Has l T->f T=some v):X9 E o l v:=by
 refine⟨by rw[Yc];rfl,fun T hT=>⟨by rw[Yc];rfl,fun ev fr s k=>?_⟩⟩;rw[Yc];show X0 (fun v=>k.run ev fr T v s) (f T)=_;rw[hv T hT];rfl
theorem Rm {x:Tr AV->Option AV} {f:Tr AV->St->Option AV} {v:AV} (Yc:Xz E o.type o.op= .read x f) (hx:∀T,Has l T->ZA (x T)=none) (hv:∀T s,Has l T->f T s=some v):X9 E o l v:=by
 refine⟨by rw[Yc];rfl,fun T hT=>⟨by rw[Yc];show dZ (ZA (x T))=_;rw[hx T hT];rfl,fun ev fr s k=>?_⟩⟩;rw[Yc];show X0 (fun v=>k.run ev fr T v s) (f T s)=_;rw[hv T s hT];rfl
theorem Ro {x:Operand} {v:AV} (ho:o.op= .move x) (hx:Ch x l=some v):X9 E o l v:=AE (f:=Cg E x) (by rw[ho];rfl) fun _ hT=>Ae hT hx
theorem X9.assign {x:Operand} {v:AV} (ho:o.op= .assign x) (hx:Ch x l=some v):X9 E o l v:=AE (f:=Cg E x) (by rw[ho];rfl) fun _ hT=>Ae hT hx
theorem OJ {c x y:Operand} {v:AV} {b:Bool} (ho:o.op= .pick c x y) (hc:Ch c l=some (.bool b)) (hb:b=true) (hx:Ch x l=some v):X9 E o l v:=
 AE (f:=fun T=>(Cg E c T).bind (ko (Cg E x) (Cg E y) T)) (by rw[ho];rfl) fun _ hT=>by subst hb;simp only[Ae hT hc,Qe,ko,cond_true,Ae hT hx]
theorem OL {c x y:Operand} {v:AV} {b:Bool} (ho:o.op= .pick c x y) (hc:Ch c l=some (.bool b)) (hb:b=false) (hy:Ch y l=some v):X9 E o l v:=
 AE (f:=fun T=>(Cg E c T).bind (ko (Cg E x) (Cg E y) T)) (by rw[ho];rfl) fun _ hT=>by subst hb;simp only[Ae hT hc,Qe,ko,cond_false,Ae hT hy]
theorem VN {t:TypeId} {x:Operand} {b:Bool} (ho:o.op= .unOp .not t x) (hx:Ch x l=some (.bool b)):X9 E o l (.bool (!b)):=
 AE (f:=fun T=>(Cg E x T).bind (unV .not)) (by rw[ho];rfl) fun _ hT=>by simp only[Ae hT hx,Qe,unV]
theorem FP {op:BinOp} {t yt:TypeId} {x y:Operand} {k:IntKind} {a b:Int} {v:AV} {f:IntKind->Int->Int->Option AV} (ho:o.op= .binOp op t x y yt) (hu:CN E t=some (.int k)) (hf:mN op=some f)
 (hx:Ch x l=some (.int k a)) (hy:Ch y l=some (.int k b)) (hv:f k a b=some v):X9 E o l v:=
 AE (f:=fun T=>(Cg E x T).bind fun a=>(Cg E y T).bind fun b=>Am.oE f a b) (by rw[ho];exact vJ hu hf) fun _ hT=>by simp only[Ae hT hx,Ae hT hy,Qe,Am.oE,if_true,hv]
theorem X9.add {t yt:TypeId} {x y:Operand} {a b:Int} (ho:o.op= .binOp .add t x y yt) (hu:CN E t=some (.int .i64)) (hx:Ch x l=some (.int .i64 a)) (hy:Ch y l=some (.int .i64 b))
 (h: -9223372036854775808<=a+b/\a+b<9223372036854775808):X9 E o l (.int .i64 (a+b)):=FP ho hu rfl hx hy (by rw[Gq h.1 h.2])
theorem X9.addN {t yt:TypeId} {x y:Operand} {a b:Nat} (ho:o.op= .binOp .add t x y yt) (hu:CN E t=some (.int .i64)) (hx:Ch x l=some (.int .i64 (a:Nat))) (hy:Ch y l=some (.int .i64 (b:Nat)))
 (h:a+b<9223372036854775808):X9 E o l (.int .i64 ((a+b:Nat):Int)):=X9.add ho hu hx hy (by omega)
theorem A2 {op:BinOp} {t yt:TypeId} {x y:Operand} {a b:List UInt8} {v:AV} {f:List UInt8->List UInt8->Option AV} (ho:o.op= .binOp op t x y yt) (hu:CN E t=some .string) (hf:tL op=some f)
 (hx:Ch x l=some (.str a)) (hy:Ch y l=some (.str b)) (hv:f a b=some v):X9 E o l v:=
 AE (f:=fun T=>(Cg E x T).bind fun a=>(Cg E y T).bind fun b=>Am.pY f a b) (by
  rw[ho];show kg E op t x y=_;unfold kg;rw[hu];simp only[hf];rfl) fun _ hT=>by simp only[Ae hT hx,Ae hT hy,Qe,Am.pY,hv]
theorem Ac {c:Call} {t:TypeId} {ts:List TypeId} {x:Operand} {w:List UInt8} (ho:o.op= .call c) (hc:c.callee= .builtin .len) (ht:c.argTypes.toList=t::ts) (ha:c.args.toList=[x]) (hu:CN E t=some .string)
 (hx:Ch x l=some (.str w)):X9 E o l (.int .i64 (w.length:Nat)):=
 AE (f:=fun T=>(Cg E x T).bind Am.mR) (by
  rw[ho];show Wz E o.type c=_;unfold Wz;rw[hc];simp only;rw[ht,ha];show mS E t x=_;unfold mS;rw[hu]) fun _ hT=>by simp only[Ae hT hx,Qe,Am.mR,Bl]
theorem ON {t:TypeId} {x i:Operand} {w:List UInt8} {k:IntKind} {n:Nat} {b:UInt8} (ho:o.op= .index t x i) (hu:CN E t=some .string) (hx:Ch x l=some (.str w)) (hi:Ch i l=some (.int k (n:Nat)))
 (hb:w[n]?=some b):X9 E o l (.int .u8 b.toNat):=
 AE (f:=fun T=>(Cg E i T).bind fun iv=>(Xi iv).bind fun k=>(Cg E x T).bind (gL k)) (by
  rw[ho];show ke E t x i=_;unfold ke;rw[hu]) fun _ hT=>by
  have hn:nth w n=some b:=by rw[DV];exact hb
  have hk:Xi (.int k (n:Nat))=some n:=rfl;simp only[Ae hT hx,Ae hT hi,Qe,hk,gL,hn]
theorem A0 {t:TypeId} {x i:Operand} {w:List UInt8} {k:IntKind} {n:Nat} (ho:o.op= .index t x i) (hu:CN E t=some .string) (hx:Ch x l=some (.str w)) (hi:Ch i l=some (.int k (n:Nat)))
 (hn:n<w.length):X9 E o l (.int .u8 (w.getD n 0).toNat):=ON ho hu hx hi (by rw[List.getD,Qi hn];rfl)
noncomputable def kQ:Option Operand->Sl->Option (Option AV)
 |none,_=>some none
 |some x,l=>(Ch x l).bind fun v=>some (some v)
theorem GD {T:Tr AV} (hT:Has l T) {x:Option Operand} {v:Option AV} (h:kQ x l=some v):XC E x T=some v:=by
 cases x with
 |none=>exact h
 |some x=>
  obtain⟨u,hu,h2⟩:=Qa.1 h;cases h2;exact KJ (Ae hT hu)
theorem Az {t:TypeId} {x:Operand} {lo hi:Option Operand} {w:List UInt8} {vlo vhi:Option AV} {a h:Nat} (ho:o.op= .slice t x lo hi none) (hu:CN E t=some .string) (hx:Ch x l=some (.str w))
 (sw:kQ lo l=some vlo) (qZ:kQ hi l=some vhi) (hh:WM w.length w.length vhi=some h) (ha:WM 0 h vlo=some a) (hah:a<=h/\h<=w.length):X9 E o l (.str ((w.drop a).take (h-a))):=
 AE (f:=fun T=>(Cg E x T).bind fun a=>(XC E lo T).bind fun l=>(XC E hi T).bind fun h=>bW l h a) (by
  rw[ho];show fF E t x lo hi none=_;unfold fF;rw[hu]) fun _ hT=>by
  simp only[Ae hT hx,GD hT sw,GD hT qZ,Qe,bW,Bl,hh,ha];rw[Hf (by omega)];rfl
theorem X9.extract {x:Operand} {i:Nat} {vs:List AV} {v:AV} (ho:o.op= .extract x i) (hx:Ch x l=some (.tuple vs)) (hv:nth vs i=some v):X9 E o l v:=
 AE (f:=fun T=>(Cg E x T).bind (cj i)) (by rw[ho];rfl) fun _ hT=>by simp only[Ae hT hx,Qe,cj,hv]
theorem Av {c:Call} {f:FuncId} {args:List AV} {v:AV} (ho:o.op= .call c) (hc:c.callee= .value (.func f)) (hb:C7 E f=true) (ha:WV c.args.toList l=some args) (h:Cc E f args s v):Zl E o fr l s v s:=
 fun _ hT=>PL ho hc hb (AX hT ha) h
theorem BJ {c:Call} {t:Nat} {f:FuncId} {first captured args:List AV} {v:AV} (ho:o.op= .call c) (hc:c.callee= .value (.tmp t)) (hf:look t l=some (.func (.func f) first captured)) (hb:C7 E f=true)
 (ha:WV c.args.toList l=some args) (h:Cc E f (first++args++captured) s v):Zl E o fr l s v s:=fun _ hT=>OI ho hc (hT t _ hf) hb (AX hT ha) h
theorem LH {KP:AV->Sl->St->Prop} {K:Sl->St->Prop} {d j e:Nat} {w:Bool} {oj:Oper} (hg:o.guard=some (j,w)) (hj:nth all j=some oj) (he:oj.dst=some e) (hl:look e l=some (.tuple []))
 (hd:o.dst=some d) (Co:Nat.blt d fr.nt=true) (h:CB E KP all rest fr ((d,.tuple [])::l) s K):CB E KP all (o::rest) fr l s K:=by
 intro T hT;obtain⟨M,ex,l',T',s2,hk,ZQ,hr⟩:=h _ (hT.put d (.tuple []));refine⟨M,ex,l',T',s2,hk,ZQ,fun n hn=>?_⟩;show(Zv E all o (YS o.dst (al E all rest))).run (ev E n) fr T s=_;unfold Zv guarded;rw[hg];simp only;have:WN all (j,w) T=some false:=by
  unfold WN aK;simp only[hj,Qe,he];show cN w (T.get e)=_;rw[hT e _ hl];rfl
 rw[this];simp only[cp,cond_false];rw[BA _ _ (by rw[hd];exact Co),hd];exact hr n hn
theorem VK {KP:AV->Sl->St->Prop} {K:Sl->St->Prop} {j e:Nat} {w b:Bool} {oj:Oper} (_hg:o.guard=some (j,w)) (_hj:nth all j=some oj) (_he:oj.dst=some e) (_hl:look e l=some (.bool b))
 (h1:b=true->CB E KP all (o::rest) fr l s K) (h0:b=false->CB E KP all (o::rest) fr l s K):CB E KP all (o::rest) fr l s K:=by
 cases hb:b with
 |true=>exact h1 hb
 |false=>exact h0 hb
theorem Ai {α:Type} {b:Code} (I:α->Sl×St) (μ:α->Nat) (G:α->Prop) (a0:α) (hG:G a0) (hs:s=(I a0).2) (hl:∀p∈(I a0).1,look p.1 l=some p.2)
 (step:∀a,G a->Cz E b fr (I a).1 (I a).2 fun ex Yf l' s'=>match ex with
  | .normal=>∃a',G a'/\μ a'<μ a/\Yf=fr/\s'=(I a').2/\∀p∈(I a').1,look p.1 l'=some p.2
  |ex=>Q ex Yf l' s'):Cz E (.loop b) fr l s Q:=by
 have key:∀m a,μ a<=m->G a->∀l',(∀p∈(I a).1,look p.1 l'=some p.2)->Cz E (.loop b) fr l' (I a).2 Q:=by
  intro m;induction m with
  |zero=>
   intro a hm hg l' ZC;refine Cz.sub (Dh (Cz.mono (step a hg) fun ex cV l2 s2 h=>?_)) ZC;cases ex with
   |normal=>obtain⟨a',_,Co,_⟩:=h;omega
   |_=>exact h
  |succ m ih=>
   intro a hm hg l' ZC;refine Cz.sub (Dh (Cz.mono (step a hg) fun ex cV l2 s2 h=>?_)) ZC;cases ex with
   |normal=>grind
   |_=>exact h
 subst hs;exact key _ a0 (Qj _) hG l hl
theorem CB.q {KP:AV->Sl->St->Prop} {K:Sl->St->Prop} {v:AV} {d:Nat} (ho:X9 E o l v) (hg:o.guard=none) (hd:o.dst=some d) (Co:Nat.blt d fr.nt=true) (h:CB E KP all rest fr ((d,v)::l) s K):CB E KP all (o::rest) fr l s K:=
 CB.op (VT ho) hg hd Co h
def ZS:Nat->List AV->Sl->Sl
 |_,[],l=>l
 |i,v::vs,l=>ZS (i+1) vs ((i,v)::l)
theorem D4:∀(vs:List AV) (i:Nat) {l:Sl} {T:Tr AV},Has l T->Has (ZS i vs l) (Yl i vs T)
 | [],_,_,_,h=>h
 |v::vs,i,_,_,h=>D4 vs (i+1) (h.put i v)
noncomputable def Zm:List fD->St->Option St
 | [],s=>some s
 |d::ds,s=>match d.target with
  | .collected r=>match s.heap.get r with
   |some (.defs true)=>Zm ds (s.put r (some (.defs false)))
   |_=>none
  |_=>none
theorem F0 {ev:Ev}:∀ {ds:List fD} {s s':St},Zm ds s=some s'->unwind E ev ds none s=some (none,s')
 | [],s,s',h=>by cases h;rfl
 |d::ds,s,s',h=>by
  obtain⟨t,as⟩:=d;unfold Zm at h;cases t with
  |fn f c=>cases h
  |collected r=>
   simp only at h;split at h
   .simp_all [Qe,unwind,hJ,F0]
   .cases h
noncomputable def CI (E:Env) (s:St) (l:Sl):List ResultVar->Option (List AV)
 | []=>some []
 | .tmp t::rs=>(look t l).bind fun v=>(CI E s l rs).bind fun r=>some (v::r)
 | .cell a t::rs=>(look a l).bind fun p=>(Wy E t s p).bind fun v=>(CI E s l rs).bind fun r=>some (v::r)
theorem BX {T:Tr AV} (hT:Has l T):∀ {rs:List ResultVar} {vs:List AV},CI E s l rs=some vs->Yt E s T rs=some vs
 | [],vs,h=>h
 | .tmp t::rs,vs,h=>by
  obtain⟨v,hv,h⟩:=Qa.1 h;obtain⟨r,hr,h⟩:=Qa.1 h;cases h;simp only[Yt,hT t v hv,BX hT hr,Qe]
 | .cell a t::rs,vs,h=>by
  obtain⟨p,hp,h⟩:=Qa.1 h;obtain⟨v,hv,h⟩:=Qa.1 h;obtain⟨r,hr,h⟩:=Qa.1 h;cases h;simp only[Yt,hT a p hp,hv,BX hT hr,Qe]
def EndL (E:Env) (f:FuncId) (rs:List ResultVar) (s:St) (v:AV) (ex:Ex) (fr:Fr) (l:Sl) (st:St):Prop:=
 (ex= .ret\/ex= .normal)/\∃ZD,Zm fr.defers st=some ZD/\∃vs,CI E ZD l rs=some vs/\leave E f s (ck vs) ZD=some (.same v)
theorem HR {f:FuncId} {fn:Func} {c:Code} {args:List AV} {v:AV} {rs:List ResultVar} {fr:Fr} {l0:Sl} (hm:E.Y3 f args=none) (hf:E.fns.get f=some fn) (hc:fn.body=some c) (hr:fn.results.toList=rs)
 (aU:frame fn.ntmps args none=fr) (hl:ZS 0 args []=l0) (h:Cz E c fr l0 s.enter (EndL E f rs s v)):Cc E f args s v:=by
 subst aU hl hr;obtain⟨N,ex,Yf,l',T',s',⟨hex,ZD,hu,vs,WQ,hlv⟩,ZQ,dD⟩:=h _ (D4 args 0 (Has.nil .nil));refine⟨N+1,fun n hn=>?_⟩;obtain⟨m,rfl⟩:∃m,n=m+1:=⟨n-1,by omega⟩
 unfold WA;rw[hm];simp only[hf,hc,Qe];rw[Fk,dD m (by omega)];show ZI E (ev E (m+1)) f fn s ⟨ex,Yf,T',s'⟩=_;unfold ZI;have iZ:fK ex=some none:=by rcases hex with h|h<;>rw[h]<;>rfl
 simp only[iZ,Qe,F0 hu,endWith,BX ZQ WQ,hlv]
end
section
variable {E : Env} {fr : Fr} {l : Sl} {s : St} {o : Oper}
theorem Zl.alloc {t:TypeId} {z:AV} (ho:o.op= .alloc t) (hz:zeroOf E t=some z):Zl E o fr l s (.ptr s.next 0) (s.alloc (.cells z.cells t false)):=fun T hT=>
 Fx (f:=fun _=>some (.obj (.cells z.cells t false) fun b=> .ptr b 0)) (by
  rw[ho];show kt E t=_;unfold kt;rw[hz];simp only[De hz,cond_false]) rfl
theorem AO {t:TypeId} {x:Operand} {v:AV} (ho:o.op= .box t x) (hx:Ch x l=some v) (hv:v.isTuple=false):Zl E o fr l s (.ptr s.next 0) (s.alloc (.cells v.cells t false)):=fun T hT=>
 Fx (f:=fun T=>(Cg E x T).bind fun v=>bif v.isTuple then none else some (.obj (.cells v.cells t false) fun b=> .ptr b 0)) (g:=fun b=> .ptr b 0) (by rw[ho];rfl) (by
  simp only[Ae hT hx,Qe,hv,cond_false])
theorem Ds {n b off:Nat} {v:AV} {cs XU:List AV} {e:TypeId} {part:Bool} (hg:s.heap.get b=some (.cells cs e part)) (hl:v.cells.length=n) (ht:v.isTuple=false) (ho:over v.cells off cs=some XU):
 bG n s v (.ptr b off)=some (s.put b (some (.cells XU e part))):=by
 have h1:Nat.beq (WL v.cells) n=true:=by rw[Bl,hl];exact Nat.beq_refl n
 simp only[bG,h1,ht,Bool.not_false,Bool.and_true,cond_true,bg,hg,eG,ho,gK]
theorem BD {t:TypeId} {a x:Operand} {n:Nat} {p v:AV} {s':St} (ho:o.op= .store t a x) (hn:sizeOf E t=some n) (ha:Ch a l=some p) (hx:Ch x l=some v) (hs:bG n s v p=some s'):Zl E o fr l s (.tuple []) s':=fun T hT=>
 Hm (b:=true) (x:=Cg E a) (f:=fun T s=>(Cg E a T).bind fun p=>(Cg E x T).bind fun v=>dO (bG n s v p)) (by
  rw[ho];show fJ E t a x=_;unfold fJ;rw[hn]) (by simp only[Ae hT ha,Ae hT hx,Qe,hs,dO])
theorem AI {t:TypeId} {n b off:Nat} {v:AV} {cs:List AV} {e:TypeId} {part:Bool} (h1:isAgg E t=some false) (h2:sizeOf E t=some n) (hg:s.heap.get b=some (.cells cs e part)) (hv:cs[off]?=some v):
 Wy E t s (.ptr b off)=some v:=by
 have Co:off<cs.length:=by
  rcases Nat.lt_or_ge off cs.length with h|h
  .exact h
  .rw[List.getElem?_eq_none h]at hv;cases hv
 have hc:=Hf (l:=cs) (a:=off) (n:=1) (by omega);unfold cut at hc;unfold Wy;rw[h1,h2];simp only[mK,YE,hg,Wp,Qe];rw[hc];have:(cs.drop off).take 1=[v]:=by
  rw[List.drop_eq_getElem_cons Co];rw[Qi Co]at hv;cases hv;rfl
 rw[this];rfl
theorem BM {t:TypeId} {n b off:Nat} {cs:List AV} {e:TypeId} {part:Bool} (h1:isAgg E t=some true) (h2:sizeOf E t=some n) (hg:s.heap.get b=some (.cells cs e part)) (hn:off+n<=cs.length):
 Wy E t s (.ptr b off)=some (.agg ((cs.drop off).take n)):=by
 have hc:=Hf (l:=cs) (a:=off) (n:=n) hn;unfold cut at hc;unfold Wy;rw[h1,h2];simp only[jC,YE,hg,Wp,Qe];rw[hc];rfl
theorem B9 {t:TypeId} {a:Operand} {p v:AV} (ho:o.op= .load t a) (ha:Ch a l=some p) (hv:Wy E t s p=some v):Zl E o fr l s v s:=fun T hT=>
 Fw (x:=Cg E a) (f:=fun T s=>(Cg E a T).bind (Wy E t s)) (by rw[ho];rfl) (by simp only[Ae hT ha,Qe,hv])
theorem VP {t:TypeId} {a:Operand} {n:Nat} {cs:List AV} (ho:o.op= .load t a) (ha:Ch a l=some (.Wl cs)) (h1:isAgg E t=some true) (h2:sizeOf E t=some n) (hn:n<=cs.length):X9 E o l (.agg (cs.take n)):=
 Rm (x:=Cg E a) (f:=fun T s=>(Cg E a T).bind (Wy E t s)) (by rw[ho];rfl) (fun T hT=>by rw[Ae hT ha];rfl) fun T s hT=>by
  have hc:=Hf (l:=cs) (a:=0) (n:=n) (by omega);unfold cut at hc;have h0:XK 0 cs=some cs:=rfl;rw[h0]at hc;simp only[Ae hT ha,Qe];unfold Wy;rw[h1,h2];simp only[jC,YE];simp only[Qe]at hc;rw[hc];rfl
theorem SN {t:TypeId} {a:Operand} {n:Nat} {v:AV} {cs:List AV} (ho:o.op= .load t a) (ha:Ch a l=some (.Wl (v::cs))) (h1:isAgg E t=some false) (h2:sizeOf E t=some n):X9 E o l v:=
 Rm (x:=Cg E a) (f:=fun T s=>(Cg E a T).bind (Wy E t s)) (by rw[ho];rfl) (fun T hT=>by rw[Ae hT ha];rfl) fun T s hT=>by
  simp only[Ae hT ha,Qe];unfold Wy;rw[h1,h2];rfl
theorem Hn {t:TypeId} {x:Operand} {i off n:Nat} {agg:Bool} {b k:Nat} (ho:o.op= .fieldAddr t x i) (hf:Zd E t i=some (off,n+1,agg)) (hx:Ch x l=some (.ptr b k)):X9 E o l (.ptr b (k+off)):=
 AE (f:=fun T=>(Cg E x T).bind (Ze off)) (by
  rw[ho];show YN E t x i=_;unfold YN;rw[hf]) fun T hT=>by simp only[Ae hT hx,Qe,Ze]
theorem SO {t:TypeId} {x:Operand} {i off n:Nat} {cs:List AV} {v:AV} (ho:o.op= .field t x i) (hf:Zd E t i=some (off,n,false)) (hx:Ch x l=some (.agg cs)) (hv:nth cs off=some v):X9 E o l v:=
 AE (f:=fun T=>(Cg E x T).bind (az off)) (by
  rw[ho];show jZ E t x i=_;unfold jZ;rw[hf]) fun T hT=>by simp only[Ae hT hx,Qe,az,hv]
theorem Dc {t e:TypeId} {x i:Operand} {sz len k:Nat} {ik:IntKind} {cs:List AV} {cl:Bool} (ho:o.op= .indexAddr t x i) (hu:CN E t=some (.slice e)) (hs:sizeOf E e=some (sz+1)) (hx:Ch x l=some (.Cf cs len (sz+1) cl))
 (hi:Ch i l=some (.int ik (k:Nat))) (hk:k<len) (hl:cs.length=len*(sz+1)):X9 E o l (.Wl (cs.drop (k*(sz+1)))):=
 AE (f:=fun T=>(Cg E i T).bind fun iv=>(Xi iv).bind fun k=>(Cg E x T).bind (CC (sz+1) k)) (by
  rw[ho];show XZ E t x i=_;unfold XZ;rw[hu];simp only[hs]) fun T hT=>by
  have h1:Xi (.int ik (k:Nat))=some k:=rfl;have h2:Nat.blt k len=true:=by simpa[Nat.blt_eq]using hk
  have hle:k*(sz+1)<cs.length:=by rw[hl];exact Nat.mul_lt_mul_of_pos_right hk (Nat.succ_pos sz)
  have h3:XK (k*(sz+1)) cs=some (cs.drop (k*(sz+1))):=by
   have hc:=Hf (l:=cs) (a:=k*(sz+1)) (n:=0) (by omega);unfold cut at hc;obtain⟨q,hq,h⟩:=Qa.1 hc;have:∀(n:Nat) (l:List AV) (q:List AV),XK n l=some q->q=l.drop n:=by
    intro n;induction n with
    |zero=>intro l q h;cases h;rfl
    |succ n ih=>
     intro l q h;cases l with
     |nil=>cases h
     |cons a l=>exact ih l q h
   rw[hq,this _ _ _ hq]
  have h4:lT (cs.drop (k*(sz+1)))=some (.Wl (cs.drop (k*(sz+1)))):=by
   rw[List.drop_eq_getElem_cons hle];rfl
  simp only[Ae hT hx,Ae hT hi,Qe,h1,CC,h2,cond_true,h3,h4]
noncomputable def fV:List (Nat×Operand)->Sl->Option (List (Nat×AV))
 | [],_=>some []
 |p::ps,l=>(Ch p.2 l).bind fun v=>(fV ps l).bind fun r=>some ((p.1,v)::r)
theorem G9 {T:Tr AV} (hT:Has l T):∀ {ps:List (Nat×Operand)} {r:List (Nat×AV)},fV ps l=some r->aD E ps T=some r
 | [],r,h=>h
 |p::ps,r,h=>by
  obtain⟨v,hv,h⟩:=Qa.1 h;obtain⟨q,hq,h⟩:=Qa.1 h;cases h;simp only[aD,Ae hT hv,G9 hT hq,Qe]
theorem VS {t:TypeId} {parts:Array (Nat×Operand)} {pl:List AV×(Nat->Option (Nat×Nat))} {ps:List (Nat×AV)} {cs:List AV} (ho:o.op= .build t parts) (hp:ay E t=some pl) (hq:fV parts.toList l=some ps)
 (hf:ai pl.2 ps pl.1=some cs):X9 E o l (.agg cs):=
 AE (f:=fun T=>(aD E parts.toList T).bind fun ps=>tK (ai pl.2 ps pl.1)) (by
  rw[ho];show jY E t parts.toList=_;unfold jY;rw[hp]) fun T hT=>by simp only[G9 hT hq,Qe,hf,tK]
theorem AC {t e:TypeId} {len sz:Nat} {parts:Array (Nat×Operand)} {z:AV} {ps:List (Nat×AV)} {cs:List AV} (ho:o.op= .buildSlice t (len+1) parts) (hu:CN E t=some (.slice e)) (hs:sizeOf E e=some sz) (hz:zeroOf E e=some z)
 (hk:(Nat.beq (WL z.cells) sz&&Nat.ble ((len+1)*sz) 16777216&& !(Nat.beq sz 0))=true) (hq:fV parts.toList l=some ps) (hf:ai (fun i=>some (i*sz,sz)) ps (Yk z.cells (len+1))=some cs):
 Zl E o fr l s (.slice s.next 0 (len+1) sz (some (len+1))) (s.alloc (.cells cs e false)):=fun T hT=>
 Fx (f:=fun T=>(aD E parts.toList T).bind fun ps=>ZH e sz (len+1) (ai (fun i=>some (i*sz,sz)) ps (Yk z.cells (len+1)))) (g:=fun b=> .slice b 0 (len+1) sz (some (len+1))) (by
  rw[ho];show Ys E t (len+1) parts.toList=_;unfold Ys;rw[hu];simp only[hs,hz,hk,cond_true]) (by
  simp only[G9 hT hq,Qe,hf];rfl)
theorem OM {f:FuncId} {a b:Array Operand} {va vb:List AV} (ho:o.op= .makeFunc (.func f) a b) (ha:WV a.toList l=some va) (hb:WV b.toList l=some vb):X9 E o l (.func (.func f) va vb):=
 AE (f:=fun T=>(CO E a.toList T).bind fun x=>(CO E b.toList T).bind fun y=>some (.func (.func f) x y)) (by rw[ho];rfl) fun T hT=>by simp only[AX hT ha,AX hT hb,Qe]
theorem Zl.append {c:Call} {t e:TypeId} {ts:List TypeId} {x y:Operand} {sz VY n:Nat} {z a b v:AV} {new:List AV} {s':St} (ho:o.op= .call c) (hc:c.callee= .builtin .append) (ht:c.argTypes.toList=t::ts) (ha:c.args.toList=[x,y])
 (hu:CN E t=some (.slice e)) (Xn:sizeOf E e=some sz) (ei:bytesOf E e=some VY) (hz:zeroOf E e=some z) (hk:(!(Nat.beq (WL z.cells) sz)||Nat.beq sz 0|| !(bK E ts.head?))=false) (h0:X5 E ts.head?=false)
 (hx:Ch x l=some a) (hy:Ch y l=some b) (hn:WJ s sz b=some (new,n)) (hr:CA s e sz VY new n a=some (v,s')):Zl E o fr l s v s':=fun T hT=>
 Hm (b:=false) (x:=Cg E x) (f:=fun T s=>(Cg E x T).bind fun a=>(Cg E y T).bind fun b=>(WJ s sz b).bind fun p=>CA s e sz VY p.1 p.2 a) (by
  rw[ho];show Wz E o.type c=_;unfold Wz;rw[hc];simp only;rw[ht,ha];show cM E t ts.head? x y=_;unfold cM;rw[hu];simp only[Xn,ei,hz,hk,h0,cond_false]) (by simp only[Ae hT hx,Ae hT hy,Qe,hn,hr])
end
def CQ (ts:List Nat) (l:Sl):Sl:=match ts with
 | []=>[]
 |t::ts=>match look t l with
  |some v=>(t,v)::CQ ts l
  |none=>CQ ts l
theorem H0 {l:Sl} {k:Nat} {v:AV}:∀ {ts:List Nat},look k (CQ ts l)=some v->k∈ts/\look k l=some v
 | [],h=>by cases h
 |t::ts,h=>by
  unfold CQ at h;cases hl:look t l with
  |none=>
   rw[hl]at h;have:=H0 (ts:=ts) h;exact⟨Qg _ this.1,this.2⟩
  |some u=>
   rw[hl]at h;simp only[look]at h;cases hb:Nat.beq k t with
   |true=>
    rw[hb]at h;have:=Qb hb;subst this;simp only[cond_true]at h;exact⟨Qh ..,by rw[hl];exact h⟩
   |false=>
    rw[hb]at h;have:=H0 (ts:=ts) h;exact⟨Qg _ this.1,this.2⟩
theorem Has.CQ {l:Sl} {T:Tr AV} (h:Has l T) (ts:List Nat):Has (CQ ts l) (XF T ts .nil):=by
 intro k v hk;obtain⟨h1,h2⟩:=H0 hk;rw[DU,if_pos h1];exact h k v h2
section
variable (E : Env)
def OpA (o:Oper) (fr:Fr) (l:Sl) (v:AV):Prop:=
 Yb (Xz E o.type o.op)=true/\∀T,Has l T->∃N,∀n,N<=n->∀(s:St) (k:oM),(Xd E (Xz E o.type o.op) k).run (ev E n) fr T s=k.run (ev E n) fr T v s
end
section
variable {E : Env} {fr : Fr} {l : Sl} {st : St} {o : Oper} {all rest : List Oper} {i : Nat} {js : List Nat} {nw : Bool} {K : Sl -> St -> Prop}
theorem SU {c:Call} {f:FuncId} {args:List AV} {v:AV} (ho:o.op= .call c) (hc:c.callee= .value (.func f)) (hb:C7 E f=true) (ha:WV c.args.toList l=some args) (hm:E.Y3 f args=some v):OpA E o fr l v:=by
 have Yc:Xz E o.type o.op= .call (fun T _=>(CO E c.args.toList T).bind fun args=>some (f,args)):=by
  rw[ho];show Wz E o.type c=_;unfold Wz;rw[hc];simp only[hb,cond_true]
 refine⟨by rw[Yc];rfl,fun T hT=>⟨0,fun n _ s k=>?_⟩⟩;rw[Yc];show Xy fr T s (k.run (ev E n) fr T) (((CO E c.args.toList T).bind fun args=>some (f,args)).bind fun p=>WA E (ev E n) p.1 p.2 s)=_;rw[AX hT ha];simp only[Qe];unfold WA;rw[hm];rfl
theorem vK (n:Nat):Nat.ble n n=true:=Qd (Qj n)
noncomputable def St.merged (st s2:St):St:=
 {next:=s2.next,bound:=st.bound,log:=below st.bound s2.log st.log,heap:=W8 s2.heap (YO st.next (s2.next-st.next)) (W8 s2.heap s2.log st.heap)}
variable {Q : Ex -> Fr -> Sl -> St -> Prop}
end
section
variable (E : Env)
def VZ (f:FuncId) (args:List AV) (s:St) (R:AV->St->Prop):Prop:=
 ∃N cr,(∀n,N<=n->WA E (ev E n) f args s=some cr)/\match cr with
  | .same v=>R v s
  | .val v s'=>R v s'
  | .WR _ _=>False
end
section
variable {E : Env} {fr : Fr} {l : Sl} {s : St} {o : Oper} {all rest : List Oper} {K : Sl -> St -> Prop} {Q : Ex -> Fr -> Sl -> St -> Prop}
theorem MN {KP:AV->Sl->St->Prop} {d:Nat} (h:∀T,Has l T->∃v s',jc E o fr T s v s'/\CB E KP all rest fr ((d,v)::l) s' K) (hg:o.guard=none) (hd:o.dst=some d) (Co:Nat.blt d fr.nt=true):CB E KP all (o::rest) fr l s K:=by
 intro T hT;obtain⟨v,s',⟨N,ho⟩,h⟩:=h T hT;obtain⟨M,ex,l',T',s2,hk,ZQ,hr⟩:=h _ (hT.put d v);refine⟨max N M,ex,l',T',s2,hk,ZQ,fun n hn=>?_⟩;show(Zv E all o (YS o.dst (al E all rest))).run (ev E n) fr T s=_;unfold Zv guarded;rw[hg];simp only;rw[ho n (by omega),BA _ _ (by rw[hd];exact Co),hd];exact hr n (by omega)
theorem PK {KP:AV->Sl->St->Prop} {c:Call} {f:FuncId} {args:List AV} {d:Nat} (ho:o.op= .call c) (hc:c.callee= .value (.func f)) (hb:C7 E f=true) (ha:WV c.args.toList l=some args) (hg:o.guard=none) (hd:o.dst=some d)
 (Co:Nat.blt d fr.nt=true) (h:VZ E f args s fun v s'=>CB E KP all rest fr ((d,v)::l) s' K):CB E KP all (o::rest) fr l s K:=by
 obtain⟨N,cr,hN,h⟩:=h;have Yc:Xz E o.type o.op= .call (fun T _=>(CO E c.args.toList T).bind fun args=>some (f,args)):=by
  rw[ho];show Wz E o.type c=_;unfold Wz;rw[hc];simp only[hb,cond_true]
 have go:∀ {v:AV} {s':St},(∀(T:Tr AV) (k:AV->St->Out),Xy fr T s k (some cr)=k v s')->∀T,Has l T->jc E o fr T s v s':=by
  intro v s' tp T hT;refine⟨N,fun n hn k=>?_⟩;rw[Yc];show Xy fr T s (k.run (ev E n) fr T) (((CO E c.args.toList T).bind fun args=>some (f,args)).bind fun p=>WA E (ev E n) p.1 p.2 s)=_;rw[AX hT ha];simp only[Qe];rw[hN n hn,tp]
 refine MN (fun T hT=>?_) hg hd Co;cases cr with
 |same v=>exact⟨v,s,go (fun _ _=>rfl) T hT,h⟩
 |val v s'=>exact⟨v,s',go (fun _ _=>rfl) T hT,h⟩
 |WR v s'=>exact h.elim
def kR (b:Nat) (k:Bool->St->Prop) (ex:Ex) (s:St) (lp:aY):Prop:=match ex with
 | .normal=>k true (s.put b (some (.loop {lp with state:= .ready,pending:=none})))
 | .ret=>k false (s.put b (some (.loop {lp with state:= .done,pending:=some .ret})))
 | .exit id=>k false (s.put b (some (.loop {lp with state:= .done,pending:=some (.exit id)})))
 | .panic _=>False
theorem SI {KP:AV->Sl->St->Prop} {c:Call} {t b d:Nat} {lp:aY} {args:List AV} {TA:Tr AV} {lA:Sl} (ho:o.op= .call c) (hc:c.callee= .value (.tmp t)) (hf:look t l=some (.func (.yield b) [] [])) (ha:WV c.args.toList l=some args)
 (hg:o.guard=none) (hd:o.dst=some d) (Co:Nat.blt d fr.nt=true) (hlp:s.heap.get b=some (.loop lp)) (hp:a9 lp.nt lp.params args lp.tmps=some TA) (hA:Has lA TA)
 (h:Cz E lp.assign {nt:=lp.nt,defers:=[],WR:=none,round:=some b} lA s fun ex fr1 l1 s1=>ex= .normal/\∃sR,s1.heap.get b=some (.loop sR)/\sR.state= .ready/\
  Cz E lp.body fr1 l1 (s1.put b (some (.loop {sR with state:= .busy}))) fun pq cV _ s2=>cV.defers=[]/\∃fR,s2.heap.get b=some (.loop fR)/\
   kR b (fun v s'=>CB E KP all rest fr ((d,.bool v)::l) s' K) pq s2 fR):CB E KP all (o::rest) fr l s K:=by
 refine MN (fun T hT=>?_) hg hd Co;have Yc:Xz E o.type o.op= .ah (Cg E (.tmp t)) (CO E c.args.toList):=by
  rw[ho];show Wz E o.type c=_;unfold Wz;rw[hc]
 obtain⟨N,ex,fr1,l1,T1,s1,⟨hex,sR,hlp1,WT,dw⟩,zC,hr1⟩:=h TA hA;subst hex;obtain⟨M,pq,cV,l2,T2,s2,⟨q8,fR,hlp2,hq⟩,kN,qz⟩:=dw T1 zC;have key:∀n,max N M+1<=n->∀k:oM,(Xd E (Xz E o.type o.op) k).run (ev E n) fr T s=Xy fr T s (k.run (ev E n) fr T) (iM b pq s2 (some (.loop fR))):=by
  intro n hn k;obtain⟨m,rfl⟩:∃m,n=m+1:=⟨n-1,by omega⟩
  rw[Yc];show Xy fr T s (k.run (ev E (m+1)) fr T) ((Cg E (.tmp t) T).bind fun g=>(CO E c.args.toList T).bind fun args=>Yi E (ev E (m+1)) args s g)=_;have hft:Cg E (.tmp t) T=some (.func (.yield b) [] []):=hT t _ hf;rw[hft,AX hT ha];simp only[Qe,Yi,nu,nr,hlp,hp];rw[Fk,hr1 m (by omega)];simp only[bL,hlp1,iN,WT];rw[Fk,qz m (by omega)];simp only[kA,q8,hlp2]
 cases pq with
 |normal=>exact⟨.bool true,_,⟨max N M+1,fun n hn k=>by rw[key n hn k];rfl⟩,hq⟩
 |ret=>exact⟨.bool false,_,⟨max N M+1,fun n hn k=>by rw[key n hn k];rfl⟩,hq⟩
 |exit id=>exact⟨.bool false,_,⟨max N M+1,fun n hn k=>by rw[key n hn k];rfl⟩,hq⟩
 |panic v=>exact hq.elim
noncomputable def XH (s:St) (nt:Nat) (T:Tr AV) (params:List Nat) (assign body:Code):St:=
 (s.alloc (.defs true)).alloc (.loop {state:= .ready,pending:=none,fn:=0,nt,tmps:=T,params,assign,body})
def vL (b:Nat) (Q:Ex->St->Prop) (s:St):Prop:=∃lp,s.heap.get b=some (.loop lp)/\lp.state≠ .busy/\
 match lp.pending with
 |none=>Q .normal (s.put b (some (.loop {lp with state:= .exhausted})))
 |some .ret=>Q .ret (s.put b (some (.loop {lp with state:= .exhausted})))
 |some (.exit id)=>Q (.exit id) (s.put b (some (.loop {lp with state:= .exhausted})))
 |some _=>False
theorem HM {f:Operand} {params:Array Nat} {assign body:Code} {g:FuncId} {first captured:List AV} (hf:Ch f l=some (.func (.func g) first captured)) (hr:fr.round=none) (hb:C7 E g=true)
 (h:∀T,Has l T->VZ E g (first++[.func (.yield (s.next+1)) [] []]++captured) (XH s fr.nt T params.toList assign body) fun _ s3=>
  vL (s.next+1) (fun ex s4=>Q ex {fr with defers:= {target:= .collected s.next,args:=[]}::fr.defers} l s4) s3):Cz E (.rangeFunc f params assign body) fr l s Q:=by
 intro T hT;obtain⟨N,cr,hN,h⟩:=h T hT;have C8:∀n,N<=n->(XO E (.rangeFunc f params assign body)).run (ev E n) fr T s=
  Xy {fr with defers:= {target:= .collected s.next,args:=[]}::fr.defers} T (XH s fr.nt T params.toList assign body)
   (fun _ s3=>Y5 (s.next+1) {fr with defers:= {target:= .collected s.next,args:=[]}::fr.defers} T s3 (s3.heap.get (s.next+1))) (some cr):=by
  intro n hn;show ct E (ev E n) params.toList assign body fr T s (Cg E f T)=_;rw[Ae hT hf];unfold ct iQ;simp only[hr,hb,cond_true];have:=hN n hn;unfold XH at this;show Xy _ _ _ _ (WA E (ev E n) g (first++[.func (.yield (s.next+1)) [] []]++captured) _)=_;exact congrArg (Xy _ _ _ _) this
 have fin:∀s3:St,vL (s.next+1) (fun ex s4=>Q ex {fr with defers:= {target:= .collected s.next,args:=[]}::fr.defers} l s4) s3->
  ∃ex s4,Q ex {fr with defers:= {target:= .collected s.next,args:=[]}::fr.defers} l s4/\
   Y5 (s.next+1) {fr with defers:= {target:= .collected s.next,args:=[]}::fr.defers} T s3 (s3.heap.get (s.next+1))= .one ⟨ex, {fr with defers:= {target:= .collected s.next,args:=[]}::fr.defers},T,s4⟩:=by
  rintro s3 ⟨lp,hlp,WT,hq⟩;rw[hlp];have vM:∀x:Out,(match lp.state with| .busy=>Out.stuck|_=>x)=x:=by
   intro x;split
   .next h=>exact absurd h WT
   .rfl
  cases hp:lp.pending with
  |none=>
   rw[hp]at hq;refine⟨_,_,hq,?_⟩;simp only[Y5,vM,hp,cq]
  |some cd=>
   rw[hp]at hq;cases cd with
   |ret=>
    refine⟨_,_,hq,?_⟩;simp only[Y5,vM,hp,cq]
   |exit id=>
    refine⟨_,_,hq,?_⟩;simp only[Y5,vM,hp,cq]
   |_=>exact hq.elim
 cases cr with
 |same v=>
  obtain⟨ex,s4,hq,he⟩:=fin _ h;exact⟨N,ex,_,l,T,s4,hq,hT,fun n hn=>by rw[C8 n hn];exact he⟩
 |val v s3=>
  obtain⟨ex,s4,hq,he⟩:=fin _ h;exact⟨N,ex,_,l,T,s4,hq,hT,fun n hn=>by rw[C8 n hn];exact he⟩
 |WR v s3=>exact h.elim
theorem VZ.unit {f:FuncId} {fn:Func} {c:Code} {args:List AV} {R:AV->St->Prop} {fr:Fr} {l0:Sl} (hm:E.Y3 f args=none) (hf:E.fns.get f=some fn) (hc:fn.body=some c) (hr:fn.results.toList=[])
 (aU:frame fn.ntmps args none=fr) (hl:ZS 0 args []=l0) (h:Cz E c fr l0 s.enter fun ex fr _ st=>(ex= .ret\/ex= .normal)/\fr.defers=[]/\(st.log=[]->R (.tuple []) s)/\R (.tuple []) (s.back st)):VZ E f args s R:=by
 subst aU hl;obtain⟨N,ex,Yf,l',T',s',⟨hex,hd,hR0,hR1⟩,ZQ,dD⟩:=h _ (D4 args 0 (Has.nil .nil));have hfz:frozen E f s (.tuple []) s'=some (.tuple [],s'):=E6 (fun _ _=>rfl) (fun _ e=>by cases e);refine⟨N+1,YF s (.tuple []) s' s'.log,fun n hn=>?_,?_⟩
 .obtain⟨m,rfl⟩:∃m,n=m+1:=⟨n-1,by omega⟩
  unfold WA;rw[hm];simp only[hf,hc,Qe];rw[Fk,dD m (by omega)];show ZI E (ev E (m+1)) f fn s ⟨ex,Yf,T',s'⟩=_;unfold ZI;have iZ:fK ex=some none:=by rcases hex with h|h<;>rw[h]<;>rfl
  simp only[iZ,Qe,hd,unwind,endWith,hr,Yt];unfold leave;show(frozen E f s (.tuple []) s').bind _=_;rw[hfz];rfl
 .unfold YF;cases Wk:s'.log with
  |nil=>exact hR0 Wk
  |cons a b=>exact hR1
end
section
variable {E : Env} {fr : Fr} {l : Sl} {st : St} {o : Oper} {all rest : List Oper} {i : Nat} {js : List Nat} {nw : Bool} {K : Sl -> St -> Prop}
def CY (all:List Oper) (l:Sl) (o:Oper):Prop:=o.guard=none\/∃g,o.guard=some g/\∀T,Has l T->WN all g T=some true
theorem KX {j e:Nat} {w b:Bool} {oj:Oper} (hg:o.guard=some (j,w)) (hj:nth all j=some oj) (he:oj.dst=some e) (hl:look e l=some (.bool b)) (hb:b=w):CY all l o:=
 .inr ⟨_,hg,fun T hT=>by rw[EL (g:=(j,w)) hj he (hT e _ hl),hb];cases w<;>rfl⟩
def Alone (E:Env) (o:Oper) (fr:Fr) (T:Tr AV) (v:AV) (s:St):Prop:=∃N,∀n,N<=n->(Xd E (Xz E o.type o.op) K0).run (ev E n) fr T s= .one ⟨.normal,fr,aL v,s⟩
theorem I1 {v:AV} {s:St} {T:Tr AV} (h:∃N,∀n,N<=n->∀(k:oM),(Xd E (Xz E o.type o.op) k).run (ev E n) fr T s=k.run (ev E n) fr T v s):Alone E o fr T v s:=by
 obtain⟨N,h⟩:=h;exact⟨N,fun n hn=>by rw[h n hn K0];rfl⟩
theorem K2 {t e:TypeId} {x i:Operand} {sz len k b off:Nat} {ik:IntKind} {cap:Option Nat} (ho:o.op= .indexAddr t x i) (hu:CN E t=some (.slice e)) (hs:sizeOf E e=some (sz+1)) (hx:Ch x l=some (.slice b off len (sz+1) cap))
 (hi:Ch i l=some (.int ik (k:Nat))) (hk:k<len):X9 E o l (.ptr b (off+k*(sz+1))):=
 AE (f:=fun T=>(Cg E i T).bind fun iv=>(Xi iv).bind fun k=>(Cg E x T).bind (CC (sz+1) k)) (by
  rw[ho];show XZ E t x i=_;unfold XZ;rw[hu];simp only[hs]) fun T hT=>by
  have h1:Xi (.int ik (k:Nat))=some k:=rfl;have h2:Nat.blt k len=true:=by simpa[Nat.blt_eq]using hk
  simp only[Ae hT hx,Ae hT hi,Qe,h1,CC,h2,cond_true]
end
section
variable {E : Env}
theorem KU {f:FuncId} {v:AV} {s st:St} (hk:∀n w,Cs w n 40 v []=some (v,[])) (hu:∀m,Cr m 40 v=true) (hl:st.log=[]):leave E f s v st=some (.same v):=by
 have hf:frozen E f s v st=some (v,st):=E6 hk fun b e=>by
  subst e;have:b+1<=0:=Qc (hu 0);omega
 unfold leave;rw[hf];simp only[Qe,YF,hl,hu,cond_true]
theorem Cc.flat {f:FuncId} {fn:Func} {c:Code} {args:List AV} {s:St} {v:AV} {rs:List ResultVar} {fr:Fr} {l0:Sl} (hm:E.Y3 f args=none) (hf:E.fns.get f=some fn) (hc:fn.body=some c) (hr:fn.results.toList=rs)
 (aU:frame fn.ntmps args none=fr) (hl:ZS 0 args []=l0) (hk:∀n w,Cs w n 40 v []=some (v,[])) (hu:∀m,Cr m 40 v=true)
 (h:Cz E c fr l0 s.enter fun ex fr l st=>(ex= .ret\/ex= .normal)/\fr.defers=[]/\st.log=[]/\∃vs,CI E st l rs=some vs/\ck vs=v):Cc E f args s v:=
 HR hm hf hc hr aU hl (h.mono fun ex fr l st ⟨hex,hd,Wk,vs,WQ,hv⟩=>⟨hex,st,by rw[hd];rfl,vs,WQ,by rw[hv];exact KU hk hu Wk⟩)
theorem Aa {s:St} {l:Sl} {t:Nat} {v:AV} {rs:List ResultVar} {vs:List AV} (hl:look t l=some v) (h:CI E s l rs=some vs):CI E s l (.tmp t::rs)=some (v::vs):=by
 unfold CI;rw[hl];simp only[Qe,h]
def fW {α:Type} (p:α->Bool) (l:List α):Nat:=(l.takeWhile p).length
theorem MW {α:Type} (p:α->Bool) (l:List α):fW p l<=l.length:=(List.takeWhile_sublist _).length_le
theorem F3 {α:Type} {p:α->Bool}:∀ {l:List α} {k:Nat} {a:α},k<=fW p l->l[k]?=some a->(p a=true↔k<fW p l)
 | [],k,_,_,h=>by simp at h
 |b::l,0,a,_,h=>by
  simp only[List.getElem?_cons_zero,Option.some.injEq]at h;subst h;cases hp:p b<;>simp[fW,List.takeWhile,hp]
 |b::l,k+1,a,h,hl=>by
  cases hp:p b with
  |false=>simp[fW,List.takeWhile,hp]at h
  |true=>
   simp only[fW,List.takeWhile,hp,List.length_cons]at h|-;have:=F3 (p:=p) (l:=l) (k:=k) (a:=a) (by unfold fW;omega) (by simpa using hl);rw[this];unfold fW;omega
theorem Tg {α:Type} {p:α->Bool}:∀ {l:List α},l.any p=decide (fW (fun x=> !p x) l<l.length)
 | []=>rfl
 |b::l=>by
  have ih:=Tg (p:=p) (l:=l);cases hp:p b with
  |true=>simp[fW,List.takeWhile,hp]
  |false=>
   simp only[List.any_cons,hp,Bool.false_or,ih,fW,List.takeWhile,Bool.not_false,List.length_cons]
   congr 1
   exact propext ⟨fun h=>by omega,fun h=>by omega⟩
end
section
variable (E : Env)
end
section
variable {E : Env} {fr : Fr} {l : Sl} {st : St} {o : Oper} {all rest : List Oper} {i : Nat} {js ms : List Nat} {K : Sl -> St -> Prop}
theorem NS {Wf:Nat}:∀ {news:Wu} {h:Tr Cw},(∀p∈news,Nat.testBit Wf p.1=true)->cO Wf news h=h
 | [],_,_=>rfl
 |p::news,h,hn=>by
  unfold cO;rw[hn p (Qh ..),cond_true];exact NS fun q hq=>hn q (Qg _ hq)
end
def Grown (s:St) (e:TypeId) (sz:Nat) (v:AV) (cs:List AV) (n:Nat):Prop:=
 (v= .Ca/\n=0/\cs=[])\/∃b,v= .slice b 0 n sz none/\b<s.next/\s.heap.get b=some (.cells cs e true)/\cs.length=n*sz/\n≠0
theorem Grown.nil (s:St) (e:TypeId) (sz:Nat):Grown s e sz .Ca [] 0:= .inl ⟨rfl,rfl,rfl⟩
def C6 (c:Nat):AV->Bool
 | .slice b _ _ _ _=>Nat.beq b c
 |_=>false
theorem Grown.Wd {s s':St} {e:TypeId} {sz n:Nat} {v:AV} {cs:List AV} (h:Grown s e sz v cs n) (hn:s.next<=s'.next) (hh:∀c,C6 c v=true->s'.heap.get c=s.heap.get c):Grown s' e sz v cs n:=by
 rcases h with h|⟨b,rfl,hb,hg,hl,h0⟩
 .exact .inl h
 .exact .inr ⟨b,U,by omega,by rw[hh b (Nat.beq_refl b),hg],hl,h0⟩
theorem EO {α:Type} (l:List α):takeN l.length l=some l:=by
 have:=HS l [];rwa[List.append_nil]at this
theorem Grown.append {s:St} {e:TypeId} {sz VY n:Nat} {v:AV} {cs new:List AV} (h:Grown s e sz v cs n) (ZN:new.length=sz) (Xn:0<sz) (Z5:small 1 VY=true) (XT:small (n+1) VY=true):
 ∃v' s',CA s e sz VY new 1 v=some (v',s')/\Grown s' e sz v' (cs++new) (n+1)/\C6 s.next v'=true/\s'.next=s.next+1/\s'.bound=s.bound/\(∀c∈s'.log,c∈s.log\/(c<s.bound/\C6 c v=true))/\
  ∀c,c<s.next->C6 c v=false->s'.heap.get c=s.heap.get c:=by
 rcases h with⟨rfl,rfl,rfl⟩|⟨b,rfl,hb,hg,hl,h0⟩
 .refine⟨.slice s.next 0 1 sz none,s.alloc (.cells new e true),?_,.inr ⟨s.next,rfl,Nat.lt_succ_self _,?_,by rw[List.nil_append,ZN];omega,by omega⟩,Nat.beq_refl _,rfl,rfl,fun c hc=> .inl hc,fun c hc _=>?_⟩
  .simp only[CA,Z5,cond_true];rfl
  .show(s.heap.set s.next _).get s.next=_;rw[Ay,if_pos rfl,List.nil_append]
  .show(s.heap.set s.next _).get c=_;rw[Ay,if_neg (by omega)]
 .have YY:fj sz n 1 none cs=false:=by
   show Nat.ble ((n+1)*sz) (WL cs)=false;rw[Bl,hl];have:(n+1)*sz=n*sz+sz:=Nat.succ_mul ..;cases hb:Nat.ble ((n+1)*sz) (n*sz)with
   |false=>rfl
   |true=>have:=Qc hb;omega
  refine⟨.slice s.next 0 (n+1) sz none,(s.put b none).alloc (.cells (cs++new) e true),?_,.inr ⟨s.next,rfl,Nat.lt_succ_self _,?_,by rw[Ql,hl,ZN,Nat.succ_mul],by omega⟩,Nat.beq_refl _,rfl,rfl,fun c hc=>?_,fun c hc ho=>?_⟩
  .unfold CA;simp only[show Nat.beq 1 0=false from rfl,cond_false,Nat.beq_refl,XT,Bool.and_self,cond_true,hg,YJ,ZG];rw[show XK 0 cs=some cs from rfl];simp only[Qe,YY,cond_false,Bool.true_or,cond_true];rw[<-hl,EO];rfl
  .show((s.heap.set b none).set s.next _).get s.next=_;rw[Ay,if_pos rfl]
  .have Wk:c∈(bif Nat.blt b s.bound then XL b s.log else s.log):=hc;cases qY:Nat.blt b s.bound with
   |false=>rw[qY]at Wk;exact .inl Wk
   |true=>
    rw[qY,cond_true]at Wk;have nV:b<s.bound:=by simpa[Nat.blt_eq]using qY
    have:c=b\/c∈s.log:=by
     revert Wk;cases s.log with
     |nil=>intro h;exact .inl (by simpa[XL]using h)
     |cons d l=>
      intro h;have h':c∈(bif Nat.beq b d then d::l else b::d::l):=h;cases hd:Nat.beq b d with
      |true=>rw[hd]at h';exact .inr h'
      |false=>
       rw[hd]at h';rcases Qk.1 h' with h'|h'
       .exact .inl h'
       .exact .inr h'
    rcases this with rfl|h
    .exact .inr ⟨nV,Nat.beq_refl _⟩
    .exact .inl h
  .show((s.heap.set b none).set s.next _).get c=_;have nH:c≠b:=fun h=>by subst h;rw[show C6 c (.slice c 0 n sz none)=true from Nat.beq_refl c]at ho;cases ho
   rw[Ay,if_neg (by omega),Ay,if_neg nH]
def CJ (cs:List AV) (n sz:Nat):AV:=bif Nat.beq n 0 then .Ca else .Cf cs n sz true
theorem UK {w:St} {from_ m:Nat} {v:AV} {ks:List Nat} (hv:er v=true):Cs w from_ (m+1) v ks=some (v,ks):=by cases v<;>first|rfl|cases hv
theorem QK {w:St} {from_ m:Nat} {ks:List Nat}:∀ {cs:List AV},cs.all er=true->Cs.many (Cs w from_ (m+1)) cs ks=some (cs,ks)
 | [],_=>rfl
 |c::cs,h=>by
  simp only[List.all_cons,Qf]at h;unfold Cs.many;rw[UK h.1];simp only[Qe];rw[QK h.2];rfl
theorem GP {s : St} : ∀ {ks : List Nat}, (∀ b ∈ ks, s.bound <= b) -> (kill s ks).log = s.log
  | [], _ => rfl
  | b :: ks, h => by
    unfold kill;have hb : Nat.blt b s.bound = false := by
      have := h b (Qh ..);cases hc : Nat.blt b s.bound with
      | false => rfl
      | true => have : b < s.bound := by simpa [Nat.blt_eq] using hc
                omega
    have : (s.put b none).log = s.log := by show (bif Nat.blt b s.bound then _ else _) = _; rw [hb]; rfl
    rw [GP (s := s.put b none) fun c hc => h c (Qg _ hc), this]
section
variable {E : Env} {fr : Fr} {l : Sl} {st : St} {o : Oper} {all rest : List Oper} {i : Nat} {js ms : List Nat} {K : Sl -> St -> Prop}
end
theorem KO {st s2:St} (hn:s2.next=st.next+1) (c:Nat):(st.merged s2).heap.get c=if c=st.next\/c∈s2.log then s2.heap.get c else st.heap.get c:=by
 show(W8 s2.heap (YO st.next (s2.next-st.next)) (W8 s2.heap s2.log st.heap)).get c=_;rw[hn,Nat.add_sub_cancel_left,show YO st.next 1=[st.next]from rfl,Bz,Bz];by_cases h1:c=st.next
 .rw[if_pos (by rw[h1];exact Qn.2 rfl),if_pos (.inl h1)]
 .rw[if_neg (by rw[Qn];exact h1)];by_cases h2:c∈s2.log
  .rw[if_pos h2,if_pos (.inr h2)]
  .rw[if_neg h2,if_neg (fun h=>h.elim h1 h2)]
theorem Grown.zQ {st:St} {e:TypeId} {sz VY n:Nat} {v:AV} {cs new:List AV} (h:Grown st e sz v cs n) (ZN:new.length=sz) (Xn:0<sz) (Z5:small 1 VY=true) (XT:small (n+1) VY=true):
 ∃v' s2,CA (st.sub st.heap) e sz VY new 1 v=some (v',s2)/\s2.next=st.next+1/\(∀b∈s2.log,b<st.next)/\Grown (st.merged s2) e sz v' (cs++new) (n+1)/\C6 st.next v'=true/\
  (∀c,c<st.next->C6 c v=false->(st.merged s2).heap.get c=st.heap.get c)/\(st.bound=0->(st.merged s2).log=st.log):=by
 have h':Grown (st.sub st.heap) e sz v cs n:=h.Wd (Qj _) fun _ _=>rfl;obtain⟨v',s2,h1,h2,h3,h4,h5,h6,h7⟩:=h'.append ZN Xn Z5 XT;have h4':s2.next=st.next+1:=h4;have YG:∀c,C6 c v'=true->c=st.next:=fun c hc=>by
  rcases h2 with⟨rfl,h,_⟩|⟨b,rfl,_⟩
  .cases hc
  .have e1:=Qb hc;have e2:=Qb h3;exact e1.symm.trans e2
 have Wk:∀b∈s2.log,b<st.next/\C6 b v=true:=fun b hb=>by
  rcases h6 b hb with h|h
  .cases h
  .exact h
 refine⟨v',s2,h1,h4,fun b hb=>(Wk b hb).1,h2.Wd (Qj _) fun c hc=>by rw[KO h4',if_pos (.inl (YG c hc))],h3,fun c hc ho=>?_,fun hb=>?_⟩
 .rw[KO h4',if_neg (by
   rintro(h|h)
   .omega
   .rw[(Wk c h).2]at ho;cases ho)]
 .show below st.bound s2.log st.log=_;rw[hb];have:∀L l:List Nat,below 0 L l=l:=fun L=>by
   induction L with
   |nil=>intro l;rfl
   |cons b L ih=>intro l;exact ih l
  exact this _ _
section
variable (E : Env)
def Yields (b:Nat) (args:List AV) (s:St) (P:Bool->St->Prop):Prop:=
 ∃lp TA lA,s.heap.get b=some (.loop lp)/\a9 lp.nt lp.params args lp.tmps=some TA/\Has lA TA/\
  Cz E lp.assign {nt:=lp.nt,defers:=[],WR:=none,round:=some b} lA s fun ex fr1 l1 s1=>ex= .normal/\∃sR,s1.heap.get b=some (.loop sR)/\sR.state= .ready/\
   Cz E lp.body fr1 l1 (s1.put b (some (.loop {sR with state:= .busy}))) fun pq cV _ s2=>cV.defers=[]/\∃fR,s2.heap.get b=some (.loop fR)/\kR b P pq s2 fR
end
section
variable {E : Env} {fr : Fr} {l : Sl} {s : St} {o : Oper} {all rest : List Oper} {K : Sl -> St -> Prop}
theorem kR.mono {b:Nat} {P P':Bool->St->Prop} {ex:Ex} {s:St} {lp:aY} (h:kR b P ex s lp) (hp:∀v s,P v s->P' v s):kR b P' ex s lp:=by
 cases ex with
 |normal=>exact hp _ _ h
 |ret=>exact hp _ _ h
 |exit id=>exact hp _ _ h
 |panic v=>exact h
theorem Gm {KP:AV->Sl->St->Prop} {c:Call} {t b d:Nat} {args:List AV} {P:Bool->St->Prop} (ho:o.op= .call c) (hc:c.callee= .value (.tmp t)) (hf:look t l=some (.func (.yield b) [] [])) (ha:WV c.args.toList l=some args)
 (hg:o.guard=none) (hd:o.dst=some d) (Co:Nat.blt d fr.nt=true) (h:Yields E b args s P) (hk:∀v s',P v s'->CB E KP all rest fr ((d,.bool v)::l) s' K):CB E KP all (o::rest) fr l s K:=by
 obtain⟨lp,TA,lA,h1,h2,h3,h4⟩:=h;exact SI ho hc hf ha hg hd Co h1 h2 h3 (h4.mono fun ex fr1 l1 s1 ⟨e1,sR,e2,e3,e4⟩=>⟨e1,sR,e2,e3,e4.mono fun pq cV _ s2 ⟨f1,fR,f2,f3⟩=>⟨f1,fR,f2,f3.mono hk⟩⟩)
end
theorem VZ.gen {E:Env} {s:St} {f:FuncId} {fn:Func} {c:Code} {args:List AV} {R:AV->St->Prop} {rs:List ResultVar} {fr:Fr} {l0:Sl} (hm:E.Y3 f args=none) (hf:E.fns.get f=some fn) (hc:fn.body=some c) (hr:fn.results.toList=rs)
 (aU:frame fn.ntmps args none=fr) (hl:ZS 0 args []=l0) (h:Cz E c fr l0 s.enter fun ex fr l st=>(ex= .ret\/ex= .normal)/\∃ZD,Zm fr.defers st=some ZD/\∃vs,CI E ZD l rs=some vs/\∃cr,leave E f s (ck vs) ZD=some cr/\match cr with
  | .same v=>R v s
  | .val v s'=>R v s'
  | .WR _ _=>False):VZ E f args s R:=by
 subst aU hl hr;obtain⟨N,ex,Yf,l',T',s',⟨hex,ZD,hu,vs,WQ,cr,hlv,hR⟩,ZQ,dD⟩:=h _ (D4 args 0 (Has.nil .nil));refine⟨N+1,cr,fun n hn=>?_,hR⟩;obtain⟨m,rfl⟩:∃m,n=m+1:=⟨n-1,by omega⟩
 unfold WA;rw[hm];simp only[hf,hc,Qe];rw[Fk,dD m (by omega)];show ZI E (ev E (m+1)) f fn s ⟨ex,Yf,T',s'⟩=_;unfold ZI;have iZ:fK ex=some none:=by rcases hex with h|h<;>rw[h]<;>rfl
 simp only[iZ,Qe,F0 hu,endWith,BX ZQ WQ,hlv]
theorem B7 {s:St} {b:Nat} {o:Option Cw} (h:s.log≠ []\/b<s.bound):(s.put b o).log≠ []:=by
 show(bif Nat.blt b s.bound then XL b s.log else s.log)≠ [];cases hb:Nat.blt b s.bound with
 |true=>
  rw[cond_true];unfold XL;split
  .exact List.cons_ne_nil _ _
  .cases Nat.beq b _<;>exact List.cons_ne_nil _ _
 |false=>
  rw[cond_false];rcases h with h|h
  .exact h
  .have:Nat.blt b s.bound=true:=by simpa[Nat.blt_eq]using h
   rw[hb]at this;cases this
theorem VZ.mono {E:Env} {f:FuncId} {args:List AV} {s:St} {R R':AV->St->Prop} (h:VZ E f args s R) (hr:∀v s,R v s->R' v s):VZ E f args s R':=by
 obtain⟨N,cr,h1,h2⟩:=h;refine⟨N,cr,h1,?_⟩;cases cr with
 |same v=>exact hr _ _ h2
 |val v s'=>exact hr _ _ h2
 |WR v s'=>exact h2
end Am
