/- The abstract machine: more rules; contracts; heaps as lists; strings and builders; lists that grow; short names. -/
import Derived.Test.YtfhimfcbphepeaaGreatDoorAmF
import Derived.ChangeReads
import Derived.ChangeArms
set_option linter.unusedSectionVars false
set_option linter.unusedVariables false
set_option linter.unusedSimpArgs false
namespace Am
open Go
section
variable (E : a_)
abbrev Rd:=Nat×Nat×(Nat->Option Cv->Prop)
structure PN where
 b:AV->St->Prop
 a:List Rd
def RdOk (KN:PN) (i:Nat) (looked:eD):Prop:=(∀e∈KN.a,e.1<i)/\(∀p∈looked,p.1<i)/\∀p∈looked,∀e∈KN.a,p.1=e.1->p.2.1= .block e.2.1/\∀n o,e.2.2 n o->p.2.2 n o=true
theorem RdOk.cons {KN:PN} {i:Nat} {looked:eD} {j8:l_} {re:Nat->Option Cv->Bool} (h:RdOk KN i looked):RdOk KN (i+1) ((i,j8,re)::looked):=
 ⟨fun e he=>Nat.lt_succ_of_lt (h.1 e he),fun p hp=>by
  rcases Qk.1 hp with rfl|hp
  .exact Nat.lt_succ_self _
  .exact Nat.lt_succ_of_lt (h.2.1 p hp),fun p hp e he x=>by
  rcases Qk.1 hp with rfl|hp
  .have:=h.1 e he;have x:i=e.1:=x;omega
  .exact h.2.2 p hp e he x⟩
def AtN (KN:PN) (K:Sl->St->Prop) (all:List Oper) (T0:Tr AV) (ex:Ex) (l:Sl) (T:Tr AV) (s:St):Prop:=match ex with
 | .J=>K l s/\k8 l T
 | .O v=>KN.b v s/\T=cL all T0
 |_=>False
def CF (KN:PN) (all rest:List Oper) (i:Nat) (fr:Fr) (l:Sl) (st:St) (js:List Nat) (nl:YI) (K:Sl->St->Prop):Prop:=
 ∀(T0 T:Tr AV) (news:YI) (looked:eD),k8 l T->(∀p∈news,p∈nl)->(∀p∈looked,p.1∈js\/p.2.1= .J)->RdOk KN i looked->
  ∃N ex l' T' s',AtN KN K all T0 ex l' T' s'/\∀n,N<=n->dq E all (ev E n) fr T0 (bE E (Y3 all) rest i) ⟨T,st,news,looked⟩= .one ⟨ex,fr,T',s'⟩
end
def ZC (d:Option Nat) (v:AV) (l:Sl):Sl:=match d with
 |some d=>(d,v)::l
 |none=>l
noncomputable def Yt (all:List Oper) (i:Nat):Nat:=(pa (Y3 all) i).getD 0
section
variable {E : a_} {fr : Fr} {l : Sl} {st : St} {o : Oper} {all rest : List Oper} {i : Nat} {js : List Nat} {nl : YI} {K : Sl -> St -> Prop} {od : Option Nat}
theorem k8.ZC {T:Tr AV} (h:k8 l T) (d:Option Nat) (v:AV):k8 (Am.ZC d v l) (mQ d v T):=by
 cases d with
 |none=>exact h
 |some d=>exact h.put d v
theorem MZ {nt:Nat} {v:AV} {T:Tr AV} (C8:YW nt od=true):putC od nt v T=some (mQ od v T):=by
 cases od with
 |none=>rfl
 |some d=>
  show(bif Nat.blt d nt then some (Tr.B (some v) (r_ d) T)else none)=_;have:Nat.blt d nt=true:=C8;rw[this];rfl
theorem Ij {nt:Nat} {d:ph} {q:fK} {j8:l_} {v:AV} {H:Tr Cv} (hd:d.o.dst=od) (C8:YW nt od=true):
 YT nt d q (j8,v,q.a.J H)=some ⟨mQ od v q.T,q.a,q.b,(d.i,j8,mD d q (j8,v,q.a.J H))::q.c⟩:=by
 unfold YT;have h1:Nat.ble q.a.a (q.a.J H).a=true:=Aaa _;have h2:(q.a.J H).a-q.a.a=0:=Nat.sub_self _;have h3:(q.a.J H).c=[]:=rfl;simp only[h1,h2,h3,hd,MZ C8,aE,Bool.and_self,cond_true,Qe,dm,Z1,cj,below];rfl
theorem CF.done {KN:PN} (h:K l st):CF E KN all [] i fr l st js nl K:=fun T0 T news looked hT _ _ _=>⟨0,.J,l,T,st,⟨h,hT⟩,fun _ _=>rfl⟩
def pY (ops:List Oper) (l:Sl):Sl:=l.filter fun p=>ops.all fun o=> !oq p.1 o
theorem I0:∀ {ops:List Oper} {T:Tr AV} {k:Nat},(ops.all fun o=> !oq k o)=true->(cL ops T).u k=T.u k
 | [],_,_,_=>rfl
 |o::ops,T,k,h=>by
  rw[List.all_cons,Qf]at h;unfold cL;unfold oq at h;cases hd:o.dst with
  |none=>exact I0 h.2
  |some d=>
   rw[hd]at h;show(cL ops (T.A d none)).u k=_;rw[I0 h.2,Ap,if_neg];intro e;subst e;simp at h
theorem k8.clear {ops:List Oper} {T:Tr AV} (h:k8 l T):k8 (pY ops l) (cL ops T):=by
 intro k v hk;have key:∀ {l:Sl},e_ k (pY ops l)=some v->(ops.all fun o=> !oq k o)=true/\e_ k l=some v:=by
  intro l;induction l with
  |nil=>intro h;cases h
  |cons p l ih=>grind [pY,e_,Qb]
 obtain⟨h1,h2⟩:=key hk;rw[I0 h1];exact h k v h2
theorem BU {Q:Ex->Fr->Sl->St->Prop} {k:Nat} {ops:Array Oper} (ZO:Z8 ops.toList=true) (h:CF E ⟨fun v s=>Q (.O v) fr (pY ops.toList l) s,[]⟩ ops.toList ops.toList 0 fr l st [] [] (Q .J fr)):CA E (.region k ops true) fr l st Q:=by
 intro T hT;obtain⟨N,ex,l',T',s',hk,hr⟩:=h T T [] [] hT (fun p hp=>by cases hp) (fun p hp=>by cases hp) ⟨fun e he=>(by cases he),fun p hp=>(by cases hp),fun p hp=>by cases hp⟩;have CG:∀n,N<=n->(ZK E (.region k ops true)).run (ev E n) fr T st= .one ⟨ex,fr,T',s'⟩:=by grind [rW,rV,ZK,ev]
 cases ex with
 |J=>exact⟨N,.J,fr,l',T',s',hk.1,hk.2,CG⟩
 |O v=>exact⟨N,.O v,fr,_,T',s',hk.1,by rw[hk.2];exact hT.clear,CG⟩
 |G' _=>exact hk.elim
 |Z=>exact hk.elim
theorem Af {Q:Ex->Fr->Sl->St->Prop} {k:Nat} {ops:Array Oper} {b:Code} (ZO:Z8 ops.toList=true) (h:CF E ⟨fun v s=>Q (.O v) fr (pY ops.toList l) s,[]⟩ ops.toList ops.toList 0 fr l st [] [] fun l s=>CA E b fr l s Q):CA E (.seq (.region k ops true) b) fr l st Q:=
 BT (BU ZO h)
theorem EJ {ev:Ev} {T0:Tr AV} {q q':fK} {r:l_×AV×St} {out:f_} (h1:Zt E all ev fr (cY E all i o) q=some r) (h2:YT fr.nt (cY E all i o) q r=some q')
 (h:dq E all ev fr T0 (bE E (Y3 all) rest (i+1)) q'=out):dq E all ev fr T0 (bE E (Y3 all) (o::rest) i) q=out:=by
 show(match Zt E all ev fr (cY E all i o) q with
  |some r=>match YT fr.nt (cY E all i o) q r with
   |some q'=>dq E all ev fr T0 (bE E (Y3 all) rest (i+1)) q'
   |none=> .J
  |none=>pO E all ev fr T0 (cY E all i o) (bE E (Y3 all) rest (i+1)) q (iM E all ev fr (cY E all i o) q))=_
 rw[h1];simp only[h2];exact h
theorem runN {n:Nat} {T:Tr AV} {news:YI} {looked:eD} {r:l_×AV×St} (hT:k8 l T) (hg:Yv all l o) (h:bj E (ev E n) fr (cY E all i o) ⟨T,st,news,looked⟩ (aw T (b_ o.op.operands.toList) .J)=some r):
 Zt E all (ev E n) fr (cY E all i o) ⟨T,st,news,looked⟩=some r:=by
 unfold Zt;rcases hg with hg|⟨g,hg,hw⟩
 .grind [cY]
 .grind [cY,Zs]
theorem Jl {KN:PN} {v:AV} {js':List Nat} (hq:aQ (ZW E o.type o.op)=true)
 (ho:∀(T:Tr AV) (news:YI),(∀p∈news,p∈nl)->k8 (Yn (b_ o.op.operands.toList) l) T->
  (i∈js'\/ZH (ZW E o.type o.op) T= .J)/\Alone E o fr T v (st.J (YL (Yt all i) news st.heap (ZH (ZW E o.type o.op) T))))
 (o9:∀j∈js,j∈js') (hg:Yv all l o) (hd:o.dst=od) (C8:YW fr.nt od=true) (h:CF E KN all rest (i+1) fr (ZC od v l) st js' nl K):CF E KN all (o::rest) i fr l st js nl K:=by
 intro T0 T news looked hT fX nV nO;obtain⟨hj,N,hN⟩:=ho _ news fX (hT.Yn (b_ o.op.operands.toList));let dd:ph:=cY E all i o
 let q:fK:=⟨T,st,news,looked⟩
 let TP:=aw T (b_ o.op.operands.toList) .J
 let j8:=ZH (ZW E o.type o.op) TP
 let H:=YL dd.a news st.heap j8
 let re:=mD dd q (j8,v,st.J H)
 obtain⟨M,ex,l',T',s',hk,hr⟩:=h T0 (mQ od v T) news ((i,j8,re)::looked) (hT.ZC od v) fX (fun p hp=>by
  rcases Qk.1 hp with rfl|hp
  .exact hj
  .exact(nV p hp).imp (o9 _) id) nO.cons
 refine⟨max N M,ex,l',T',s',hk,fun n hn=>?_⟩;have kB:bj E (ev E n) fr dd q TP=some (j8,v,st.J H):=by
  unfold bj;have:aQ dd.so=true:=hq;rw[this];simp only[cond_true];show eg j8 ((Z0 E (ZW E o.type o.op) K0).run (ev E n) fr TP (st.J H))=_;have h1:(Z0 E (ZW E o.type o.op) K0).run (ev E n) fr TP (st.J H)= .one ⟨.J,fr,fy v,st.J H⟩:=hN n (by omega);rw[h1];rfl
 have hp:=Ij (nt:=fr.nt) (d:=dd) (q:=q) (j8:=j8) (v:=v) (H:=H) (od:=od) hd C8;exact EJ (runN hT hg kB) hp (hr n (by omega))
theorem CF.off {KN:PN} {g:Nat×Bool} (hg:o.guard=some g) (hw:∀T,k8 l T->Zs all g T=some false) (hd:o.dst=od) (C8:YW fr.nt od=true)
 (h:CF E KN all rest (i+1) fr (ZC od (.O []) l) st js nl K):CF E KN all (o::rest) i fr l st js nl K:=by
 intro T0 T news looked hT fX nV nO;let dd:ph:=cY E all i o
 let q:fK:=⟨T,st,news,looked⟩
 let re:=mD dd q (.J,.O [],st.J .J)
 obtain⟨M,ex,l',T',s',hk,hr⟩:=h T0 (mQ od (.O []) T) news ((i,.J,re)::looked) (hT.ZC od _) fX (fun p hp=>by
  rcases Qk.1 hp with rfl|hp
  .exact .inr U
  .exact nV p hp) nO.cons
 refine⟨M,ex,l',T',s',hk,fun n hn=>?_⟩;have CG:Zt E all (ev E n) fr dd q=some (.J,.O [],st.J .J):=by
  unfold Zt;have:dd.o.guard=some g:=hg;rw[this];show(Zs all g T).bind _=_;rw[hw T hT];rfl
 have hp:=Ij (nt:=fr.nt) (d:=dd) (q:=q) (j8:= .J) (v:= .O []) (H:= .J) (od:=od) hd C8;exact EJ CG hp (hr n (by omega))
theorem Qw {KN:PN} {j e:Nat} {w b:Bool} {oj:Oper} (hg:o.guard=some (j,w)) (hj:pa all j=some oj) (he:oj.dst=some e) (hl:e_ e l=some (.bool b)) (hb:b= !w)
 (hd:o.dst=od) (C8:YW fr.nt od=true) (h:CF E KN all rest (i+1) fr (ZC od (.O []) l) st js nl K):CF E KN all (o::rest) i fr l st js nl K:=
 CF.off hg (fun T hT=>by rw[FD (g:=(j,w)) hj he (hT e _ hl),hb];cases w<;>rfl) hd C8 h
theorem UQ {KN:PN} {j e:Nat} {w:Bool} {oj:Oper} (hg:o.guard=some (j,w)) (hj:pa all j=some oj) (he:oj.dst=some e) (hl:e_ e l=some (.O []))
 (hd:o.dst=od) (C8:YW fr.nt od=true) (h:CF E KN all rest (i+1) fr (ZC od (.O []) l) st js nl K):CF E KN all (o::rest) i fr l st js nl K:=
 CF.off hg (fun T hT=>by
  unfold Zs fw;simp only[hj,Qe,he];show iJ w (T.u e)=_;rw[hT e _ hl];rfl) hd C8 h
theorem I7 {KN:PN} {v:AV} (ho:Zm E o (Yn (b_ o.op.operands.toList) l) v) (hg:Yv all l o) (hd:o.dst=od) (C8:YW fr.nt od=true) (h:CF E KN all rest (i+1) fr (ZC od v l) st js nl K):CF E KN all (o::rest) i fr l st js nl K:=
 Jl ho.1 (fun T _ _ hT=>⟨.inr (ho.2 T hT).1,Jj ⟨0,fun n _ k=>(ho.2 T hT).2 (ev E n) fr _ k⟩⟩) (fun _ h=>h) hg hd C8 h
theorem CF.q {KN:PN} {v:AV} (ho:Zm E o (Yn (b_ o.op.operands.toList) l) v) (hg:o.guard=none) (hd:o.dst=od) (C8:YW fr.nt od=true) (h:CF E KN all rest (i+1) fr (ZC od v l) st js nl K):CF E KN all (o::rest) i fr l st js nl K:=
 I7 ho (.inl hg) hd C8 h
theorem CF.aG {KN:PN} {v:AV} (ho:OpA E o fr (Yn (b_ o.op.operands.toList) l) v) (hg:Yv all l o) (hd:o.dst=od) (C8:YW fr.nt od=true) (h:CF E KN all rest (i+1) fr (ZC od v l) st (i::js) nl K):CF E KN all (o::rest) i fr l st js nl K:=
 Jl ho.1 (fun T _ _ hT=>⟨.inl (Qh ..),Jj (by
  obtain⟨N,hN⟩:=ho.2 T hT;exact⟨N,fun n hn k=>hN n hn _ k⟩)⟩) (fun _ h=>Qg _ h) hg hd C8 h
def Zp (Yw b:Nat) (nl:YI):Bool:=nl.all fun p=> !(Nat.beq p.2 b)||Nat.testBit Yw p.1
theorem Do {Yw b:Nat} (h:Zp Yw b nl=true):∀ {news:YI},(∀p∈news,p∈nl)->bN Yw b news=false
 | [],_=>rfl
 |p::news,hn=>by
  unfold bN;have h1:=List.all_eq_true.1 h p (hn p (Qh ..));rw[Do h (fun q hq=>hn q (Qg _ hq))];cases hb:Nat.beq p.2 b with
  |false=>rfl
  |true=>grind
theorem NP {KN:PN} {x:Tr AV->Option AV} {f:Tr AV->St->Option AV} {v p:AV} {b:Nat} (aY:ZW E o.type o.op= .Z x f) (hx:∀T,k8 (Yn (b_ o.op.operands.toList) l) T->x T=some p) (hp:dk (some p)=some b)
 (hv:∀T,k8 (Yn (b_ o.op.operands.toList) l) T->f T (st.J (Tr.A .J b (st.heap.u b)))=some v) (hc:Zp (Yt all i) b nl=true) (hg:Yv all l o) (hd:o.dst=od) (C8:YW fr.nt od=true)
 (h:CF E KN all rest (i+1) fr (ZC od v l) st (i::js) nl K):CF E KN all (o::rest) i fr l st js nl K:=by
 refine Jl (by rw[aY];rfl) (fun T news fX hT=>⟨.inl (Qh ..),?_⟩) (fun _ h=>Qg _ h) hg hd C8 h;rw[aY];have:ZH (.Z x f) T= .block b:=by
  show lG (dk (x T))=_;rw[hx T hT,hp];rfl
 rw[this];have hs:YL (Yt all i) news st.heap (.block b)=Tr.A .J b (st.heap.u b):=by
  show(bif bN (Yt all i) b news then _ else _)=_;rw[Do hc fX];rfl
 rw[hs];exact Jj ⟨0,fun n _ k=>by
  rw[aY];show ZR (fun v=>k.run (ev E n) fr T v _) (f T _)=_;rw[hv T hT];rfl⟩
theorem IG {n b off:Nat} {s s':St} (hs:s'.heap.u b=s.heap.u b):cf s' n (.Z b off)=cf s n (.Z b off):=by
 unfold cf;simp only[hs]
theorem Ke {t:TypeId} {b off:Nat} {s s':St} (hs:s'.heap.u b=s.heap.u b):Zd E t s' (.Z b off)=Zd E t s (.Z b off):=by
 unfold Zd;cases j_ E t with
 |none=>rfl
 |some g=>
  cases an E t with
  |none=>cases g<;>rfl
  |some n=>
   cases g
   .show(cf s' 1 _).bind _=(cf s 1 _).bind _;rw[IG hs]
   .show(cf s' n _).bind _=(cf s n _).bind _;rw[IG hs]
theorem AI {KN:PN} {t:TypeId} {a:Operand} {v:AV} {b off:Nat} (ho:o.op= .load t a) (ha:Cg a (Yn (b_ o.op.operands.toList) l)=some (.Z b off))
 (hv:Zd E t st (.Z b off)=some v) (hc:Zp (Yt all i) b nl=true) (hg:Yv all l o) (hd:o.dst=od) (C8:YW fr.nt od=true) (h:CF E KN all rest (i+1) fr (ZC od v l) st (i::js) nl K):CF E KN all (o::rest) i fr l st js nl K:=
 NP (x:=Ch E a) (f:=fun T s=>(Ch E a T).bind (Zd E t s)) (b:=b) (by rw[ho];rfl) (fun T hT=>Ae hT ha) rfl (fun T hT=>by
  rw[Ae hT ha];exact(Ke (by show(Tr.A .J b (st.heap.u b)).u b=_;rw[Ap,if_pos rfl])).trans hv) hc hg hd C8 h
theorem KX {KN:PN} {f:Tr AV->Option Mk} {ob:Cv} {g:Nat->AV} (aY:ZW E o.type o.op= .make f) (hv:∀T,k8 (Yn (b_ o.op.operands.toList) l) T->f T=some (.J ob g)) (hg:Yv all l o) (hd:o.dst=od) (C8:YW fr.nt od=true)
 (h:CF E KN all rest (i+1) fr (ZC od (g st.a) l) (st.A ob) js ((i,st.a)::nl) K):CF E KN all (o::rest) i fr l st js nl K:=by
 intro T0 T news looked hT fX nV nO;let dd:ph:=cY E all i o
 let q:fK:=⟨T,st,news,looked⟩
 let TP:=aw T (b_ o.op.operands.toList) .J
 let s2:St:=(st.J .J).A ob
 let re:=mD dd q (.J,g st.a,s2)
 obtain⟨M,ex,l',T',s',hk,hr⟩:=h T0 (mQ od (g st.a) T) ((i,st.a)::news) ((i,.J,re)::looked) (hT.ZC od _) (fun p hp=>by
  rcases Qk.1 hp with rfl|hp
  .exact Qh ..
  .exact Qg _ (fX p hp)) (fun p hp=>by
  rcases Qk.1 hp with rfl|hp
  .exact .inr U
  .exact nV p hp) nO.cons
 refine⟨M,ex,l',T',s',hk,fun n hn=>?_⟩;have kB:bj E (ev E n) fr dd q TP=some (.J,g st.a,s2):=by
  unfold bj;have gE:dd.so= .make f:=aY;have hqs:aQ dd.so=true:=by rw[gE];rfl
  rw[hqs];simp only[cond_true];have qM:ZH dd.so TP= .J:=by rw[gE];rfl
  rw[qM];have Zc:(Z0 E (ZW E o.type o.op) K0).run (ev E n) fr TP (st.J .J)=K0.run (ev E n) fr TP (g (st.J .J).a) ((st.J .J).A ob):=by
   rw[aY];show rb _ _ (f TP)=_;rw[hv TP (hT.Yn (b_ o.op.operands.toList))];rfl
  show eg .J ((Z0 E (ZW E o.type o.op) K0).run (ev E n) fr TP (st.J .J))=_;rw[Zc];rfl
 have eE:YT fr.nt dd q (.J,g st.a,s2)=some ⟨mQ od (g st.a) T,st.A ob,(i,st.a)::news,(i,.J,re)::looked⟩:=by
  unfold YT;have h1:Nat.ble q.a.a s2.a=true:=Qd (Nat.le_succ _);have h3:dd.o.dst=od:=hd;have h4:dm q.a.a (s2.a-q.a.a)=[st.a]:=by
   show dm st.a (st.a+1-st.a)=_;rw[Nat.add_sub_cancel_left];rfl
  have h5:s2.heap.u st.a=some ob:=by
   show(Tr.A .J st.a (some ob)).u st.a=_;rw[Ap,if_pos rfl]
  have h6:s2.c=[]:=rfl;simp only[h1,h6,aE,h3,Bool.and_self,cond_true,MZ C8,Qe,h4,cj,Z1,h5,below];rfl
 exact EJ (runN hT hg kB) eE (hr n (by omega))
theorem FG {i:Nat} {p:Nat×Nat}:∀ {L:List Nat} {news:YI},(∀p∈news,p∈nl)->p∈cj i news L->p∈cj i nl L
 | [],_,hn,h=>hn _ h
 |b::L,news,hn,h=>by
  rcases Qk.1 h with rfl|h
  .exact Qh ..
  .exact Qg _ (FG hn h)
def oC (Yw:Nat) (js:List Nat):Bool:=js.all fun j=>Nat.testBit Yw j
theorem P0 {Yw b n:Nat} {ob:Option Cv} (o9:oC Yw js=true):∀ {L:eD},(∀p∈L,p.1∈js\/p.2.1= .J)->fz Yw b n ob L=true
 | [],_=>rfl
 |p::L,hL=>by
  unfold fz;have ih:=P0 (b:=b) (n:=n) (ob:=ob) o9 fun q hq=>hL q (Qg _ hq);rcases hL p (Qh ..)with h1|h1
  .have:Nat.testBit Yw p.1=true:=List.all_eq_true.1 o9 _ h1;rw[this];exact ih
  .grind [kK]
theorem Qx {KN:PN} {x:Tr AV->Option AV} {f:Tr AV->St->Option (AV×St)} {v:AV} {s2:St} {one:Bool} {j8:l_} {H:Tr Cv} (aY:ZW E o.type o.op= .I_ one x f)
 (qM:∀T,k8 (Yn (b_ o.op.operands.toList) l) T->ZH (.I_ one x f) T=j8) (hH:∀news:YI,(∀p∈news,p∈nl)->YL (Yt all i) news st.heap j8=H)
 (ho:ZU E o fr (Yn (b_ o.op.operands.toList) l) (st.J H) v s2)
 (fB:st.a<=s2.a) (CU:∀b∈s2.c,b<st.a/\Zp (Yt all i) b nl=true) (o9:oC (Yt all i) js=true)
 (hg:Yv all l o) (hd:o.dst=od) (C8:YW fr.nt od=true)
 (h:CF E KN all rest (i+1) fr (ZC od v l) (st.G s2) (i::js) (cj i (cj i nl (dm st.a (s2.a-st.a))) s2.c) K):CF E KN all (o::rest) i fr l st js nl K:=by
 intro T0 T news looked hT fX nV nO;obtain⟨N,hN⟩:=ho _ (hT.Yn (b_ o.op.operands.toList));let dd:ph:=cY E all i o
 let q:fK:=⟨T,st,news,looked⟩
 let TP:=aw T (b_ o.op.operands.toList) .J
 let re:=mD dd q (j8,v,s2)
 have eF:dd.a=Yt all i:=rfl;obtain⟨M,ex,l',T',s',hk,hr⟩:=h T0 (mQ od v T) (cj i (cj i news (dm st.a (s2.a-st.a))) s2.c) ((i,j8,re)::looked) (hT.ZC od v)
  (fun p hp=>FG (fun p hp=>FG fX hp) hp) (fun p hp=>by
  rcases Qk.1 hp with rfl|hp
  .exact .inl (Qh ..)
  .exact(nV p hp).imp (Qg _) id) nO.cons
 refine⟨max N M,ex,l',T',s',hk,fun n hn=>?_⟩;have kB:bj E (ev E n) fr dd q TP=some (j8,v,s2):=by
  unfold bj;have gE:dd.so= .I_ one x f:=aY;have hqs:aQ dd.so=true:=by rw[gE];rfl
  rw[hqs];simp only[cond_true];have ht:ZH dd.so TP=j8:=by rw[gE];exact qM _ (hT.Yn _)
  rw[ht];have Zc:=hN n (by omega) K0;show eg j8 ((Z0 E (ZW E o.type o.op) K0).run (ev E n) fr TP (st.J (YL dd.a news st.heap j8)))=_;rw[eF,hH news fX,Zc];rfl
 have hmay:∀L:List Nat,(∀b∈L,b<st.a/\Zp (Yt all i) b nl=true)->aE dd.a st.a s2.a s2.heap q L=true:=by
  intro L;induction L with
  |nil=>intro _;rfl
  |cons b L ih=>grind [Nat.blt_eq,aE,Qh,Do,P0,Qg]
 have eE:YT fr.nt dd q (j8,v,s2)=some ⟨mQ od v T,st.G s2,cj i (cj i news (dm st.a (s2.a-st.a))) s2.c,(i,j8,re)::looked⟩:=by
  unfold YT;have h1:Nat.ble q.a.a s2.a=true:=Qd fB;have h2:aE dd.a q.a.a s2.a s2.heap q s2.c=true:=hmay s2.c CU;have h3:dd.o.dst=od:=hd;simp only[h1,h2,h3,Bool.and_self,cond_true,MZ C8,Qe];rfl
 exact EJ (runN hT hg kB) eE (hr n (by omega))
theorem It {Yw:Nat} (h:(nl.all fun p=>Nat.testBit Yw p.1)=true) {news:YI} {hp:Tr Cv} (hn:∀p∈news,p∈nl):iK Yw news hp=hp:=
 Ps fun p hp=>List.all_eq_true.1 h p (hn p hp)
theorem T9 {KN:PN} {x:Tr AV->Option AV} {f:Tr AV->St->Option (AV×St)} {v:AV} {s2:St} (aY:ZW E o.type o.op= .I_ false x f) (ho:ZU E o fr (Yn (b_ o.op.operands.toList) l) (st.J st.heap) v s2)
 (fB:st.a<=s2.a) (CU:∀b∈s2.c,b<st.a/\Zp (Yt all i) b nl=true) (o9:oC (Yt all i) js=true) (dH:(nl.all fun p=>Nat.testBit (Yt all i) p.1)=true)
 (hg:Yv all l o) (hd:o.dst=od) (C8:YW fr.nt od=true)
 (h:CF E KN all rest (i+1) fr (ZC od v l) (st.G s2) (i::js) (cj i (cj i nl (dm st.a (s2.a-st.a))) s2.c) K):CF E KN all (o::rest) i fr l st js nl K:=
 Qx (j8:= .all) aY (fun _ _=>rfl) (fun _ hn=>It dH hn) ho fB CU o9 hg hd C8 h
end
section
variable {E : a_} {fr : Fr} {l : Sl} {s : St} {o : Oper}
theorem RL {t:TypeId} {x:Operand} {v:AV} (ho:o.op= .makeInterface t x) (hi:aW E t=some false) (hx:Cg x l=some v):Zm E o l (.H' t v):=
 A7 (f:=fun T=>(Ch E x T).bind fun v=>some (.H' t v)) (by
  rw[ho];show fu E t x=_;unfold fu;rw[hi]) fun T hT=>by simp only[Ae hT hx,Qe]
noncomputable def kE (E:a_) (t:TypeId):Bool:=match CS E t with
 |some (.struct _)=>true
 |_=>false
def su (neg:Bool):BinOp:=bif neg then .neq else .eql
theorem NK {neg:Bool} {t:TypeId} {x y:Operand} (h1:∀k,CS E t≠some (.int k)) (h2:CS E t≠some .string):lz E (su neg) t x y=eqC E neg t x y:=by
 unfold lz;split
 .next k h=>exact absurd h (h1 k)
 .next h=>exact absurd h h2
 .cases neg<;>rfl
theorem Aad {t:TypeId} (h:aW E t=some true):∃ms,CS E t=some (.interface ms):=by
 unfold aW at h;split at h
 .next ms hm=>exact⟨ms,hm⟩
 .cases h
 .cases h
theorem Vy {t:TypeId} (h:kE E t=true):∃fs,CS E t=some (.struct fs):=by
 unfold kE at h;split at h
 .next fs hm=>exact⟨fs,hm⟩
 .cases h
theorem TE {neg:Bool} {t yt:TypeId} {x y:Operand} {a b v:AV} (ho:o.op= .binOp (su neg) t x y yt) (hu:aW E t=some true) (hx:Cg x l=some a) (hy:Cg y l=some b)
 (hv:au neg (mj E (s_ x||s_ y) a b)=some v):Zm E o l v:=by
 obtain⟨ms,hu⟩:=Aad hu;exact A7 (f:=fun T=>(Ch E x T).bind fun a=>(Ch E y T).bind fun b=>au neg (mj E (s_ x||s_ y) a b)) (by
  rw[ho];show lz E (su neg) t x y=_;rw[NK (by rw[hu];intro k h;cases h) (by rw[hu];intro h;cases h)];unfold eqC;rw[hu];rfl) fun T hT=>by simp only[Ae hT hx,Ae hT hy,Qe,hv]
theorem E7 {neg:Bool} {t yt:TypeId} {x y:Operand} {kd:Kd} {a b v:AV} (ho:o.op= .binOp (su neg) t x y yt) (hu:kE E t=true) (hk:eC E t=some kd) (hx:Cg x l=some a) (hy:Cg y l=some b)
 (hv:au neg (fh kd a b)=some v):Zm E o l v:=by
 obtain⟨fs,hu⟩:=Vy hu;exact A7 (f:=fun T=>(Ch E x T).bind fun a=>(Ch E y T).bind fun b=>au neg (fh kd a b)) (by
  rw[ho];show lz E (su neg) t x y=_;rw[NK (by rw[hu];intro k h;cases h) (by rw[hu];intro h;cases h)];unfold eqC;rw[hu];simp only[hk];rfl) fun T hT=>by simp only[Ae hT hx,Ae hT hy,Qe,hv]
theorem Zm.sub {t yt:TypeId} {x y:Operand} {a b:Int} (ho:o.op= .binOp .sub t x y yt) (hu:CS E t=some (.int .i64)) (hx:Cg x l=some (.int .i64 a)) (hy:Cg y l=some (.int .i64 b))
 (h: -9223372036854775808<=a-b/\a-b<9223372036854775808):Zm E o l (.int .i64 (a-b)):=Dv ho hu rfl hx hy (by rw[Gk h.1 h.2])
theorem Aq {t yt:TypeId} {x y:Operand} {a b:Nat} (ho:o.op= .binOp .sub t x y yt) (hu:CS E t=some (.int .i64)) (hx:Cg x l=some (.int .i64 (a:Nat))) (hy:Cg y l=some (.int .i64 (b:Nat)))
 (h:b<=a/\a<9223372036854775808):Zm E o l (.int .i64 ((a-b:Nat):Int)):=by
 have:=Zm.sub (o:=o) (E:=E) (l:=l) ho hu hx hy (by omega);rwa[show(a:Int)-(b:Int)=((a-b:Nat):Int) by omega]at this
theorem Zm.mul {t yt:TypeId} {x y:Operand} {a b:Int} (ho:o.op= .binOp .mul t x y yt) (hu:CS E t=some (.int .i64)) (hx:Cg x l=some (.int .i64 a)) (hy:Cg y l=some (.int .i64 b))
 (h: -9223372036854775808<=a*b/\a*b<9223372036854775808):Zm E o l (.int .i64 (a*b)):=Dv ho hu rfl hx hy (by rw[Gk h.1 h.2])
theorem Yd {t:TypeId} {x:Operand} {a:Int} (ho:o.op= .unOp .neg t x) (hx:Cg x l=some (.int .i64 a)) (h: -9223372036854775808<a/\a<=9223372036854775808):Zm E o l (.int .i64 (-a)):=
 A7 (f:=fun T=>(Ch E x T).bind (xW .neg)) (by rw[ho];rfl) fun T hT=>by
  simp only[Ae hT hx,Qe,xW];rw[Gk (by omega) (by omega),Int.zero_sub]
theorem HK {α:Type}:∀ {a:Nat} {l:List α},a<=l.length->ab a l=some (l.drop a)
 |0,_,_=>rfl
 |_+1,[],h=>by simp at h
 |a+1,_::l,h=>HK (a:=a) (l:=l) (by simpa using h)
theorem Sc {α:Type}:∀ {n:Nat} {l:List α},n<=l.length->o_ n l=some (l.take n)
 |0,l,_=>by simp;rfl
 |_+1,[],h=>by simp at h
 |n+1,b::l,h=>by
  show kW b (o_ n l)=_;rw[Sc (n:=n) (l:=l) (by simpa using h)];rfl
theorem L5 {t:TypeId} {x:Operand} {i off n:Nat} {agg:Bool} {cs:List AV} (ho:o.op= .fieldAddr t x i) (hf:de E t i=some (off,n+1,agg)) (hx:Cg x l=some (.Zu cs)) (hn:off<=cs.length):Zm E o l (.Zu (cs.drop off)):=
 A7 (f:=fun T=>(Ch E x T).bind (aA off)) (by
  rw[ho];show cK E t x i=_;unfold cK;rw[hf]) fun T hT=>by simp only[Ae hT hx,Qe,aA,HK hn]
theorem F7 {src dst:TypeId} {x:Operand} {j k kx:IntKind} {n:Int} (ho:o.op= .convert src dst x) (hs:CS E src=some (.int j)) (hd:CS E dst=some (.int k)) (hx:Cg x l=some (.int kx n)):Zm E o l (dO k n):=
 A7 (f:=fun T=>(Ch E x T).bind (pI k)) (by
  rw[ho];show gQ E src dst x=_;unfold gQ;rw[hs,hd]) fun T hT=>by simp only[Ae hT hx,Qe,pI]
theorem UW {x:Operand} {t ty:TypeId} {ok:Bool} {z a v:AV} (ho:o.op= .typeAssert x ty t ok) (hi:aW E t=some false) (hz:i_ E t=some z) (hx:Cg x l=some a) (hv:ke t ok z a=some v):Zm E o l v:=
 A7 (f:=fun T=>(Ch E x T).bind (ke t ok z)) (by
  rw[ho];show mu E x t ok=_;unfold mu;unfold aW at hi;rw[hz];cases hu:CS E t with
  |none=>rw[hu]at hi;cases hi
  |some d=>
   rw[hu]at hi;cases d<;>first|rfl|cases hi) fun T hT=>by simp only[Ae hT hx,Qe,hv]
theorem RQ {c:Call} {t:Nat} {f:FuncId} {first captured args:List AV} {v:AV} (ho:o.op= .call c) (hc:c.callee= .value (.tmp t)) (hf:e_ t l=some (.G' (.func f) first captured)) (hb:CI E f=true)
 (ha:Za c.args.toList l=some args) (h:E.d f (first++args++captured)=some v):OpA E o fr l v:=by
 have aY:ZW E o.type o.op= .dN (Ch E (.tmp t)) (CV E c.args.toList):=by
  rw[ho];show YC E o.type c=_;unfold YC;rw[hc]
 refine⟨by rw[aY];rfl,fun T hT=>⟨0,fun n _ s k=>?_⟩⟩;rw[aY];show ZB fr T s (k.run (ev E n) fr T) _=_;have hg:Ch E (.tmp t) T=some (.G' (.func f) first captured):=hT t _ hf;simp only[AW hT ha,hg,Qe,aj,hb,cond_true];have:Y8 E (ev E n) f (first++args++captured) s=some (.same v):=by unfold Y8;rw[h]
 rw[this];rfl
theorem D5 {t k e:TypeId} (ho:o.op= .makeMap t none) (hu:CS E t=some (.map k e)):ZU E o fr l s (.H_ s.a) (s.A (.O [] 0)):=fun T _=>
 Gg (f:=fun _=>some (.J (.O [] 0) .H_)) (by
  rw[ho];show j5 E t none=_;unfold j5;rw[hu]) rfl
theorem AT {t k e:TypeId} {kd:Kd} {m x y:Operand} {p a b:AV} {s':St} (ho:o.op= .mapUpdate t m x y\/o.op= .insert t m x y) (hu:CS E t=some (.map k e)) (hk:eC E k=some kd) (hm:Cg m l=some p) (hx:Cg x l=some a) (hy:Cg y l=some b)
 (hs:eR kd s a b p=some s'):ZU E o fr l s (.O []) s':=fun T hT=>
 E6 (b:=true) (x:=Ch E m) (f:=fun T s=>(Ch E m T).bind fun a=>(Ch E x T).bind fun b=>(Ch E y T).bind fun c=>ja (eR kd s b c a)) (by
  have:ZW E o.type o.op=jX E t m x y:=by rcases ho with ho|ho<;>rw[ho]<;>rfl
  rw[this];unfold jX;rw[hu];simp only[hk]) (by simp only[Ae hT hm,Ae hT hx,Ae hT hy,Qe,hs,ja])
theorem GK {t k e:TypeId} {kd:Kd} {x i:Operand} {ok:Bool} {z p a v:AV} (ho:o.op= .lookup t x i ok) (hu:CS E t=some (.map k e)) (hz:i_ E e=some z) (hk:eC E k=some kd) (hx:Cg x l=some p) (hi:Cg i l=some a)
 (hv:cF kd s ok z p a=some v):ZU E o fr l s v s:=fun T hT=>
 Gf (x:=Ch E x) (f:=fun T s=>(Ch E x T).bind fun a=>(Ch E i T).bind fun b=>cF kd s ok z a b) (by
  rw[ho];show iC E t x i ok=_;unfold iC;rw[hu];simp only[hz,hk]) (by simp only[Ae hT hx,Ae hT hi,Qe,hv])
variable {st : St} {all rest : List Oper} {i : Nat} {js : List Nat} {nl : YI} {K : Sl -> St -> Prop} {od : Option Nat}
theorem CF.alloc {KN:PN} {t:TypeId} {z:AV} (ho:o.op= .alloc t) (hz:i_ E t=some z) (ht:z.A=false) (hg:o.guard=none) (hd:o.dst=od) (C8:YW fr.nt od=true)
 (h:CF E KN all rest (i+1) fr (ZC od (.Z st.a 0) l) (st.A (.J z.u t false)) js ((i,st.a)::nl) K):CF E KN all (o::rest) i fr l st js nl K:=
 KX (f:=fun _=>some (.J (.J z.u t false) fun b=> .Z b 0)) (g:=fun b=> .Z b 0) (by
  rw[ho];show lD E t=_;unfold lD;simp only[hz,ht,cond_false]) (fun _ _=>rfl) (.inl hg) hd C8 h
end
noncomputable def lQ {α:Type} (enc:α->List AV) (res:α->AV) (args:List AV):Option AV:=by
 classical exact if h:∃a,enc a=args then some (res h.choose)else none
theorem TU {α:Type} {enc:α->List AV} {res:α->AV} (hw:∀a b,enc a=enc b->res a=res b) (a:α):lQ enc res (enc a)=some (res a):=by
 have h:∃b,enc b=enc a:=⟨a,rfl⟩
 unfold lQ;rw[dif_pos h,hw _ _ h.choose_spec]
theorem QK {α:Type} {enc:α->List AV} {res:α->AV} {args:List AV} {v:AV} (h:lQ enc res args=some v):∃a,enc a=args/\res a=v:=by
 unfold lQ at h;split at h
 .next he=>cases h;exact⟨_,he.choose_spec,rfl⟩
 .cases h
theorem QL {α:Type} {enc:α->List AV} {res:α->AV} {args:List AV} (h:∀a,enc a≠args):lQ enc res args=none:=by
 unfold lQ;rw[dif_neg];rintro⟨a,ha⟩;exact h a ha
noncomputable def CX {α:Type} (K:FuncId->List AV->Option AV) (f:FuncId) (enc:α->List AV) (res:α->AV):FuncId->List AV->Option AV:=fun g args=>bif Nat.beq g f then lQ enc res args else K g args
theorem Aj {α:Type} {K:FuncId->List AV->Option AV} {f:FuncId} {enc:α->List AV} {res:α->AV} (hw:∀a b,enc a=enc b->res a=res b) (a:α):CX K f enc res f (enc a)=some (res a):=by
 unfold CX;rw[Nat.beq_refl];exact TU hw a
theorem Qt {α:Type} {K:FuncId->List AV->Option AV} {f:FuncId} {enc:α->List AV} {res:α->AV} {args:List AV} (h:∀a,enc a≠args):CX K f enc res f args=none:=by
 unfold CX;rw[Nat.beq_refl];exact QL h
abbrev Hl:=List (Nat×Option Cv)
def eL:Nat->Hl->Option Cv
 |_,[]=>none
 |k,p::l=>bif Nat.beq k p.1 then p.2 else eL k l
noncomputable def mkH:Hl->Tr Cv
 | []=> .J
 |p::l=>(mkH l).A p.1 p.2
noncomputable def Y9 (n bd:Nat) (lg:List Nat) (hl:Hl):St:= {a:=n,b:=bd,c:=lg,heap:=mkH hl}
theorem Xh (k:Nat):∀hl:Hl,(mkH hl).u k=eL k hl
 | []=>AX k
 |p::l=>by
  show((mkH l).A p.1 p.2).u k=bif Nat.beq k p.1 then p.2 else eL k l;rw[Ap,Xh k l];cases hb:Nat.beq k p.1 with
  |true=>rw[if_pos (Qb hb)];rfl
  |false=>rw[if_neg (Nat.ne_of_beq_eq_false hb)];rfl
theorem AD {n bd:Nat} {lg:List Nat} {hl:Hl} (k:Nat):(Y9 n bd lg hl).heap.u k=eL k hl:=Xh k hl
def logB (b bd:Nat) (lg:List Nat):List Nat:=bif Nat.blt b bd then Z7 b lg else lg
section
variable {E : a_} {fr : Fr} {l : Sl} {o : Oper} {n m bd : Nat} {lg : List Nat} {hl : Hl}
theorem Vd {t:TypeId} {z:AV} (m:Nat) (ho:o.op= .alloc t) (hz:i_ E t=some z) (hm:n+1=m):ZU E o fr l (Y9 n bd lg hl) (.Z n 0) (Y9 m bd lg ((n,some (.J z.u t false))::hl)):=by
 subst hm;exact ZU.alloc ho hz
theorem ZU.boxS {t:TypeId} {x:Operand} {v:AV} (m:Nat) (ho:o.op= .box t x) (hx:Cg x l=some v) (hv:v.A=false) (hm:n+1=m):ZU E o fr l (Y9 n bd lg hl) (.Z n 0) (Y9 m bd lg ((n,some (.J v.u t false))::hl)):=by
 subst hm;exact ZU.box ho hx hv
theorem UZ {t:TypeId} {a x:Operand} {k b off:Nat} {v:AV} {cs bq:List AV} {e:TypeId} {part:Bool} (ho:o.op= .store t a x) (hn:an E t=some k) (ha:Cg a l=some (.Z b off)) (hx:Cg x l=some v)
 (hg:eL b hl=some (.J cs e part)) (hk:v.u.length=k) (ht:v.A=false) (hc:over v.u off cs=some bq):ZU E o fr l (Y9 n bd lg hl) (.O []) (Y9 n bd (logB b bd lg) ((b,some (.J bq e part))::hl)):=
 Ek ho hn ha hx (DU ((AD b).trans hg) hk ht hc)
theorem ME {t:TypeId} {a:Operand} {k b off:Nat} {v:AV} {cs:List AV} {e:TypeId} {part:Bool} (ho:o.op= .load t a) (h1:j_ E t=some false) (h2:an E t=some k) (ha:Cg a l=some (.Z b off))
 (hg:eL b hl=some (.J cs e part)) (hv:cs[off]?=some v):ZU E o fr l (Y9 n bd lg hl) v (Y9 n bd lg hl):=
 Bs ho ha (A4 h1 h2 ((AD b).trans hg) hv)
theorem Vb {t:TypeId} {a:Operand} {k b off:Nat} {cs:List AV} {e:TypeId} {part:Bool} (ho:o.op= .load t a) (h1:j_ E t=some true) (h2:an E t=some k) (ha:Cg a l=some (.Z b off))
 (hg:eL b hl=some (.J cs e part)) (hk:off+k<=cs.length):ZU E o fr l (Y9 n bd lg hl) (.agg ((cs.drop off).take k)) (Y9 n bd lg hl):=
 Bs ho ha (AS h1 h2 ((AD b).trans hg) hk)
theorem AL {t e:TypeId} {len sz:Nat} {parts:Array (Nat×Operand)} {z:AV} {ps:List (Nat×AV)} {cs:List AV} (m:Nat) (ho:o.op= .buildSlice t (len+1) parts) (hu:CS E t=some (.slice e)) (hs:an E e=some sz) (hz:i_ E e=some z)
 (hk:(Nat.beq (ZA z.u) sz&&Nat.ble ((len+1)*sz) 16777216&& !(Nat.beq sz 0))=true) (hq:lO parts.toList l=some ps) (hf:eJ (fun i=>some (i*sz,sz)) ps (bp z.u (len+1))=some cs) (hm:n+1=m):
 ZU E o fr l (Y9 n bd lg hl) (.slice n 0 (len+1) sz (some (len+1))) (Y9 m bd lg ((n,some (.J cs e false))::hl)):=by
 subst hm;exact Bv ho hu hs hz hk hq hf
theorem Gh {t k e:TypeId} (m:Nat) (ho:o.op= .makeMap t none) (hu:CS E t=some (.map k e)) (hm:n+1=m):ZU E o fr l (Y9 n bd lg hl) (.H_ n) (Y9 m bd lg ((n,some (.O [] 0))::hl)):=by
 subst hm;exact D5 ho hu
theorem Av {t yt:TypeId} {x y:Operand} {a b:List UInt8} (ho:o.op= .binOp .add t x y yt) (hu:CS E t=some .string) (hx:Cg x l=some (.J a)) (hy:Cg y l=some (.J b)) (h:a.length+b.length<=4294967296):Zm E o l (.J (a++b)):=
 Bx ho hu rfl hx hy (by
  simp only[BV];rw[Qd h];rfl)
theorem Nu {f:FuncId} {v w:AV} {ks:List Nat} {st:St} (hf:E.e f=1) (CU:st.c=[]) (hb:st.b=0) (h:CW st 0 40 v []=some (w,ks)) (hu:Cw 0 40 w=true):k_ E f S0 v st=some (.same w):=by
 unfold k_ frozen;rw[hf,CU];simp only;show((YE 0 v st).bind _)=_;unfold YE;rw[h];simp only[Qe,bh];have hk:(r1 st ks).c=[]:=(Jc (s:=st) (ks:=ks) fun b _=>by rw[hb];exact Qo _).trans CU;rw[hk];show some (bif Cw 0 40 w then _ else _)=_;rw[hu];rfl
theorem Bt {f:FuncId} {fn:Func} {c:Code} {args:List AV} {v:AV} {rs:List ResultVar} {fr:Fr} {l0:Sl} (hz:E.e f=1) (hm:E.d f args=none) (hf:E.a.u f=some fn) (hc:fn.body=some c) (hr:fn.results.toList=rs)
 (cI:frame fn.ntmps args none=fr) (hl:bV 0 args []=l0)
 (h:CA E c fr l0 (Y9 0 0 [] []) fun ex fr l st=>(ex= .Z\/ex= .J)/\fr.defers=[]/\st.c=[]/\st.b=0/\∃vs w ks,CO E st l rs=some vs/\CW st 0 40 (eT vs) []=some (w,ks)/\Cw 0 40 w=true/\w=v):Cj E f args S0 v:=
 IC hm hf hc hr cI hl (CA.mono (s:=S0.u) h fun ex fr l st ⟨h1,h2,h3,h4,vs,w,ks,h5,h6,h7,h8⟩=>⟨h1,st,by rw[h2];rfl,vs,h5,by rw[<-h8];exact Nu hz h3 h4 h6 h7⟩)
theorem O3 {a t k b:Nat} {rs:List ResultVar} {vs cs:List AV} {e:TypeId} {part:Bool} (hp:e_ a l=some (.Z b 0)) (h1:j_ E t=some true) (h2:an E t=some k) (hg:eL b hl=some (.J cs e part)) (hk:k<=cs.length)
 (h:CO E (Y9 n bd lg hl) l rs=some vs):CO E (Y9 n bd lg hl) l (.cell a t::rs)=some (.agg (cs.take k)::vs):=by
 have hv:Zd E t (Y9 n bd lg hl) (.Z b 0)=some (.agg ((cs.drop 0).take k)):=AS h1 h2 ((AD b).trans hg) (by omega);unfold CO;rw[hp];simp only[Qe,hv,h];rfl
theorem O4 {a t k b:Nat} {rs:List ResultVar} {vs cs:List AV} {v:AV} {e:TypeId} {part:Bool} (hp:e_ a l=some (.Z b 0)) (h1:j_ E t=some false) (h2:an E t=some k) (hg:eL b hl=some (.J cs e part)) (hk:cs[0]?=some v)
 (h:CO E (Y9 n bd lg hl) l rs=some vs):CO E (Y9 n bd lg hl) l (.cell a t::rs)=some (v::vs):=by
 have hv:Zd E t (Y9 n bd lg hl) (.Z b 0)=some v:=A4 h1 h2 ((AD b).trans hg) hk;unfold CO;rw[hp];simp only[Qe,hv,h]
variable {all rest : List Oper} {i : Nat} {js : List Nat} {nl : YI} {K : Sl -> St -> Prop} {od : Option Nat}
theorem Ad {KN:PN} {t:TypeId} {a:Operand} {k b off:Nat} {v:AV} {cs:List AV} {e:TypeId} {part:Bool} (ho:o.op= .load t a) (h1:j_ E t=some false) (h2:an E t=some k) (ha:Cg a (Yn (b_ o.op.operands.toList) l)=some (.Z b off))
 (hg:eL b hl=some (.J cs e part)) (hv:cs[off]?=some v) (hc:Zp (Yt all i) b nl=true) (sj:Yv all l o) (hd:o.dst=od) (C8:YW fr.nt od=true)
 (h:CF E KN all rest (i+1) fr (ZC od v l) (Y9 n bd lg hl) (i::js) nl K):CF E KN all (o::rest) i fr l (Y9 n bd lg hl) js nl K:=
 AI ho ha (A4 h1 h2 ((AD b).trans hg) hv) hc sj hd C8 h
theorem A9 {KN:PN} {t:TypeId} {a:Operand} {k b off:Nat} {cs:List AV} {e:TypeId} {part:Bool} (ho:o.op= .load t a) (h1:j_ E t=some true) (h2:an E t=some k) (ha:Cg a (Yn (b_ o.op.operands.toList) l)=some (.Z b off))
 (hg:eL b hl=some (.J cs e part)) (hk:off+k<=cs.length) (hc:Zp (Yt all i) b nl=true) (sj:Yv all l o) (hd:o.dst=od) (C8:YW fr.nt od=true)
 (h:CF E KN all rest (i+1) fr (ZC od (.agg ((cs.drop off).take k)) l) (Y9 n bd lg hl) (i::js) nl K):CF E KN all (o::rest) i fr l (Y9 n bd lg hl) js nl K:=
 AI ho ha (AS h1 h2 ((AD b).trans hg) hk) hc sj hd C8 h
end
theorem HW {E:a_} {o:Oper} {l:Sl} {src dst:TypeId} {x:Operand} {j kx:IntKind} {n:Int} (ho:o.op= .convert src dst x) (hs:CS E src=some (.int j)) (hd:CS E dst=some (.int .i64)) (hx:Cg x l=some (.int kx n)) (h: -9223372036854775808<=n/\n<9223372036854775808):Zm E o l (.int .i64 n):=by
 have:=F7 (E:=E) (l:=l) ho hs hd hx;rwa[Gk h.1 h.2]at this
theorem MF {E:a_} {fr:Fr} {l:Sl} {s:St} {Q:Ex->Fr->Sl->St->Prop} {x:Operand} {a b:Code} {t:Bool} (hx:Cg x l=some (.bool t)) (ht:t=true) (h:CA E a fr l s Q):CA E (.cond x a b) fr l s Q:=
 HZ hx (fun _=>h) fun h0=>by rw[ht]at h0;cases h0
theorem MG {E:a_} {fr:Fr} {l:Sl} {s:St} {Q:Ex->Fr->Sl->St->Prop} {x:Operand} {a b:Code} {t:Bool} (hx:Cg x l=some (.bool t)) (ht:t=false) (h:CA E b fr l s Q):CA E (.cond x a b) fr l s Q:=
 HZ hx (fun h0=>by rw[ht]at h0;cases h0) fun _=>h
theorem Ax {b:Bool} {x y:Prop} (hb:b=true) (h:x):cond b x y:=by subst hb;exact h
theorem nT {p:Prop} [Decidable p] (h:(!decide p)=true):¬p:=by simpa using h
theorem nF {p:Prop} [Decidable p] (h:(!decide p)=false):p:=by simpa using h
theorem bT {a b:List UInt8} (h:CK a b=true):a=b:=of_decide_eq_true (AY.symm.trans h)
theorem bF {a b:List UInt8} (h:CK a b=false):a≠b:=of_decide_eq_false (AY.symm.trans h)
theorem sv {b:Bool} (h:(!b)=true):b=false:=by simpa using h
theorem sw {b:Bool} (h:(!b)=false):b=true:=by simpa using h
section
variable (E : a_)
def Zx (f:FuncId) (rs:List ResultVar) (s0:St) (R:AV->St->Prop) (ex:Ex) (fr:Fr) (l:Sl) (st:St):Prop:=
 (ex= .Z\/ex= .J)/\∃Zy,bS fr.defers st=some Zy/\∃vs,CO E Zy l rs=some vs/\∃cr,k_ E f s0 (eT vs) Zy=some cr/\match cr with
  | .same v=>R v s0
  | .J v s'=>R v s'
  | .O _ _=>False
def YG (f:FuncId) (args:List AV) (s:St) (R RP:AV->St->Prop):Prop:=
 ∃N cr,(∀n,N<=n->Y8 E (ev E n) f args s=some cr)/\match cr with
  | .same v=>R v s
  | .J v s'=>R v s'
  | .O v s'=>RP v s'
def lS (f:FuncId) (rs:List ResultVar) (s0:St) (R RP:AV->St->Prop) (ex:Ex) (fr:Fr) (l:Sl) (st:St):Prop:=match ex with
 | .O v=>fr.defers=[]/\RP v (s0.M st)
 |ex=>Zx E f rs s0 R ex fr l st
end
section
variable {E : a_} {fr ZN : Fr} {l l' : Sl} {o : Oper} {n m bd : Nat} {lg oD : List Nat} {hl ck : Hl} {all rest : List Oper} {K : Sl -> St -> Prop} {f : FuncId} {rs : List ResultVar} {R : AV -> St -> Prop} {ex : Ex}
theorem KT {s:St} {args:List AV} {RP:AV->St->Prop} (h:CD E f args s R):YG E f args s R RP:=by
 obtain⟨N,cr,h1,h2⟩:=h;refine⟨N,cr,h1,?_⟩;cases cr with
 |same v=>exact h2
 |J v s'=>exact h2
 |O v s'=>exact h2.elim
theorem YG.mono {s:St} {args:List AV} {RP R' RP':AV->St->Prop} (h:YG E f args s R RP) (h1:∀v s,R v s->R' v s) (h2:∀v s,RP v s->RP' v s):YG E f args s R' RP':=by
 obtain⟨N,cr,h0,h⟩:=h;refine⟨N,cr,h0,?_⟩;cases cr with
 |same v=>exact h1 _ _ h
 |J v s'=>exact h1 _ _ h
 |O v s'=>exact h2 _ _ h
theorem YG.gen {s:St} {fn:Func} {c:Code} {args:List AV} {RP:AV->St->Prop} {tW:Fr} {l0:Sl} (hm:E.d f args=none) (hf:E.a.u f=some fn) (hc:fn.body=some c) (hr:fn.results.toList=rs)
 (cI:frame fn.ntmps args none=tW) (hl:bV 0 args []=l0) (h:CA E c tW l0 s.u (lS E f rs s R RP)):YG E f args s R RP:=by
 subst cI hl hr;obtain⟨N,ex,ZN,l',T',s',hq,dU,gD⟩:=h _ (BZ args 0 (k8.nil .J));have key:∀ {m:Option AV} {Zy:St} {cr:CR},gu ex=some m->(∀n,x_ E (ev E n) ZN.defers m s'=some (m,Zy))->r9 E f fn s T' m Zy=some cr->∀n,N+1<=n->Y8 E (ev E n) f args s=some cr:=by
  intro m Zy cr kQ hu he n hn;obtain⟨k,rfl⟩:∃k,n=k+1:=⟨n-1,by omega⟩
  unfold Y8;rw[hm];simp only[hf,hc,Qe];rw[Ea,gD k (by omega)];show ZF E (ev E (k+1)) f fn s ⟨ex,ZN,T',s'⟩=_;unfold ZF;simp only[kQ,Qe,hu,he]
 have val:Zx E f fn.results.toList s R ex ZN l' s'->YG E f args s R RP:=fun⟨hex,Zy,hu,vs,Zh,cr,ss,hR⟩=>
  KT ⟨N+1,cr,key (by rcases hex with h|h<;>rw[h]<;>rfl) (fun n=>EE hu) (by simp only[r9,BG dU Zh,Qe,ss]),hR⟩
 cases ex with
 |O v=>
  obtain⟨hd,hp⟩:=hq;exact⟨N+1,.O v (s.M s'),key U (fun n=>by rw[hd];rfl) U,hp⟩
 |J=>exact val hq
 |Z=>exact val hq
 |G' i=>exact val hq
theorem YG.inl {fn:Func} {cb:Code} {args:List AV} {tW:Fr} {l0:Sl} {RP:AV->St->Prop} (hm:E.d f args=none) (hf:E.a.u f=some fn) (rZ:fn.body=some cb) (hr:fn.results.toList=rs) (cI:frame fn.ntmps args none=tW) (je:bV 0 args []=l0)
 (h:CA E cb tW l0 (Y9 n n [] hl) (lS E f rs (Y9 n bd lg hl) R RP)):YG E f args (Y9 n bd lg hl) R RP:=
 YG.gen hm hf rZ hr cI je h
theorem AC {s0 st:St} {RP:AV->St->Prop} (h:Zx E f rs s0 R .Z fr l st):lS E f rs s0 R RP .Z fr l st:=h
theorem lS.nm {s0 st:St} {RP:AV->St->Prop} (h:Zx E f rs s0 R .J fr l st):lS E f rs s0 R RP .J fr l st:=h
theorem TB {KP:AV->Sl->St->Prop} {s:St} {d:Nat} (hg:o.guard=none) (hd:o.dst=some d) (C8:Nat.blt d fr.nt=true)
 (h:∀T,k8 l T->(∃v s',nU E o fr T s v s'/\CC E KP all rest fr ((d,v)::l) s' K)\/∃v s',KP v l s'/\∃N,∀n,N<=n->∀k:td,(Z0 E (ZW E o.type o.op) k).run (ev E n) fr T s= .one ⟨.O v,fr,T,s'⟩):CC E KP all (o::rest) fr l s K:=by
 intro T hT;rcases h T hT with⟨v,s',ho,h⟩|⟨v,s',hk,N,hN⟩
 .obtain⟨N,ho⟩:=ho;obtain⟨M,ex,l',T',s2,hk,dU,hr⟩:=h _ (hT.put d v);refine⟨max N M,ex,l',T',s2,hk,dU,fun n hn=>?_⟩;show(da E all o (bD o.dst (cy E all rest))).run (ev E n) fr T s=_;unfold da q_;rw[hg];simp only;rw[ho n (by omega),BW _ _ (by rw[hd];exact C8),hd];exact hr n (by omega)
 .refine⟨N,.O v,l,T,s',hk,hT,fun n hn=>?_⟩;show(da E all o (bD o.dst (cy E all rest))).run (ev E n) fr T s=_;unfold da q_;rw[hg];exact hN n hn _
theorem CC.raise {KP:AV->Sl->St->Prop} {s:St} {x:Operand} {t:TypeId} {v:AV} (ho:o.op= .panic x) (hx:Cg x l=some (.H' t v)) (hg:o.guard=none) (h:KP (.H' t v) l s):CC E KP all (o::rest) fr l s K:=by
 intro T hT;refine⟨0,.O (.H' t v),l,T,s,h,hT,fun n _=>?_⟩;show(da E all o (bD o.dst (cy E all rest))).run (ev E n) fr T s=_;unfold da q_;rw[hg,ho];show ZR (fun v=> .one ⟨.O v,fr,T,s⟩) ((Ch E x T).bind rQ)=_;rw[Ae hT hx];rfl
theorem XY {KP:AV->Sl->St->Prop} {s:St} {d:Nat} {F:Tr AV->St->Option (FuncId×List AV)} {g:FuncId} {args:List AV} (aY:ZW E o.type o.op= .H_ F) (hF:∀T,k8 l T->F T s=some (g,args)) (hg:o.guard=none) (hd:o.dst=some d) (C8:Nat.blt d fr.nt=true)
 (h:YG E g args s (fun v s'=>CC E KP all rest fr ((d,v)::l) s' K) fun v s'=>KP v l s'):CC E KP all (o::rest) fr l s K:=by
 obtain⟨N,cr,hr,hm⟩:=h;refine TB hg hd C8 fun T hT=>?_;have key:∀n,N<=n->∀k:td,(Z0 E (ZW E o.type o.op) k).run (ev E n) fr T s=ZB fr T s (k.run (ev E n) fr T) (some cr):=fun n hn k=>by grind [Z0,ZW,ev]
 cases cr with
 |same v=>exact .inl ⟨v,s,⟨N,key⟩,hm⟩
 |J v s'=>exact .inl ⟨v,s',⟨N,key⟩,hm⟩
 |O v s'=>exact .inr ⟨v,s',hm,N,key⟩
theorem MC {KP:AV->Sl->St->Prop} {s:St} {d:Nat} {F:Tr AV->Option AV} {A:Tr AV->Option (List AV)} {g:FuncId} {first captured args:List AV} (aY:ZW E o.type o.op= .dN F A) (hF:∀T,k8 l T->F T=some (.G' (.func g) first captured)) (hA:∀T,k8 l T->A T=some args) (hb:CI E g=true)
 (hg:o.guard=none) (hd:o.dst=some d) (C8:Nat.blt d fr.nt=true) (h:YG E g (first++args++captured) s (fun v s'=>CC E KP all rest fr ((d,v)::l) s' K) fun v s'=>KP v l s'):CC E KP all (o::rest) fr l s K:=by
 obtain⟨N,cr,hr,hm⟩:=h;refine TB hg hd C8 fun T hT=>?_;have key:∀n,N<=n->∀k:td,(Z0 E (ZW E o.type o.op) k).run (ev E n) fr T s=ZB fr T s (k.run (ev E n) fr T) (some cr):=fun n hn k=>by grind [aj,Z0,ZW,ev]
 cases cr with
 |same v=>exact .inl ⟨v,s,⟨N,key⟩,hm⟩
 |J v s'=>exact .inl ⟨v,s',⟨N,key⟩,hm⟩
 |O v s'=>exact .inr ⟨v,s',hm,N,key⟩
theorem Bk {KP:AV->Sl->St->Prop} {s:St} {c:Call} {args:List AV} {d:Nat} (ho:o.op= .call c) (hc:c.callee= .value (.func f)) (hb:CI E f=true) (ha:Za c.args.toList l=some args) (hg:o.guard=none) (hd:o.dst=some d)
 (C8:Nat.blt d fr.nt=true) (h:YG E f args s (fun v s'=>CC E KP all rest fr ((d,v)::l) s' K) fun v s'=>KP v l s'):CC E KP all (o::rest) fr l s K:=
 XY (F:=fun T _=>(CV E c.args.toList T).bind fun args=>some (f,args)) (by
  rw[ho];show YC E o.type c=_;unfold YC;rw[hc];simp only[hb,cond_true]) (fun T hT=>by rw[AW hT ha];rfl) hg hd C8 h
theorem F6 {KP:AV->Sl->St->Prop} {s:St} {c:Call} {t:Nat} {first captured args xs:List AV} {d:Nat} (hb:CI E f=true) (ho:o.op= .call c) (hc:c.callee= .value (.tmp t)) (hv:e_ t l=some (.G' (.func f) first captured)) (ha:Za c.args.toList l=some args) (hg:o.guard=none) (hd:o.dst=some d)
 (C8:Nat.blt d fr.nt=true) (hx:first++args++captured=xs) (h:YG E f xs s (fun v s'=>CC E KP all rest fr ((d,v)::l) s' K) fun v s'=>KP v l s'):CC E KP all (o::rest) fr l s K:=by
 subst hx;refine MC (F:=Ch E (.tmp t)) (A:=CV E c.args.toList) ?_ (fun T hT=>hT t _ hv) (fun T hT=>AW hT ha) hb hg hd C8 h;rw[ho];show YC E o.type c=_;unfold YC;rw[hc]
theorem YG.unit {s:St} {fn:Func} {c:Code} {args:List AV} {RP:AV->St->Prop} {tW:Fr} {l0:Sl} (hm:E.d f args=none) (hf:E.a.u f=some fn) (hc:fn.body=some c) (hr:fn.results.toList=[])
 (cI:frame fn.ntmps args none=tW) (hl:bV 0 args []=l0) (h:CA E c tW l0 s.u fun ex fr _ st=>match ex with
  | .O v=>fr.defers=[]/\RP v (s.M st)
  |ex=>(ex= .Z\/ex= .J)/\fr.defers=[]/\(st.c=[]->R (.O []) s)/\R (.O []) (s.M st)):YG E f args s R RP:=by
 refine YG.gen hm hf hc hr cI hl (CA.mono h fun ex fr l st hq=>?_);have hfz:frozen E f s (.O []) st=some (.O [],st):=Fw (fun _ _=>rfl) (fun _ e=>by cases e);have val:(ex= .Z\/ex= .J)/\fr.defers=[]/\(st.c=[]->R (.O []) s)/\R (.O []) (s.M st)->Zx E f [] s R ex fr l st:=fun⟨hex,hd,hR0,hR1⟩=>by
  refine⟨hex,st,by rw[hd];rfl,[],U,bh s (.O []) st st.c,?_,?_⟩
  .unfold k_;show(frozen E f s (.O []) st).bind _=_;rw[hfz];rfl
  .unfold bh;cases CU:st.c with
   |nil=>exact hR0 CU
   |cons a b=>exact hR1
 cases ex with
 |O v=>exact hq
 |J=>exact val hq
 |Z=>exact val hq
 |G' i=>exact val hq
theorem AR {KP:AV->Sl->St->Prop} {c:Call} {args:List AV} {d:Nat} {fn:Func} {cb:Code} {tW:Fr} {l0:Sl} (hf:E.a.u f=some fn) (hb:CI E f=true) (ho:o.op= .call c) (hc:c.callee= .value (.func f)) (ha:Za c.args.toList l=some args) (hg:o.guard=none) (hd:o.dst=some d) (C8:Nat.blt d fr.nt=true)
 (hm:E.d f args=none) (rZ:fn.body=some cb) (hr:fn.results.toList=rs) (cI:frame fn.ntmps args none=tW) (je:bV 0 args []=l0)
 (h:CA E cb tW l0 (Y9 n n [] hl) (lS E f rs (Y9 n bd lg hl) (fun v s'=>CC E KP all rest fr ((d,v)::l) s' K) fun v s'=>KP v l s')):CC E KP all (o::rest) fr l (Y9 n bd lg hl) K:=
 Bk ho hc hb ha hg hd C8 (YG.inl hm hf rZ hr cI je h)
theorem XZ {KP:AV->Sl->St->Prop} {s:St} {d:Nat} {F:Tr AV->Option AV} {A:Tr AV->Option (List AV)} {g:FuncId} {first captured args:List AV} (aY:ZW E o.type o.op= .dN F A) (hF:∀T,k8 l T->F T=some (.G' (.func g) first captured)) (hA:∀T,k8 l T->A T=some args) (hb:CI E g=true)
 (hg:o.guard=none) (hd:o.dst=some d) (C8:Nat.blt d fr.nt=true) (h:CD E g (first++args++captured) s fun v s'=>CC E KP all rest fr ((d,v)::l) s' K):CC E KP all (o::rest) fr l s K:=by
 obtain⟨N,cr,hr,hm⟩:=h;refine NQ (fun T hT=>?_) hg hd C8;have key:∀n,N<=n->((F T).bind fun g=>(A T).bind fun args=>aj E (ev E n) args s g)=some cr:=fun n hn=>by
  rw[hF T hT,hA T hT];simp only[Qe,aj,hb,cond_true];exact hr n hn
 cases cr with
 |same v=>exact⟨v,s,⟨N,fun n hn k=>by
  rw[aY];show ZB fr T s (k.run (ev E n) fr T) ((F T).bind fun g=>(A T).bind fun args=>aj E (ev E n) args s g)=_;rw[key n hn];rfl⟩,hm⟩
 |J v s'=>exact⟨v,s',⟨N,fun n hn k=>by
  rw[aY];show ZB fr T s (k.run (ev E n) fr T) ((F T).bind fun g=>(A T).bind fun args=>aj E (ev E n) args s g)=_;rw[key n hn];rfl⟩,hm⟩
 |O _ _=>exact hm.elim
theorem F5 {KP:AV->Sl->St->Prop} {c:Call} {t:Nat} {first captured args xs:List AV} {d:Nat} {fn:Func} {cb:Code} {tW:Fr} {l0:Sl} (hf:E.a.u f=some fn) (hb:CI E f=true) (ho:o.op= .call c) (hc:c.callee= .value (.tmp t)) (hv:e_ t l=some (.G' (.func f) first captured)) (ha:Za c.args.toList l=some args) (hg:o.guard=none) (hd:o.dst=some d)
 (C8:Nat.blt d fr.nt=true) (hx:first++args++captured=xs) (hm:E.d f xs=none) (rZ:fn.body=some cb) (hr:fn.results.toList=rs) (cI:frame fn.ntmps xs none=tW) (je:bV 0 xs []=l0)
 (h:CA E cb tW l0 (Y9 n n [] hl) (lS E f rs (Y9 n bd lg hl) (fun v s'=>CC E KP all rest fr ((d,v)::l) s' K) fun v s'=>KP v l s')):CC E KP all (o::rest) fr l (Y9 n bd lg hl) K:=by
 subst hx;refine MC (F:=Ch E (.tmp t)) (A:=CV E c.args.toList) ?_ (fun T hT=>hT t _ hv) (fun T hT=>AW hT ha) hb hg hd C8 (YG.inl hm hf rZ hr cI je h);rw[ho];show YC E o.type c=_;unfold YC;rw[hc]
theorem Zx.val {vs:List AV} {b:Nat} {lg1 lg2:List Nat} (hd:ZN.defers=[]) (hr:CO E (Y9 m n (b::lg1) ck) l' rs=some vs) (hz:E.e f=1) (Z9:below bd (b::lg1) lg=lg2) (h:R (eT vs) (Y9 m bd lg2 ck)):Zx E f rs (Y9 n bd lg hl) R .Z ZN l' (Y9 m n (b::lg1) ck):=by
 subst Z9;refine⟨.inl U,Y9 m n (b::lg1) ck,by rw[hd];rfl,vs,hr,.J (eT vs) (Y9 m bd (below bd (b::lg1) lg) ck),?_,h⟩;unfold k_ frozen;rw[hz];rfl
theorem Zx.same {vs:List AV} {w:AV} {ks:List Nat} (hd:ZN.defers=[]) (hr:CO E (Y9 m n [] ck) l' rs=some vs) (hz:E.e f=1) (hf:CW (Y9 m n [] ck) n 40 (eT vs) []=some (w,ks)) (u4:ks.all (fun b=>Nat.ble n b)=true) (hu:Cw n 40 w=true)
 (h:R w (Y9 n bd lg hl)):Zx E f rs (Y9 n bd lg hl) R .Z ZN l' (Y9 m n [] ck):=by
 refine⟨.inl U,Y9 m n [] ck,by rw[hd];rfl,vs,hr,.same w,?_,h⟩;unfold k_ frozen;rw[hz];show((YE n (eT vs) (Y9 m n [] ck)).bind _)=_;unfold YE;rw[hf];simp only[Qe,bh];have hk:(r1 (Y9 m n [] ck) ks).c=[]:=Jc (s:=Y9 m n [] ck) (ks:=ks) fun b hb=>Qc (List.all_eq_true.1 u4 b hb);rw[hk];show some (bif Cw n 40 w then _ else _)=_;rw[hu];rfl
def tX:List Nat->Hl->Hl
 | [],hl=>hl
 |b::ks,hl=>tX ks ((b,none)::hl)
theorem SN : ∀ {ks : List Nat} {hl : Hl}, ks.all (fun b => Nat.ble n b) = true -> r1 (Y9 m n [] hl) ks = Y9 m n [] (tX ks hl)
  | [], _, _ => rfl
  | b :: ks, hl, h => by
    rw [List.all_cons, Qf] at h;have hb : Nat.blt b n = false := by
      have := Qc h.1;cases hc : Nat.blt b n with
      | false => rfl
      | true => have h2 : b < n := Qc hc
                omega
    show r1 ((Y9 m n [] hl).B b none) ks = _;have : (Y9 m n [] hl).B b none = Y9 m n [] ((b, none) :: hl) := by
      show St.mk m n (bif Nat.blt b n then _ else _) _ = _;rw [hb]; rfl
    rw [this, SN h.2]; rfl
theorem Zx.new {vs:List AV} {w:AV} {ks:List Nat} (hd:ZN.defers=[]) (hr:CO E (Y9 m n [] ck) l' rs=some vs) (hz:E.e f=1) (hf:CW (Y9 m n [] ck) n 40 (eT vs) []=some (w,ks)) (u4:ks.all (fun b=>Nat.ble n b)=true) (hu:Cw n 40 w=false)
 (h:R w (Y9 m bd lg (tX ks ck))):Zx E f rs (Y9 n bd lg hl) R .Z ZN l' (Y9 m n [] ck):=by
 refine⟨.inl U,Y9 m n [] ck,by rw[hd];rfl,vs,hr,.J w (Y9 m bd lg (tX ks ck)),?_,h⟩;unfold k_ frozen;rw[hz];show((YE n (eT vs) (Y9 m n [] ck)).bind _)=_;unfold YE;rw[hf];simp only[Qe,bh];rw[SN u4];show some (bif Cw n 40 w then _ else CR.J w ((Y9 n bd lg hl).M (Y9 m n [] (tX ks ck))))=_;rw[hu];rfl
theorem Em {st:St} (h:Zx E f rs (Y9 n bd lg hl) R .Z ZN l' st):Zx E f rs (Y9 n bd lg hl) R .J ZN l' st:=⟨.inr rfl,h.2⟩
theorem Ab {a b:Bool} (h:a=b):eT [AV.bool a]=AV.bool b:=by rw[h];rfl
end
section
variable {E : a_} {fr : Fr} {l : Sl} {s : St} {o : Oper}
theorem ZU.look {f:Tr AV->St->Option AV} {v:AV} (aY:ZW E o.type o.op= .I' f) (hv:∀T,k8 l T->f T s=some v):ZU E o fr l s v s:=fun T hT=>⟨0,fun n _ k=>by
 rw[aY];show ZR (fun v=>k.run (ev E n) fr T v s) (f T s)=_;rw[hv T hT];rfl⟩
theorem Zm.same {x:Operand} {v:AV} (aY:ZW E o.type o.op= .O (Ch E x)) (hx:Cg x l=some v):Zm E o l v:=A7 aY fun _ hT=>Ae hT hx
theorem La {x:Operand} {g:AV->Option AV} {a v:AV} (aY:ZW E o.type o.op= .O fun T=>(Ch E x T).bind g) (hx:Cg x l=some a) (hv:g a=some v):Zm E o l v:=A7 aY fun T hT=>by rw[Ae hT hx];exact hv
theorem Q7 {x:Operand} {g:St->AV->Option AV} {a v:AV} (aY:ZW E o.type o.op= .Z (Ch E x) fun T s=>(Ch E x T).bind (g s)) (hx:Cg x l=some a) (hv:g s a=some v):ZU E o fr l s v s:=fun T hT=>
 Gf aY (by rw[Ae hT hx];exact hv)
theorem Ye {f:Tr AV->Option Mk} {v:AV} (aY:ZW E o.type o.op= .make f) (hv:∀T,k8 l T->f T=some (.O v)):Zm E o l v:=by
 refine⟨by rw[aY];rfl,fun T hT=>⟨by rw[aY];rfl,fun ev fr s k=>?_⟩⟩;rw[aY];show rb s (k.run ev fr T) (f T)=_;rw[hv T hT];rfl
theorem IU {x:Operand} {a v:AV} (ho:o.op= .nilCheck x) (hx:Cg x l=some a) (hv:tB a=some v):Zm E o l v:=La (g:=tB) (by rw[ho];rfl) hx hv
theorem Yg {c:Call} {t e:TypeId} {ts:List TypeId} {x:Operand} {a v:AV} (ho:o.op= .call c) (hc:c.callee= .builtin .cap) (ht:c.argTypes.toList=t::ts) (ha:c.args.toList=[x]) (hu:CS E t=some (.slice e)) (hx:Cg x l=some a) (hv:wF a=some v):Zm E o l v:=
 La (g:=wF) (by
  rw[ho];show YC E o.type c=_;unfold YC;rw[hc];simp only;rw[ht,ha];show xZ E t x=_;unfold xZ;rw[hu]) hx hv
theorem Lc {neg:Bool} {t yt e:TypeId} {k:Nat} {x y:Operand} {a b v:AV} (ho:o.op= .binOp (su neg) t x y yt) (hu:CS E t=some (.pointer e)) (hs:an E e=some (k+1)) (hx:Cg x l=some a) (hy:Cg y l=some b)
 (hv:au neg (jz s a b)=some v):ZU E o fr l s v s:=
 ZU.look (f:=fun T s=>(Ch E x T).bind fun a=>(Ch E y T).bind fun b=>au neg (jz s a b)) (by
  rw[ho];show lz E (su neg) t x y=_;rw[NK (by rw[hu];intro k h;cases h) (by rw[hu];intro h;cases h)];unfold eqC;rw[hu];simp only[hs]) fun T hT=>by simp only[Ae hT hx,Ae hT hy,Qe,hv]
theorem Q6 {src dst t:TypeId} {k:Nat} {x:Operand} {a v:AV} (ho:o.op= .convert src dst x) (hs:CS E src=some (.pointer t)) (hd:CS E dst=some .unsafePointer) (hz:an E t=some (k+1)) (hx:Cg x l=some a) (hv:Am.gO s a=some v):ZU E o fr l s v s:=
 Q7 (g:=fun s=>Am.gO s) (by
  rw[ho];show gQ E src dst x=_;unfold gQ;rw[hs,hd];simp only[hz]) hx hv
theorem L6 {src dst u:TypeId} {k:Nat} {x:Operand} {a v:AV} (ho:o.op= .convert src dst x) (hs:CS E src=some .unsafePointer) (hd:CS E dst=some (.pointer u)) (hz:an E u=some (k+1)) (hx:Cg x l=some a) (hv:Am.dR E s u a=some v):ZU E o fr l s v s:=
 Q7 (g:=fun s=>Am.dR E s u) (by
  rw[ho];show gQ E src dst x=_;unfold gQ;rw[hs,hd];simp only[hz]) hx hv
theorem ZU.copy {c:Call} {t e:TypeId} {sz:Nat} {ts:List TypeId} {x y:Operand} {a b v:AV} {p:List AV×Nat} {s':St} (ho:o.op= .call c) (hc:c.callee= .builtin .copy) (ht:c.argTypes.toList=t::ts) (ha:c.args.toList=[x,y]) (hu:CS E t=some (.slice e)) (hs:an E e=some sz)
 (hx:Cg x l=some a) (hy:Cg y l=some b) (hp:YQ s sz b=some p) (hv:copyV s sz p a=some (v,s')):ZU E o fr l s v s':=fun T hT=>
 E6 (b:=false) (x:=Ch E x) (f:=fun T s=>(Ch E x T).bind fun a=>(Ch E y T).bind fun b=>(YQ s sz b).bind fun p=>copyV s sz p a) (by
  rw[ho];show YC E o.type c=_;unfold YC;rw[hc];simp only;rw[ht,ha];show tv E t x y=_;unfold tv;rw[hu];simp only[hs]) (by simp only[Ae hT hx,Ae hT hy,Qe,hp,hv])
theorem Va {t e:TypeId} {x:Operand} {lo hi:Option Operand} {sz:Nat} {zY zZ:Option AV} {a v:AV} (ho:o.op= .slice t x lo hi none) (hu:CS E t=some (.slice e)) (hs:an E e=some sz) (hx:Cg x l=some a) (pq:iU lo l=some zY) (tg:iU hi l=some zZ)
 (hv:YX s sz zY zZ none a=some v):ZU E o fr l s v s:=fun T hT=>
 Gf (x:=Ch E x) (f:=fun T s=>(Ch E x T).bind fun a=>(Zg E lo T).bind fun l=>(Zg E hi T).bind fun h=>(Zg E none T).bind fun m=>YX s sz l h m a) (by
  rw[ho];show fk E t x lo hi none=_;unfold fk;rw[hu];simp only[hs]) (by
  have hm:Zg E none T=some none:=rfl;simp only[Ae hT hx,DA hT pq,DA hT tg,hm,Qe,hv])
end
theorem Du:∀w:List UInt8,(d_ w).length=w.length
 | []=>rfl
 |_::w=>by show(d_ w).length+1=_;rw[Du w];rfl
theorem HR:∀a b:List UInt8,d_ (a++b)=d_ a++d_ b
 | [],_=>rfl
 |c::a,b=>by show _::d_ (a++b)=_::(d_ a++d_ b);rw[HR a b]
theorem EY:∀w:List UInt8,ZE (d_ w)=some w
 | []=>rfl
 |c::w=>by
  show(ZE (d_ w)).bind _=_;rw[EY w];show some (UInt8.ofNat (c.toNat:Int).toNat::w)=_;rw[Int.toNat_natCast,UInt8.ofNat_toNat]
theorem Uy {b c:Nat}:∀ {lg:List Nat},c∈Z7 b lg->c∈lg\/c=b
 | [],h=> .inr (Qp.1 h)
 |d::lg,h=>by
  change c∈(bif Nat.beq b d then d::lg else b::d::lg)at h;cases hb:Nat.beq b d with
  |true=>rw[hb]at h;exact .inl h
  |false=>grind
theorem Ds {s:St} {b c:Nat} {o:Option Cv} (h:c∈(s.B b o).c):c∈s.c\/(c=b/\c<s.b):=by
 have h':c∈(bif Nat.blt b s.b then Z7 b s.c else s.c):=h;cases hb:Nat.blt b s.b with
 |false=>rw[hb]at h';exact .inl h'
 |true=>
  rw[hb]at h';rcases Uy h' with h|h
  .exact .inl h
  .simp_all
theorem DB {n c:Nat}:∀ {L l:List Nat},c∈below n L l->c∈l\/(c∈L/\c<n)
 | [],_,h=> .inl h
 |b::L,l,h=>by
  unfold below at h;cases hb:Nat.blt b n with
  |true=>
   rw[hb]at h;rcases Qk.1 h with h|h
   .simp_all
   .exact(DB h).imp id fun⟨h1,h2⟩=>⟨Qg _ h1,h2⟩
  |false=>
   rw[hb]at h;exact(DB h).imp id fun⟨h1,h2⟩=>⟨Qg _ h1,h2⟩
theorem W8 {b:Nat} {lg:List Nat}:Z7 b lg≠ []:=by
 cases lg with
 |nil=>exact fun h=>by cases h
 |cons c lg=>
  show(bif Nat.beq b c then c::lg else b::c::lg)≠ [];cases Nat.beq b c<;>simp
theorem Gr {s:St} {b:Nat} {o:Option Cv} (h:b<s.b):(s.B b o).c≠ []:=by
 show(bif Nat.blt b s.b then Z7 b s.c else s.c)≠ [];rw[show Nat.blt b s.b=true from Qd h];exact W8
def ig (s:St) (e:TypeId) (v:AV) (w:List UInt8):Prop:=
 (v= .Ca/\w=[])\/(∃b,v= .slice b 0 0 1 (some 0)/\w=[]/\b<s.a/\s.heap.u b=some (.J [] e true))\/
  ∃b,v= .slice b 0 w.length 1 none/\w≠ []/\b<s.a/\s.heap.u b=some (.J (d_ w) e true)
theorem ig.aI {s s':St} {e:TypeId} {v:AV} {w:List UInt8} (h:ig s e v w) (hn:s.a<=s'.a) (hh:∀c,CT c v=true->s'.heap.u c=s.heap.u c):ig s' e v w:=by
 rcases h with h|⟨b,rfl,hw,hb,hg⟩|⟨b,rfl,hw,hb,hg⟩
 .exact .inl h
 .exact .inr (.inl ⟨b,U,hw,by omega,(hh b (Nat.beq_refl b)).trans hg⟩)
 .exact .inr (.inr ⟨b,U,hw,by omega,(hh b (Nat.beq_refl b)).trans hg⟩)
theorem ig.own {s:St} {e:TypeId} {v:AV} {w:List UInt8} (h:ig s e v w) {c:Nat} (hc:CT c v=true):c<s.a:=by
 rcases h with⟨rfl,_⟩|⟨b,rfl,_,hb,_⟩|⟨b,rfl,_,hb,_⟩
 .cases hc
 .have:=Qb (show Nat.beq b c=true from hc);omega
 .have:=Qb (show Nat.beq b c=true from hc);omega
theorem ig.append {s:St} {e:TypeId} {v:AV} {w x:List UInt8} (h:ig s e v w) (en:w.length+x.length<=1099511627776):
 ∃v' s',CJ s e 1 1 (d_ x) x.length v=some (v',s')/\ig s' e v' (w++x)/\s.a<=s'.a/\s'.b=s.b/\(∀c,CT c v'=true->CT c v=true\/c=s.a)/\
  (∀c∈s'.c,c∈s.c\/(c<s.b/\CT c v=true))/\∀c,c<s.a->CT c v=false->s'.heap.u c=s.heap.u c:=by
 cases x with
 |nil=>
  refine⟨v,s,?_,?_,Qj _,rfl,fun c hc=> .inl hc,fun _ h=> .inl h,fun _ _ _=>rfl⟩
  .rcases h with⟨rfl,_⟩|⟨b,rfl,_⟩|⟨b,rfl,_⟩<;>rfl
  .rw[List.append_nil];exact h
 |cons x0 x=>
  have hk:Nat.beq (x0::x).length 0=false:=rfl;have hle:(x0::x).length=x.length+1:=rfl;have uY:∀n:Nat,n<=1099511627776->m_ n 1=true:=fun n hn=>by
   unfold m_;rw[Nat.mul_one,Qd hn];rfl
  have hlen:(d_ (x0::x)).length=(x0::x).length:=Du _;rcases h with⟨rfl,rfl⟩|⟨b,rfl,rfl,hb,hg⟩|⟨b,rfl,hw,hb,hg⟩
  .refine⟨.slice s.a 0 (x0::x).length 1 none,s.A (.J (d_ (x0::x)) e true),?_,.inr (.inr ⟨s.a,U,by simp,Nat.lt_succ_self _,by show(s.heap.A s.a _).u s.a=_;rw[Ap,if_pos rfl];rfl⟩),Nat.le_succ _,U,
    fun c hc=> .inr (Qb (show Nat.beq s.a c=true from hc)).symm,fun _ h=> .inl h,fun c hc _=>by show(s.heap.A s.a _).u c=_;rw[Ap,if_neg (by omega)]⟩
   unfold CJ;simp only[hk,uY _ (show(x0::x).length<=_ by simpa using en),cond_false,cond_true]
  .have b7:mq 1 0 (x0::x).length (some 0) ([]:List AV)=false:=by
    show Nat.ble (0+(x.length+1)) 0=false;rw[Nat.zero_add];rfl
   refine⟨.slice s.a 0 (x0::x).length 1 none,(s.B b none).A (.J (d_ (x0::x)) e true),?_,.inr (.inr ⟨s.a,U,by simp,Nat.lt_succ_self _,by show((s.heap.A b none).A s.a _).u s.a=_;rw[Ap,if_pos rfl];rfl⟩),Nat.le_succ _,U,
    fun c hc=> .inr (Qb (show Nat.beq s.a c=true from hc)).symm,fun c hc=>(Ds (s:=s) (b:=b) (o:=none) hc).imp id fun⟨h1,h2⟩=>⟨h2,by rw[h1];exact Nat.beq_refl b⟩,fun c hc hn=>?_⟩
   .have hd:ab 0 ([]:List AV)=some []:=rfl;have ht:o_ (0*1) ([]:List AV)=some []:=rfl;unfold CJ;simp only[hk,Nat.beq_refl,uY _ (show(x0::x).length<=_ by simpa using en),hg,cond_false,cond_true,Bool.and_self,dg,fp,hd,b7,Qe,Bool.true_or,ht,fo,kY,List.nil_append,Nat.zero_add]
   .have rZ:c≠b:=fun h=>by
     rw[h,show CT b (.slice b 0 0 1 (some 0))=true from Nat.beq_refl b]at hn;cases hn
    show((s.heap.A b none).A s.a _).u c=_;rw[Ap,if_neg (by omega),Ap,if_neg rZ]
  .have hwl:0<w.length:=by cases w with|nil=>exact absurd rfl hw|cons _ _=>simp
   have vO:=Du w;have b7:mq 1 w.length (x0::x).length none (d_ w)=false:=by
    show Nat.ble ((w.length+(x.length+1))*1) (ZA (d_ w))=false;rw[BV,vO,Nat.mul_one];cases hc:Nat.ble (w.length+(x.length+1)) w.length with
    |false=>rfl
    |true=>have:=Qc hc;omega
   refine⟨.slice s.a 0 (w.length+(x0::x).length) 1 none,(s.B b none).A (.J (d_ w++d_ (x0::x)) e true),?_,
    .inr (.inr ⟨s.a,by rw[Qm],by simp,Nat.lt_succ_self _,by show((s.heap.A b none).A s.a _).u s.a=_;rw[Ap,if_pos rfl,HR]⟩),Nat.le_succ _,rfl,
    fun c hc=> .inr (Qb (show Nat.beq s.a c=true from hc)).symm,fun c hc=>(Ds (s:=s) (b:=b) (o:=none) hc).imp id fun⟨h1,h2⟩=>⟨h2,by rw[h1];exact Nat.beq_refl b⟩,fun c hc hn=>?_⟩
   .have hd:ab 0 (d_ w)=some (d_ w):=rfl;have ht:o_ (w.length*1) (d_ w)=some (d_ w):=by rw[Nat.mul_one,Sc (by omega),List.take_of_length_le (by omega)]
    unfold CJ;simp only[hk,Nat.beq_refl,uY _ en,hg,cond_false,cond_true,Bool.and_self,dg,fp,hd,b7,Qe,Bool.true_or,ht,fo,kY]
   .have rZ:c≠b:=fun h=>by
     rw[h,show CT b (.slice b 0 w.length 1 none)=true from Nat.beq_refl b]at hn;cases hn
    show((s.heap.A b none).A s.a _).u c=_;rw[Ap,if_neg (by omega),Ap,if_neg rZ]
theorem ig.text {E:a_} {s:St} {e:TypeId} {v:AV} {w:List UInt8} (h:ig s e v w) (hb:r5 E e=true):∃d s',yd v=some d/\kg s E e w.length d=some (.J w,s')/\s'.a=s.a/\s'.b=s.b/\(∀c∈s'.c,c∈s.c\/(c<s.b/\CT c v=true))/\
 (∀c,CT c v=false->s'.heap.u c=s.heap.u c)/\jb v=some (.int .i64 (w.length:Nat)):=by
 rcases h with⟨rfl,rfl⟩|⟨b,rfl,rfl,iO,hg⟩|⟨b,rfl,hw,iO,hg⟩
 .exact⟨.fJ,s,rfl,rfl,rfl,rfl,fun _ h=> .inl h,fun _ _=>rfl,rfl⟩
 .exact⟨.fJ,s,rfl,rfl,rfl,rfl,fun _ h=> .inl h,fun _ _=>rfl,rfl⟩
 .obtain⟨k,hk⟩:∃k,w.length=k+1:=by cases w with|nil=>exact absurd rfl hw|cons _ t=>exact⟨t.length,rfl⟩
  refine⟨.Z b 0,s.B b none,by rw[hk];rfl,?_,rfl,rfl,fun c hc=>(Ds (s:=s) (b:=b) (o:=none) hc).imp id fun⟨h1,h2⟩=>⟨h2,by rw[h1];exact Nat.beq_refl b⟩,fun c hc=>?_,rfl⟩
  .have hz:Nat.beq w.length 0=false:=by rw[hk];rfl
   show(bif Nat.beq w.length 0 then _ else j4 s E e b 0 w.length (s.heap.u b))=_;rw[hz,hg];show(bif Nat.beq e e&&r5 E e then(y_ (d_ w) 0 w.length).bind _ else _)=_;rw[Nat.beq_refl,hb,FX (by rw[Du];omega),List.drop_zero,List.take_of_length_le (by rw[Du];exact Qj _)];simp only[Bool.and_self,cond_true,Qe,EY]
  .have rZ:c≠b:=fun h=>by
    rw[h,show CT b (.slice b 0 w.length 1 none)=true from Nat.beq_refl b]at hc;cases hc
   show(s.heap.A b none).u c=_;rw[Ap,if_neg rZ]
theorem FN {E:a_} {f:FuncId} {v:AV} {s st:St} (hf:E.e f=1) (hl:st.c≠ []):k_ E f s v st=some (.J v (s.M st)):=by grind [bh,k_,frozen]
theorem AF {s:St} {b c:Nat} {o:Option Cv}:(s.B b o).heap.u c=if c=b then o else s.heap.u c:=Ap ..
structure YS (s s':St) (own:Nat->Prop):Prop where
 a:s.a<=s'.a
 b:s'.b=s.b
 d:∀c∈s'.c,c∈s.c\/(c<s.b/\own c)
 heap:∀c,c<s.a->¬own c->s'.heap.u c=s.heap.u c
theorem YS.trans {s s1 s2:St} {o1 o2 own:Nat->Prop} (h:YS s s1 o1) (h2:YS s1 s2 o2) (e1:∀c,o1 c->own c) (e2:∀c,o2 c->own c\/s.a<=c) (hb:s.b<=s.a):YS s s2 own:=
 ⟨Nat.le_trans h.a h2.a,h2.b.trans h.b,fun c hc=>by
  rcases h2.d c hc with hc|⟨hc,ho⟩
  .exact(h.d c hc).imp id fun⟨a,b⟩=>⟨a,e1 _ b⟩
  .rw[h.b]at hc;rcases e2 c ho with ho|ho
   .exact .inr ⟨hc,ho⟩
   .omega,fun c hc ho=>by
  have h1:¬o2 c:=fun h=>by
   rcases e2 c h with h|h
   .exact ho h
   .omega
  exact(h2.heap c (Nat.lt_of_lt_of_le hc h.a) h1).trans (h.heap c hc fun h=>ho (e1 c h))⟩
theorem YS.A {s st:St} {own:Nat->Prop} (h:YS s.u st own):YS s (s.M st) own:=
 ⟨h.a,rfl,fun c hc=>by
  rcases DB (show c∈below s.b st.c s.c from hc)with hc|⟨hc,C8⟩
  .exact .inl hc
  .rcases h.d c hc with h|⟨_,ho⟩
   .cases h
   .exact .inr ⟨C8,ho⟩,h.heap⟩
theorem YS.B {s:St} {b:Nat} {o:Option Cv}:YS s (s.B b o) (fun c=>c=b):=
 ⟨Qj _,rfl,fun c hc=>(Ds hc).imp id fun⟨h1,h2⟩=>⟨h2,h1⟩,fun c _ ho=>by rw[AF,if_neg ho]⟩
theorem SE {c:Nat}:∀ {n b:Nat},c∈dm b n->b<=c
 |0,_,h=>by cases h
 |n+1,b,h=>by
  rcases Qk.1 h with rfl|h
  .exact Qj _
  .have:=SE h;omega
theorem YS.G {st s2:St} {own:Nat->Prop} (h:YS (st.J st.heap) s2 own):YS st (st.G s2) own:=
 ⟨h.a,rfl,fun c hc=>by
  rcases DB (show c∈below st.b s2.c st.c from hc)with hc|⟨hc,C8⟩
  .exact .inl hc
  .rcases h.d c hc with h1|⟨_,h1⟩
   .cases h1
   .exact .inr ⟨C8,h1⟩,fun c hc ho=>by
  show(Z1 s2.heap (dm st.a (s2.a-st.a)) (Z1 s2.heap s2.c st.heap)).u c=_;rw[BI,if_neg (fun hm=>by have:=SE hm;omega),BI];have:=h.heap c hc ho;by_cases hl:c∈s2.c
  .rw[if_pos hl];exact this
  .rw[if_neg hl]⟩
theorem TD {E:a_} {l:Sl} {o:Oper} {c:Call} {t e:TypeId} {ts:List TypeId} {x:Operand} {a v:AV} (ho:o.op= .call c) (hc:c.callee= .builtin .len) (ht:c.argTypes.toList=t::ts) (ha:c.args.toList=[x]) (hu:CS E t=some (.slice e)) (hx:Cg x l=some a) (hv:Am.jb a=some v):Zm E o l v:=
 La (g:=Am.jb) (by
  rw[ho];show YC E o.type c=_;unfold YC;rw[hc];simp only;rw[ht,ha];show uB E t x=_;unfold uB;rw[hu]) hx hv
theorem YS.I {s:St} {own:Nat->Prop}:YS s s own:=⟨Qj _,rfl,fun _ h=> .inl h,fun _ _ _=>rfl⟩
theorem AQ {E:a_} {f:FuncId} {v:AV} {s st:St} {R:AV->St->Prop} (hf:E.e f=1) (hk:∀n w,CW w n 40 v []=some (v,[])) (hu:∀m,Cw m 40 v=true) (h1:st.c=[]->R v s) (h2:st.c≠ []->R v (s.M st)):
 ∃cr,k_ E f s v st=some cr/\match cr with
  | .same v=>R v s
  | .J v s'=>R v s'
  | .O _ _=>False:=by
 by_cases hl:st.c=[]
 .exact⟨_,Mi hk hu hl,h1 hl⟩
 .exact⟨_,FN hf hl,h2 hl⟩
theorem Aae {Yw b c j:Nat} {nl:YI} (h:b≠c) (hn:Zp Yw b nl=true):Zp Yw b ((j,c)::nl)=true:=by
 unfold Zp at hn|-;rw[List.all_cons,hn,Bool.and_true];cases hb:Nat.beq c b with
 |false=>rfl
 |true=>exact absurd (Qb hb).symm h
theorem KE {Yw b c j:Nat} {nl:YI} (h:Nat.testBit Yw j=true) (hn:Zp Yw b nl=true):Zp Yw b ((j,c)::nl)=true:=by simp_all [List.all_cons,Bool.and_true,Bool.or_true,Zp]
theorem JU {b:Nat}:∀ {lg:List Nat},b∈Z7 b lg
 | []=>Qp.2 rfl
 |c::lg=>by
  show b∈(bif Nat.beq b c then c::lg else b::c::lg);cases hb:Nat.beq b c with
  |true=>rw[Qb hb];exact Qh ..
  |false=>exact Qh ..
theorem Dn {s:St} {b:Nat} {o:Option Cv} (h:b<s.b):b∈(s.B b o).c:=by
 show b∈(bif Nat.blt b s.b then Z7 b s.c else s.c);rw[show Nat.blt b s.b=true from Qd h];exact JU
theorem T6 {n c:Nat}:∀ {L l:List Nat},c∈L->c<n->below n L l≠ []
 |b::L,l,hc,h=>by
  unfold below;cases hb:Nat.blt b n with
  |true=>simp
  |false=>
   rcases Qk.1 hc with rfl|hc
   .rw[show Nat.blt c n=true from Qd h]at hb;cases hb
   .exact T6 hc h
theorem RD {s st:St} {b:Nat} (hb:b∈st.c) (h:b<s.b):(s.M st).c≠ []:=T6 hb h
theorem Ly {E:a_} {l:Sl} {o:Oper} {t e:TypeId} {x i:Operand} {sz k:Nat} {ik:IntKind} {a p:AV} (ho:o.op= .indexAddr t x i) (hu:CS E t=some (.slice e)) (hs:an E e=some (sz+1)) (hx:Cg x l=some a) (hi:Cg i l=some (.int ik (k:Nat))) (hv:Yr (sz+1) k a=some p):Zm E o l p:=
 A7 (f:=fun T=>(Ch E i T).bind fun iv=>(Ze iv).bind fun k=>(Ch E x T).bind (Yr (sz+1) k)) (by
  rw[ho];show ZP E t x i=_;unfold ZP;rw[hu];simp only[hs]) fun T hT=>by
  have h1:Ze (.int ik (k:Nat))=some k:=rfl;simp only[Ae hT hx,Ae hT hi,Qe,h1,hv]
def aJ (s:St) (v:AV) (l:List (List UInt8)):Prop:=
 (v= .Ca/\l=[])\/(∃cl,v= .Ck (l.map .J) l.length 1 cl)\/
  ∃b off cap cs e part,v= .slice b off l.length 1 cap/\b<s.a/\s.heap.u b=some (.J cs e part)/\off+l.length<=cs.length/\(cs.drop off).take l.length=l.map .J/\(∀c,cap=some c->l.length<=c)
theorem aJ.aI {s s':St} {v:AV} {l:List (List UInt8)} (h:aJ s v l) (hn:s.a<=s'.a) (hh:∀c,CT c v=true->s'.heap.u c=s.heap.u c):aJ s' v l:=by
 rcases h with h|h|⟨b,off,cap,cs,e,part,rfl,hb,hg,h1,h2,h3⟩
 .exact .inl h
 .exact .inr (.inl h)
 .exact .inr (.inr ⟨b,off,cap,cs,e,part,U,by omega,(hh b (Nat.beq_refl b)).trans hg,h1,h2,h3⟩)
theorem aJ.own {s:St} {v:AV} {l:List (List UInt8)} (h:aJ s v l) {c:Nat} (hc:CT c v=true):c<s.a:=by
 rcases h with⟨rfl,_⟩|⟨_,rfl⟩|⟨b,off,cap,cs,e,part,rfl,hb,_⟩
 .cases hc
 .cases hc
 .have:=Qb (show Nat.beq b c=true from hc);omega
theorem aJ.len {s:St} {v:AV} {l:List (List UInt8)} (h:aJ s v l):jb v=some (.int .i64 (l.length:Nat)):=by
 rcases h with⟨rfl,rfl⟩|⟨_,rfl⟩|⟨b,off,cap,cs,e,part,rfl,_⟩<;>rfl
theorem aJ.at {E:a_} {s:St} {v:AV} {l:List (List UInt8)} (h:aJ s v l) {i:Nat} (hi:i<l.length) {t:TypeId} (h1:j_ E t=some false) (h2:an E t=some 1):∃p,Yr (0+1) i v=some p/\Zd E t s p=some (.J l[i]):=by
 have C8:Nat.blt i l.length=true:=Qd hi;have hdrop:(l.map AV.J).drop i= .J l[i]::(l.map AV.J).drop (i+1):=by grind [List.drop_eq_getElem_cons]
 rcases h with⟨rfl,rfl⟩|⟨_,rfl⟩|⟨b,off,cap,cs,e,part,rfl,hb,hg,nI,mf,_⟩
 .simp at hi
 .refine⟨.Zu (.J l[i]::(l.map AV.J).drop (i+1)),?_,?_⟩
  .show(bif Nat.blt i l.length then(ab (i*(0+1)) (l.map AV.J)).bind vn else none)=_;rw[C8,Nat.zero_add,Nat.mul_one,HK (by rw[Qn];omega),hdrop];rfl
  .unfold Zd;simp only[h1,h2];rfl
 .refine⟨.Z b (off+i*(0+1)),?_,?_⟩
  .show(bif Nat.blt i l.length then some (AV.Z b (off+i*(0+1)))else none)=_;rw[C8];rfl
  .refine A4 h1 h2 hg ?_;have:((cs.drop off).take l.length)[i]?=some (.J l[i]):=by grind
   rw[List.getElem?_take_of_lt hi,List.getElem?_drop]at this;rw[Nat.zero_add,Nat.mul_one];exact this
theorem aJ.tail {s:St} {v:AV} {a b:List UInt8} {l:List (List UInt8)} (h:aJ s v (a::b::l)):∃v',YX s 1 (some (.int .i64 ((1:Nat):Int))) none none v=some v'/\aJ s v' (b::l)/\(∀c,CT c v'=true->CT c v=true):=by
 rcases h with⟨_,h⟩|⟨cl,rfl⟩|⟨bk,off,cap,cs,e,part,rfl,hb,hg,nI,mf,ek⟩
 .cases h
 .refine⟨.Ck ((b::l).map .J) (b::l).length 1 cl,?_,.inr (.inl ⟨cl,rfl⟩),fun c hc=>by cases hc⟩;have oU:YB (a::b::l).length (a::b::l).length none=some (l.length+2):=rfl;have jA:YB 0 (l.length+2) (some (.int .i64 ((1:Nat):Int)))=some 1:=Eg (by omega);unfold YX;simp only[Nat.beq_refl,cond_true,gT,dZ,oU,jA,Qe];rw[FX (by simp only[Qn,List.length_cons];omega)];simp only[Qe,List.map_cons];rw[show((AV.J a::AV.J b::l.map AV.J).drop (1*1))=AV.J b::l.map AV.J from rfl,List.take_of_length_le (by simp)];rfl
 .have hlen:(a::b::l).length=l.length+2:=rfl;have htl:(cs.drop (off+1)).take (b::l).length=(b::l).map .J:=by
   have h2:(cs.drop off).take ((b::l).length+1)= .J a::(b::l).map .J:=mf;have h3:=congrArg (List.drop 1) h2;rw[List.drop_take,List.drop_drop]at h3;simpa[Nat.add_comm]using h3
  refine⟨.slice bk (off+1*1) (b::l).length 1 (cap.map (· -1)),?_,.inr (.inr ⟨bk,off+1,cap.map (· -1),cs,e,part,rfl,hb,hg,by rw[hlen]at nI;show off+1+(l.length+1)<=_;omega,htl,?_⟩),fun c hc=>hc⟩
  .unfold YX;have YO:Y4 (s.heap.u bk)=some cs:=by rw[hg];rfl
   simp only[Nat.beq_refl,cond_true,YO,Qe,jW];have hm:(a::b::l).length<=gq 1 off (a::b::l).length cap cs:=by
    cases cap with
    |some c=>exact ek c rfl
    |none=>
     rw[show gq 1 off (a::b::l).length none cs=(ZA cs-off)/1 from rfl,BV,Nat.div_one];omega
   have oU:YB (a::b::l).length (gq 1 off (a::b::l).length cap cs) none=some (l.length+2):=rfl;have jA:YB 0 (l.length+2) (some (.int .i64 ((1:Nat):Int)))=some 1:=Eg (by omega);simp only[oU,jA,Qe];unfold F_;cases cap with
   |some c=>
    have hc:=ek c rfl;have:Nat.beq c 1=false:=by
     cases hb:Nat.beq c 1 with
     |false=>rfl
     |true=>have:=Qb hb;rw[hlen]at hc;omega
    simp only[this,cond_false];rfl
   |none=>
    have:Nat.blt 1 (gq 1 off (a::b::l).length none cs)=true:=Qd (by rw[hlen]at hm|-;omega);simp only[this,cond_true];rfl
  .intro c hc;cases cap with
   |none=>cases hc
   |some d=>
    have:=ek d rfl;rw[hlen]at this;simp only[Option.map_some,Option.some.injEq]at hc;show l.length+1<=c;omega
def vW (sep:List UInt8):List (List UInt8)->List UInt8
 | []=>[]
 |a::l=>a++l.flatMap (sep++·)
theorem CA.cut {E:a_} {fr:Fr} {l:Sl} {s:St} {Q:Ex->Fr->Sl->St->Prop} {a b:Code} (l2:Sl) (s2:St) (h1:CA E a fr l s fun ex ZN l' s'=>ex= .J/\ZN=fr/\s'=s2/\∀p∈l2,e_ p.1 l'=some p.2) (h2:CA E b fr l2 s2 Q):CA E (.seq a b) fr l s Q:=
 BT (h1.mono fun ex ZN l' s' ⟨e1,e2,e3,e4⟩=>by
  subst e1 e2 e3;exact CA.sub h2 e4)
def SubL:Sl->Sl->Prop
 | [],_=>True
 |p::r,l=>e_ p.1 l=some p.2/\SubL r l
theorem Ac {l:Sl}:∀ {l':Sl},SubL l' l->∀p∈l',e_ p.1 l=some p.2
 | [],_,_,h=>by cases h
 |q::r,h,p,hp=>by
  rcases Qk.1 hp with rfl|hp
  .exact h.1
  .exact Ac h.2 p hp
theorem NT {E:a_} {l:Sl} {o:Oper} {t yt:TypeId} {x y:Operand} {a b:Nat} (ho:o.op= .binOp .mul t x y yt) (hu:CS E t=some (.int .i64)) (hx:Cg x l=some (.int .i64 (a:Nat))) (hy:Cg y l=some (.int .i64 (b:Nat)))
 (h:a*b<9223372036854775808):Zm E o l (.int .i64 ((a*b:Nat):Int)):=by
 have:=Zm.mul (E:=E) (l:=l) ho hu hx hy (by rw[<-Int.natCast_mul];omega);rwa[<-Int.natCast_mul]at this
theorem Jo {E:a_} {l:Sl} {o:Oper} {t yt:TypeId} {x y:Operand} {a b:Nat} (ho:o.op= .binOp .quo t x y yt) (hu:CS E t=some (.int .i64)) (hx:Cg x l=some (.int .i64 (a:Nat))) (hy:Cg y l=some (.int .i64 (b:Nat)))
 (h:0<b/\a<9223372036854775808):Zm E o l (.int .i64 ((a/b:Nat):Int)):=
 Dv ho hu rfl hx hy (by
  show wB .i64 _ _=_;have hle:a/b<=a:=Nat.div_le_self a b;unfold wB;rw[if_neg (by omega),<-Int.ofNat_tdiv];generalize a/b=q at hle|-;rw[Gk (by omega) (by omega)])
theorem Jn {E:a_} {l:Sl} {o:Oper} {t yt:TypeId} {x y:Operand} {a b:Nat} (ho:o.op= .binOp .rem t x y yt) (hu:CS E t=some (.int .i64)) (hx:Cg x l=some (.int .i64 (a:Nat))) (hy:Cg y l=some (.int .i64 (b:Nat)))
 (h:0<b):Zm E o l (.int .i64 ((a % b:Nat):Int)):=
 Dv ho hu rfl hx hy (by
  show wC .i64 _ _=_;unfold wC;rw[if_neg (by omega),<-Int.ofNat_tmod])
def tw (p:Int->Bool) (w:List UInt8):Nat:=(w.takeWhile fun b=>p b.toNat).length
theorem Vp (p:Int->Bool) (w:List UInt8):tw p w<=w.length:=(List.takeWhile_sublist _).length_le
theorem GV {p:Int->Bool}:∀ {w:List UInt8} {k:Nat},k<=tw p w->k<w.length->(p (w.getD k 0).toNat=true↔k<tw p w)
 |b::w,0,_,_=>by grind [tw,List.takeWhile_cons]
 |b::w,k+1,hk,hw=>by
  cases h:p b.toNat with
  |false=>simp[tw,List.takeWhile_cons,h]at hk
  |true=>
   have e:tw p (b::w)=tw p w+1:=by simp[tw,List.takeWhile_cons,h]
   rw[e]at hk|-;have:=GV (p:=p) (w:=w) (k:=k) (by omega) (by simpa using hw);rw[List.getD_cons_succ,this];omega
theorem CA.st {E:a_} {fr:Fr} {l:Sl} {c:Code} {Q:Ex->Fr->Sl->St->Prop} {s s2:St} (h:s=s2) (hh:CA E c fr l s2 Q):CA E c fr l s Q:=h▸hh
theorem Bu {s:St} {c:Nat} {o:Option Cv} (h:s.b=0):(s.B c o).c=s.c:=by
 show(bif Nat.blt c s.b then _ else s.c)=_;rw[h];rfl
theorem DO {E:a_} {s:St} {l:Sl} {a t k b:Nat} {rs:List ResultVar} {vs cs:List AV} {v:AV} {e:TypeId} {part:Bool} (hp:e_ a l=some (.Z b 0)) (h1:j_ E t=some false) (h2:an E t=some k) (hg:s.heap.u b=some (.J cs e part)) (hk:cs[0]?=some v)
 (h:CO E s l rs=some vs):CO E s l (.cell a t::rs)=some (v::vs):=by
 have hv:Zd E t s (.Z b 0)=some v:=A4 h1 h2 hg hk;unfold CO;rw[hp];simp only[Qe,hv,h]
inductive tU (P:Program):TypeId->List AV->Prop
 |bool {t:TypeId} (h:P.underlying t=some .bool) (b:Bool):tU P t [.bool b]
 |int {t:TypeId} {k:IntKind} {n:Int} (h:P.underlying t=some (.int k)) (hw:(Lit.int k n).wf=true):tU P t [.int k n]
 |J {t:TypeId} (h:P.underlying t=some .string) {w:List UInt8} (hw:w.length<=maxLen):tU P t [.J w]
 |O {t e:TypeId} (h:P.underlying t=some (.slice e)) {ls:List (List AV)} (hn:ls.length<=maxLen) (hl:∀l∈ls,l.length=P.cellsOf e) (hd:∀l∈ls,tU P e l):tU P t [.Ck ls.flatten ls.length (P.cellsOf e) true]
 |Z {t:TypeId} {fs:Array Field} (h:P.underlying t=some (.struct fs)) {ls:List (List AV)} (hl:ls.length=fs.toList.length) (hd:∀(i:Nat) f l,fs.toList[i]?=some f->ls[i]?=some l->tU P f.type l):tU P t ls.flatten
def pZ (P:Program):Nat->List Field->Option Nat
 |off,[]=>some off
 |off,f::fs=>bif Nat.beq f.offset off then pZ P (off+P.cellsOf f.type) fs else none
def Aaf (P:Program) (ts:List TypeId) (t:TypeId):Bool:=
 match P.underlying t with
 |some .bool|some (.int _)|some .string=>true
 |some (.slice e)=>ts.contains e
 |some (.struct fs)=>(fs.toList.all fun f=>ts.contains f.type)&&(match pZ P 0 fs.toList with|some n=>Nat.beq n (P.cellsOf t)|none=>false)
 |_=>false
def Aag (P:Program) (ts:List TypeId):Bool:=ts.all (Aaf P ts)
theorem SF {α β γ:Type} {f:α->Option β} {Q:α->γ->Prop}:∀ {l:List α} {r:List β},l.mapM f=some r->(∀x y,x∈l->f x=some y->∃z,Q x z)->∃zs:List γ,zs.length=l.length/\∀(i:Nat) x z,l[i]?=some x->zs[i]?=some z->Q x z
 | [],_,_,_=>⟨[],rfl,fun i x z h=>by simp at h⟩
 |a::l,r,h,hq=>by
  simp only[List.mapM_cons]at h;obtain⟨y,hy,h⟩:=Qa.1 h;obtain⟨ys,rY,h⟩:=Qa.1 h;obtain⟨z,hz⟩:=hq a y (Qh ..) hy;obtain⟨zs,hl,hzs⟩:=SF rY fun x y hx=>hq x y (Qg _ hx);refine⟨z::zs,by simp[hl],fun i x z' h1 h2=>?_⟩;cases i with
  |zero=>simp at h1 h2;subst h1 h2;exact hz
  |succ i=>exact hzs i x z' (by simpa using h1) (by simpa using h2)
theorem KF {α γ:Type} {Q:α->γ->Prop}:∀ {l:List α},(∀x∈l,∃z,Q x z)->∃zs:List γ,zs.length=l.length/\∀(i:Nat) x z,l[i]?=some x->zs[i]?=some z->Q x z
 | [],_=>⟨[],rfl,fun i x z h=>by simp at h⟩
 |a::l,hq=>by
  obtain⟨z,hz⟩:=hq a (Qh ..);obtain⟨zs,hl,hzs⟩:=KF fun x hx=>hq x (Qg _ hx);refine⟨z::zs,by simp[hl],fun i x z' h1 h2=>?_⟩;cases i with
  |zero=>simp at h1 h2;subst h1 h2;exact hz
  |succ i=>exact hzs i x z' (by simpa using h1) (by simpa using h2)
theorem Aah {α:Type} {ms a b:List α} {off:Nat} (h1:bP ms off a) (h2:bP ms (off+a.length) b):bP ms off (a++b):=by
 obtain⟨p,q,e,hp⟩:=h1;obtain⟨p2,q2,e2,tL⟩:=h2;refine⟨p,q2,?_,hp⟩;have:p2=p++a:=by grind [Qm,List.append_assoc,List.append_inj]
 rw[e2,this];simp[List.append_assoc]
theorem Aai {α:Type} {ms:List α} {off:Nat} (h:off<=ms.length):bP ms off ([]:List α):=⟨ms.take off,ms.drop off,by simp,by simp[h]⟩
section
variable {H : Type} {enc : TypeId × Value -> H} {P : Program} {W : World}
theorem NJ {a:Addr} {k:Nat} {cs:List Value} (h:W.cells? 0 a k=some cs) (hk:0<k):∃ms,(Cx.u W).M a.block=some ms/\a.spot=none/\bP ms a.off cs/\cs.length=k:=by
 unfold World.cells? at h;rw[if_pos (Qo _)]at h;have ZI:∀(l:List Nat) (r:List Value),l.mapM (fun i=>W.cell? (a.add i))=some r->r.length=l.length/\∀(i x:Nat),l[i]?=some x->W.cell? (a.add x)=r[i]?:=by
  intro l;induction l with
  |nil=>intro r h;simp at h;subst h;exact⟨rfl,fun i x h=>by simp at h⟩
  |cons b l ih=>grind [Qa]
 obtain⟨hl,hc⟩:=ZI _ _ h;rw[List.length_range]at hl;have hc':∀i,i<k->W.cell? (a.add i)=cs[i]?:=fun i hi=>hc i i (by simp[hi]);have h0:=hc' 0 hk;rw[Qi (by omega)]at h0;unfold World.cell? at h0;cases hb:W.heap[(a.add 0).block]? with
 |none=>rw[hb]at h0;cases h0
 |some o=>
  rw[hb]at h0;cases o with
  |cells c e fr=>
   simp only at h0;have hsp:a.spot=none:=by
    cases hs:a.spot with
    |none=>rfl
    |some s=>
     rw[show(a.add 0).spot=a.spot from rfl,hs]at h0;simp at h0
   obtain⟨Cr,off,sp⟩:=a;obtain rfl:sp=none:=hsp;have dG:W.heap[Cr]?=some (.cells c e fr):=hb;refine⟨c.toList,by simp only[Cx.u];rw[dG],U,?_,hl⟩;have hcell:∀i,i<k->c.toList[off+i]?=cs[i]?:=fun i hi=>by
    rw[<-hc' i hi,Bh];unfold World.cell?;rw[dG];simp
   have hlen:off+k<=c.toList.length:=by
    have h1:=hcell (k-1) (by omega);rw[Qi (l:=cs) (by omega)]at h1;have:=(List.getElem?_eq_some_iff.1 h1).1;omega
   refine⟨c.toList.take off,c.toList.drop (off+k),?_,by show _=off;rw[List.length_take];omega⟩;have:cs=(c.toList.drop off).take k:=by
    apply List.ext_getElem?;intro i;rcases Nat.lt_or_ge i k with hi|hi
    .grind
    .grind
   rw[this,List.append_assoc,<-List.drop_drop,List.take_append_drop,List.take_append_drop]
  |_=>simp at h0
theorem IP {ms:List Value} {k:Nat}:∀(css:List (List Value)) (off:Nat),(∀l∈css,l.length=k)->(∀(i:Nat) l,css[i]?=some l->bP ms (off+i*k) l)->off<=ms.length->bP ms off css.flatten
 | [],off,_,_,h=>Aai h
 |l::css,off,hl,h,ho=>by
  have h0:=h 0 l rfl;rw[Nat.zero_mul,Nat.add_zero]at h0;have nV:=hl l (Qh ..);rw[List.flatten_cons];refine Aah h0 (IP css _ (fun x hx=>hl x (Qg _ hx)) (fun i x hx=>?_) ?_)
  .have:=h (i+1) x (by simpa using hx);rwa[nV,show off+k+i*k=off+(i+1)*k by rw[Nat.succ_mul];omega]
  .obtain⟨p,q,e,hp⟩:=h0;rw[e,Qm,Qm];omega
theorem Y0.B {C:Cx}:∀ {as:List (List AV)} {xs:List (List Value)},as.length=xs.length->(∀(i:Nat) a x,as[i]?=some a->xs[i]?=some x->Y0 C a x)->Y0 C as.flatten xs.flatten
 | [],[],_,_=> .O
 |a::as,x::xs,hl,h=>by
  rw[List.flatten_cons,List.flatten_cons];exact(h 0 a x U U).A (Y0.B (by simpa using hl) fun i b y h1 h2=>h (i+1) b y (by simpa using h1) (by simpa using h2))
theorem HQ {as:List (List AV)} (h:∀a∈as,h_ a):h_ as.flatten:=fun v hv=>by
 obtain⟨a,ha,yG⟩:=List.mem_flatten.1 hv;exact h a ha v yG
theorem Pe {cs:List Value}:∀ {fs:List Field} {off n:Nat},pZ P off fs=some n->n=cs.length->off<=cs.length->(fs.map fun f=>(cs.drop f.offset).take (P.cellsOf f.type)).flatten=cs.drop off
 | [],off,n,h,hn,_=>by
  cases h;rw[List.map_nil,List.flatten_nil,hn,List.drop_length]
 |f::fs,off,n,h,hn,ho=>by
  unfold pZ at h;cases hb:Nat.beq f.offset off with
  |false=>rw[hb]at h;cases h
  |true=>
   rw[hb,cond_true]at h;have he:f.offset=off:=Qb hb;have hle:∀(fs:List Field) (o n:Nat),pZ P o fs=some n->o<=n:=by
    intro fs;induction fs with
    |nil=>intro o n h;cases h;exact Qj _
    |cons g fs ih=>grind [pZ]
   have:=hle _ _ _ h;rw[List.map_cons,List.flatten_cons,Pe h hn (by omega),he,<-List.drop_drop,List.take_append_drop]
variable {sp : Nat -> Bool} {held : Bool} {ts : List TypeId}
theorem R7 (th:Aag P ts=true):∀(n:Nat) (t:TypeId) (cs:List Value) (x:DataW H×List MemPlace),t∈ts->DataW.trod enc P W 0 sp held n t cs=some x->
 ∃avs,Y0 (Cx.u W).A avs cs/\h_ avs/\tU P t avs
 |0,_,_,_,_,h=>by cases h
 |n+1,t,cs,x,ht,h=>by
  have hd:Aaf P ts t=true:=List.all_eq_true.1 th t ht;unfold Aaf at hd;split at hd
  .next hu=>
   obtain⟨b,rfl,-⟩:=DataW.trod_bool hu h;exact⟨[.bool b],.J (.bool _) .O,by intro v hv;simp at hv;subst hv;rfl,.bool hu b⟩
  .next k hu=>
   obtain⟨z,rfl,-,hw⟩:=DataW.trod_int hu h;exact⟨[.int k z],.J (.int _ _) .O,by intro v hv;simp at hv;subst hv;rfl,.int hu hw⟩
  .next hu=>
   obtain⟨s,rfl,-,hs⟩:=DataW.trod_string hu h;exact⟨[.J s.data.toList],.J (.O U) .O,by intro v hv;simp at hv;subst hv;rfl,.J hu (by simpa using hs)⟩
  .next e hu=>
   have he:e∈ts:=by simpa using hd
   rw[DataW.trod_step]at h;unfold DataW.trodStep at h;rw[hu]at h;split at h<;>first|(cases h;done)|(next heq=>cases heq;done)|(next heq _=>cases heq;done)|skip
   .exact⟨[.Ck [] 0 (P.cellsOf e) true],.J (.Zk none (Nat.zero_mul _) (Qo _)) .O,by intro v hv;simp at hv;subst hv;rfl,tU.O (ls:=[]) hu (Qo _) (by intro l hl;cases hl) (by intro l hl;cases hl)⟩
   .next e' a len cap heq=>
    cases heq;simp only at h;split at h
    .next hg=>
     obtain⟨elems,hel,-⟩:=Qa.1 h;obtain⟨zs,yC,hz⟩:=SF (γ:=List Value×List AV) (Q:=fun i z=>W.cells? 0 (a.add (i*P.cellsOf e)) (P.cellsOf e)=some z.1/\Y0 (Cx.u W).A z.2 z.1/\h_ z.2/\tU P e z.2) hel fun i y _ hy=>by
      obtain⟨c0,hc0,hr⟩:=Qa.1 hy;obtain⟨avs,h1,h2,h3⟩:=R7 th n e c0 y he hr;exact⟨(c0,avs),hc0,h1,h2,h3⟩
     rw[List.length_range]at yC;have hzi:∀(i:Nat) z,zs[i]?=some z->i<len/\W.cells? 0 (a.add (i*P.cellsOf e)) (P.cellsOf e)=some z.1/\Y0 (Cx.u W).A z.2 z.1/\h_ z.2/\tU P e z.2:=fun i z hi=>by
      have C8:=(List.getElem?_eq_some_iff.1 hi).1;exact⟨by omega,hz i i z (by rw[List.getElem?_range (by omega)]) hi⟩
     have bu:∀(i:Nat) z,zs[i]?=some z->z.1.length=P.cellsOf e:=fun i z hi=>by
      have hc:=(hzi i z hi).2.1;by_cases hk:0<P.cellsOf e
      .exact(NJ hc hk).choose_spec.2.2.2
      .have h0:P.cellsOf e=0:=by omega
       rw[h0]at hc|-;unfold World.cells? at hc;rw[if_pos (Qo _)]at hc;simp at hc;rw[hc];rfl
     have uT:∀(i:Nat) z,zs[i]?=some z->z.2.length=P.cellsOf e:=fun i z hi=>by rw[<-bu i z hi,(hzi i z hi).2.2.1.u]
     have po:tU P t [.Ck (zs.map (·.2)).flatten (zs.map (·.2)).length (P.cellsOf e) true]:= .O hu (by rw[Qn];omega) (fun l hl=>by
      obtain⟨z,qN,rfl⟩:=List.mem_map.1 hl;obtain⟨i,hi⟩:=List.mem_iff_getElem?.1 qN;exact uT i z hi) (fun l hl=>by
      obtain⟨z,qN,rfl⟩:=List.mem_map.1 hl;obtain⟨i,hi⟩:=List.mem_iff_getElem?.1 qN;exact(hzi i z hi).2.2.2.2)
     have qA:h_ (zs.map (·.2)).flatten:=HQ fun l hl=>by
      obtain⟨z,qN,rfl⟩:=List.mem_map.1 hl;obtain⟨i,hi⟩:=List.mem_iff_getElem?.1 qN;exact(hzi i z hi).2.2.2.1
     refine⟨_,.J ?_ .O,by intro v hv;simp at hv;subst hv;rfl,po⟩;rw[Qn,yC];have hlen:(zs.map (·.2)).flatten.length=len*P.cellsOf e:=by
      have:∀(l:List (List Value×List AV)),(∀z∈l,z.2.length=P.cellsOf e)->(l.map (·.2)).flatten.length=l.length*P.cellsOf e:=by
       intro l;induction l with
       |nil=>intro _;simp
       |cons b l ih=>grind
      rw[this zs fun z qN=>by
       obtain⟨i,hi⟩:=List.mem_iff_getElem?.1 qN;exact uT i z hi,yC]
     by_cases h0:len*P.cellsOf e=0
     .rw[List.eq_nil_of_length_eq_zero (hlen.trans h0)];exact .Zk _ h0 hg.2.1
     .have hk:0<P.cellsOf e:=Nat.pos_of_ne_zero fun h=>h0 (by rw[h,Nat.mul_zero]);have je:0<len:=Nat.pos_of_ne_zero fun h=>h0 (by rw[h,Nat.zero_mul]);obtain⟨z0,hz0⟩:∃z,zs[0]?=some z:=⟨_,Qi (by omega)⟩
      have hc0:=(hzi 0 z0 hz0).2.1;rw[Nat.zero_mul,show a.add 0=a from rfl]at hc0;obtain⟨ms,hM,hsp,hat0,_⟩:=NJ hc0 hk;obtain⟨Cr,off,spot⟩:=a;obtain rfl:spot=none:=hsp;have hats:∀(i:Nat) l,(zs.map (·.1))[i]?=some l->bP ms (off+i*P.cellsOf e) l:=fun i l hi=>by
       rw[List.getElem?_map]at hi;obtain⟨z,qN,rfl⟩:=Option.map_eq_some_iff.1 hi;have hc:=(hzi i z qN).2.1;rw[Bh]at hc;obtain⟨ms',hM',_,nq,_⟩:=NJ hc hk;rw[show(⟨Cr,off+i*P.cellsOf e,none⟩:Addr).block=Cr from rfl,hM]at hM';cases hM';exact nq
      refine .Ck (vs:=(zs.map (·.1)).flatten) (ms:=ms) hlen hM ?_ ?_ ?_ qA hg.2.1
      .refine IP _ _ (fun l hl=>?_) hats ?_
       .grind [List.mem_iff_getElem?]
       .obtain⟨p,q,e1,hp⟩:=hat0;rw[e1,Qm,Qm];have:p.length=off:=hp;omega
      .refine Y0.B (by simp) fun i b y h1 h2=>?_;rw[List.getElem?_map]at h1 h2;obtain⟨z,qN,rfl⟩:=Option.map_eq_some_iff.1 h1;rw[qN]at h2;cases h2;exact(hzi i z qN).2.2.1
      .intro _;refine Y0.B (by simp) fun i b y h1 h2=>?_;rw[List.getElem?_map]at h1 h2;obtain⟨z,qN,rfl⟩:=Option.map_eq_some_iff.1 h1;rw[qN]at h2;cases h2;exact(hzi i z qN).2.2.1
    .cases h
  .next fs hu=>
   obtain⟨xs,m,hm,-,hlen,xF,hx⟩:=DataW.trod_struct hu h;obtain rfl:n=m:=by omega
   rw[Qf]at hd;obtain⟨zs,yC,hz⟩:=KF (γ:=List AV) (Q:=fun(f:Field) z=>Y0 (Cx.u W).A z ((cs.drop f.offset).take (P.cellsOf f.type))/\h_ z/\tU P f.type z) (l:=fs.toList) fun f hf=>by
    have hft:f.type∈ts:=by grind
    obtain⟨i,hi⟩:=List.mem_iff_getElem?.1 hf;have hi':fs[i]?=some f:=by simpa using hi
    have C8:i<xs.length:=by grind
    have:=hx i f hi';rw[Qi C8]at this;exact R7 th n f.type _ _ hft this
   cases hl:pZ P 0 fs.toList with
   |none=>rw[hl]at hd;cases hd.2
   |some m=>
    rw[hl]at hd;have hm:m=P.cellsOf t:=Qb hd.2;have hp:=Pe (cs:=cs) hl (by omega) (Qo _);rw[List.drop_zero]at hp;refine⟨zs.flatten,?_,HQ fun z qN=>?_,.Z hu yC fun i f l hf mf=>(hz i f l hf mf).2.2⟩
    .grind [Y0.B,Option.map_eq_some_iff]
    .grind [List.mem_iff_getElem?,List.getElem?_eq_some_iff,Qi]
  .cases hd
theorem M9 (th:Aag P ts=true) {t:TypeId} {fs:Array Field} {v:Value} {d:DataW H} {ps:List MemPlace} {r:Reach} {b0:Nat} (ht:ts.contains t=true) (hu:P.underlying t=some (.struct fs)) (hv:Value.okWide P W r b0 t v) (h:DataW.Trod enc P W 0 sp held t v d ps):
 ∃avs,VR (Cx.u W) (.agg avs) v/\tU P t avs:=by
 unfold Value.okWide at hv;rw[hu]at hv;obtain⟨cs,rfl,-,-⟩:=hv;obtain⟨n,hn⟩:=h;obtain⟨avs,h1,h2,h3⟩:=R7 th n t _ _ (by simpa using ht) hn;exact⟨avs,.agg (h1.mono (n_.vB _)) h2,h3⟩
end
section
variable {E : a_} {fr : Fr} {l : Sl} {s : St} {o : Oper}
theorem Q8 {t:TypeId} {x:Operand} {w:List UInt8} (ho:o.op= .range t x) (hu:CS E t=some .string) (hx:Cg x l=some (.J w)):ZU E o fr l s (.Z s.a 0) (s.A (.aD w 0)):=fun T hT=>
 Gg (f:=fun T=>(Ch E x T).bind Am.tz) (by
  rw[ho];show l7 E t x=_;unfold l7;rw[hu]) (by rw[Ae hT hx];rfl)
theorem Io {b pos:Nat} {w:List UInt8} (hg:s.heap.u b=some (.aD w pos)):iF s (.Z b 0)=gW s b (some (.aD w pos)):=by
 show gW s b (s.heap.u b)=_;rw[hg]
theorem ZU.next {it:Operand} {v:AV} {p:AV×St} (ho:o.op= .next it true) (hx:Cg it l=some v) (h:iF s v=some p):ZU E o fr l s p.1 p.2:=fun T hT=>
 E6 (b:=true) (x:=Ch E it) (f:=fun T s=>(Ch E it T).bind (iF s)) (by rw[ho];rfl) (by rw[Ae hT hx,Qe,h])
theorem RN {it:Operand} {b pos:Nat} {w:List UInt8} (ho:o.op= .next it true) (hx:Cg it l=some (.Z b 0)) (hg:s.heap.u b=some (.aD w pos)) (hp:pos=w.length):ZU E o fr l s (.O [.bool false]) s:=by
 subst hp;refine ZU.next (p:=(.O [.bool false],s)) ho hx ?_;rw[Io hg];show(ab w.length w).bind _=_;rw[show ab w.length w=some [] by
  have:=E3 w ([]:List UInt8);rwa[List.append_nil]at this];rfl
theorem NB {α:Type} {l:List α} {k:Nat} {d:α} (h:k<l.length):ab k l=some (l.getD k d::l.drop (k+1)):=by
 have h1:l=l.take k++(l.getD k d::l.drop (k+1)):=by grind [List.getD,Qi,List.drop_eq_getElem_cons,List.take_append_drop]
 have h2:(l.take k).length=k:=by rw[List.length_take];omega
 have:=E3 (l.take k) (l.getD k d::l.drop (k+1));rwa[h2,<-h1]at this
theorem RM {it:Operand} {b pos:Nat} {w:List UInt8} (ho:o.op= .next it true) (hx:Cg it l=some (.Z b 0)) (hg:s.heap.u b=some (.aD w pos)) (hp:pos<w.length) (hc:(w.getD pos 0).toNat<128):
 ZU E o fr l s (.O [.bool true,.int .i64 (pos:Nat),.int .i32 ((w.getD pos 0).toNat:Nat)]) (s.B b (some (.aD w (pos+1)))):=by
 refine ZU.next (p:=(.O [.bool true,.int .i64 (pos:Nat),.int .i32 ((w.getD pos 0).toNat:Nat)],s.B b (some (.aD w (pos+1))))) ho hx ?_;rw[Io hg];show(ab pos w).bind _=_;rw[NB (d:=0) hp];show(bif Nat.blt (w.getD pos 0).toNat 128 then _ else _)=_;rw[show Nat.blt (w.getD pos 0).toNat 128=true from Qd hc];rfl
theorem R6 {s:ByteArray} {i:Nat} (h:128<=(s.get! (i+0)).toNat):128<=(Utf8.decode s i).1:=by
 unfold Utf8.decode;simp only;rw[if_neg (by omega)];have hr:128<=Utf8.runeError:=by decide
 split
 .grind
 .grind
theorem Q9 {b pos:Nat} {w:List UInt8} (hg:s.heap.u b=some (.aD w pos)) (hp:pos<w.length) (hc:¬(w.getD pos 0).toNat<128):
 ∃r d:Nat,128<=r/\∀ {E:a_} {fr:Fr} {l:Sl} {o:Oper} {it:Operand},o.op= .next it true->Cg it l=some (.Z b 0)->ZU E o fr l s (.O [.bool true,.int .i64 (pos:Nat),.int .i32 (r:Nat)]) (s.B b (some (.aD w (pos+d)))):=by
 refine⟨(Utf8.decode ⟨w.toArray⟩ pos).1,(Utf8.decode ⟨w.toArray⟩ pos).2,R6 ?_,fun ho hx=>?_⟩
 .have:(ByteArray.mk w.toArray).get! (pos+0)=w.getD pos 0:=by
   show(w.toArray)[pos+0]! =_;simp[List.getD,hp]
  rw[this];omega
 refine ZU.next (p:=(.O [.bool true,.int .i64 (pos:Nat),.int .i32 ((Utf8.decode ⟨w.toArray⟩ pos).1:Nat)],s.B b (some (.aD w (pos+(Utf8.decode ⟨w.toArray⟩ pos).2))))) ho hx ?_;rw[Io hg];show(ab pos w).bind _=_;rw[NB (d:=0) hp];show(bif Nat.blt (w.getD pos 0).toNat 128 then _ else _)=_;rw[show Nat.blt (w.getD pos 0).toNat 128=false by
  cases hb:Nat.blt (w.getD pos 0).toNat 128 with
  |false=>rfl
  |true=>exact absurd (Qc hb) (by omega)];rfl
theorem NU {n bd:Nat} {lg:List Nat} {hl:Hl} {t:TypeId} {x:Operand} {w:List UInt8} (m:Nat) (ho:o.op= .range t x) (hu:CS E t=some .string) (hx:Cg x l=some (.J w)) (hm:n+1=m):ZU E o fr l (Y9 n bd lg hl) (.Z n 0) (Y9 m bd lg ((n,some (.aD w 0))::hl)):=by
 subst hm;exact Q8 ho hu hx
end
def Cp {α:Type} (enc:α->List AV) (k:Nat) (l:List α):AV:= .Ck (l.flatMap enc) l.length k true
theorem Tj {α:Type} {enc:α->List AV} {k:Nat} (h:∀a,(enc a).length=k):∀l:List α,(l.flatMap enc).length=l.length*k
 | []=>(Nat.zero_mul k).symm
 |a::l=>by rw[List.flatMap_cons,Qm,Tj h l,h a,List.length_cons,Nat.succ_mul,Nat.add_comm]
theorem P4 {α:Type} {enc:α->List AV} {k:Nat} (h:∀a,(enc a).length=k):∀ {l:List α} {i:Nat} (hi:i<l.length),(l.flatMap enc).drop (i*k)=enc l[i]++(l.drop (i+1)).flatMap enc
 |a::l,0,_=>by rw[Nat.zero_mul,List.drop_zero];rfl
 |a::l,i+1,hi=>by
  have ih:=P4 h (l:=l) (i:=i) (by simpa using hi);rw[List.flatMap_cons,show(i+1)*k=(enc a).length+i*k by rw[h a,Nat.succ_mul,Nat.add_comm],List.drop_length_add_append,ih];rfl
theorem A6 {α:Type} {enc:α->List AV} {k:Nat} (h:∀a,(enc a).length=k+1) {l:List α} {i:Nat} (hi:i<l.length):Yr (k+1) i (Cp enc (k+1) l)=some (.Zu (enc l[i]++(l.drop (i+1)).flatMap enc)):=by
 unfold Cp Yr;simp only[show Nat.blt i l.length=true from Qd hi,cond_true];have C8:i*(k+1)<(l.flatMap enc).length:=by rw[Tj h];exact Nat.mul_lt_mul_of_pos_right hi (Nat.succ_pos k)
 have hd:=P4 h hi;have h1:ab (i*(k+1)) (l.flatMap enc)=some ((l.flatMap enc).drop (i*(k+1))):=by
  have:=E3 ((l.flatMap enc).take (i*(k+1))) ((l.flatMap enc).drop (i*(k+1)));rwa[List.take_append_drop,List.length_take,Nat.min_eq_left (by omega)]at this
 rw[h1,hd,Qe];cases he:enc l[i]with
 |nil=>have:=h l[i];rw[he]at this;cases this
 |cons c cs=>rfl
theorem aJ.at2 {E:a_} {s:St} {v:AV} {l:List (List UInt8)} (h:aJ s v l) {i:Nat} (hi:i<l.length) {t:TypeId} (h1:j_ E t=some false) (h2:an E t=some 1):
 (∃rest,Yr (0+1) i v=some (.Zu (.J l[i]::rest)))\/∃b off,Yr (0+1) i v=some (.Z b off)/\Zd E t s (.Z b off)=some (.J l[i]):=by
 obtain⟨p,hp,hl⟩:=h.at hi h1 h2;rcases h with⟨rfl,rfl⟩|⟨cl,rfl⟩|⟨b,off,cap,cs,e,part,rfl,hb,hg,hc⟩
 .simp at hi
 .refine .inl ⟨(l.map AV.J).drop (i+1),?_⟩;unfold Yr;simp only[show Nat.blt i l.length=true from Qd hi,cond_true];rw[show i*(0+1)=i by omega];have h':i<(l.map AV.J).length:=by rw[Qn];exact hi
  have h1:=NB (d:=AV.fJ) h';rw[h1,List.getD,Qi h',Option.getD_some,List.getElem_map];rfl
 .grind [Yr]
section
variable {E : a_} {fr : Fr} {l : Sl} {o : Oper} {all rest : List Oper} {i : Nat} {js : List Nat} {nl : YI} {K : Sl -> St -> Prop} {st : St} {od : Option Nat}
theorem CF.append {KN:PN} {c:Call} {t e:TypeId} {ts:List TypeId} {x y:Operand} {sz CZ n:Nat} {z a b v:AV} {new:List AV} {s2:St} (ho:o.op= .call c) (hc:c.callee= .builtin .append) (ht:c.argTypes.toList=t::ts) (ha:c.args.toList=[x,y])
 (hu:CS E t=some (.slice e)) (af:an E e=some sz) (kO:p_ E e=some CZ) (hz:i_ E e=some z) (hk:(!(Nat.beq (ZA z.u) sz)||Nat.beq sz 0|| !(iD E ts.head?))=false) (h0:aB E ts.head?=false)
 (hx:Cg x (Yn (b_ o.op.operands.toList) l)=some a) (hy:Cg y (Yn (b_ o.op.operands.toList) l)=some b) (hn:YQ (st.J st.heap) sz b=some (new,n)) (hr:CJ (st.J st.heap) e sz CZ new n a=some (v,s2))
 (fB:st.a<=s2.a) (CU:∀b∈s2.c,b<st.a/\Zp (Yt all i) b nl=true) (o9:oC (Yt all i) js=true) (dH:(nl.all fun p=>Nat.testBit (Yt all i) p.1)=true)
 (hg:Yv all l o) (hd:o.dst=od) (C8:YW fr.nt od=true)
 (h:CF E KN all rest (i+1) fr (ZC od v l) (st.G s2) (i::js) (cj i (cj i nl (dm st.a (s2.a-st.a))) s2.c) K):CF E KN all (o::rest) i fr l st js nl K:=
 T9 (x:=Ch E x) (f:=fun T s=>(Ch E x T).bind fun a=>(Ch E y T).bind fun b=>(YQ s sz b).bind fun p=>CJ s e sz CZ p.1 p.2 a) (by
  rw[ho];show YC E o.type c=_;unfold YC;rw[hc];simp only;rw[ht,ha];show iE E t ts.head? x y=_;unfold iE;rw[hu];simp only[af,kO,hz,hk,h0,cond_false]) (ZU.append ho hc ht ha hu af kO hz hk h0 hx hy hn hr) fB CU o9 dH hg hd C8 h
end
theorem Pz {st:St} {e:TypeId} {CZ:Nat} {new:List AV} (hs:m_ new.length CZ=true) (hb:st.b=0):
 ∃v' s2,CJ (st.J st.heap) e 1 CZ new new.length .Ca=some (v',s2)/\st.a<=s2.a/\s2.a<=st.a+1/\s2.c=[]/\c_ (st.G s2) e 1 v' new new.length/\(∀c,CT c v'=true->c=st.a)/\
  (∀c,c<st.a->(st.G s2).heap.u c=st.heap.u c)/\(st.G s2).c=st.c/\(st.G s2).b=0:=by
 cases hn:new with
 |nil=>
  refine⟨.Ca,st.J st.heap,rfl,Qj _,Nat.le_succ _,rfl,.inl ⟨rfl,rfl,rfl⟩,(fun c hc=>by cases hc),fun c hc=>?_,?_,hb⟩
  .show(Z1 _ (dm st.a (st.a-st.a)) st.heap).u c=_;rw[Nat.sub_self];rfl
  .show below st.b [] st.c=_;rfl
 |cons a l=>
  rw[hn]at hs;have hm:((st.J st.heap).A (.J (a::l) e true)).a=st.a+1:=rfl;refine⟨.slice st.a 0 (a::l).length 1 none,(st.J st.heap).A (.J (a::l) e true),?_,Nat.le_succ _,Qj _,rfl,.inr ⟨st.a,rfl,Nat.lt_succ_self _,?_,by omega,by simp⟩,fun c hc=>(Qb hc).symm,fun c hc=>?_,rfl,hb⟩
  .unfold CJ;rw[hs];rfl
  .rw[Gw hm,if_pos (.inl rfl)];show(st.heap.A st.a _).u st.a=_;rw[Ap,if_pos rfl]
  .rw[Gw hm,if_neg (by
    rintro(h|h)
    .omega
    .cases h)]
theorem Lu {s:St} {v:AV} {l:List (List UInt8)} (h:aJ s v l):YQ s 1 v=some (l.map .J,l.length):=by
 rcases h with⟨rfl,rfl⟩|⟨cl,rfl⟩|⟨b,off,cap,cs,e,part,rfl,hb,hg,nI,mf,_⟩
 .rfl
 .show(o_ (l.length*1) (l.map AV.J)).bind _=_;have h1:=EF (l.map AV.J);rw[Qn]at h1;rw[Nat.mul_one,h1];rfl
 .show(Y4 (s.heap.u b)).bind _=_;rw[hg];show(ab off cs).bind _=_;rw[HK (by omega),Qe];have h1:=FF ((cs.drop off).take l.length) ((cs.drop off).drop l.length);rw[List.take_append_drop,mf,Qn]at h1;rw[Nat.mul_one,h1];rfl
section
variable {E : a_} {fr : Fr} {l : Sl} {o : Oper} {all rest : List Oper} {i : Nat} {js : List Nat} {nl : YI} {K : Sl -> St -> Prop} {st : St} {od : Option Nat}
theorem B4 {KN:PN} {t e:TypeId} {len sz:Nat} {parts:Array (Nat×Operand)} {z:AV} {ps:List (Nat×AV)} {cs:List AV} (ho:o.op= .buildSlice t (len+1) parts) (hu:CS E t=some (.slice e)) (hs:an E e=some sz) (hz:i_ E e=some z)
 (hk:(Nat.beq (ZA z.u) sz&&Nat.ble ((len+1)*sz) 16777216&& !(Nat.beq sz 0))=true) (hq:lO parts.toList (Yn (b_ o.op.operands.toList) l)=some ps) (hf:eJ (fun i=>some (i*sz,sz)) ps (bp z.u (len+1))=some cs)
 (hg:Yv all l o) (hd:o.dst=od) (C8:YW fr.nt od=true)
 (h:CF E KN all rest (i+1) fr (ZC od (.slice st.a 0 (len+1) sz (some (len+1))) l) (st.A (.J cs e false)) js ((i,st.a)::nl) K):CF E KN all (o::rest) i fr l st js nl K:=
 KX (f:=fun T=>(fg E parts.toList T).bind fun ps=>ei e sz (len+1) (eJ (fun i=>some (i*sz,sz)) ps (bp z.u (len+1)))) (g:=fun b=> .slice b 0 (len+1) sz (some (len+1))) (by
  rw[ho];show b8 E t (len+1) parts.toList=_;unfold b8;rw[hu];simp only[hs,hz,hk,cond_true]) (fun T hT=>by
  simp only[Hy hT hq,Qe,hf];rfl) hg hd C8 h
end
theorem Eb {Yw b:Nat}:∀ {nl:YI},(nl.all fun p=>Nat.testBit Yw p.1)=true->Zp Yw b nl=true
 | [],_=>rfl
 |(j,c)::nl,h=>by
  rw[List.all_cons,Qf]at h;exact KE h.1 (Eb h.2)
theorem AP {n k:Nat} (h:n*(k+1)<=1099511627776) (hk:k+1<=1048576):m_ n (k+1)=true:=by
 have:n<=n*(k+1):=Nat.le_mul_of_pos_right _ (Nat.succ_pos k);unfold m_;rw[Qd h,Qd (show n<=1099511627776 by omega),Qd hk];rfl
theorem c_.strs {s:St} {e:TypeId} {v:AV} {l:List (List UInt8)} {n:Nat} (h:c_ s e 1 v (l.map .J) n) (hn:n=l.length):aJ s v l:=by
 subst hn;rcases h with⟨rfl,h0,hc⟩|⟨b,rfl,hb,hg,hl,h0⟩
 .exact .inl ⟨U,by simpa using hc⟩
 .exact .inr (.inr ⟨b,0,none,_,_,_,rfl,hb,hg,by rw[Qn];omega,by rw[List.drop_zero,List.take_of_length_le (by rw[Qn];exact Qj _)],fun c hc=>by cases hc⟩)
theorem Jz {Yw i:Nat} {nl:YI} (hi:Nat.testBit Yw i=true) (h:(nl.all fun p=>Nat.testBit Yw p.1)=true):∀L:List Nat,((cj i nl L).all fun p=>Nat.testBit Yw p.1)=true
 | []=>h
 |b::L=>by
  show(Nat.testBit Yw i&&_)=true;rw[hi,Jz hi h L];rfl
theorem T3 {Yw i b:Nat} {nl:YI} (hi:Nat.testBit Yw i=true) (h:(nl.all fun p=>Nat.testBit Yw p.1)=true):(((i,b)::nl).all fun p=>Nat.testBit Yw p.1)=true:=by
 rw[List.all_cons,h,hi];rfl
section
variable {E : a_} {fr : Fr} {l : Sl} {s : St} {all rest : List Oper} {o : Oper}
theorem Ge {KP:AV->Sl->St->Prop} {K:Sl->St->Prop} {j e:Nat} {w b:Bool} {oj:Oper} (hg:o.guard=some (j,w)) (hj:pa all j=some oj) (he:oj.dst=some e) (hl:e_ e l=some (.bool b)) (hb:b=w)
 (h:CC E KP all ({o with guard:=none}::rest) fr l s K):CC E KP all (o::rest) fr l s K:=by
 intro T hT;obtain⟨M,ex,l',T',s2,hk,dU,hr⟩:=h T hT;refine⟨M,ex,l',T',s2,hk,dU,fun n hn=>?_⟩;have hr:=hr n hn;have gD:(da E all {o with guard:=none} (bD o.dst (cy E all rest))).run (ev E n) fr T s=_:=hr;show(da E all o (bD o.dst (cy E all rest))).run (ev E n) fr T s=_;unfold da q_ at gD|-;rw[hg];simp only at gD|-;rw[FD (g:=(j,w)) hj he (hT e _ hl)];have:(bif w then b else !b)=true:=by rw[hb];cases w<;>rfl
 rw[this];simp only[gZ,cond_true];exact gD
theorem Mn {st:St} {ob:Cv} {c:Nat}:(st.A ob).heap.u c=if c=st.a then some ob else st.heap.u c:=Ap ..
theorem A1 {st:St} {ob:Cv}:(st.A ob).heap.u st.a=some ob:=by rw[Mn,if_pos rfl]
theorem Au {st:St} {ob:Cv} {c:Nat} (h:c<st.a):(st.A ob).heap.u c=st.heap.u c:=by rw[Mn,if_neg (Nat.ne_of_lt h)]
theorem YS.u {st:St} {ob:Cv} {own:Nat->Prop}:YS st (st.A ob) own:=
 ⟨Nat.le_succ _,rfl,fun _ h=> .inl h,fun _ hc _=>Au hc⟩
def eM:Nat->List (List UInt8)->List Y2
 |_,[]=>[]
 |k,w::l=>(.J w,.bool true,k)::eM (k+1) l
theorem PH:∀(k:Nat) (l:List (List UInt8)) (w:List UInt8),eM k (l++[w])=eM k l++[(.J w,.bool true,k+l.length)]
 |_,[],_=>rfl
 |k,a::l,w=>by
  show(AV.J a,AV.bool true,k)::eM (k+1) (l++[w])=_;rw[PH (k+1) l w];show _=(AV.J a,AV.bool true,k)::(eM (k+1) l++[(.J w,.bool true,k+(l.length+1))])
  rw[show k+1+l.length=k+(l.length+1) by omega]
theorem Ix (w:List UInt8):∀(k:Nat) (l:List (List UInt8)),∃r,Zl (.one .string) (.J w) (eM k l)=some r/\(r=none↔l.contains w=false)/\j1 false (.bool false) r= .bool (l.contains w)
 |_,[]=>⟨none,rfl,⟨fun _=>rfl,fun _=>rfl⟩,rfl⟩
 |k,a::l=>by
  obtain⟨r,h1,h2,h3⟩:=Ix w (k+1) l;by_cases ha:w=a
  .subst ha;refine⟨some (.J w,.bool true,k),?_,?_,?_⟩
   .show(some (CK w w)).bind _=_;rw[AY,decide_eq_true rfl,Qe,h1];rfl
   .simp
   .simp[j1]
  .refine⟨r,?_,?_,?_⟩
   .show(some (CK w a)).bind _=_;rw[AY,decide_eq_false ha,Qe,h1];rfl
   .rw[h2];simp[ha]
   .rw[h3];simp[ha]
theorem PG {st:St} {b:Nat} {l:List (List UInt8)} {w:List UInt8} {clock:Nat} (hg:st.heap.u b=some (.O (eM 0 l) clock)):cF (.one .string) st false (.bool false) (.H_ b) (.J w)=some (.bool (l.contains w)):=by
 obtain⟨r,h1,_,h3⟩:=Ix w 0 l;show((jy (st.heap.u b)).bind fun es=>(Zl _ _ es).bind fun r=>some (j1 false (.bool false) r))=_;rw[hg];show(Zl _ _ (eM 0 l)).bind _=_;rw[h1,Qe,h3]
theorem Xx {st:St} {b:Nat} {l:List (List UInt8)} {w:List UInt8} (hg:st.heap.u b=some (.O (eM 0 l) l.length)):
 ∃ob,eR (.one .string) st (.J w) (.bool true) (.H_ b)=some (st.B b (some ob))/\(l.contains w=false->ob= .O (eM 0 (l++[w])) (l++[w]).length):=by
 obtain⟨r,h1,h2,h3⟩:=Ix w 0 l;cases r with
 |none=>
  refine⟨_,?_,fun _=>rfl⟩;show gV (.one .string) st b (.J w) (.bool true) (st.heap.u b)=_;rw[hg];show(Zl _ _ (eM 0 l)).bind _=_;rw[h1,Qe];show some (st.B b (some (.O (eM 0 l++[(.J w,.bool true,l.length)]) (l.length+1))))=_;rw[PH,Nat.zero_add,Qm];rfl
 |some e=>
  refine⟨.O (oO (.one .string) (.J w) (.bool true) (eM 0 l)) l.length,?_,fun h=>?_⟩
  .show gV (.one .string) st b (.J w) (.bool true) (st.heap.u b)=_;rw[hg];show(Zl _ _ (eM 0 l)).bind _=_;rw[h1];rfl
  .exact absurd (h2.2 h) (by simp)
end
section
variable {E : a_} {fr : Fr} {l : Sl} {s : St} {all rest : List Oper} {o : Oper} {K : Sl -> St -> Prop}
theorem BN {KP:AV->Sl->St->Prop} {c:Call} {t f:Nat} {first captured args xs:List AV} {d:Nat} (hb:CI E f=true) (ho:o.op= .call c) (hc:c.callee= .value (.tmp t)) (hv:e_ t l=some (.G' (.func f) first captured)) (ha:Za c.args.toList l=some args) (hg:o.guard=none) (hd:o.dst=some d)
 (C8:Nat.blt d fr.nt=true) (hx:first++args++captured=xs) (h:CD E f xs s fun v s'=>CC E KP all rest fr ((d,v)::l) s' K):CC E KP all (o::rest) fr l s K:=by
 subst hx;refine XZ (F:=Ch E (.tmp t)) (A:=CV E c.args.toList) ?_ (fun T hT=>hT t _ hv) (fun T hT=>AW hT ha) hb hg hd C8 h;rw[ho];show YC E o.type c=_;unfold YC;rw[hc]
end
section
variable {E : a_} {fr : Fr} {l : Sl} {st : St} {o : Oper} {all rest : List Oper} {i : Nat} {js : List Nat} {nl : YI} {K : Sl -> St -> Prop} {od : Option Nat}
theorem XX {KN:PN} {v:AV} (hq:aQ (ZW E o.type o.op)=true) (qM:∀T,k8 (Yn (b_ o.op.operands.toList) l) T->ZH (ZW E o.type o.op) T= .all)
 (ho:ZU E o fr (Yn (b_ o.op.operands.toList) l) (st.J st.heap) v (st.J st.heap)) (dH:(nl.all fun p=>Nat.testBit (Yt all i) p.1)=true) (hg:Yv all l o) (hd:o.dst=od) (C8:YW fr.nt od=true)
 (h:CF E KN all rest (i+1) fr (ZC od v l) st (i::js) nl K):CF E KN all (o::rest) i fr l st js nl K:=by
 refine Jl hq (fun T news hn hT=>⟨.inl (Qh ..),?_⟩) (fun j hj=>Qg _ hj) hg hd C8 h;rw[qM T hT];have:YL (Yt all i) news st.heap .all=st.heap:=It dH hn;rw[this];exact Jj (ho T hT)
end
theorem c_.vX {s:St} {e:TypeId} {sz CZ n m:Nat} {v:AV} {cs new:List AV} (h:c_ s e sz v cs n) (cm:new.length=m*sz) (af:0<sz) (en:m_ (n+m) CZ=true):
 ∃v' s',CJ s e sz CZ new m v=some (v',s')/\c_ s' e sz v' (cs++new) (n+m)/\(∀c,CT c v'=true->CT c v=true\/c=s.a)/\s.a<=s'.a/\s'.a<=s.a+1/\s'.b=s.b/\(∀c∈s'.c,c∈s.c\/(c<s.b/\CT c v=true))/\
  ∀c,c<s.a->CT c v=false->s'.heap.u c=s.heap.u c:=by
 by_cases hm:m=0
 .subst hm;have:new=[]:=List.length_eq_zero_iff.1 (by rw[cm,Nat.zero_mul]);subst this;refine⟨v,s,?_,by rw[List.append_nil];exact h,fun c hc=> .inl hc,Qj _,Nat.le_succ _,rfl,fun c hc=> .inl hc,fun c _ _=>rfl⟩;rcases h with⟨rfl,_⟩|⟨b,rfl,_⟩<;>rfl
 have nk:Nat.beq m 0=false:=by grind [Qb]
 rcases h with⟨rfl,rfl,rfl⟩|⟨b,rfl,hb,hg,hl,h0⟩
 .rw[Nat.zero_add]at en|-;refine⟨.slice s.a 0 m sz none,s.A (.J new e true),?_,.inr ⟨s.a,rfl,Nat.lt_succ_self _,?_,by rw[List.nil_append,cm],hm⟩,fun c hc=> .inr (Qb hc).symm,Nat.le_succ _,Qj _,rfl,fun c hc=> .inl hc,fun c hc _=>?_⟩
  .grind [CJ]
  .show(s.heap.A s.a _).u s.a=_;rw[Ap,if_pos rfl,List.nil_append]
  .show(s.heap.A s.a _).u c=_;rw[Ap,if_neg (by omega)]
 .have b7:mq sz n m none cs=false:=by
   show Nat.ble ((n+m)*sz) (ZA cs)=false;rw[BV,hl];have h1:(n+m)*sz=n*sz+m*sz:=Nat.add_mul ..;have h2:0<m*sz:=Nat.mul_pos (Nat.pos_of_ne_zero hm) af;cases hb:Nat.ble ((n+m)*sz) (n*sz)with
   |false=>rfl
   |true=>have:=Qc hb;omega
  refine⟨.slice s.a 0 (n+m) sz none,(s.B b none).A (.J (cs++new) e true),?_,.inr ⟨s.a,rfl,Nat.lt_succ_self _,?_,by rw[Qm,hl,cm,Nat.add_mul],by omega⟩,fun c hc=> .inr (Qb hc).symm,Nat.le_succ _,Qj _,rfl,fun c hc=>?_,fun c hc ho=>?_⟩
  .unfold CJ;simp only[nk,cond_false,Nat.beq_refl,en,Bool.and_self,cond_true,hg,dg,fp];rw[show ab 0 cs=some cs from rfl];simp only[Qe,b7,cond_false,Bool.true_or,cond_true];rw[<-hl,EF];rfl
  .show((s.heap.A b none).A s.a _).u s.a=_;rw[Ap,if_pos rfl]
  .rcases Ds (s:=s) (b:=b) (o:=none) hc with h|⟨rfl,h⟩
   .exact .inl h
   .exact .inr ⟨h,Nat.beq_refl _⟩
  .show((s.heap.A b none).A s.a _).u c=_;have rZ:c≠b:=fun h=>by subst h;rw[show CT c (.slice c 0 n sz none)=true from Nat.beq_refl c]at ho;cases ho
   rw[Ap,if_neg (by omega),Ap,if_neg rZ]
theorem c_.own {s:St} {e:TypeId} {sz n:Nat} {v:AV} {cs:List AV} (h:c_ s e sz v cs n) {c:Nat} (hc:CT c v=true):c<s.a:=by
 rcases h with⟨rfl,_⟩|⟨b,rfl,hb,_⟩
 .cases hc
 .have:=Qb (show Nat.beq b c=true from hc);omega
theorem c_.len {s:St} {e:TypeId} {sz n:Nat} {v:AV} {cs:List AV} (h:c_ s e sz v cs n):jb v=some (.int .i64 (n:Nat)):=by
 rcases h with⟨rfl,rfl,_⟩|⟨b,rfl,_⟩<;>rfl
theorem We {cs:List AV} {n sz:Nat} (h:n≠0):jK cs n sz= .Ck cs n sz true:=by grind [jK,Qb]
theorem c_.ma {s:St} {e:TypeId} {sz n:Nat} {v:AV} {cs:List AV} (h:c_ s e sz v cs n) (hp:cs.all jJ=true) (hc:cs.all (Cm 40)=true) (m:Nat):∃ks,CW s 0 (m+2) v []=some (jK cs n sz,ks):=by
 rcases h with⟨rfl,rfl,rfl⟩|⟨b,rfl,hb,hg,hl,h0⟩
 .exact⟨[],U⟩
 .rw[We h0];refine⟨[b],?_⟩;show(Y4 (s.heap.u b)).bind _=_;rw[hg];show(y_ cs 0 (n*sz)).bind _=_;rw[FX (by omega),List.drop_zero,List.take_of_length_le (by omega)];show(CW.many (CW s 0 (m+1)) cs []).bind _=_;rw[Je hp];show some (AV.Ck _ _ _ (cs.all (Cm 40)),_)=_;rw[hc]
theorem Gb {s:St} {b sz:Nat} {new:List AV} {e:TypeId} {part:Bool} {cap:Option Nat} (hg:s.heap.u b=some (.J new e part)) (cm:new.length=sz):YQ s sz (.slice b 0 1 sz cap)=some (new,1):=by
 show(bif Nat.beq sz sz then(Y4 (s.heap.u b)).bind fun cs=>(ab 0 cs).bind fun l=>(o_ (1*sz) l).bind fun l=>some (l,1)else none)=_;rw[Nat.beq_refl,hg];show(o_ (1*sz) new).bind _=_;rw[Nat.one_mul,<-cm,EF];rfl
section
variable {E : a_} {fr : Fr} {l : Sl} {st : St} {o : Oper} {all rest : List Oper} {i : Nat} {js : List Nat} {nl : YI} {K : Sl -> St -> Prop} {od : Option Nat}
theorem NL {s:St} {cs:List AV} {m sz:Nat} (h:cs.length=m*sz):YQ s sz (jK cs m sz)=some (cs,m):=by
 unfold jK;cases hb:Nat.beq m 0 with
 |true=>
  have:m=0:=Qb hb;subst this;have:cs=[]:=List.length_eq_zero_iff.1 (by rw[h,Nat.zero_mul]);subst this;rfl
 |false=>
  show(bif Nat.beq sz sz then(o_ (m*sz) cs).bind fun l=>some (l,m)else none)=_;rw[Nat.beq_refl,<-h,EF];rfl
theorem NR {KP:AV->Sl->St->Prop} {c:Call} {t e:TypeId} {ts:List TypeId} {x y:Operand} {sz CZ n m d:Nat} {z v:AV} {cs new:List AV} (dy:c_ st e sz v cs n) (hb:st.b=0) (cm:new.length=m*sz) (qH:0<sz) (en:m_ (n+m) CZ=true)
 (ho:o.op= .call c) (hc:c.callee= .builtin .append) (ht:c.argTypes.toList=t::ts) (ha:c.args.toList=[x,y])
 (hu:CS E t=some (.slice e)) (af:an E e=some sz) (kO:p_ E e=some CZ) (hz:i_ E e=some z) (hk:(!(Nat.beq (ZA z.u) sz)||Nat.beq sz 0|| !(iD E ts.head?))=false) (h0:aB E ts.head?=false)
 (hx:Cg x l=some v) (hy:Cg y l=some (jK new m sz)) (hg:o.guard=none) (hd:o.dst=some d) (C8:Nat.blt d fr.nt=true)
 (h:∀v2 ie,c_ ie e sz v2 (cs++new) (n+m)->(∀c,CT c v2=true->CT c v=true\/st.a<=c)->st.a<=ie.a->(∀c,c<st.a->CT c v=false->ie.heap.u c=st.heap.u c)->(∀c∈ie.c,c∈st.c)->ie.b=0->
  CC E KP all rest fr ((d,v2)::l) ie K):CC E KP all (o::rest) fr l st K:=by
 obtain⟨v2,s2,h1,h2,h3,h4,h5,h6,h7,h8⟩:=dy.vX (CZ:=CZ) cm qH en;refine CC.op (ZU.append ho hc ht ha hu af kO hz hk h0 hx hy (NL cm) h1) hg hd C8 (h v2 s2 h2 (fun c hc=>(h3 c hc).imp id fun h=>by omega) h4 h8 (fun c hc=>?_) (h6.trans hb));rcases h7 c hc with h|⟨h,_⟩
 .exact h
 .omega
end
section
variable {E : a_} {fr : Fr} {l : Sl} {st s : St} {o : Oper} {all rest : List Oper} {i : Nat} {js : List Nat} {nl : YI} {K : Sl -> St -> Prop} {od : Option Nat}
end
section
variable {E : a_} {l : Sl} {o : Oper}
theorem Zm.shr {t yt:TypeId} {x y:Operand} {k j:IntKind} {a b:Int} {v:AV} (ho:o.op= .binOp .shr t x y yt) (hu:CS E t=some (.int k)) (hx:Cg x l=some (.int k a)) (hy:Cg y l=some (.int j b)) (hv:wD k a b=some v):Zm E o l v:=
 A7 (f:=fun T=>(Ch E x T).bind fun a=>(Ch E y T).bind fun b=>om wD a b) (by
  rw[ho];show lz E .shr t x y=_;unfold lz;rw[hu];rfl) fun _ hT=>by simp only[Ae hT hx,Ae hT hy,Qe,om,hv]
end
section
variable {E : a_} {fr : Fr} {l : Sl} {s st : St} {o : Oper} {all rest : List Oper} {i : Nat} {js : List Nat} {nl : YI} {K : Sl -> St -> Prop} {od : Option Nat}
end
theorem W1 {st s2:St} (hn:st.a<=s2.a) (Z9:∀c,c<st.a->c∉s2.c->s2.heap.u c=st.heap.u c):∀c,c<s2.a->(st.G s2).heap.u c=s2.heap.u c:=by
 intro c hc;show(Z1 s2.heap (dm st.a (s2.a-st.a)) (Z1 s2.heap s2.c st.heap)).u c=_;rw[BI,BI];by_cases h1:c∈dm st.a (s2.a-st.a)
 .rw[if_pos h1]
 .grind [Ja]
theorem Ff:∀ {rs:List Nat} {s:St},rs.Nodup->(∀r∈rs,s.heap.u r=some (.G' true))->∃s',bS (rs.map fun r=> {a:= .J r,args:=[]}) s=some s'/\s'.a=s.a/\s'.b=s.b/\(s.b=0->s'.c=s.c)/\∀c,c∉rs->s'.heap.u c=s.heap.u c
 | [],s,_,_=>⟨s,rfl,rfl,rfl,fun _=>rfl,fun _ _=>rfl⟩
 |r::rs,s,cW,h=>by
  have hr:=h r (Qh ..);obtain⟨hr1,tO⟩:=List.nodup_cons.1 cW;obtain⟨s',h1,h2,h3,h4,h5⟩:=Ff (rs:=rs) (s:=s.B r (some (.G' false))) tO (fun q hq=>by
   rw[AF,if_neg (show¬q=r from fun e=>hr1 (e▸hq))];exact h q (Qg _ hq))
  refine⟨s',?_,h2,h3,fun hb=>(h4 hb).trans (Bu hb),fun c hc=>?_⟩
  .show(match s.heap.u r with
    |some (.G' true)=>bS (rs.map _) (s.B r (some (.G' false)))
    |_=>none)=_
   rw[hr];exact h1
  .rw[h5 c (fun h=>hc (Qg _ h)),AF,if_neg (show¬c=r from fun e=>hc (e▸Qh ..))]
theorem E1 {n c:Nat}:∀ {L l:List Nat},c∈L->c<n->c∈below n L l
 |b::L,l,h,hn=>by
  show c∈(bif Nat.blt b n then b::below n L l else below n L l);rcases Qk.1 h with rfl|h
  .rw[show Nat.blt c n=true from Qd hn];exact Qh ..
  .cases Nat.blt b n with
   |true=>exact Qg _ (E1 h hn)
   |false=>exact E1 h hn
theorem IB {E:a_} {f:FuncId} {fn:Func} {c:Code} {args:List AV} {v:AV} {rs:List ResultVar} {fr:Fr} {l0:Sl} (hz:E.e f=1) (hm:E.d f args=none) (hf:E.a.u f=some fn) (hc:fn.body=some c) (hr:fn.results.toList=rs)
 (cI:frame fn.ntmps args none=fr) (hl:bV 0 args []=l0)
 (h:CA E c fr l0 (Y9 0 0 [] []) fun ex fr l st=>(ex= .Z\/ex= .J)/\∃Zy,bS fr.defers st=some Zy/\Zy.c=[]/\Zy.b=0/\∃vs w ks,CO E Zy l rs=some vs/\CW Zy 0 40 (eT vs) []=some (w,ks)/\Cw 0 40 w=true/\w=v):Cj E f args S0 v:=
 IC hm hf hc hr cI hl (CA.mono (s:=S0.u) h fun ex fr l st ⟨h1,Zy,h2,h3,h4,vs,w,ks,h5,h6,h7,h8⟩=>⟨h1,Zy,h2,vs,h5,by rw[<-h8];exact Nu hz h3 h4 h6 h7⟩)
theorem ES {E:a_} {f:FuncId} {v:AV} {s st:St} (hf:E.e f=1) (hl:st.c=[]) (hk:CW st s.a 40 v []=some (v,[])) (hu:Cw s.a 40 v=false):k_ E f s v st=some (.J v (s.M st)):=by grind [bh,r1,k_,frozen,YE]
theorem Dz {s:St} {b c:Nat} {o:Option Cv} (h:c∈s.c):c∈(s.B b o).c:=by
 show c∈(bif Nat.blt b s.b then Z7 b s.c else s.c);cases Nat.blt b s.b with
 |false=>exact h
 |true=>
  rw[cond_true];cases hl:s.c with
  |nil=>rw[hl]at h;cases h
  |cons d l=>
   rw[hl]at h;show c∈(bif Nat.beq b d then d::l else b::d::l);cases Nat.beq b d with
   |true=>exact h
   |false=>exact Qg _ h
theorem dT {p:Prop} [Decidable p] (h:decide p=true):p:=of_decide_eq_true h
theorem dF {p:Prop} [Decidable p] (h:decide p=false):¬p:=of_decide_eq_false h
theorem LL {α:Type}:(∀a b:List α,(a++b).length=a.length+b.length)/\(∀(a:α) (b:List α),(a::b).length=b.length+1)/\([]:List α).length=0/\(∀(i:Nat) (b:List α),(b.take i).length=min i b.length)/\∀(i:Nat) (b:List α),(b.drop i).length=b.length-i:=
 ⟨fun _ _=>Qm,fun _ _=>rfl,rfl,fun _ _=>List.length_take,fun _ _=>List.length_drop⟩
theorem t2 {α β:Type} {a a':α} {b b':β} (h:(a,b)=(a',b')):a=a'/\b=b':=by cases h;exact⟨rfl,rfl⟩
section
variable {E : a_} {fr : Fr} {l : Sl} {s : St} {all rest : List Oper} {o : Oper} {K : Sl -> St -> Prop} {Q : Ex -> Fr -> Sl -> St -> Prop} {v : AV} {s' : St} {d : Nat}
theorem Ld {KP:AV->Sl->St->Prop} (h:K l s):CC E KP all [] fr l s K:=CC.done h
theorem Lo {KP:AV->Sl->St->Prop} (ho:ZU E o fr l s v s') (hg:(o.guard,o.dst,Nat.blt d fr.nt)=(none,some d,true)) (h:CC E KP all rest fr ((d,v)::l) s' K):CC E KP all (o::rest) fr l s K:=
 CC.op ho (t2 hg).1 (t2 (t2 hg).2).1 (t2 (t2 hg).2).2 h
theorem Lq {KP:AV->Sl->St->Prop} (ho:Zm E o l v) (hg:(o.guard,o.dst,Nat.blt d fr.nt)=(none,some d,true)) (h:CC E KP all rest fr ((d,v)::l) s K):CC E KP all (o::rest) fr l s K:=
 Lo (Yi ho) hg h
theorem qa {KP:AV->Sl->St->Prop} {x:Operand} (hg:(o.op,Cg x l,o.guard,o.dst,Nat.blt d fr.nt)=(.assign x,some v,none,some d,true)) (h:CC E KP all rest fr ((d,v)::l) s K):CC E KP all (o::rest) fr l s K:=
 Lq (Zm.assign (t2 hg).1 (t2 (t2 hg).2).1) (t2 (t2 hg).2).2 h
theorem qm {KP:AV->Sl->St->Prop} {x:Operand} (hg:(o.op,Cg x l,o.guard,o.dst,Nat.blt d fr.nt)=(.move x,some v,none,some d,true)) (h:CC E KP all rest fr ((d,v)::l) s K):CC E KP all (o::rest) fr l s K:=
 Lq (TC (t2 hg).1 (t2 (t2 hg).2).1) (t2 (t2 hg).2).2 h
theorem o2 {op:BinOp} {t yt:TypeId} {x y:Operand} {k:IntKind} {a b:Int} {f:IntKind->Int->Int->Option AV} (hu:CS E t=some (.int k)) (ho:(o.op,rL op)=(.binOp op t x y yt,some f))
 (hx:(Cg x l,Cg y l,f k a b)=(some (.int k a),some (.int k b),some v)):Zm E o l v:=
 Dv (t2 ho).1 hu (t2 ho).2 (t2 hx).1 (t2 (t2 hx).2).1 (t2 (t2 hx).2).2
theorem of {t:TypeId} {x:Operand} {i off n:Nat} {agg:Bool} {b k:Nat} (hf:de E t i=some (off,n+1,agg)) (ho:(o.op,Cg x l)=(.fieldAddr t x i,some (.Z b k))):Zm E o l (.Z b (k+off)):=
 HV (t2 ho).1 hf (t2 ho).2
theorem oT {c x y:Operand} {b:Bool} (ho:(o.op,Cg c l)=(.pick c x y,some (.bool b))) (hb:b=true) (hx:Cg x l=some v):Zm E o l v:=Q1 (t2 ho).1 (t2 ho).2 hb hx
theorem oF {c x y:Operand} {b:Bool} (ho:(o.op,Cg c l)=(.pick c x y,some (.bool b))) (hb:b=false) (hx:Cg y l=some v):Zm E o l v:=Q3 (t2 ho).1 (t2 ho).2 hb hx
theorem on {t:TypeId} {x:Operand} {b:Bool} (ho:(o.op,Cg x l)=(.unOp .not t x,some (.bool b))):Zm E o l (.bool (!b)):=Yc (t2 ho).1 (t2 ho).2
variable {j e : Nat} {w b : Bool} {oj : Oper}
theorem Lk {KP:AV->Sl->St->Prop} (hg:(o.guard,pa all j,oj.dst,e_ e l,o.dst,Nat.blt d fr.nt)=(some (j,w),some oj,some e,some (.bool b),some d,true)) (hb:b= !w) (h:CC E KP all rest fr ((d,.O [])::l) s K):CC E KP all (o::rest) fr l s K:=
 have h1:=t2 hg;have h2:=t2 h1.2;have h3:=t2 h2.2;have h4:=t2 h3.2;have h5:=t2 h4.2
 KZ h1.1 h2.1 h3.1 h4.1 hb h5.1 h5.2 h
theorem Lg {KP:AV->Sl->St->Prop} (hg:(o.guard,pa all j,oj.dst,e_ e l,o.dst,Nat.blt d fr.nt)=(some (j,w),some oj,some e,some (.bool b),some d,true)) (hb:b=w) (ho:ZU E o fr l s v s') (h:CC E KP all rest fr ((d,v)::l) s' K):CC E KP all (o::rest) fr l s K:=
 have h1:=t2 hg;have h2:=t2 h1.2;have h3:=t2 h2.2;have h4:=t2 h3.2;have h5:=t2 h4.2
 CC.go h1.1 h2.1 h3.1 h4.1 hb ho h5.1 h5.2 h
theorem Lh {KP:AV->Sl->St->Prop} (hg:(o.guard,pa all j,oj.dst,e_ e l,o.dst,Nat.blt d fr.nt)=(some (j,w),some oj,some e,some (.bool b),some d,true)) (hb:b=w) (ho:Zm E o l v) (h:CC E KP all rest fr ((d,v)::l) s K):CC E KP all (o::rest) fr l s K:=
 Lg hg hb (Yi ho) h
theorem Lb {KP:AV->Sl->St->Prop} (hg:(o.guard,pa all j,oj.dst,e_ e l)=(some (j,w),some oj,some e,some (.bool b))) (h1:b=true->CC E KP all (o::rest) fr l s K) (h0:b=false->CC E KP all (o::rest) fr l s K):CC E KP all (o::rest) fr l s K:=
 have h2:=t2 hg;have h3:=t2 h2.2;have h4:=t2 h3.2
 Ya h2.1 h3.1 h4.1 h4.2 h1 h0
theorem Es {k:Nat} {ops:Array Oper} {b:Code} (h:CC E (fun v l s=>Q (.O v) fr l s) ops.toList ops.toList fr l s fun l s=>CA E b fr l s Q):CA E (.seq (.region k ops false) b) fr l s Q:=Hi h
theorem Ec {x:Operand} {a b:Code} {t:Bool} (hx:Cg x l=some (.bool t)) (h1:t=true->CA E a fr l s Q) (h0:t=false->CA E b fr l s Q):CA E (.cond x a b) fr l s Q:=HZ hx h1 h0
theorem Er {t:Nat} {rs:List ResultVar} {w v v':AV} {ks:List Nat} (hg:(fr.defers,s.c,s.b,rs,e_ t l,CW s 0 40 v [],Cw 0 40 w)=([],[],0,[.tmp t],some v,some (w,ks),true)) (hw:w=v'):
 (Ex.Z= .Z\/Ex.Z= .J)/\fr.defers=[]/\s.c=[]/\s.b=0/\∃vs w ks,CO E s l rs=some vs/\CW s 0 40 (eT vs) []=some (w,ks)/\Cw 0 40 w=true/\w=v':=by
 have h1:=t2 hg;have h2:=t2 h1.2;have h3:=t2 h2.2;have h4:=t2 h3.2;have h5:=t2 h4.2;have h6:=t2 h5.2;refine⟨.inl U,h1.1,h2.1,h3.1,[v],w,ks,?_,h6.1,h6.2,hw⟩;rw[h4.1];exact Aa h5.1 rfl
end
section
variable {E : a_} {fr : Fr} {l : Sl} {o : Oper} {n m bd : Nat} {lg : List Nat} {hl : Hl}
theorem l1 {t:TypeId} {a:Operand} {k b off:Nat} {v:AV} {cs:List AV} {e:TypeId} {part:Bool} (h1:j_ E t=some false) (h2:an E t=some k)
 (ho:(o.op,Cg a l,eL b hl,cs[off]?)=(.load t a,some (.Z b off),some (.J cs e part),some v)):ZU E o fr l (Y9 n bd lg hl) v (Y9 n bd lg hl):=
 have h:=t2 ho;have h':=t2 h.2;have h'':=t2 h'.2
 ME h.1 h1 h2 h'.1 h''.1 h''.2
end
section
variable {E : a_} {fr : Fr} {l : Sl} {st : St} {o : Oper} {all rest : List Oper} {i : Nat} {js : List Nat} {nl : YI} {K : Sl -> St -> Prop} {od : Option Nat} {v : AV} {j e : Nat} {w b : Bool} {oj : Oper}
theorem Nq {KN:PN} (ho:Zm E o (Yn (b_ o.op.operands.toList) l) v) (hg:(o.guard,o.dst,YW fr.nt od)=(none,od,true)) (h:CF E KN all rest (i+1) fr (ZC od v l) st js nl K):CF E KN all (o::rest) i fr l st js nl K:=
 I7 ho (.inl (t2 hg).1) (t2 (t2 hg).2).1 (t2 (t2 hg).2).2 h
theorem Ng {KN:PN} (hg:(o.guard,pa all j,oj.dst,e_ e l,o.dst,YW fr.nt od)=(some (j,w),some oj,some e,some (.bool b),od,true)) (hb:b=w) (ho:Zm E o (Yn (b_ o.op.operands.toList) l) v) (h:CF E KN all rest (i+1) fr (ZC od v l) st js nl K):CF E KN all (o::rest) i fr l st js nl K:=
 have h1:=t2 hg;have h2:=t2 h1.2;have h3:=t2 h2.2;have h4:=t2 h3.2;have h5:=t2 h4.2
 I7 ho (AB h1.1 h2.1 h3.1 h4.1 hb) h5.1 h5.2 h
theorem Nk {KN:PN} (hg:(o.guard,pa all j,oj.dst,e_ e l,o.dst,YW fr.nt od)=(some (j,w),some oj,some e,some (.bool b),od,true)) (hb:b= !w) (h:CF E KN all rest (i+1) fr (ZC od (.O []) l) st js nl K):CF E KN all (o::rest) i fr l st js nl K:=
 have h1:=t2 hg;have h2:=t2 h1.2;have h3:=t2 h2.2;have h4:=t2 h3.2;have h5:=t2 h4.2
 Qw h1.1 h2.1 h3.1 h4.1 hb h5.1 h5.2 h
end
section
variable {E : a_} {fr : Fr} {l : Sl} {st : St} {o : Oper} {all rest : List Oper} {i : Nat} {js : List Nat} {nl : YI} {K : Sl -> St -> Prop} {od : Option Nat}
end
end Am
