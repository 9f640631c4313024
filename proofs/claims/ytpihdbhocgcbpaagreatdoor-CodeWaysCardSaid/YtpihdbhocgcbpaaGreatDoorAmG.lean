/- The abstract machine: more rules; contracts; heaps as lists; strings and builders; lists that grow; short names. -/
import Derived.Test.YtpihdbhocgcbpaaGreatDoorAmF
import Derived.ChangeReads
import Derived.ChangeArms
set_option linter.unusedSectionVars false
set_option linter.unusedVariables false
set_option linter.unusedSimpArgs false
namespace Am
open Go
section
variable (E : c_)
abbrev Rd:=Nat×Nat×(Nat->Option CG->Prop)
structure PN where
 b:AV->St->Prop
 a:List Rd
def P_ (KN:PN) (i:Nat) (looked:aH):Prop:=(∀e∈KN.a,e.1<i)/\(∀p∈looked,p.1<i)/\∀p∈looked,∀e∈KN.a,p.1=e.1->p.2.1= .O e.2.1/\∀n o,e.2.2 n o->p.2.2 n o=true
theorem P_.cons {KN:PN} {i:Nat} {looked:aH} {aX:k_} {re:Nat->Option CG->Bool} (h:P_ KN i looked):P_ KN (i+1) ((i,aX,re)::looked):=
 ⟨fun e he=>Nat.lt_succ_of_lt (h.1 e he),fun p hp=>by
  rcases Qk.1 hp with rfl|hp
  .exact Nat.lt_succ_self _
  .exact Nat.lt_succ_of_lt (h.2.1 p hp),fun p hp e he x=>by
  rcases Qk.1 hp with rfl|hp
  .have:=h.1 e he;have x:i=e.1:=x;omega
  .exact h.2.2 p hp e he x⟩
def AtN (KN:PN) (K:Sl->St->Prop) (all:List Oper) (T0:Tr AV) (ex:Ex) (l:Sl) (T:Tr AV) (s:St):Prop:=match ex with
 | .J=>K l s/\k8 l T
 | .O v=>KN.b v s/\T=Zt all T0
 |_=>False
def Cz (KN:PN) (all rest:List Oper) (i:Nat) (fr:Fr) (l:Sl) (st:St) (js:List Nat) (nl:WG) (K:Sl->St->Prop):Prop:=
 ∀(T0 T:Tr AV) (news:WG) (looked:aH),k8 l T->(∀p∈news,p∈nl)->(∀p∈looked,p.1∈js\/p.2.1= .J)->P_ KN i looked->
  ∃N ex l' T' s',AtN KN K all T0 ex l' T' s'/\∀n,N<=n->Z9 E all (ev E n) fr T0 (YE E (Wu all) rest i) ⟨T,st,news,looked⟩= .O ⟨ex,fr,T',s'⟩
end
def WX (d:Option Nat) (v:AV) (l:Sl):Sl:=match d with
 |some d=>(d,v)::l
 |none=>l
noncomputable def CX (all:List Oper) (i:Nat):Nat:=(l_ (Wu all) i).getD 0
section
variable {E : c_} {fr : Fr} {l : Sl} {st : St} {o : Oper} {all rest : List Oper} {i : Nat} {js : List Nat} {nl : WG} {K : Sl -> St -> Prop} {od : Option Nat}
theorem k8.WX {T:Tr AV} (h:k8 l T) (d:Option Nat) (v:AV):k8 (Am.WX d v l) (dZ d v T):=by
 cases d with
 |none=>exact h
 |some d=>exact h.put d v
theorem HD {nt:Nat} {v:AV} {T:Tr AV} (C5:Wz nt od=true):zY od nt v T=some (dZ od v T):=by
 cases od with
 |none=>rfl
 |some d=>
  show(bif Nat.blt d nt then some (Tr.z (some v) (s_ d) T)else none)=_;have:Nat.blt d nt=true:=C5;rw[this];rfl
theorem FH {nt:Nat} {d:j0} {q:bn} {aX:k_} {v:AV} {H:Tr CG} (hd:d.o.dst=od) (C5:Wz nt od=true):
 Wt nt d q (aX,v,q.a.B H)=some ⟨dZ od v q.T,q.a,q.b,(d.i,aX,dP d q (aX,v,q.a.B H))::q.c⟩:=by
 unfold Wt;have h1:Nat.ble q.a.a (q.a.B H).a=true:=xC _;have h2:(q.a.B H).a-q.a.a=0:=Nat.sub_self _;have h3:(q.a.B H).d=[]:=rfl;simp only[h1,h2,h3,hd,HD C5,WR,Bool.and_self,cond_true,Qe,Y3,WH,XG,below];rfl
theorem Cz.done {KN:PN} (h:K l st):Cz E KN all [] i fr l st js nl K:=fun T0 T news looked hT _ _ _=>⟨0,.J,l,T,st,⟨h,hT⟩,fun _ _=>rfl⟩
def mf (ops:List Oper) (l:Sl):Sl:=l.filter fun p=>ops.all fun o=> !jU p.1 o
theorem HU:∀ {ops:List Oper} {T:Tr AV} {k:Nat},(ops.all fun o=> !jU k o)=true->(Zt ops T).g k=T.g k
 | [],_,_,_=>rfl
 |o::ops,T,k,h=>by
  rw[List.all_cons,Qf]at h;unfold Zt;unfold jU at h;cases hd:o.dst with
  |none=>exact HU h.2
  |some d=>
   rw[hd]at h;show(Zt ops (T.u d none)).g k=_;rw[HU h.2,Ay,if_neg];intro e;subst e;simp at h
theorem k8.clear {ops:List Oper} {T:Tr AV} (h:k8 l T):k8 (mf ops l) (Zt ops T):=by
 intro k v hk;have key:∀ {l:Sl},d_ k (mf ops l)=some v->(ops.all fun o=> !jU k o)=true/\d_ k l=some v:=by
  intro l;induction l with
  |nil=>intro h;cases h
  |cons p l ih=>grind [mf,d_,Qb]
 obtain⟨h1,h2⟩:=key hk;rw[HU h1];exact h k v h2
theorem AK {Q:Ex->Fr->Sl->St->Prop} {k:Nat} {ops:Array Oper} (WO:X0 ops.toList=true) (h:Cz E ⟨fun v s=>Q (.O v) fr (mf ops.toList l) s,[]⟩ ops.toList ops.toList 0 fr l st [] [] (Q .J fr)):Cu E (.region k ops true) fr l st Q:=by
 intro T hT;obtain⟨N,ex,l',T',s',hk,hr⟩:=h T T [] [] hT (fun p hp=>by cases hp) (fun p hp=>by cases hp) ⟨fun e he=>(by cases he),fun p hp=>(by cases hp),fun p hp=>by cases hp⟩;have CF:∀n,N<=n->(Yr E (.region k ops true)).run (ev E n) fr T st= .O ⟨ex,fr,T',s'⟩:=by grind [pI,pH,Yr,ev]
 cases ex with
 |J=>exact⟨N,.J,fr,l',T',s',hk.1,hk.2,CF⟩
 |O v=>exact⟨N,.O v,fr,_,T',s',hk.1,by rw[hk.2];exact hT.clear,CF⟩
 |Z _=>exact hk.elim
 |Y=>exact hk.elim
theorem Ad {Q:Ex->Fr->Sl->St->Prop} {k:Nat} {ops:Array Oper} {b:Code} (WO:X0 ops.toList=true) (h:Cz E ⟨fun v s=>Q (.O v) fr (mf ops.toList l) s,[]⟩ ops.toList ops.toList 0 fr l st [] [] fun l s=>Cu E b fr l s Q):Cu E (.seq (.region k ops true) b) fr l st Q:=
 B0 (AK WO h)
theorem Dr {ev:Ev} {T0:Tr AV} {q q':bn} {r:k_×AV×St} {out:k6} (h1:Xl E all ev fr (Zk E all i o) q=some r) (h2:Wt fr.nt (Zk E all i o) q r=some q')
 (h:Z9 E all ev fr T0 (YE E (Wu all) rest (i+1)) q'=out):Z9 E all ev fr T0 (YE E (Wu all) (o::rest) i) q=out:=by
 show(match Xl E all ev fr (Zk E all i o) q with
  |some r=>match Wt fr.nt (Zk E all i o) q r with
   |some q'=>Z9 E all ev fr T0 (YE E (Wu all) rest (i+1)) q'
   |none=> .J
  |none=>lQ E all ev fr T0 (Zk E all i o) (YE E (Wu all) rest (i+1)) q (dR E all ev fr (Zk E all i o) q))=_
 rw[h1];simp only[h2];exact h
theorem I' {n:Nat} {T:Tr AV} {news:WG} {looked:aH} {r:k_×AV×St} (hT:k8 l T) (hg:Wf all l o) (h:XS E (ev E n) fr (Zk E all i o) ⟨T,st,news,looked⟩ (XN T (b_ o.op.operands.toList) .J)=some r):
 Xl E all (ev E n) fr (Zk E all i o) ⟨T,st,news,looked⟩=some r:=by
 unfold Xl;rcases hg with hg|⟨g,hg,hw⟩
 .grind [Zk]
 .grind [Zk,Xk]
theorem IF {KN:PN} {v:AV} {js':List Nat} (hq:XK (XL E o.type o.op)=true)
 (ho:∀(T:Tr AV) (news:WG),(∀p∈news,p∈nl)->k8 (CW (b_ o.op.operands.toList) l) T->
  (i∈js'\/WQ (XL E o.type o.op) T= .J)/\Alone E o fr T v (st.B (Ws (CX all i) news st.b (WQ (XL E o.type o.op) T))))
 (eP:∀j∈js,j∈js') (hg:Wf all l o) (hd:o.dst=od) (C5:Wz fr.nt od=true) (h:Cz E KN all rest (i+1) fr (WX od v l) st js' nl K):Cz E KN all (o::rest) i fr l st js nl K:=by
 intro T0 T news looked hT aK bJ bS;obtain⟨hj,N,hN⟩:=ho _ news aK (hT.CW (b_ o.op.operands.toList));let dd:j0:=Zk E all i o
 let q:bn:=⟨T,st,news,looked⟩
 let TP:=XN T (b_ o.op.operands.toList) .J
 let aX:=WQ (XL E o.type o.op) TP
 let H:=Ws dd.a news st.b aX
 let re:=dP dd q (aX,v,st.B H)
 obtain⟨M,ex,l',T',s',hk,hr⟩:=h T0 (dZ od v T) news ((i,aX,re)::looked) (hT.WX od v) aK (fun p hp=>by
  rcases Qk.1 hp with rfl|hp
  .exact hj
  .exact(bJ p hp).imp (eP _) id) bS.cons
 refine⟨max N M,ex,l',T',s',hk,fun n hn=>?_⟩;have bG:XS E (ev E n) fr dd q TP=some (aX,v,st.B H):=by
  unfold XS;have:XK dd.so=true:=hq;rw[this];simp only[cond_true];show Zo aX ((Xf E (XL E o.type o.op) K0).run (ev E n) fr TP (st.B H))=_;have h1:(Xf E (XL E o.type o.op) K0).run (ev E n) fr TP (st.B H)= .O ⟨.J,fr,b6 v,st.B H⟩:=hN n (by omega);rw[h1];rfl
 have hp:=FH (nt:=fr.nt) (d:=dd) (q:=q) (aX:=aX) (v:=v) (H:=H) (od:=od) hd C5;exact Dr (I' hT hg bG) hp (hr n (by omega))
theorem Cz.off {KN:PN} {g:Nat×Bool} (hg:o.guard=some g) (hw:∀T,k8 l T->Xk all g T=some false) (hd:o.dst=od) (C5:Wz fr.nt od=true)
 (h:Cz E KN all rest (i+1) fr (WX od (.Y []) l) st js nl K):Cz E KN all (o::rest) i fr l st js nl K:=by
 intro T0 T news looked hT aK bJ bS;let dd:j0:=Zk E all i o
 let q:bn:=⟨T,st,news,looked⟩
 let re:=dP dd q (.J,.Y [],st.B .J)
 obtain⟨M,ex,l',T',s',hk,hr⟩:=h T0 (dZ od (.Y []) T) news ((i,.J,re)::looked) (hT.WX od _) aK (fun p hp=>by
  rcases Qk.1 hp with rfl|hp
  .exact .inr U
  .exact bJ p hp) bS.cons
 refine⟨M,ex,l',T',s',hk,fun n hn=>?_⟩;have CF:Xl E all (ev E n) fr dd q=some (.J,.Y [],st.B .J):=by
  unfold Xl;have:dd.o.guard=some g:=hg;rw[this];show(Xk all g T).bind _=_;rw[hw T hT];rfl
 have hp:=FH (nt:=fr.nt) (d:=dd) (q:=q) (aX:= .J) (v:= .Y []) (H:= .J) (od:=od) hd C5;exact Dr CF hp (hr n (by omega))
theorem Cz.skip {KN:PN} {j e:Nat} {w b:Bool} {oj:Oper} (hg:o.guard=some (j,w)) (hj:l_ all j=some oj) (he:oj.dst=some e) (hl:d_ e l=some (.bool b)) (hb:b= !w)
 (hd:o.dst=od) (C5:Wz fr.nt od=true) (h:Cz E KN all rest (i+1) fr (WX od (.Y []) l) st js nl K):Cz E KN all (o::rest) i fr l st js nl K:=
 Cz.off hg (fun T hT=>by rw[Fh (g:=(j,w)) hj he (hT e _ hl),hb];cases w<;>rfl) hd C5 h
theorem SV {KN:PN} {j e:Nat} {w:Bool} {oj:Oper} (hg:o.guard=some (j,w)) (hj:l_ all j=some oj) (he:oj.dst=some e) (hl:d_ e l=some (.Y []))
 (hd:o.dst=od) (C5:Wz fr.nt od=true) (h:Cz E KN all rest (i+1) fr (WX od (.Y []) l) st js nl K):Cz E KN all (o::rest) i fr l st js nl K:=
 Cz.off hg (fun T hT=>by
  unfold Xk bx;simp only[hj,Qe,he];show dN w (T.g e)=_;rw[hT e _ hl];rfl) hd C5 h
theorem Kk {KN:PN} {j e:Nat} {w b:Bool} {oj:Oper} (_hg:o.guard=some (j,w)) (_hj:l_ all j=some oj) (_he:oj.dst=some e) (_hl:d_ e l=some (.bool b))
 (h1:b=true->Cz E KN all (o::rest) i fr l st js nl K) (h0:b=false->Cz E KN all (o::rest) i fr l st js nl K):Cz E KN all (o::rest) i fr l st js nl K:=by
 cases b
 .exact h0 U
 .exact h1 U
theorem Kj {KN:PN} {v:AV} (ho:X3 E o (CW (b_ o.op.operands.toList) l) v) (hg:Wf all l o) (hd:o.dst=od) (C5:Wz fr.nt od=true) (h:Cz E KN all rest (i+1) fr (WX od v l) st js nl K):Cz E KN all (o::rest) i fr l st js nl K:=
 IF ho.1 (fun T _ _ hT=>⟨.inr (ho.2 T hT).1,IE ⟨0,fun n _ k=>(ho.2 T hT).2 (ev E n) fr _ k⟩⟩) (fun _ h=>h) hg hd C5 h
theorem Cz.q {KN:PN} {v:AV} (ho:X3 E o (CW (b_ o.op.operands.toList) l) v) (hg:o.guard=none) (hd:o.dst=od) (C5:Wz fr.nt od=true) (h:Cz E KN all rest (i+1) fr (WX od v l) st js nl K):Cz E KN all (o::rest) i fr l st js nl K:=
 Kj ho (.inl hg) hd C5 h
theorem Cz.aG {KN:PN} {v:AV} (ho:T_ E o fr (CW (b_ o.op.operands.toList) l) v) (hg:Wf all l o) (hd:o.dst=od) (C5:Wz fr.nt od=true) (h:Cz E KN all rest (i+1) fr (WX od v l) st (i::js) nl K):Cz E KN all (o::rest) i fr l st js nl K:=
 IF ho.1 (fun T _ _ hT=>⟨.inl (Qh ..),IE (by
  obtain⟨N,hN⟩:=ho.2 T hT;exact⟨N,fun n hn k=>hN n hn _ k⟩)⟩) (fun _ h=>Qg _ h) hg hd C5 h
def Xe (Wk b:Nat) (nl:WG):Bool:=nl.all fun p=> !(Nat.beq p.2 b)||Nat.testBit Wk p.1
theorem Bi {Wk b:Nat} (h:Xe Wk b nl=true):∀ {news:WG},(∀p∈news,p∈nl)->Yj Wk b news=false
 | [],_=>rfl
 |p::news,hn=>by
  unfold Yj;have h1:=List.all_eq_true.1 h p (hn p (Qh ..));rw[Bi h (fun q hq=>hn q (Qg _ hq))];cases hb:Nat.beq p.2 b with
  |false=>rfl
  |true=>grind
theorem VK {KN:PN} {x:Tr AV->Option AV} {f:Tr AV->St->Option AV} {v p:AV} {b:Nat} (XB:XL E o.type o.op= .Y x f) (hx:∀T,k8 (CW (b_ o.op.operands.toList) l) T->x T=some p) (hp:Z8 (some p)=some b)
 (hv:∀T,k8 (CW (b_ o.op.operands.toList) l) T->f T (st.B (Tr.u .J b (st.b.g b)))=some v) (hc:Xe (CX all i) b nl=true) (hg:Wf all l o) (hd:o.dst=od) (C5:Wz fr.nt od=true)
 (h:Cz E KN all rest (i+1) fr (WX od v l) st (i::js) nl K):Cz E KN all (o::rest) i fr l st js nl K:=by
 refine IF (by rw[XB];rfl) (fun T news aK hT=>⟨.inl (Qh ..),?_⟩) (fun _ h=>Qg _ h) hg hd C5 h;rw[XB];have:WQ (.Y x f) T= .O b:=by
  show ff (Z8 (x T))=_;rw[hx T hT,hp];rfl
 rw[this];have hs:Ws (CX all i) news st.b (.O b)=Tr.u .J b (st.b.g b):=by
  show(bif Yj (CX all i) b news then _ else _)=_;rw[Bi hc aK];rfl
 rw[hs];exact IE ⟨0,fun n _ k=>by
  rw[XB];show Ye (fun v=>k.run (ev E n) fr T v _) (f T _)=_;rw[hv T hT];rfl⟩
theorem If {n b off:Nat} {s s':St} (hs:s'.b.g b=s.b.g b):Zb s' n (.J b off)=Zb s n (.J b off):=by
 unfold Zb;simp only[hs]
theorem P2 {t:TypeId} {b off:Nat} {s s':St} (hs:s'.b.g b=s.b.g b):Wq E t s' (.J b off)=Wq E t s (.J b off):=by
 unfold Wq;cases j' E t with
 |none=>rfl
 |some g=>
  cases an E t with
  |none=>cases g<;>rfl
  |some n=>
   cases g
   .show(Zb s' 1 _).bind _=(Zb s 1 _).bind _;rw[If hs]
   .show(Zb s' n _).bind _=(Zb s n _).bind _;rw[If hs]
theorem B9 {KN:PN} {t:TypeId} {a:Operand} {v:AV} {b off:Nat} (ho:o.op= .load t a) (ha:Cg a (CW (b_ o.op.operands.toList) l)=some (.J b off))
 (hv:Wq E t st (.J b off)=some v) (hc:Xe (CX all i) b nl=true) (hg:Wf all l o) (hd:o.dst=od) (C5:Wz fr.nt od=true) (h:Cz E KN all rest (i+1) fr (WX od v l) st (i::js) nl K):Cz E KN all (o::rest) i fr l st js nl K:=
 VK (x:=Ci E a) (f:=fun T s=>(Ci E a T).bind (Wq E t s)) (b:=b) (by rw[ho];rfl) (fun T hT=>Ae hT ha) rfl (fun T hT=>by
  rw[Ae hT ha];exact(P2 (by show(Tr.u .J b (st.b.g b)).g b=_;rw[Ay,if_pos rfl])).trans hv) hc hg hd C5 h
theorem Hy {KN:PN} {f:Tr AV->Option Mk} {ob:CG} {g:Nat->AV} (XB:XL E o.type o.op= .an f) (hv:∀T,k8 (CW (b_ o.op.operands.toList) l) T->f T=some (.J ob g)) (hg:Wf all l o) (hd:o.dst=od) (C5:Wz fr.nt od=true)
 (h:Cz E KN all rest (i+1) fr (WX od (g st.a) l) (st.g ob) js ((i,st.a)::nl) K):Cz E KN all (o::rest) i fr l st js nl K:=by
 intro T0 T news looked hT aK bJ bS;let dd:j0:=Zk E all i o
 let q:bn:=⟨T,st,news,looked⟩
 let TP:=XN T (b_ o.op.operands.toList) .J
 let s2:St:=(st.B .J).g ob
 let re:=dP dd q (.J,g st.a,s2)
 obtain⟨M,ex,l',T',s',hk,hr⟩:=h T0 (dZ od (g st.a) T) ((i,st.a)::news) ((i,.J,re)::looked) (hT.WX od _) (fun p hp=>by
  rcases Qk.1 hp with rfl|hp
  .exact Qh ..
  .exact Qg _ (aK p hp)) (fun p hp=>by
  rcases Qk.1 hp with rfl|hp
  .exact .inr U
  .exact bJ p hp) bS.cons
 refine⟨M,ex,l',T',s',hk,fun n hn=>?_⟩;have bG:XS E (ev E n) fr dd q TP=some (.J,g st.a,s2):=by
  unfold XS;have bU:dd.so= .an f:=XB;have zL:XK dd.so=true:=by rw[bU];rfl
  rw[zL];simp only[cond_true];have je:WQ dd.so TP= .J:=by rw[bU];rfl
  rw[je];have XM:(Xf E (XL E o.type o.op) K0).run (ev E n) fr TP (st.B .J)=K0.run (ev E n) fr TP (g (st.B .J).a) ((st.B .J).g ob):=by
   rw[XB];show oi _ _ (f TP)=_;rw[hv TP (hT.CW (b_ o.op.operands.toList))];rfl
  show Zo .J ((Xf E (XL E o.type o.op) K0).run (ev E n) fr TP (st.B .J))=_;rw[XM];rfl
 have Zx:Wt fr.nt dd q (.J,g st.a,s2)=some ⟨dZ od (g st.a) T,st.g ob,(i,st.a)::news,(i,.J,re)::looked⟩:=by
  unfold Wt;have h1:Nat.ble q.a.a s2.a=true:=Qd (Nat.le_succ _);have h3:dd.o.dst=od:=hd;have h4:Y3 q.a.a (s2.a-q.a.a)=[st.a]:=by
   show Y3 st.a (st.a+1-st.a)=_;rw[Nat.add_sub_cancel_left];rfl
  have h5:s2.b.g st.a=some ob:=by
   show(Tr.u .J st.a (some ob)).g st.a=_;rw[Ay,if_pos rfl]
  have h6:s2.d=[]:=rfl;simp only[h1,h6,WR,h3,Bool.and_self,cond_true,HD C5,Qe,h4,XG,WH,h5,below];rfl
 exact Dr (I' hT hg bG) Zx (hr n (by omega))
theorem BY {i:Nat} {p:Nat×Nat}:∀ {L:List Nat} {news:WG},(∀p∈news,p∈nl)->p∈XG i news L->p∈XG i nl L
 | [],_,hn,h=>hn _ h
 |b::L,news,hn,h=>by
  rcases Qk.1 h with rfl|h
  .exact Qh ..
  .exact Qg _ (BY hn h)
def fB (Wk:Nat) (js:List Nat):Bool:=js.all fun j=>Nat.testBit Wk j
theorem JI {Wk b n:Nat} {ob:Option CG} (eP:fB Wk js=true):∀ {L:aH},(∀p∈L,p.1∈js\/p.2.1= .J)->ae Wk b n ob L=true
 | [],_=>rfl
 |p::L,hL=>by
  unfold ae;have ih:=JI (b:=b) (n:=n) (ob:=ob) eP fun q hq=>hL q (Qg _ hq);rcases hL p (Qh ..)with h1|h1
  .have:Nat.testBit Wk p.1=true:=List.all_eq_true.1 eP _ h1;rw[this];exact ih
  .grind [gf]
theorem OH {KN:PN} {x:Tr AV->Option AV} {f:Tr AV->St->Option (AV×St)} {v:AV} {s2:St} {one:Bool} {aX:k_} {H:Tr CG} (XB:XL E o.type o.op= .a_ one x f)
 (je:∀T,k8 (CW (b_ o.op.operands.toList) l) T->WQ (.a_ one x f) T=aX) (hH:∀news:WG,(∀p∈news,p∈nl)->Ws (CX all i) news st.b aX=H)
 (ho:Zl E o fr (CW (b_ o.op.operands.toList) l) (st.B H) v s2)
 (ZL:st.a<=s2.a) (CU:∀b∈s2.d,b<st.a/\Xe (CX all i) b nl=true) (eP:fB (CX all i) js=true)
 (hg:Wf all l o) (hd:o.dst=od) (C5:Wz fr.nt od=true)
 (h:Cz E KN all rest (i+1) fr (WX od v l) (st.A s2) (i::js) (XG i (XG i nl (Y3 st.a (s2.a-st.a))) s2.d) K):Cz E KN all (o::rest) i fr l st js nl K:=by
 intro T0 T news looked hT aK bJ bS;obtain⟨N,hN⟩:=ho _ (hT.CW (b_ o.op.operands.toList));let dd:j0:=Zk E all i o
 let q:bn:=⟨T,st,news,looked⟩
 let TP:=XN T (b_ o.op.operands.toList) .J
 let re:=dP dd q (aX,v,s2)
 have ZD:dd.a=CX all i:=rfl;obtain⟨M,ex,l',T',s',hk,hr⟩:=h T0 (dZ od v T) (XG i (XG i news (Y3 st.a (s2.a-st.a))) s2.d) ((i,aX,re)::looked) (hT.WX od v)
  (fun p hp=>BY (fun p hp=>BY aK hp) hp) (fun p hp=>by
  rcases Qk.1 hp with rfl|hp
  .exact .inl (Qh ..)
  .exact(bJ p hp).imp (Qg _) id) bS.cons
 refine⟨max N M,ex,l',T',s',hk,fun n hn=>?_⟩;have bG:XS E (ev E n) fr dd q TP=some (aX,v,s2):=by
  unfold XS;have bU:dd.so= .a_ one x f:=XB;have zL:XK dd.so=true:=by rw[bU];rfl
  rw[zL];simp only[cond_true];have ht:WQ dd.so TP=aX:=by rw[bU];exact je _ (hT.CW _)
  rw[ht];have XM:=hN n (by omega) K0;show Zo aX ((Xf E (XL E o.type o.op) K0).run (ev E n) fr TP (st.B (Ws dd.a news st.b aX)))=_;rw[ZD,hH news aK,XM];rfl
 have su:∀L:List Nat,(∀b∈L,b<st.a/\Xe (CX all i) b nl=true)->WR dd.a st.a s2.a s2.b q L=true:=by
  intro L;induction L with
  |nil=>intro _;rfl
  |cons b L ih=>grind [Nat.blt_eq,WR,Qh,Bi,JI,Qg]
 have Zx:Wt fr.nt dd q (aX,v,s2)=some ⟨dZ od v T,st.A s2,XG i (XG i news (Y3 st.a (s2.a-st.a))) s2.d,(i,aX,re)::looked⟩:=by
  unfold Wt;have h1:Nat.ble q.a.a s2.a=true:=Qd ZL;have h2:WR dd.a q.a.a s2.a s2.b q s2.d=true:=su s2.d CU;have h3:dd.o.dst=od:=hd;simp only[h1,h2,h3,Bool.and_self,cond_true,HD C5,Qe];rfl
 exact Dr (I' hT hg bG) Zx (hr n (by omega))
theorem E8 {Wk:Nat} (h:(nl.all fun p=>Nat.testBit Wk p.1)=true) {news:WG} {hp:Tr CG} (hn:∀p∈news,p∈nl):dO Wk news hp=hp:=
 Oe fun p hp=>List.all_eq_true.1 h p (hn p hp)
theorem R6 {KN:PN} {x:Tr AV->Option AV} {f:Tr AV->St->Option (AV×St)} {v:AV} {s2:St} (XB:XL E o.type o.op= .a_ false x f) (ho:Zl E o fr (CW (b_ o.op.operands.toList) l) (st.B st.b) v s2)
 (ZL:st.a<=s2.a) (CU:∀b∈s2.d,b<st.a/\Xe (CX all i) b nl=true) (eP:fB (CX all i) js=true) (cS:(nl.all fun p=>Nat.testBit (CX all i) p.1)=true)
 (hg:Wf all l o) (hd:o.dst=od) (C5:Wz fr.nt od=true)
 (h:Cz E KN all rest (i+1) fr (WX od v l) (st.A s2) (i::js) (XG i (XG i nl (Y3 st.a (s2.a-st.a))) s2.d) K):Cz E KN all (o::rest) i fr l st js nl K:=
 OH (aX:= .Y) XB (fun _ _=>rfl) (fun _ hn=>E8 cS hn) ho ZL CU eP hg hd C5 h
end
section
variable {E : c_} {fr : Fr} {l : Sl} {s : St} {o : Oper}
theorem Q3 {t:TypeId} {x:Operand} {v:AV} (ho:o.op= .makeInterface t x) (hi:Yp E t=some false) (hx:Cg x l=some v):X3 E o l (.a_ t v):=
 A5 (f:=fun T=>(Ci E x T).bind fun v=>some (.a_ t v)) (by
  rw[ho];show bu E t x=_;unfold bu;rw[hi]) fun T hT=>by simp only[Ae hT hx,Qe]
noncomputable def dz (E:c_) (t:TypeId):Bool:=match Wb E t with
 |some (.struct _)=>true
 |_=>false
def sv (neg:Bool):BinOp:=bif neg then .neq else .eql
theorem Qt {neg:Bool} {t:TypeId} {x y:Operand} (h1:∀k,Wb E t≠some (.int k)) (h2:Wb E t≠some .string):iC E (sv neg) t x y=K' E neg t x y:=by
 unfold iC;split
 .next k h=>exact absurd h (h1 k)
 .next h=>exact absurd h h2
 .cases neg<;>rfl
theorem xF {t:TypeId} (h:Yp E t=some true):∃ms,Wb E t=some (.interface ms):=by
 unfold Yp at h;split at h
 .next ms hm=>exact⟨ms,hm⟩
 .cases h
 .cases h
theorem T7 {t:TypeId} (h:dz E t=true):∃fs,Wb E t=some (.struct fs):=by
 unfold dz at h;split at h
 .next fs hm=>exact⟨fs,hm⟩
 .cases h
theorem D7 {neg:Bool} {t yt:TypeId} {x y:Operand} {a b v:AV} (ho:o.op= .binOp (sv neg) t x y yt) (hu:Yp E t=some true) (hx:Cg x l=some a) (hy:Cg y l=some b)
 (hv:Y2 neg (iB E (u_ x||u_ y) a b)=some v):X3 E o l v:=by
 obtain⟨ms,hu⟩:=xF hu;exact A5 (f:=fun T=>(Ci E x T).bind fun a=>(Ci E y T).bind fun b=>Y2 neg (iB E (u_ x||u_ y) a b)) (by
  rw[ho];show iC E (sv neg) t x y=_;rw[Qt (by rw[hu];intro k h;cases h) (by rw[hu];intro h;cases h)];unfold K';rw[hu];rfl) fun T hT=>by simp only[Ae hT hx,Ae hT hy,Qe,hv]
theorem Ep {neg:Bool} {t yt:TypeId} {x y:Operand} {kd:Kd} {a b v:AV} (ho:o.op= .binOp (sv neg) t x y yt) (hu:dz E t=true) (hk:aF E t=some kd) (hx:Cg x l=some a) (hy:Cg y l=some b)
 (hv:Y2 neg (cG kd a b)=some v):X3 E o l v:=by
 obtain⟨fs,hu⟩:=T7 hu;exact A5 (f:=fun T=>(Ci E x T).bind fun a=>(Ci E y T).bind fun b=>Y2 neg (cG kd a b)) (by
  rw[ho];show iC E (sv neg) t x y=_;rw[Qt (by rw[hu];intro k h;cases h) (by rw[hu];intro h;cases h)];unfold K';rw[hu];simp only[hk];rfl) fun T hT=>by simp only[Ae hT hx,Ae hT hy,Qe,hv]
theorem X3.sub {t yt:TypeId} {x y:Operand} {a b:Int} (ho:o.op= .binOp .sub t x y yt) (hu:Wb E t=some (.int .i64)) (hx:Cg x l=some (.int .i64 a)) (hy:Cg y l=some (.int .i64 b))
 (h: -9223372036854775808<=a-b/\a-b<9223372036854775808):X3 E o l (.int .i64 (a-b)):=D6 ho hu rfl hx hy (by rw[LX h.1 h.2])
theorem Bj {t yt:TypeId} {x y:Operand} {a b:Nat} (ho:o.op= .binOp .sub t x y yt) (hu:Wb E t=some (.int .i64)) (hx:Cg x l=some (.int .i64 (a:Nat))) (hy:Cg y l=some (.int .i64 (b:Nat)))
 (h:b<=a/\a<9223372036854775808):X3 E o l (.int .i64 ((a-b:Nat):Int)):=by
 have:=X3.sub (o:=o) (E:=E) (l:=l) ho hu hx hy (by omega);rwa[show(a:Int)-(b:Int)=((a-b:Nat):Int) by omega]at this
theorem Hk {α:Type}:∀ {a:Nat} {l:List α},a<=l.length->XE a l=some (l.drop a)
 |0,_,_=>rfl
 |_+1,[],h=>by simp at h
 |a+1,_::l,h=>Hk (a:=a) (l:=l) (by simpa using h)
theorem KE {t:TypeId} {x:Operand} {i off n:Nat} {agg:Bool} {cs:List AV} (ho:o.op= .fieldAddr t x i) (hf:Z7 E t i=some (off,n+1,agg)) (hx:Cg x l=some (.XD cs)) (hn:off<=cs.length):X3 E o l (.XD (cs.drop off)):=
 A5 (f:=fun T=>(Ci E x T).bind (YB off)) (by
  rw[ho];show Zq E t x i=_;unfold Zq;rw[hf]) fun T hT=>by simp only[Ae hT hx,Qe,YB,Hk hn]
theorem Kl {src dst:TypeId} {x:Operand} {j k kx:IntKind} {n:Int} (ho:o.op= .convert src dst x) (hs:Wb E src=some (.int j)) (hd:Wb E dst=some (.int k)) (hx:Cg x l=some (.int kx n)):X3 E o l (Zf k n):=
 A5 (f:=fun T=>(Ci E x T).bind (l8 k)) (by
  rw[ho];show qB E src dst x=_;unfold qB;rw[hs,hd]) fun T hT=>by simp only[Ae hT hx,Qe,l8]
theorem Th {t e:TypeId} {x:Operand} {lo hi:Option Operand} {cs:List AV} {n sz:Nat} {cl:Bool} {vlo vhi:Option AV} {a h:Nat} (ho:o.op= .slice t x lo hi none) (hu:Wb E t=some (.slice e)) (hs:an E e=some sz)
 (hx:Cg x l=some (.Ck cs n sz cl)) (qK:fA lo l=some vlo) (rG:fA hi l=some vhi) (hh:WB n n vhi=some h) (ha:WB 0 h vlo=some a) (hn:a*sz+(h-a)*sz<=cs.length):
 X3 E o l (.Ck ((cs.drop (a*sz)).take ((h-a)*sz)) (h-a) sz cl):=
 MT (x:=Ci E x) (f:=fun T s=>(Ci E x T).bind fun a=>(XR E lo T).bind fun l=>(XR E hi T).bind fun h=>(XR E none T).bind fun m=>Xp s sz l h m a) (by
  rw[ho];show dK E t x lo hi none=_;unfold dK;rw[hu];simp only[hs]) (fun T hT=>by rw[Ae hT hx];rfl) fun T s hT=>by
  have hb:Nat.beq sz sz=true:=Nat.beq_refl sz;have hm:XR E none T=some none:=rfl;simp only[Ae hT hx,E3 hT qK,E3 hT rG,hm,Qe,Xp,hb,cond_true,cX,kO,hh,ha];rw[Hp hn];rfl
theorem Tg {x:Operand} {t ty:TypeId} {ok:Bool} {z a v:AV} (ho:o.op= .typeAssert x ty t ok) (hi:Yp E t=some false) (hz:h_ E t=some z) (hx:Cg x l=some a) (hv:fK t ok z a=some v):X3 E o l v:=
 A5 (f:=fun T=>(Ci E x T).bind (fK t ok z)) (by
  rw[ho];show iL E x t ok=_;unfold iL;unfold Yp at hi;rw[hz];cases hu:Wb E t with
  |none=>rw[hu]at hi;cases hi
  |some d=>
   rw[hu]at hi;cases d<;>first|rfl|cases hi) fun T hT=>by simp only[Ae hT hx,Qe,hv]
theorem BX {c:Call} {r:Operand} {name:String} {t:TypeId} {v w:AV} {f:FuncId} {rc:H'} {args:List AV} {rv:AV} (ho:o.op= .call c) (hc:c.callee= .invoke r name) (ha:WC c.args.toList l=some args) (hr:Cg r l=some (.a_ t v))
 (hm:p_ E t name=some (f,rc)) (hb:CV E f=true) (hv:cn E s v rc=some rv) (h:Co E f (rv::args) s w):Zl E o fr l s w s:=fun T hT=>
 OM (F:=fun T s=>(CZ E c.args.toList T).bind fun args=>(Ci E r T).bind (aV E s name args)) (by
  rw[ho];show Wo E o.type c=_;unfold Wo;rw[hc]) (by simp only[AO hT ha,Ae hT hr,Qe,aV,hm,hb,cond_true,hv]) h
theorem Q6 {c:Call} {t:Nat} {f:FuncId} {first captured args:List AV} {v:AV} (ho:o.op= .call c) (hc:c.callee= .value (.tmp t)) (hf:d_ t l=some (.an (.func f) first captured)) (hb:CV E f=true)
 (ha:WC c.args.toList l=some args) (h:E.d f (first++args++captured)=some v):T_ E o fr l v:=by
 have XB:XL E o.type o.op= .Z1 (Ci E (.tmp t)) (CZ E c.args.toList):=by
  rw[ho];show Wo E o.type c=_;unfold Wo;rw[hc]
 refine⟨by rw[XB];rfl,fun T hT=>⟨0,fun n _ s k=>?_⟩⟩;rw[XB];show X4 fr T s (k.run (ev E n) fr T) _=_;have hg:Ci E (.tmp t) T=some (.an (.func f) first captured):=hT t _ hf;simp only[AO hT ha,hg,Qe,Xz,hb,cond_true];have:WM E (ev E n) f (first++args++captured) s=some (.J v):=by unfold WM;rw[h]
 rw[this];rfl
theorem G4 {t k e:TypeId} (ho:o.op= .makeMap t none) (hu:Wb E t=some (.map k e)):Zl E o fr l s (.bW s.a) (s.g (.Y [] 0)):=fun T _=>
 EF (f:=fun _=>some (.J (.Y [] 0) .bW)) (by
  rw[ho];show bw E t none=_;unfold bw;rw[hu]) rfl
theorem Ge {t k e:TypeId} {kd:Kd} {m x y:Operand} {p a b:AV} {s':St} (ho:o.op= .mapUpdate t m x y\/o.op= .insert t m x y) (hu:Wb E t=some (.map k e)) (hk:aF E k=some kd) (hm:Cg m l=some p) (hx:Cg x l=some a) (hy:Cg y l=some b)
 (hs:cm kd s a b p=some s'):Zl E o fr l s (.Y []) s':=fun T hT=>
 H1 (b:=true) (x:=Ci E m) (f:=fun T s=>(Ci E m T).bind fun a=>(Ci E x T).bind fun b=>(Ci E y T).bind fun c=>eU (cm kd s b c a)) (by
  have:XL E o.type o.op=fJ E t m x y:=by rcases ho with ho|ho<;>rw[ho]<;>rfl
  rw[this];unfold fJ;rw[hu];simp only[hk]) (by simp only[Ae hT hm,Ae hT hx,Ae hT hy,Qe,hs,eU])
theorem Dm {t k e:TypeId} {kd:Kd} {x i:Operand} {ok:Bool} {z p a v:AV} (ho:o.op= .lookup t x i ok) (hu:Wb E t=some (.map k e)) (hz:h_ E e=some z) (hk:aF E k=some kd) (hx:Cg x l=some p) (hi:Cg i l=some a)
 (hv:ck kd s ok z p a=some v):Zl E o fr l s v s:=fun T hT=>
 H0 (x:=Ci E x) (f:=fun T s=>(Ci E x T).bind fun a=>(Ci E i T).bind fun b=>ck kd s ok z a b) (by
  rw[ho];show iH E t x i ok=_;unfold iH;rw[hu];simp only[hz,hk]) (by simp only[Ae hT hx,Ae hT hi,Qe,hv])
variable {st : St} {all rest : List Oper} {i : Nat} {js : List Nat} {nl : WG} {K : Sl -> St -> Prop} {od : Option Nat}
theorem Cz.alloc {KN:PN} {t:TypeId} {z:AV} (ho:o.op= .alloc t) (hz:h_ E t=some z) (ht:z.u=false) (hg:o.guard=none) (hd:o.dst=od) (C5:Wz fr.nt od=true)
 (h:Cz E KN all rest (i+1) fr (WX od (.J st.a 0) l) (st.g (.J z.g t false)) js ((i,st.a)::nl) K):Cz E KN all (o::rest) i fr l st js nl K:=
 Hy (f:=fun _=>some (.J (.J z.g t false) fun b=> .J b 0)) (g:=fun b=> .J b 0) (by
  rw[ho];show gW E t=_;unfold gW;simp only[hz,ht,cond_false]) (fun _ _=>rfl) (.inl hg) hd C5 h
end
noncomputable def hZ {α:Type} (enc:α->List AV) (res:α->AV) (args:List AV):Option AV:=by
 classical exact if h:∃a,enc a=args then some (res h.choose)else none
theorem RR {α:Type} {enc:α->List AV} {res:α->AV} (hw:∀a b,enc a=enc b->res a=res b) (a:α):hZ enc res (enc a)=some (res a):=by
 have h:∃b,enc b=enc a:=⟨a,rfl⟩
 unfold hZ;rw[dif_pos h,hw _ _ h.choose_spec]
theorem IU {α:Type} {enc:α->List AV} {res:α->AV} {args:List AV} {v:AV} (h:hZ enc res args=some v):∃a,enc a=args/\res a=v:=by
 unfold hZ at h;split at h
 .next he=>cases h;exact⟨_,he.choose_spec,rfl⟩
 .cases h
theorem Pj {α:Type} {enc:α->List AV} {res:α->AV} {args:List AV} (h:∀a,enc a≠args):hZ enc res args=none:=by
 unfold hZ;rw[dif_neg];rintro⟨a,ha⟩;exact h a ha
noncomputable def WA {α:Type} (K:FuncId->List AV->Option AV) (f:FuncId) (enc:α->List AV) (res:α->AV):FuncId->List AV->Option AV:=fun g args=>bif Nat.beq g f then hZ enc res args else K g args
theorem Ak {α:Type} {K:FuncId->List AV->Option AV} {f:FuncId} {enc:α->List AV} {res:α->AV} (hw:∀a b,enc a=enc b->res a=res b) (a:α):WA K f enc res f (enc a)=some (res a):=by
 unfold WA;rw[Nat.beq_refl];exact RR hw a
theorem Hw {α:Type} {K:FuncId->List AV->Option AV} {f:FuncId} {enc:α->List AV} {res:α->AV} {args:List AV} (h:∀a,enc a≠args):WA K f enc res f args=none:=by
 unfold WA;rw[Nat.beq_refl];exact Pj h
theorem AG {α:Type} {P:Program} {K:FuncId->List AV->Option AV} {f:FuncId} {enc:α->List AV} {res:α->AV} (hK:C6 P K) (h:∀a,Wh P f (enc a) (res a)):C6 P (WA K f enc res):=by
 intro g args v hv;unfold WA at hv;cases hb:Nat.beq g f with
 |false=>rw[hb]at hv;exact hK g args v hv
 |true=>
  rw[hb]at hv;have:=Qb hb;subst this;obtain⟨a,rfl,rfl⟩:=IU hv;exact h a
theorem Aw {α:Type} {P:Program} {nt nf mask:Nat} {K:FuncId->List AV->Option AV} {f:FuncId} {enc:α->List AV} {res:α->AV} (hp:Zd P nt nf) (hK:C6 P K) (h:∀a,Co (qU P nt nf mask K) f (enc a) S0 (res a))
 (ha:∀a,(enc a).all (Cr 40)=true) (hv:∀a,Cr 40 (res a)=true):C6 P (WA K f enc res):=
 AG hK fun a=>BM hp hK (h a) (ha a) (hv a)
abbrev Hl:=List (Nat×Option CG)
def cz:Nat->Hl->Option CG
 |_,[]=>none
 |k,p::l=>bif Nat.beq k p.1 then p.2 else cz k l
noncomputable def mkH:Hl->Tr CG
 | []=> .J
 |p::l=>(mkH l).u p.1 p.2
noncomputable def Xc (n bd:Nat) (lg:List Nat) (hl:Hl):St:= {a:=n,c:=bd,d:=lg,b:=mkH hl}
theorem Va (k:Nat):∀hl:Hl,(mkH hl).g k=cz k hl
 | []=>AS k
 |p::l=>by
  show((mkH l).u p.1 p.2).g k=bif Nat.beq k p.1 then p.2 else cz k l;rw[Ay,Va k l];cases hb:Nat.beq k p.1 with
  |true=>rw[if_pos (Qb hb)];rfl
  |false=>rw[if_neg (Nat.ne_of_beq_eq_false hb)];rfl
theorem AM {n bd:Nat} {lg:List Nat} {hl:Hl} (k:Nat):(Xc n bd lg hl).b.g k=cz k hl:=Va k hl
def logB (b bd:Nat) (lg:List Nat):List Nat:=bif Nat.blt b bd then Yn b lg else lg
section
variable {E : c_} {fr : Fr} {l : Sl} {o : Oper} {n m bd : Nat} {lg : List Nat} {hl : Hl}
theorem To {t:TypeId} {z:AV} (m:Nat) (ho:o.op= .alloc t) (hz:h_ E t=some z) (hm:n+1=m):Zl E o fr l (Xc n bd lg hl) (.J n 0) (Xc m bd lg ((n,some (.J z.g t false))::hl)):=by
 subst hm;exact Zl.alloc ho hz
theorem Zl.boxS {t:TypeId} {x:Operand} {v:AV} (m:Nat) (ho:o.op= .box t x) (hx:Cg x l=some v) (hv:v.u=false) (hm:n+1=m):Zl E o fr l (Xc n bd lg hl) (.J n 0) (Xc m bd lg ((n,some (.J v.g t false))::hl)):=by
 subst hm;exact BR ho hx hv
theorem Tk {t:TypeId} {a x:Operand} {k b off:Nat} {v:AV} {cs Yg:List AV} {e:TypeId} {part:Bool} (ho:o.op= .store t a x) (hn:an E t=some k) (ha:Cg a l=some (.J b off)) (hx:Cg x l=some v)
 (hg:cz b hl=some (.J cs e part)) (hk:v.g.length=k) (ht:v.u=false) (hc:over v.g off cs=some Yg):Zl E o fr l (Xc n bd lg hl) (.Y []) (Xc n bd (logB b bd lg) ((b,some (.J Yg e part))::hl)):=
 BL ho hn ha hx (BH ((AM b).trans hg) hk ht hc)
theorem LP {t:TypeId} {a:Operand} {k b off:Nat} {v:AV} {cs:List AV} {e:TypeId} {part:Bool} (ho:o.op= .load t a) (h1:j' E t=some false) (h2:an E t=some k) (ha:Cg a l=some (.J b off))
 (hg:cz b hl=some (.J cs e part)) (hv:cs[off]?=some v):Zl E o fr l (Xc n bd lg hl) v (Xc n bd lg hl):=
 AQ ho ha (AA h1 h2 ((AM b).trans hg) hv)
theorem Tn {t:TypeId} {a:Operand} {k b off:Nat} {cs:List AV} {e:TypeId} {part:Bool} (ho:o.op= .load t a) (h1:j' E t=some true) (h2:an E t=some k) (ha:Cg a l=some (.J b off))
 (hg:cz b hl=some (.J cs e part)) (hk:off+k<=cs.length):Zl E o fr l (Xc n bd lg hl) (.O ((cs.drop off).take k)) (Xc n bd lg hl):=
 AQ ho ha (Bl h1 h2 ((AM b).trans hg) hk)
theorem Bo {t e:TypeId} {len sz:Nat} {parts:Array (Nat×Operand)} {z:AV} {ps:List (Nat×AV)} {cs:List AV} (m:Nat) (ho:o.op= .buildSlice t (len+1) parts) (hu:Wb E t=some (.slice e)) (hs:an E e=some sz) (hz:h_ E e=some z)
 (hk:(Nat.beq (Xu z.g) sz&&Nat.ble ((len+1)*sz) 16777216&& !(Nat.beq sz 0))=true) (hq:hY parts.toList l=some ps) (hf:aP (fun i=>some (i*sz,sz)) ps (Xj z.g (len+1))=some cs) (hm:n+1=m):
 Zl E o fr l (Xc n bd lg hl) (.Z n 0 (len+1) sz (some (len+1))) (Xc m bd lg ((n,some (.J cs e false))::hl)):=by
 subst hm;exact AX ho hu hs hz hk hq hf
theorem OX {t k e:TypeId} (m:Nat) (ho:o.op= .makeMap t none) (hu:Wb E t=some (.map k e)) (hm:n+1=m):Zl E o fr l (Xc n bd lg hl) (.bW n) (Xc m bd lg ((n,some (.Y [] 0))::hl)):=by
 subst hm;exact G4 ho hu
theorem Rb {f:FuncId} {v w:AV} {ks:List Nat} {st:St} (hf:E.g f=1) (CU:st.d=[]) (hb:st.c=0) (h:C9 st 0 40 v []=some (w,ks)) (hu:CD 0 40 w=true):k9 E f S0 v st=some (.J w):=by
 unfold k9 qT;rw[hf,CU];simp only;show((Wa 0 v st).bind _)=_;unfold Wa;rw[h];simp only[Qe,Zs];have hk:(q_ st ks).d=[]:=(I8 (s:=st) (ks:=ks) fun b _=>by rw[hb];exact Qo _).trans CU;rw[hk];show some (bif CD 0 40 w then _ else _)=_;rw[hu];rfl
theorem Dz {f:FuncId} {fn:Func} {c:Code} {args:List AV} {v:AV} {rs:List ResultVar} {fr:Fr} {l0:Sl} (hz:E.g f=1) (hm:E.d f args=none) (hf:E.a.g f=some fn) (hc:fn.body=some c) (hr:fn.results.toList=rs)
 (Z6:n_ fn.ntmps args none=fr) (hl:YW 0 args []=l0)
 (h:Cu E c fr l0 (Xc 0 0 [] []) fun ex fr l st=>(ex= .Y\/ex= .J)/\fr.defers=[]/\st.d=[]/\st.c=0/\∃vs w ks,CK E st l rs=some vs/\C9 st 0 40 (Zi vs) []=some (w,ks)/\CD 0 40 w=true/\w=v):Co E f args S0 v:=
 Ic hm hf hc hr Z6 hl (Cu.mono (s:=S0.u) h fun ex fr l st ⟨h1,h2,h3,h4,vs,w,ks,h5,h6,h7,h8⟩=>⟨h1,st,by rw[h2];rfl,vs,h5,by rw[<-h8];exact Rb hz h3 h4 h6 h7⟩)
theorem TW {a t k b:Nat} {rs:List ResultVar} {vs cs:List AV} {e:TypeId} {part:Bool} (hp:d_ a l=some (.J b 0)) (h1:j' E t=some true) (h2:an E t=some k) (hg:cz b hl=some (.J cs e part)) (hk:k<=cs.length)
 (h:CK E (Xc n bd lg hl) l rs=some vs):CK E (Xc n bd lg hl) l (.cell a t::rs)=some (.O (cs.take k)::vs):=by
 have hv:Wq E t (Xc n bd lg hl) (.J b 0)=some (.O ((cs.drop 0).take k)):=Bl h1 h2 ((AM b).trans hg) (by omega);unfold CK;rw[hp];simp only[Qe,hv,h];rfl
variable {all rest : List Oper} {i : Nat} {js : List Nat} {nl : WG} {K : Sl -> St -> Prop} {od : Option Nat}
theorem Aj {KN:PN} {t:TypeId} {a:Operand} {k b off:Nat} {v:AV} {cs:List AV} {e:TypeId} {part:Bool} (ho:o.op= .load t a) (h1:j' E t=some false) (h2:an E t=some k) (ha:Cg a (CW (b_ o.op.operands.toList) l)=some (.J b off))
 (hg:cz b hl=some (.J cs e part)) (hv:cs[off]?=some v) (hc:Xe (CX all i) b nl=true) (pP:Wf all l o) (hd:o.dst=od) (C5:Wz fr.nt od=true)
 (h:Cz E KN all rest (i+1) fr (WX od v l) (Xc n bd lg hl) (i::js) nl K):Cz E KN all (o::rest) i fr l (Xc n bd lg hl) js nl K:=
 B9 ho ha (AA h1 h2 ((AM b).trans hg) hv) hc pP hd C5 h
theorem Qz {KN:PN} {t:TypeId} {a:Operand} {k b off:Nat} {cs:List AV} {e:TypeId} {part:Bool} (ho:o.op= .load t a) (h1:j' E t=some true) (h2:an E t=some k) (ha:Cg a (CW (b_ o.op.operands.toList) l)=some (.J b off))
 (hg:cz b hl=some (.J cs e part)) (hk:off+k<=cs.length) (hc:Xe (CX all i) b nl=true) (pP:Wf all l o) (hd:o.dst=od) (C5:Wz fr.nt od=true)
 (h:Cz E KN all rest (i+1) fr (WX od (.O ((cs.drop off).take k)) l) (Xc n bd lg hl) (i::js) nl K):Cz E KN all (o::rest) i fr l (Xc n bd lg hl) js nl K:=
 B9 ho ha (Bl h1 h2 ((AM b).trans hg) hk) hc pP hd C5 h
end
theorem VS {E:c_} {o:Oper} {l:Sl} {src dst:TypeId} {x:Operand} {j kx:IntKind} {n:Int} (ho:o.op= .convert src dst x) (hs:Wb E src=some (.int j)) (hd:Wb E dst=some (.int .i64)) (hx:Cg x l=some (.int kx n)) (h: -9223372036854775808<=n/\n<9223372036854775808):X3 E o l (.int .i64 n):=by
 have:=Kl (E:=E) (l:=l) ho hs hd hx;rwa[LX h.1 h.2]at this
theorem LR {E:c_} {fr:Fr} {l:Sl} {s:St} {Q:Ex->Fr->Sl->St->Prop} {x:Operand} {a b:Code} {t:Bool} (hx:Cg x l=some (.bool t)) (ht:t=true) (h:Cu E a fr l s Q):Cu E (.cond x a b) fr l s Q:=
 H4 hx (fun _=>h) fun h0=>by rw[ht]at h0;cases h0
theorem Ib {E:c_} {fr:Fr} {l:Sl} {s:St} {Q:Ex->Fr->Sl->St->Prop} {x:Operand} {a b:Code} {t:Bool} (hx:Cg x l=some (.bool t)) (ht:t=false) (h:Cu E b fr l s Q):Cu E (.cond x a b) fr l s Q:=
 H4 hx (fun h0=>by rw[ht]at h0;cases h0) fun _=>h
theorem A0 {b:Bool} {x y:Prop} (hb:b=true) (h:x):cond b x y:=by subst hb;exact h
theorem nT {p:Prop} [Decidable p] (h:(!decide p)=true):¬p:=by simpa using h
theorem nF {p:Prop} [Decidable p] (h:(!decide p)=false):p:=by simpa using h
theorem bT {a b:List UInt8} (h:XY a b=true):a=b:=of_decide_eq_true (Bc.symm.trans h)
theorem bF {a b:List UInt8} (h:XY a b=false):a≠b:=of_decide_eq_false (Bc.symm.trans h)
theorem HF {b:Bool} (h:(!b)=true):b=false:=by simpa using h
theorem HG {b:Bool} (h:(!b)=false):b=true:=by simpa using h
section
variable (E : c_)
def cH (f:FuncId) (rs:List ResultVar) (s0:St) (R:AV->St->Prop) (ex:Ex) (fr:Fr) (l:Sl) (st:St):Prop:=
 (ex= .Y\/ex= .J)/\∃Yk,ZE fr.defers st=some Yk/\∃vs,CK E Yk l rs=some vs/\∃cr,k9 E f s0 (Zi vs) Yk=some cr/\match cr with
  | .J v=>R v s0
  | .O v s'=>R v s'
  | .Y _ _=>False
def VX (f:FuncId) (args:List AV) (s:St) (R RP:AV->St->Prop):Prop:=
 ∃N cr,(∀n,N<=n->WM E (ev E n) f args s=some cr)/\match cr with
  | .J v=>R v s
  | .O v s'=>R v s'
  | .Y v s'=>RP v s'
def sw (f:FuncId) (rs:List ResultVar) (s0:St) (R RP:AV->St->Prop) (ex:Ex) (fr:Fr) (l:Sl) (st:St):Prop:=match ex with
 | .O v=>fr.defers=[]/\RP v (s0.G st)
 |ex=>cH E f rs s0 R ex fr l st
end
section
variable {E : c_} {fr Yx : Fr} {l l' : Sl} {o : Oper} {n m bd : Nat} {lg km : List Nat} {hl ZI : Hl} {all rest : List Oper} {K : Sl -> St -> Prop} {f : FuncId} {rs : List ResultVar} {R : AV -> St -> Prop} {ex : Ex}
theorem Wm.toX {s:St} {args:List AV} {RP:AV->St->Prop} (h:Wm E f args s R):VX E f args s R RP:=by
 obtain⟨N,cr,h1,h2⟩:=h;refine⟨N,cr,h1,?_⟩;cases cr with
 |J v=>exact h2
 |O v s'=>exact h2
 |Y v s'=>exact h2.elim
theorem VX.mono {s:St} {args:List AV} {RP R' RP':AV->St->Prop} (h:VX E f args s R RP) (h1:∀v s,R v s->R' v s) (h2:∀v s,RP v s->RP' v s):VX E f args s R' RP':=by
 obtain⟨N,cr,h0,h⟩:=h;refine⟨N,cr,h0,?_⟩;cases cr with
 |J v=>exact h1 _ _ h
 |O v s'=>exact h1 _ _ h
 |Y v s'=>exact h2 _ _ h
theorem VX.gen {s:St} {fn:Func} {c:Code} {args:List AV} {RP:AV->St->Prop} {mh:Fr} {l0:Sl} (hm:E.d f args=none) (hf:E.a.g f=some fn) (hc:fn.body=some c) (hr:fn.results.toList=rs)
 (Z6:n_ fn.ntmps args none=mh) (hl:YW 0 args []=l0) (h:Cu E c mh l0 s.u (sw E f rs s R RP)):VX E f args s R RP:=by
 subst Z6 hl hr;obtain⟨N,ex,Yx,l',T',s',hq,af,dV⟩:=h _ (Dx args 0 (k8.nil .J));have key:∀ {m:Option AV} {Yk:St} {cr:CR},fb ex=some m->(∀n,z8 E (ev E n) Yx.defers m s'=some (m,Yk))->t_ E f fn s T' m Yk=some cr->∀n,N+1<=n->WM E (ev E n) f args s=some cr:=by
  intro m Yk cr jc hu he n hn;obtain⟨k,rfl⟩:∃k,n=k+1:=⟨n-1,by omega⟩
  unfold WM;rw[hm];simp only[hf,hc,Qe];rw[DV,dV k (by omega)];show ZM E (ev E (k+1)) f fn s ⟨ex,Yx,T',s'⟩=_;unfold ZM;simp only[jc,Qe,hu,he]
 have val:cH E f fn.results.toList s R ex Yx l' s'->VX E f args s R RP:=fun⟨hex,Yk,hu,vs,Xr,cr,hlv,hR⟩=>
  Wm.toX ⟨N+1,cr,key (by rcases hex with h|h<;>rw[h]<;>rfl) (fun n=>FE hu) (by simp only[t_,BO af Xr,Qe,hlv]),hR⟩
 cases ex with
 |O v=>
  obtain⟨hd,hp⟩:=hq;exact⟨N+1,.Y v (s.G s'),key U (fun n=>by rw[hd];rfl) U,hp⟩
 |J=>exact val hq
 |Y=>exact val hq
 |Z i=>exact val hq
theorem VX.inl {fn:Func} {cb:Code} {args:List AV} {mh:Fr} {l0:Sl} {RP:AV->St->Prop} (hm:E.d f args=none) (hf:E.a.g f=some fn) (se:fn.body=some cb) (hr:fn.results.toList=rs) (Z6:n_ fn.ntmps args none=mh) (eH:YW 0 args []=l0)
 (h:Cu E cb mh l0 (Xc n n [] hl) (sw E f rs (Xc n bd lg hl) R RP)):VX E f args (Xc n bd lg hl) R RP:=
 VX.gen hm hf se hr Z6 eH h
theorem AC {s0 st:St} {RP:AV->St->Prop} (h:cH E f rs s0 R .Y fr l st):sw E f rs s0 R RP .Y fr l st:=h
theorem R7 {KP:AV->Sl->St->Prop} {s:St} {d:Nat} (hg:o.guard=none) (hd:o.dst=some d) (C5:Nat.blt d fr.nt=true)
 (h:∀T,k8 l T->(∃v s',hQ E o fr T s v s'/\CA E KP all rest fr ((d,v)::l) s' K)\/∃v s',KP v l s'/\∃N,∀n,N<=n->∀k:qo,(Xf E (XL E o.type o.op) k).run (ev E n) fr T s= .O ⟨.O v,fr,T,s'⟩):CA E KP all (o::rest) fr l s K:=by
 intro T hT;rcases h T hT with⟨v,s',ho,h⟩|⟨v,s',hk,N,hN⟩
 .obtain⟨N,ho⟩:=ho;obtain⟨M,ex,l',T',s2,hk,af,hr⟩:=h _ (hT.put d v);refine⟨max N M,ex,l',T',s2,hk,af,fun n hn=>?_⟩;show(ZN E all o (Z2 o.dst (aW E all rest))).run (ev E n) fr T s=_;unfold ZN r7;rw[hg];simp only;rw[ho n (by omega),BG _ _ (by rw[hd];exact C5),hd];exact hr n (by omega)
 .refine⟨N,.O v,l,T,s',hk,hT,fun n hn=>?_⟩;show(ZN E all o (Z2 o.dst (aW E all rest))).run (ev E n) fr T s=_;unfold ZN r7;rw[hg];exact hN n hn _
theorem CA.raise {KP:AV->Sl->St->Prop} {s:St} {x:Operand} {t:TypeId} {v:AV} (ho:o.op= .panic x) (hx:Cg x l=some (.a_ t v)) (hg:o.guard=none) (h:KP (.a_ t v) l s):CA E KP all (o::rest) fr l s K:=by
 intro T hT;refine⟨0,.O (.a_ t v),l,T,s,h,hT,fun n _=>?_⟩;show(ZN E all o (Z2 o.dst (aW E all rest))).run (ev E n) fr T s=_;unfold ZN r7;rw[hg,ho];show Ye (fun v=> .O ⟨.O v,fr,T,s⟩) ((Ci E x T).bind p9)=_;rw[Ae hT hx];rfl
theorem OJ {KP:AV->Sl->St->Prop} {s:St} {d:Nat} {F:Tr AV->St->Option (FuncId×List AV)} {g:FuncId} {args:List AV} (XB:XL E o.type o.op= .aG F) (hF:∀T,k8 l T->F T s=some (g,args)) (hg:o.guard=none) (hd:o.dst=some d) (C5:Nat.blt d fr.nt=true)
 (h:VX E g args s (fun v s'=>CA E KP all rest fr ((d,v)::l) s' K) fun v s'=>KP v l s'):CA E KP all (o::rest) fr l s K:=by
 obtain⟨N,cr,hr,hm⟩:=h;refine R7 hg hd C5 fun T hT=>?_;have key:∀n,N<=n->∀k:qo,(Xf E (XL E o.type o.op) k).run (ev E n) fr T s=X4 fr T s (k.run (ev E n) fr T) (some cr):=fun n hn k=>by grind [Xf,XL,ev]
 cases cr with
 |J v=>exact .inl ⟨v,s,⟨N,key⟩,hm⟩
 |O v s'=>exact .inl ⟨v,s',⟨N,key⟩,hm⟩
 |Y v s'=>exact .inr ⟨v,s',hm,N,key⟩
theorem Ta {KP:AV->Sl->St->Prop} {s:St} {d:Nat} {F:Tr AV->Option AV} {A:Tr AV->Option (List AV)} {g:FuncId} {first captured args:List AV} (XB:XL E o.type o.op= .Z1 F A) (hF:∀T,k8 l T->F T=some (.an (.func g) first captured)) (hA:∀T,k8 l T->A T=some args) (hb:CV E g=true)
 (hg:o.guard=none) (hd:o.dst=some d) (C5:Nat.blt d fr.nt=true) (h:VX E g (first++args++captured) s (fun v s'=>CA E KP all rest fr ((d,v)::l) s' K) fun v s'=>KP v l s'):CA E KP all (o::rest) fr l s K:=by
 obtain⟨N,cr,hr,hm⟩:=h;refine R7 hg hd C5 fun T hT=>?_;have key:∀n,N<=n->∀k:qo,(Xf E (XL E o.type o.op) k).run (ev E n) fr T s=X4 fr T s (k.run (ev E n) fr T) (some cr):=fun n hn k=>by grind [Xz,Xf,XL,ev]
 cases cr with
 |J v=>exact .inl ⟨v,s,⟨N,key⟩,hm⟩
 |O v s'=>exact .inl ⟨v,s',⟨N,key⟩,hm⟩
 |Y v s'=>exact .inr ⟨v,s',hm,N,key⟩
theorem An {KP:AV->Sl->St->Prop} {s:St} {c:Call} {args:List AV} {d:Nat} (ho:o.op= .call c) (hc:c.callee= .value (.func f)) (hb:CV E f=true) (ha:WC c.args.toList l=some args) (hg:o.guard=none) (hd:o.dst=some d)
 (C5:Nat.blt d fr.nt=true) (h:VX E f args s (fun v s'=>CA E KP all rest fr ((d,v)::l) s' K) fun v s'=>KP v l s'):CA E KP all (o::rest) fr l s K:=
 OJ (F:=fun T _=>(CZ E c.args.toList T).bind fun args=>some (f,args)) (by
  rw[ho];show Wo E o.type c=_;unfold Wo;rw[hc];simp only[hb,cond_true]) (fun T hT=>by rw[AO hT ha];rfl) hg hd C5 h
theorem VX.unit {s:St} {fn:Func} {c:Code} {args:List AV} {RP:AV->St->Prop} {mh:Fr} {l0:Sl} (hm:E.d f args=none) (hf:E.a.g f=some fn) (hc:fn.body=some c) (hr:fn.results.toList=[])
 (Z6:n_ fn.ntmps args none=mh) (hl:YW 0 args []=l0) (h:Cu E c mh l0 s.u fun ex fr _ st=>match ex with
  | .O v=>fr.defers=[]/\RP v (s.G st)
  |ex=>(ex= .Y\/ex= .J)/\fr.defers=[]/\(st.d=[]->R (.Y []) s)/\R (.Y []) (s.G st)):VX E f args s R RP:=by
 refine VX.gen hm hf hc hr Z6 hl (Cu.mono h fun ex fr l st hq=>?_);have rK:qT E f s (.Y []) st=some (.Y [],st):=by
  unfold qT Wa;split
  .rfl
  .split<;>rfl
  .rfl
 have val:(ex= .Y\/ex= .J)/\fr.defers=[]/\(st.d=[]->R (.Y []) s)/\R (.Y []) (s.G st)->cH E f [] s R ex fr l st:=fun⟨hex,hd,hR0,hR1⟩=>by
  refine⟨hex,st,by rw[hd];rfl,[],U,Zs s (.Y []) st st.d,?_,?_⟩
  .unfold k9;show(qT E f s (.Y []) st).bind _=_;rw[rK];rfl
  .unfold Zs;cases CU:st.d with
   |nil=>exact hR0 CU
   |cons a b=>exact hR1
 cases ex with
 |O v=>exact hq
 |J=>exact val hq
 |Y=>exact val hq
 |Z i=>exact val hq
theorem IG {KP:AV->Sl->St->Prop} {c:Call} {args:List AV} {d:Nat} {fn:Func} {cb:Code} {mh:Fr} {l0:Sl} (hf:E.a.g f=some fn) (hb:CV E f=true) (ho:o.op= .call c) (hc:c.callee= .value (.func f)) (ha:WC c.args.toList l=some args) (hg:o.guard=none) (hd:o.dst=some d) (C5:Nat.blt d fr.nt=true)
 (hm:E.d f args=none) (se:fn.body=some cb) (hr:fn.results.toList=rs) (Z6:n_ fn.ntmps args none=mh) (eH:YW 0 args []=l0)
 (h:Cu E cb mh l0 (Xc n n [] hl) (sw E f rs (Xc n bd lg hl) (fun v s'=>CA E KP all rest fr ((d,v)::l) s' K) fun v s'=>KP v l s')):CA E KP all (o::rest) fr l (Xc n bd lg hl) K:=
 An ho hc hb ha hg hd C5 (VX.inl hm hf se hr Z6 eH h)
theorem VM {KP:AV->Sl->St->Prop} {s:St} {d:Nat} {F:Tr AV->Option AV} {A:Tr AV->Option (List AV)} {g:FuncId} {first captured args:List AV} (XB:XL E o.type o.op= .Z1 F A) (hF:∀T,k8 l T->F T=some (.an (.func g) first captured)) (hA:∀T,k8 l T->A T=some args) (hb:CV E g=true)
 (hg:o.guard=none) (hd:o.dst=some d) (C5:Nat.blt d fr.nt=true) (h:Wm E g (first++args++captured) s fun v s'=>CA E KP all rest fr ((d,v)::l) s' K):CA E KP all (o::rest) fr l s K:=by
 obtain⟨N,cr,hr,hm⟩:=h;refine MP (fun T hT=>?_) hg hd C5;have key:∀n,N<=n->((F T).bind fun g=>(A T).bind fun args=>Xz E (ev E n) args s g)=some cr:=fun n hn=>by
  rw[hF T hT,hA T hT];simp only[Qe,Xz,hb,cond_true];exact hr n hn
 cases cr with
 |J v=>exact⟨v,s,⟨N,fun n hn k=>by
  rw[XB];show X4 fr T s (k.run (ev E n) fr T) ((F T).bind fun g=>(A T).bind fun args=>Xz E (ev E n) args s g)=_;rw[key n hn];rfl⟩,hm⟩
 |O v s'=>exact⟨v,s',⟨N,fun n hn k=>by
  rw[XB];show X4 fr T s (k.run (ev E n) fr T) ((F T).bind fun g=>(A T).bind fun args=>Xz E (ev E n) args s g)=_;rw[key n hn];rfl⟩,hm⟩
 |Y _ _=>exact hm.elim
theorem Q0 {KP:AV->Sl->St->Prop} {c:Call} {t:Nat} {first captured args xs:List AV} {d:Nat} {fn:Func} {cb:Code} {mh:Fr} {l0:Sl} (hf:E.a.g f=some fn) (hb:CV E f=true) (ho:o.op= .call c) (hc:c.callee= .value (.tmp t)) (hv:d_ t l=some (.an (.func f) first captured)) (ha:WC c.args.toList l=some args) (hg:o.guard=none) (hd:o.dst=some d)
 (C5:Nat.blt d fr.nt=true) (hx:first++args++captured=xs) (hm:E.d f xs=none) (se:fn.body=some cb) (hr:fn.results.toList=rs) (Z6:n_ fn.ntmps xs none=mh) (eH:YW 0 xs []=l0)
 (h:Cu E cb mh l0 (Xc n n [] hl) (sw E f rs (Xc n bd lg hl) (fun v s'=>CA E KP all rest fr ((d,v)::l) s' K) fun v s'=>KP v l s')):CA E KP all (o::rest) fr l (Xc n bd lg hl) K:=by
 subst hx;refine Ta (F:=Ci E (.tmp t)) (A:=CZ E c.args.toList) ?_ (fun T hT=>hT t _ hv) (fun T hT=>AO hT ha) hb hg hd C5 (VX.inl hm hf se hr Z6 eH h);rw[ho];show Wo E o.type c=_;unfold Wo;rw[hc]
theorem Fb {KP:AV->Sl->St->Prop} {c:Call} {r:Operand} {name:String} {t:TypeId} {v rv:AV} {rc:H'} {args:List AV} {d:Nat} {fn:Func} {cb:Code} {mh:Fr} {l0:Sl} (hf:E.a.g f=some fn) (hme:p_ E t name=some (f,rc)) (hb:CV E f=true) (ho:o.op= .call c) (hc:c.callee= .invoke r name) (ha:WC c.args.toList l=some args) (mQ:Cg r l=some (.a_ t v))
 (hv:cn E (Xc n bd lg hl) v rc=some rv) (hg:o.guard=none) (hd:o.dst=some d) (C5:Nat.blt d fr.nt=true) (hm:E.d f (rv::args)=none) (se:fn.body=some cb) (hr:fn.results.toList=rs) (Z6:n_ fn.ntmps (rv::args) none=mh) (eH:YW 0 (rv::args) []=l0)
 (h:Cu E cb mh l0 (Xc n n [] hl) (sw E f rs (Xc n bd lg hl) (fun v s'=>CA E KP all rest fr ((d,v)::l) s' K) fun v s'=>KP v l s')):CA E KP all (o::rest) fr l (Xc n bd lg hl) K:=by
 refine OJ (F:=fun T s=>(CZ E c.args.toList T).bind fun args=>(Ci E r T).bind (aV E s name args)) (g:=f) (args:=rv::args) ?_ (fun T hT=>?_) hg hd C5 (VX.inl hm hf se hr Z6 eH h)
 .rw[ho];show Wo E o.type c=_;unfold Wo;rw[hc]
 .simp only[AO hT ha,Ae hT mQ,Qe,aV,hme,hb,cond_true,hv]
theorem cH.same {vs:List AV} {w:AV} {ks:List Nat} (hd:Yx.defers=[]) (hr:CK E (Xc m n [] ZI) l' rs=some vs) (hz:E.g f=1) (hf:C9 (Xc m n [] ZI) n 40 (Zi vs) []=some (w,ks)) (tM:ks.all (fun b=>Nat.ble n b)=true) (hu:CD n 40 w=true)
 (h:R w (Xc n bd lg hl)):cH E f rs (Xc n bd lg hl) R .Y Yx l' (Xc m n [] ZI):=by
 refine⟨.inl U,Xc m n [] ZI,by rw[hd];rfl,vs,hr,.J w,?_,h⟩;unfold k9 qT;rw[hz];show((Wa n (Zi vs) (Xc m n [] ZI)).bind _)=_;unfold Wa;rw[hf];simp only[Qe,Zs];have hk:(q_ (Xc m n [] ZI) ks).d=[]:=I8 (s:=Xc m n [] ZI) (ks:=ks) fun b hb=>Qc (List.all_eq_true.1 tM b hb);rw[hk];show some (bif CD n 40 w then _ else _)=_;rw[hu];rfl
def qV:List Nat->Hl->Hl
 | [],hl=>hl
 |b::ks,hl=>qV ks ((b,none)::hl)
theorem Re : ∀ {ks : List Nat} {hl : Hl}, ks.all (fun b => Nat.ble n b) = true -> q_ (Xc m n [] hl) ks = Xc m n [] (qV ks hl)
  | [], _, _ => rfl
  | b :: ks, hl, h => by
    rw [List.all_cons, Qf] at h;have hb : Nat.blt b n = false := by
      have := Qc h.1;cases hc : Nat.blt b n with
      | false => rfl
      | true => have h2 : b < n := Qc hc
                omega
    show q_ ((Xc m n [] hl).z b none) ks = _;have : (Xc m n [] hl).z b none = Xc m n [] ((b, none) :: hl) := by
      show St.mk m n (bif Nat.blt b n then _ else _) _ = _;rw [hb]; rfl
    rw [this, Re h.2]; rfl
theorem cH.new {vs:List AV} {w:AV} {ks:List Nat} (hd:Yx.defers=[]) (hr:CK E (Xc m n [] ZI) l' rs=some vs) (hz:E.g f=1) (hf:C9 (Xc m n [] ZI) n 40 (Zi vs) []=some (w,ks)) (tM:ks.all (fun b=>Nat.ble n b)=true) (hu:CD n 40 w=false)
 (h:R w (Xc m bd lg (qV ks ZI))):cH E f rs (Xc n bd lg hl) R .Y Yx l' (Xc m n [] ZI):=by
 refine⟨.inl U,Xc m n [] ZI,by rw[hd];rfl,vs,hr,.O w (Xc m bd lg (qV ks ZI)),?_,h⟩;unfold k9 qT;rw[hz];show((Wa n (Zi vs) (Xc m n [] ZI)).bind _)=_;unfold Wa;rw[hf];simp only[Qe,Zs];rw[Re tM];show some (bif CD n 40 w then _ else CR.O w ((Xc n bd lg hl).G (Xc m n [] (qV ks ZI))))=_;rw[hu];rfl
theorem Aa {a b:Bool} (h:a=b):Zi [AV.bool a]=AV.bool b:=by rw[h];rfl
end
section
variable {E : c_} {fr : Fr} {l : Sl} {s : St} {o : Oper}
theorem ON {x:Operand} {g:AV->Option AV} {a v:AV} (XB:XL E o.type o.op= .O fun T=>(Ci E x T).bind g) (hx:Cg x l=some a) (hv:g a=some v):X3 E o l v:=A5 XB fun T hT=>by rw[Ae hT hx];exact hv
theorem VP {f:Tr AV->Option Mk} {v:AV} (XB:XL E o.type o.op= .an f) (hv:∀T,k8 l T->f T=some (.O v)):X3 E o l v:=by
 refine⟨by rw[XB];rfl,fun T hT=>⟨by rw[XB];rfl,fun ev fr s k=>?_⟩⟩;rw[XB];show oi s (k.run ev fr T) (f T)=_;rw[hv T hT];rfl
theorem Ix {x:Operand} {a v:AV} (ho:o.op= .nilCheck x) (hx:Cg x l=some a) (hv:qD a=some v):X3 E o l v:=ON (g:=qD) (by rw[ho];rfl) hx hv
theorem MW {c:Call} {t e:TypeId} {sz:Nat} {ts:List TypeId} {x y:Operand} {a b v:AV} {p:List AV×Nat} {s':St} (ho:o.op= .call c) (hc:c.callee= .builtin .copy) (ht:c.argTypes.toList=t::ts) (ha:c.args.toList=[x,y]) (hu:Wb E t=some (.slice e)) (hs:an E e=some sz)
 (hx:Cg x l=some a) (hy:Cg y l=some b) (hp:CY s sz b=some p) (hv:F_ s sz p a=some (v,s')):Zl E o fr l s v s':=fun T hT=>
 H1 (b:=false) (x:=Ci E x) (f:=fun T s=>(Ci E x T).bind fun a=>(Ci E y T).bind fun b=>(CY s sz b).bind fun p=>F_ s sz p a) (by
  rw[ho];show Wo E o.type c=_;unfold Wo;rw[hc];simp only;rw[ht,ha];show lD E t x y=_;unfold lD;rw[hu];simp only[hs]) (by simp only[Ae hT hx,Ae hT hy,Qe,hp,hv])
theorem Tl {t e:TypeId} {x:Operand} {lo hi:Option Operand} {sz:Nat} {vlo vhi:Option AV} {a v:AV} (ho:o.op= .slice t x lo hi none) (hu:Wb E t=some (.slice e)) (hs:an E e=some sz) (hx:Cg x l=some a) (qK:fA lo l=some vlo) (rG:fA hi l=some vhi)
 (hv:Xp s sz vlo vhi none a=some v):Zl E o fr l s v s:=fun T hT=>
 H0 (x:=Ci E x) (f:=fun T s=>(Ci E x T).bind fun a=>(XR E lo T).bind fun l=>(XR E hi T).bind fun h=>(XR E none T).bind fun m=>Xp s sz l h m a) (by
  rw[ho];show dK E t x lo hi none=_;unfold dK;rw[hu];simp only[hs]) (by
  have hm:XR E none T=some none:=rfl;simp only[Ae hT hx,E3 hT qK,E3 hT rG,hm,Qe,hv])
end
theorem S9 {b c:Nat}:∀ {lg:List Nat},c∈Yn b lg->c∈lg\/c=b
 | [],h=> .inr (Qp.1 h)
 |d::lg,h=>by
  change c∈(bif Nat.beq b d then d::lg else b::d::lg)at h;cases hb:Nat.beq b d with
  |true=>rw[hb]at h;exact .inl h
  |false=>grind
theorem BP {s:St} {b c:Nat} {o:Option CG} (h:c∈(s.z b o).d):c∈s.d\/(c=b/\c<s.c):=by
 have h':c∈(bif Nat.blt b s.c then Yn b s.d else s.d):=h;cases hb:Nat.blt b s.c with
 |false=>rw[hb]at h';exact .inl h'
 |true=>
  rw[hb]at h';rcases S9 h' with h|h
  .exact .inl h
  .simp_all
theorem Ds {n c:Nat}:∀ {L l:List Nat},c∈below n L l->c∈l\/(c∈L/\c<n)
 | [],_,h=> .inl h
 |b::L,l,h=>by
  unfold below at h;cases hb:Nat.blt b n with
  |true=>
   rw[hb]at h;rcases Qk.1 h with h|h
   .simp_all
   .exact(Ds h).imp id fun⟨h1,h2⟩=>⟨Qg _ h1,h2⟩
  |false=>
   rw[hb]at h;exact(Ds h).imp id fun⟨h1,h2⟩=>⟨Qg _ h1,h2⟩
theorem U9 {b:Nat} {lg:List Nat}:Yn b lg≠ []:=by
 cases lg with
 |nil=>exact fun h=>by cases h
 |cons c lg=>
  show(bif Nat.beq b c then c::lg else b::c::lg)≠ [];cases Nat.beq b c<;>simp
theorem HC {s:St} {b:Nat} {o:Option CG} (h:b<s.c):(s.z b o).d≠ []:=by
 show(bif Nat.blt b s.c then Yn b s.d else s.d)≠ [];rw[show Nat.blt b s.c=true from Qd h];exact U9
theorem Dt {E:c_} {f:FuncId} {v:AV} {s st:St} (hf:E.g f=1) (hl:st.d≠ []):k9 E f s v st=some (.O v (s.G st)):=by grind [Zs,k9,qT]
theorem Ah {s:St} {b c:Nat} {o:Option CG}:(s.z b o).b.g c=if c=b then o else s.b.g c:=Ay ..
structure CL (s s':St) (own:Nat->Prop):Prop where
 d:s.a<=s'.a
 a:s'.c=s.c
 e:∀c∈s'.d,c∈s.d\/(c<s.c/\own c)
 b:∀c,c<s.a->¬own c->s'.b.g c=s.b.g c
theorem CL.g {s s1 s2:St} {o1 o2 own:Nat->Prop} (h:CL s s1 o1) (h2:CL s1 s2 o2) (e1:∀c,o1 c->own c) (e2:∀c,o2 c->own c\/s.a<=c) (hb:s.c<=s.a):CL s s2 own:=
 ⟨Nat.le_trans h.d h2.d,h2.a.trans h.a,fun c hc=>by
  rcases h2.e c hc with hc|⟨hc,ho⟩
  .exact(h.e c hc).imp id fun⟨a,b⟩=>⟨a,e1 _ b⟩
  .rw[h.a]at hc;rcases e2 c ho with ho|ho
   .exact .inr ⟨hc,ho⟩
   .omega,fun c hc ho=>by
  have h1:¬o2 c:=fun h=>by
   rcases e2 c h with h|h
   .exact ho h
   .omega
  exact(h2.b c (Nat.lt_of_lt_of_le hc h.d) h1).trans (h.b c hc fun h=>ho (e1 c h))⟩
theorem CL.u {s st:St} {own:Nat->Prop} (h:CL s.u st own):CL s (s.G st) own:=
 ⟨h.d,rfl,fun c hc=>by
  rcases Ds (show c∈below s.c st.d s.d from hc)with hc|⟨hc,C5⟩
  .exact .inl hc
  .rcases h.e c hc with h|⟨_,ho⟩
   .cases h
   .exact .inr ⟨C5,ho⟩,h.b⟩
theorem CL.B {s:St} {b:Nat} {o:Option CG}:CL s (s.z b o) (fun c=>c=b):=
 ⟨Qj _,rfl,fun c hc=>(BP hc).imp id fun⟨h1,h2⟩=>⟨h2,h1⟩,fun c _ ho=>by rw[Ah,if_neg ho]⟩
theorem QW {c:Nat}:∀ {n b:Nat},c∈Y3 b n->b<=c
 |0,_,h=>by cases h
 |n+1,b,h=>by
  rcases Qk.1 h with rfl|h
  .exact Qj _
  .have:=QW h;omega
theorem CL.G {st s2:St} {own:Nat->Prop} (h:CL (st.B st.b) s2 own):CL st (st.A s2) own:=
 ⟨h.d,rfl,fun c hc=>by
  rcases Ds (show c∈below st.c s2.d st.d from hc)with hc|⟨hc,C5⟩
  .exact .inl hc
  .rcases h.e c hc with h1|⟨_,h1⟩
   .cases h1
   .exact .inr ⟨C5,h1⟩,fun c hc ho=>by
  show(WH s2.b (Y3 st.a (s2.a-st.a)) (WH s2.b s2.d st.b)).g c=_;rw[B5,if_neg (fun hm=>by have:=QW hm;omega),B5];have:=h.b c hc ho;by_cases hl:c∈s2.d
  .rw[if_pos hl];exact this
  .rw[if_neg hl]⟩
theorem MU {E:c_} {l:Sl} {o:Oper} {c:Call} {t e:TypeId} {ts:List TypeId} {x:Operand} {a v:AV} (ho:o.op= .call c) (hc:c.callee= .builtin .len) (ht:c.argTypes.toList=t::ts) (ha:c.args.toList=[x]) (hu:Wb E t=some (.slice e)) (hx:Cg x l=some a) (hv:Am.aQ a=some v):X3 E o l v:=
 ON (g:=Am.aQ) (by
  rw[ho];show Wo E o.type c=_;unfold Wo;rw[hc];simp only;rw[ht,ha];show pr E t x=_;unfold pr;rw[hu]) hx hv
theorem CL.A {s:St} {own:Nat->Prop}:CL s s own:=⟨Qj _,rfl,fun _ h=> .inl h,fun _ _ _=>rfl⟩
theorem Fz {E:c_} {f:FuncId} {v:AV} {s st:St} {R:AV->St->Prop} (hf:E.g f=1) (hk:∀n w,C9 w n 40 v []=some (v,[])) (hu:∀m,CD m 40 v=true) (h1:st.d=[]->R v s) (h2:st.d≠ []->R v (s.G st)):
 ∃cr,k9 E f s v st=some cr/\match cr with
  | .J v=>R v s
  | .O v s'=>R v s'
  | .Y _ _=>False:=by
 by_cases hl:st.d=[]
 .exact⟨_,Di hk hu hl,h1 hl⟩
 .exact⟨_,Dt hf hl,h2 hl⟩
theorem V5 {Wk b c j:Nat} {nl:WG} (h:Nat.testBit Wk j=true) (hn:Xe Wk b nl=true):Xe Wk b ((j,c)::nl)=true:=by simp_all [List.all_cons,Bool.and_true,Bool.or_true,Xe]
theorem Jx {b:Nat}:∀ {lg:List Nat},b∈Yn b lg
 | []=>Qp.2 rfl
 |c::lg=>by
  show b∈(bif Nat.beq b c then c::lg else b::c::lg);cases hb:Nat.beq b c with
  |true=>rw[Qb hb];exact Qh ..
  |false=>exact Qh ..
theorem AL {s:St} {b:Nat} {o:Option CG} (h:b<s.c):b∈(s.z b o).d:=by
 show b∈(bif Nat.blt b s.c then Yn b s.d else s.d);rw[show Nat.blt b s.c=true from Qd h];exact Jx
theorem R1 {n c:Nat}:∀ {L l:List Nat},c∈L->c<n->below n L l≠ []
 |b::L,l,hc,h=>by
  unfold below;cases hb:Nat.blt b n with
  |true=>simp
  |false=>
   rcases Qk.1 hc with rfl|hc
   .rw[show Nat.blt c n=true from Qd h]at hb;cases hb
   .exact R1 hc h
theorem VF {s st:St} {b:Nat} (hb:b∈st.d) (h:b<s.c):(s.G st).d≠ []:=R1 hb h
theorem BK {E:c_} {l:Sl} {o:Oper} {t e:TypeId} {x i:Operand} {sz k:Nat} {ik:IntKind} {a p:AV} (ho:o.op= .indexAddr t x i) (hu:Wb E t=some (.slice e)) (hs:an E e=some (sz+1)) (hx:Cg x l=some a) (hi:Cg i l=some (.int ik (k:Nat))) (hv:OK (sz+1) k a=some p):X3 E o l p:=
 A5 (f:=fun T=>(Ci E i T).bind fun iv=>(Xb iv).bind fun k=>(Ci E x T).bind (OK (sz+1) k)) (by
  rw[ho];show Yy E t x i=_;unfold Yy;rw[hu];simp only[hs]) fun T hT=>by
  have h1:Xb (.int ik (k:Nat))=some k:=rfl;simp only[Ae hT hx,Ae hT hi,Qe,h1,hv]
def bK (s:St) (v:AV) (l:List (List UInt8)):Prop:=
 (v= .Ca/\l=[])\/(∃cl,v= .Ck (l.map .aG) l.length 1 cl)\/
  ∃b off cap cs e part,v= .Z b off l.length 1 cap/\b<s.a/\s.b.g b=some (.J cs e part)/\off+l.length<=cs.length/\(cs.drop off).take l.length=l.map .aG/\(∀c,cap=some c->l.length<=c)
theorem bK.CQ {s s':St} {v:AV} {l:List (List UInt8)} (h:bK s v l) (hn:s.a<=s'.a) (hh:∀c,CB c v=true->s'.b.g c=s.b.g c):bK s' v l:=by
 rcases h with h|h|⟨b,off,cap,cs,e,part,rfl,hb,hg,h1,h2,h3⟩
 .exact .inl h
 .exact .inr (.inl h)
 .exact .inr (.inr ⟨b,off,cap,cs,e,part,U,by omega,(hh b (Nat.beq_refl b)).trans hg,h1,h2,h3⟩)
theorem bK.len {s:St} {v:AV} {l:List (List UInt8)} (h:bK s v l):aQ v=some (.int .i64 (l.length:Nat)):=by
 rcases h with⟨rfl,rfl⟩|⟨_,rfl⟩|⟨b,off,cap,cs,e,part,rfl,_⟩<;>rfl
theorem bK.at {E:c_} {s:St} {v:AV} {l:List (List UInt8)} (h:bK s v l) {i:Nat} (hi:i<l.length) {t:TypeId} (h1:j' E t=some false) (h2:an E t=some 1):∃p,OK (0+1) i v=some p/\Wq E t s p=some (.aG l[i]):=by
 have C5:Nat.blt i l.length=true:=Qd hi;have hdrop:(l.map AV.aG).drop i= .aG l[i]::(l.map AV.aG).drop (i+1):=by grind [List.drop_eq_getElem_cons]
 rcases h with⟨rfl,rfl⟩|⟨_,rfl⟩|⟨b,off,cap,cs,e,part,rfl,hb,hg,dC,gK,_⟩
 .simp at hi
 .refine⟨.XD (.aG l[i]::(l.map AV.aG).drop (i+1)),?_,?_⟩
  .show(bif Nat.blt i l.length then(XE (i*(0+1)) (l.map AV.aG)).bind tb else none)=_;rw[C5,Nat.zero_add,Nat.mul_one,Hk (by rw[Qn];omega),hdrop];rfl
  .unfold Wq;simp only[h1,h2];rfl
 .refine⟨.J b (off+i*(0+1)),?_,?_⟩
  .show(bif Nat.blt i l.length then some (AV.J b (off+i*(0+1)))else none)=_;rw[C5];rfl
  .refine AA h1 h2 hg ?_;have:((cs.drop off).take l.length)[i]?=some (.aG l[i]):=by grind
   rw[List.getElem?_take_of_lt hi,List.getElem?_drop]at this;rw[Nat.zero_add,Nat.mul_one];exact this
theorem Cu.cut {E:c_} {fr:Fr} {l:Sl} {s:St} {Q:Ex->Fr->Sl->St->Prop} {a b:Code} (l2:Sl) (s2:St) (h1:Cu E a fr l s fun ex Yx l' s'=>ex= .J/\Yx=fr/\s'=s2/\∀p∈l2,d_ p.1 l'=some p.2) (h2:Cu E b fr l2 s2 Q):Cu E (.seq a b) fr l s Q:=
 B0 (h1.mono fun ex Yx l' s' ⟨e1,e2,e3,e4⟩=>by
  subst e1 e2 e3;exact Cu.sub h2 e4)
def SubL:Sl->Sl->Prop
 | [],_=>True
 |p::r,l=>d_ p.1 l=some p.2/\SubL r l
theorem Ab {l:Sl}:∀ {l':Sl},SubL l' l->∀p∈l',d_ p.1 l=some p.2
 | [],_,_,h=>by cases h
 |q::r,h,p,hp=>by
  rcases Qk.1 hp with rfl|hp
  .exact h.1
  .exact Ab h.2 p hp
def tw (p:Int->Bool) (w:List UInt8):Nat:=(w.takeWhile fun b=>p b.toNat).length
theorem tw_le (p:Int->Bool) (w:List UInt8):tw p w<=w.length:=(List.takeWhile_sublist _).length_le
theorem Pe {p:Int->Bool}:∀ {w:List UInt8} {k:Nat},k<=tw p w->k<w.length->(p (w.getD k 0).toNat=true↔k<tw p w)
 |b::w,0,_,_=>by grind [tw,List.takeWhile_cons]
 |b::w,k+1,hk,hw=>by
  cases h:p b.toNat with
  |false=>simp[tw,List.takeWhile_cons,h]at hk
  |true=>
   have e:tw p (b::w)=tw p w+1:=by simp[tw,List.takeWhile_cons,h]
   rw[e]at hk|-;have:=Pe (p:=p) (w:=w) (k:=k) (by omega) (by simpa using hw);rw[List.getD_cons_succ,this];omega
theorem Cz.st {KN:PN} {E:c_} {fr:Fr} {l:Sl} {all rest:List Oper} {i:Nat} {js:List Nat} {nl:WG} {K:Sl->St->Prop} {s s2:St} (h:s=s2) (hh:Cz E KN all rest i fr l s2 js nl K):Cz E KN all rest i fr l s js nl K:=h▸hh
theorem Bv {s:St} {c:Nat} {o:Option CG} (h:s.c=0):(s.z c o).d=s.d:=by
 show(bif Nat.blt c s.c then _ else s.d)=_;rw[h];rfl
theorem BZ {E:c_} {s:St} {l:Sl} {a t k b:Nat} {rs:List ResultVar} {vs cs:List AV} {e:TypeId} {part:Bool} (hp:d_ a l=some (.J b 0)) (h1:j' E t=some true) (h2:an E t=some k) (hg:s.b.g b=some (.J cs e part)) (hk:k<=cs.length)
 (h:CK E s l rs=some vs):CK E s l (.cell a t::rs)=some (.O (cs.take k)::vs):=by
 have hv:Wq E t s (.J b 0)=some (.O ((cs.drop 0).take k)):=Bl h1 h2 hg (by omega);unfold CK;rw[hp];simp only[Qe,hv,h];rfl
theorem DB {E:c_} {s:St} {l:Sl} {a t k b:Nat} {rs:List ResultVar} {vs cs:List AV} {v:AV} {e:TypeId} {part:Bool} (hp:d_ a l=some (.J b 0)) (h1:j' E t=some false) (h2:an E t=some k) (hg:s.b.g b=some (.J cs e part)) (hk:cs[0]?=some v)
 (h:CK E s l rs=some vs):CK E s l (.cell a t::rs)=some (v::vs):=by
 have hv:Wq E t s (.J b 0)=some v:=AA h1 h2 hg hk;unfold CK;rw[hp];simp only[Qe,hv,h]
inductive r9 (P:Program):TypeId->List AV->Prop
 |bool {t:TypeId} (h:P.underlying t=some .bool) (b:Bool):r9 P t [.bool b]
 |int {t:TypeId} {k:IntKind} {n:Int} (h:P.underlying t=some (.int k)) (hw:(Lit.int k n).wf=true):r9 P t [.int k n]
 |J {t:TypeId} (h:P.underlying t=some .string) {w:List UInt8} (hw:w.length<=maxLen):r9 P t [.aG w]
 |O {t e:TypeId} (h:P.underlying t=some (.slice e)) {ls:List (List AV)} (hn:ls.length<=maxLen) (hl:∀l∈ls,l.length=P.cellsOf e) (hd:∀l∈ls,r9 P e l):r9 P t [.Ck ls.flatten ls.length (P.cellsOf e) true]
 |Y {t:TypeId} {fs:Array Field} (h:P.underlying t=some (.struct fs)) {ls:List (List AV)} (hl:ls.length=fs.toList.length) (hd:∀(i:Nat) f l,fs.toList[i]?=some f->ls[i]?=some l->r9 P f.type l):r9 P t ls.flatten
def mi (P:Program):Nat->List Field->Option Nat
 |off,[]=>some off
 |off,f::fs=>bif Nat.beq f.offset off then mi P (off+P.cellsOf f.type) fs else none
def xG (P:Program) (ts:List TypeId) (t:TypeId):Bool:=
 match P.underlying t with
 |some .bool|some (.int _)|some .string=>true
 |some (.slice e)=>ts.contains e
 |some (.struct fs)=>(fs.toList.all fun f=>ts.contains f.type)&&(match mi P 0 fs.toList with|some n=>Nat.beq n (P.cellsOf t)|none=>false)
 |_=>false
def tN (P:Program) (ts:List TypeId):Bool:=ts.all (xG P ts)
theorem QX {α β γ:Type} {f:α->Option β} {Q:α->γ->Prop}:∀ {l:List α} {r:List β},l.mapM f=some r->(∀x y,x∈l->f x=some y->∃z,Q x z)->∃zs:List γ,zs.length=l.length/\∀(i:Nat) x z,l[i]?=some x->zs[i]?=some z->Q x z
 | [],_,_,_=>⟨[],rfl,fun i x z h=>by simp at h⟩
 |a::l,r,h,hq=>by
  simp only[List.mapM_cons]at h;obtain⟨y,hy,h⟩:=Qa.1 h;obtain⟨ys,sd,h⟩:=Qa.1 h;obtain⟨z,hz⟩:=hq a y (Qh ..) hy;obtain⟨zs,hl,hzs⟩:=QX sd fun x y hx=>hq x y (Qg _ hx);refine⟨z::zs,by simp[hl],fun i x z' h1 h2=>?_⟩;cases i with
  |zero=>simp at h1 h2;subst h1 h2;exact hz
  |succ i=>exact hzs i x z' (by simpa using h1) (by simpa using h2)
theorem JU {α γ:Type} {Q:α->γ->Prop}:∀ {l:List α},(∀x∈l,∃z,Q x z)->∃zs:List γ,zs.length=l.length/\∀(i:Nat) x z,l[i]?=some x->zs[i]?=some z->Q x z
 | [],_=>⟨[],rfl,fun i x z h=>by simp at h⟩
 |a::l,hq=>by
  obtain⟨z,hz⟩:=hq a (Qh ..);obtain⟨zs,hl,hzs⟩:=JU fun x hx=>hq x (Qg _ hx);refine⟨z::zs,by simp[hl],fun i x z' h1 h2=>?_⟩;cases i with
  |zero=>simp at h1 h2;subst h1 h2;exact hz
  |succ i=>exact hzs i x z' (by simpa using h1) (by simpa using h2)
theorem xH {α:Type} {ms a b:List α} {off:Nat} (h1:YT ms off a) (h2:YT ms (off+a.length) b):YT ms off (a++b):=by
 obtain⟨p,q,e,hp⟩:=h1;obtain⟨p2,q2,e2,ow⟩:=h2;refine⟨p,q2,?_,hp⟩;have:p2=p++a:=by grind [Qm,List.append_assoc,List.append_inj]
 rw[e2,this];simp[List.append_assoc]
theorem xI {α:Type} {ms:List α} {off:Nat} (h:off<=ms.length):YT ms off ([]:List α):=⟨ms.take off,ms.drop off,by simp,by simp[h]⟩
section
variable {H : Type} {enc : TypeId × Value -> H} {P : Program} {W : World}
theorem MK {a:Addr} {k:Nat} {cs:List Value} (h:W.cells? 0 a k=some cs) (hk:0<k):∃ms,(Cx.memory W).M a.block=some ms/\a.spot=none/\YT ms a.off cs/\cs.length=k:=by
 unfold World.cells? at h;rw[if_pos (Qo _)]at h;have Zc:∀(l:List Nat) (r:List Value),l.mapM (fun i=>W.cell? (a.add i))=some r->r.length=l.length/\∀(i x:Nat),l[i]?=some x->W.cell? (a.add x)=r[i]?:=by
  intro l;induction l with
  |nil=>intro r h;simp at h;subst h;exact⟨rfl,fun i x h=>by simp at h⟩
  |cons b l ih=>grind [Qa]
 obtain⟨hl,hc⟩:=Zc _ _ h;rw[List.length_range]at hl;have tO:∀i,i<k->W.cell? (a.add i)=cs[i]?:=fun i hi=>hc i i (by simp[hi]);have h0:=tO 0 hk;rw[Qi (by omega)]at h0;unfold World.cell? at h0;cases hb:W.heap[(a.add 0).block]? with
 |none=>rw[hb]at h0;cases h0
 |some o=>
  rw[hb]at h0;cases o with
  |cells c e fr=>
   simp only at h0;have hsp:a.spot=none:=by
    cases hs:a.spot with
    |none=>rfl
    |some s=>
     rw[show(a.add 0).spot=a.spot from rfl,hs]at h0;simp at h0
   obtain⟨Cv,off,sp⟩:=a;obtain rfl:sp=none:=hsp;have ZJ:W.heap[Cv]?=some (.cells c e fr):=hb;refine⟨c.toList,by simp only[Cx.memory];rw[ZJ],U,?_,hl⟩;have hcell:∀i,i<k->c.toList[off+i]?=cs[i]?:=fun i hi=>by
    rw[<-tO i hi,Bx];unfold World.cell?;rw[ZJ];simp
   have hlen:off+k<=c.toList.length:=by
    have h1:=hcell (k-1) (by omega);rw[Qi (l:=cs) (by omega)]at h1;have:=(List.getElem?_eq_some_iff.1 h1).1;omega
   refine⟨c.toList.take off,c.toList.drop (off+k),?_,by show _=off;rw[List.length_take];omega⟩;have:cs=(c.toList.drop off).take k:=by
    apply List.ext_getElem?;intro i;rcases Nat.lt_or_ge i k with hi|hi
    .grind
    .grind
   rw[this,List.append_assoc,<-List.drop_drop,List.take_append_drop,List.take_append_drop]
  |_=>simp at h0
theorem Im {ms:List Value} {k:Nat}:∀(css:List (List Value)) (off:Nat),(∀l∈css,l.length=k)->(∀(i:Nat) l,css[i]?=some l->YT ms (off+i*k) l)->off<=ms.length->YT ms off css.flatten
 | [],off,_,_,h=>xI h
 |l::css,off,hl,h,ho=>by
  have h0:=h 0 l rfl;rw[Nat.zero_mul,Nat.add_zero]at h0;have bJ:=hl l (Qh ..);rw[List.flatten_cons];refine xH h0 (Im css _ (fun x hx=>hl x (Qg _ hx)) (fun i x hx=>?_) ?_)
  .have:=h (i+1) x (by simpa using hx);rwa[bJ,show off+k+i*k=off+(i+1)*k by rw[Nat.succ_mul];omega]
  .obtain⟨p,q,e,hp⟩:=h0;rw[e,Qm,Qm];omega
theorem Wx.B {C:Cx}:∀ {as:List (List AV)} {xs:List (List Value)},as.length=xs.length->(∀(i:Nat) a x,as[i]?=some a->xs[i]?=some x->Wx C a x)->Wx C as.flatten xs.flatten
 | [],[],_,_=> .O
 |a::as,x::xs,hl,h=>by
  rw[List.flatten_cons,List.flatten_cons];exact(h 0 a x U U).u (Wx.B (by simpa using hl) fun i b y h1 h2=>h (i+1) b y (by simpa using h1) (by simpa using h2))
theorem Hr {as:List (List AV)} (h:∀a∈as,j_ a):j_ as.flatten:=fun v hv=>by
 obtain⟨a,ha,vT⟩:=List.mem_flatten.1 hv;exact h a ha v vT
theorem NV {cs:List Value}:∀ {fs:List Field} {off n:Nat},mi P off fs=some n->n=cs.length->off<=cs.length->(fs.map fun f=>(cs.drop f.offset).take (P.cellsOf f.type)).flatten=cs.drop off
 | [],off,n,h,hn,_=>by
  cases h;rw[List.map_nil,List.flatten_nil,hn,List.drop_length]
 |f::fs,off,n,h,hn,ho=>by
  unfold mi at h;cases hb:Nat.beq f.offset off with
  |false=>rw[hb]at h;cases h
  |true=>
   rw[hb,cond_true]at h;have he:f.offset=off:=Qb hb;have hle:∀(fs:List Field) (o n:Nat),mi P o fs=some n->o<=n:=by
    intro fs;induction fs with
    |nil=>intro o n h;cases h;exact Qj _
    |cons g fs ih=>grind [mi]
   have:=hle _ _ _ h;rw[List.map_cons,List.flatten_cons,NV h hn (by omega),he,<-List.drop_drop,List.take_append_drop]
variable {sp : Nat -> Bool} {held : Bool} {ts : List TypeId}
theorem MH (fT:tN P ts=true):∀(n:Nat) (t:TypeId) (cs:List Value) (x:DataW H×List MemPlace),t∈ts->DataW.trod enc P W 0 sp held n t cs=some x->
 ∃uX,Wx (Cx.memory W).g uX cs/\j_ uX/\r9 P t uX
 |0,_,_,_,_,h=>by cases h
 |n+1,t,cs,x,ht,h=>by
  have hd:xG P ts t=true:=List.all_eq_true.1 fT t ht;unfold xG at hd;split at hd
  .next hu=>
   obtain⟨b,rfl,-⟩:=DataW.trod_bool hu h;exact⟨[.bool b],.J (.bool _) .O,by intro v hv;simp at hv;subst hv;rfl,.bool hu b⟩
  .next k hu=>
   obtain⟨z,rfl,-,hw⟩:=DataW.trod_int hu h;exact⟨[.int k z],.J (.int _ _) .O,by intro v hv;simp at hv;subst hv;rfl,.int hu hw⟩
  .next hu=>
   obtain⟨s,rfl,-,hs⟩:=DataW.trod_string hu h;exact⟨[.aG s.data.toList],.J (.an U) .O,by intro v hv;simp at hv;subst hv;rfl,.J hu (by simpa using hs)⟩
  .next e hu=>
   have he:e∈ts:=by simpa using hd
   rw[DataW.trod_step]at h;unfold DataW.trodStep at h;rw[hu]at h;split at h<;>first|(cases h;done)|(next heq=>cases heq;done)|(next heq _=>cases heq;done)|skip
   .exact⟨[.Ck [] 0 (P.cellsOf e) true],.J (.Xm none (Nat.zero_mul _) (Qo _)) .O,by intro v hv;simp at hv;subst hv;rfl,r9.O (ls:=[]) hu (Qo _) (by intro l hl;cases hl) (by intro l hl;cases hl)⟩
   .next e' a len cap heq=>
    cases heq;simp only at h;split at h
    .next hg=>
     obtain⟨elems,hel,-⟩:=Qa.1 h;obtain⟨zs,vP,hz⟩:=QX (γ:=List Value×List AV) (Q:=fun i z=>W.cells? 0 (a.add (i*P.cellsOf e)) (P.cellsOf e)=some z.1/\Wx (Cx.memory W).g z.2 z.1/\j_ z.2/\r9 P e z.2) hel fun i y _ hy=>by
      obtain⟨c0,hc0,hr⟩:=Qa.1 hy;obtain⟨uX,h1,h2,h3⟩:=MH fT n e c0 y he hr;exact⟨(c0,uX),hc0,h1,h2,h3⟩
     rw[List.length_range]at vP;have hzi:∀(i:Nat) z,zs[i]?=some z->i<len/\W.cells? 0 (a.add (i*P.cellsOf e)) (P.cellsOf e)=some z.1/\Wx (Cx.memory W).g z.2 z.1/\j_ z.2/\r9 P e z.2:=fun i z hi=>by
      have C5:=(List.getElem?_eq_some_iff.1 hi).1;exact⟨by omega,hz i i z (by rw[List.getElem?_range (by omega)]) hi⟩
     have Y8:∀(i:Nat) z,zs[i]?=some z->z.1.length=P.cellsOf e:=fun i z hi=>by
      have hc:=(hzi i z hi).2.1;by_cases hk:0<P.cellsOf e
      .exact(MK hc hk).choose_spec.2.2.2
      .have h0:P.cellsOf e=0:=by omega
       rw[h0]at hc|-;unfold World.cells? at hc;rw[if_pos (Qo _)]at hc;simp at hc;rw[hc];rfl
     have hvl:∀(i:Nat) z,zs[i]?=some z->z.2.length=P.cellsOf e:=fun i z hi=>by rw[<-Y8 i z hi,(hzi i z hi).2.2.1.g]
     have nd:r9 P t [.Ck (zs.map (·.2)).flatten (zs.map (·.2)).length (P.cellsOf e) true]:= .O hu (by rw[Qn];omega) (fun l hl=>by
      obtain⟨z,rN,rfl⟩:=List.mem_map.1 hl;obtain⟨i,hi⟩:=List.mem_iff_getElem?.1 rN;exact hvl i z hi) (fun l hl=>by
      obtain⟨z,rN,rfl⟩:=List.mem_map.1 hl;obtain⟨i,hi⟩:=List.mem_iff_getElem?.1 rN;exact(hzi i z hi).2.2.2.2)
     have ct:j_ (zs.map (·.2)).flatten:=Hr fun l hl=>by
      obtain⟨z,rN,rfl⟩:=List.mem_map.1 hl;obtain⟨i,hi⟩:=List.mem_iff_getElem?.1 rN;exact(hzi i z hi).2.2.2.1
     refine⟨_,.J ?_ .O,by intro v hv;simp at hv;subst hv;rfl,nd⟩;rw[Qn,vP];have hlen:(zs.map (·.2)).flatten.length=len*P.cellsOf e:=by
      have:∀(l:List (List Value×List AV)),(∀z∈l,z.2.length=P.cellsOf e)->(l.map (·.2)).flatten.length=l.length*P.cellsOf e:=by
       intro l;induction l with
       |nil=>intro _;simp
       |cons b l ih=>grind
      rw[this zs fun z rN=>by
       obtain⟨i,hi⟩:=List.mem_iff_getElem?.1 rN;exact hvl i z hi,vP]
     by_cases h0:len*P.cellsOf e=0
     .rw[List.eq_nil_of_length_eq_zero (hlen.trans h0)];exact .Xm _ h0 hg.2.1
     .have hk:0<P.cellsOf e:=Nat.pos_of_ne_zero fun h=>h0 (by rw[h,Nat.mul_zero]);have eH:0<len:=Nat.pos_of_ne_zero fun h=>h0 (by rw[h,Nat.zero_mul]);obtain⟨z0,hz0⟩:∃z,zs[0]?=some z:=⟨_,Qi (by omega)⟩
      have hc0:=(hzi 0 z0 hz0).2.1;rw[Nat.zero_mul,show a.add 0=a from rfl]at hc0;obtain⟨ms,hM,hsp,sx,_⟩:=MK hc0 hk;obtain⟨Cv,off,spot⟩:=a;obtain rfl:spot=none:=hsp;have hats:∀(i:Nat) l,(zs.map (·.1))[i]?=some l->YT ms (off+i*P.cellsOf e) l:=fun i l hi=>by
       rw[List.getElem?_map]at hi;obtain⟨z,rN,rfl⟩:=Option.map_eq_some_iff.1 hi;have hc:=(hzi i z rN).2.1;rw[Bx]at hc;obtain⟨ms',hM',_,Y0,_⟩:=MK hc hk;rw[show(⟨Cv,off+i*P.cellsOf e,none⟩:Addr).block=Cv from rfl,hM]at hM';cases hM';exact Y0
      refine .Ck (vs:=(zs.map (·.1)).flatten) (ms:=ms) hlen hM ?_ ?_ ?_ ct hg.2.1
      .refine Im _ _ (fun l hl=>?_) hats ?_
       .grind [List.mem_iff_getElem?]
       .obtain⟨p,q,e1,hp⟩:=sx;rw[e1,Qm,Qm];have:p.length=off:=hp;omega
      .refine Wx.B (by simp) fun i b y h1 h2=>?_;rw[List.getElem?_map]at h1 h2;obtain⟨z,rN,rfl⟩:=Option.map_eq_some_iff.1 h1;rw[rN]at h2;cases h2;exact(hzi i z rN).2.2.1
      .intro _;refine Wx.B (by simp) fun i b y h1 h2=>?_;rw[List.getElem?_map]at h1 h2;obtain⟨z,rN,rfl⟩:=Option.map_eq_some_iff.1 h1;rw[rN]at h2;cases h2;exact(hzi i z rN).2.2.1
    .cases h
  .next fs hu=>
   obtain⟨xs,m,hm,-,hlen,uR,hx⟩:=DataW.trod_struct hu h;obtain rfl:n=m:=by omega
   rw[Qf]at hd;obtain⟨zs,vP,hz⟩:=JU (γ:=List AV) (Q:=fun(f:Field) z=>Wx (Cx.memory W).g z ((cs.drop f.offset).take (P.cellsOf f.type))/\j_ z/\r9 P f.type z) (l:=fs.toList) fun f hf=>by
    have hft:f.type∈ts:=by grind
    obtain⟨i,hi⟩:=List.mem_iff_getElem?.1 hf;have qx:fs[i]?=some f:=by simpa using hi
    have C5:i<xs.length:=by grind
    have:=hx i f qx;rw[Qi C5]at this;exact MH fT n f.type _ _ hft this
   cases hl:mi P 0 fs.toList with
   |none=>rw[hl]at hd;cases hd.2
   |some m=>
    rw[hl]at hd;have hm:m=P.cellsOf t:=Qb hd.2;have hp:=NV (cs:=cs) hl (by omega) (Qo _);rw[List.drop_zero]at hp;refine⟨zs.flatten,?_,Hr fun z rN=>?_,.Y hu vP fun i f l hf gK=>(hz i f l hf gK).2.2⟩
    .grind [Wx.B,Option.map_eq_some_iff]
    .grind [List.mem_iff_getElem?,List.getElem?_eq_some_iff,Qi]
  .cases hd
theorem SS (fT:tN P ts=true) {t:TypeId} {fs:Array Field} {v:Value} {d:DataW H} {ps:List MemPlace} {r:Reach} {b0:Nat} (ht:ts.contains t=true) (hu:P.underlying t=some (.struct fs)) (hv:Value.okWide P W r b0 t v) (h:DataW.Trod enc P W 0 sp held t v d ps):
 ∃uX,VR (Cx.memory W) (.O uX) v/\r9 P t uX:=by
 unfold Value.okWide at hv;rw[hu]at hv;obtain⟨cs,rfl,-,-⟩:=hv;obtain⟨n,hn⟩:=h;obtain⟨uX,h1,h2,h3⟩:=MH fT n t _ _ (by simpa using ht) hn;exact⟨uX,.a_ (h1.z (m_.B _)) h2,h3⟩
theorem VG (fT:tN P ts=true) {t e:TypeId} {v:Value} {d:DataW H} {ps:List MemPlace} {r:Reach} {b0:Nat} (ht:ts.contains t=true) (hu:P.underlying t=some (.slice e)) (hv:Value.okWide P W r b0 t v) (h:DataW.Trod enc P W 0 sp held t v d ps):
 ∃av,VR (Cx.memory W) av v/\r9 P t [av]:=by
 unfold Value.okWide Cell.okWide Cell.ok at hv;rw[hu]at hv;obtain⟨n,hn⟩:=h;obtain⟨uX,h1,h2,h3⟩:=MH fT n t _ _ (by simpa using ht) hn;have vE:v.cells.toList=[v]:=by
  cases v<;>first|rfl|(simp at hv)
 rw[vE]at h1;cases h1 with
 |J ha hb=>
  cases hb;exact⟨_,ha.g (m_.B _),h3⟩
end
section
variable {E : c_} {fr : Fr} {l : Sl} {s : St} {o : Oper}
theorem OU {t:TypeId} {x:Operand} {w:List UInt8} (ho:o.op= .range t x) (hu:Wb E t=some .string) (hx:Cg x l=some (.aG w)):Zl E o fr l s (.J s.a 0) (s.g (.Ym w 0)):=fun T hT=>
 EF (f:=fun T=>(Ci E x T).bind Am.qC) (by
  rw[ho];show lG E t x=_;unfold lG;rw[hu]) (by rw[Ae hT hx];rfl)
theorem HH {b pos:Nat} {w:List UInt8} (hg:s.b.g b=some (.Ym w pos)):dL s (.J b 0)=db s b (some (.Ym w pos)):=by
 show db s b (s.b.g b)=_;rw[hg]
theorem Zl.next {it:Operand} {v:AV} {p:AV×St} (ho:o.op= .next it true) (hx:Cg it l=some v) (h:dL s v=some p):Zl E o fr l s p.1 p.2:=fun T hT=>
 H1 (b:=true) (x:=Ci E it) (f:=fun T s=>(Ci E it T).bind (dL s)) (by rw[ho];rfl) (by rw[Ae hT hx,Qe,h])
theorem Q5 {it:Operand} {b pos:Nat} {w:List UInt8} (ho:o.op= .next it true) (hx:Cg it l=some (.J b 0)) (hg:s.b.g b=some (.Ym w pos)) (hp:pos=w.length):Zl E o fr l s (.Y [.bool false]) s:=by
 subst hp;refine Zl.next (p:=(.Y [.bool false],s)) ho hx ?_;rw[HH hg];show(XE w.length w).bind _=_;rw[show XE w.length w=some [] by
  have:=Dw w ([]:List UInt8);rwa[List.append_nil]at this];rfl
theorem MF {α:Type} {l:List α} {k:Nat} {d:α} (h:k<l.length):XE k l=some (l.getD k d::l.drop (k+1)):=by
 have h1:l=l.take k++(l.getD k d::l.drop (k+1)):=by grind [List.getD,Qi,List.drop_eq_getElem_cons,List.take_append_drop]
 have h2:(l.take k).length=k:=by rw[List.length_take];omega
 have:=Dw (l.take k) (l.getD k d::l.drop (k+1));rwa[h2,<-h1]at this
theorem Q4 {it:Operand} {b pos:Nat} {w:List UInt8} (ho:o.op= .next it true) (hx:Cg it l=some (.J b 0)) (hg:s.b.g b=some (.Ym w pos)) (hp:pos<w.length) (hc:(w.getD pos 0).toNat<128):
 Zl E o fr l s (.Y [.bool true,.int .i64 (pos:Nat),.int .i32 ((w.getD pos 0).toNat:Nat)]) (s.z b (some (.Ym w (pos+1)))):=by
 refine Zl.next (p:=(.Y [.bool true,.int .i64 (pos:Nat),.int .i32 ((w.getD pos 0).toNat:Nat)],s.z b (some (.Ym w (pos+1))))) ho hx ?_;rw[HH hg];show(XE pos w).bind _=_;rw[MF (d:=0) hp];show(bif Nat.blt (w.getD pos 0).toNat 128 then _ else _)=_;rw[show Nat.blt (w.getD pos 0).toNat 128=true from Qd hc];rfl
theorem PY {s:ByteArray} {i:Nat} (h:128<=(s.get! (i+0)).toNat):128<=(Utf8.decode s i).1:=by
 unfold Utf8.decode;simp only;rw[if_neg (by omega)];have hr:128<=Utf8.runeError:=by decide
 split
 .grind
 .grind
theorem OW {b pos:Nat} {w:List UInt8} (hg:s.b.g b=some (.Ym w pos)) (hp:pos<w.length) (hc:¬(w.getD pos 0).toNat<128):
 ∃r d:Nat,128<=r/\∀ {E:c_} {fr:Fr} {l:Sl} {o:Oper} {it:Operand},o.op= .next it true->Cg it l=some (.J b 0)->Zl E o fr l s (.Y [.bool true,.int .i64 (pos:Nat),.int .i32 (r:Nat)]) (s.z b (some (.Ym w (pos+d)))):=by
 refine⟨(Utf8.decode ⟨w.toArray⟩ pos).1,(Utf8.decode ⟨w.toArray⟩ pos).2,PY ?_,fun ho hx=>?_⟩
 .have:(ByteArray.mk w.toArray).get! (pos+0)=w.getD pos 0:=by
   show(w.toArray)[pos+0]! =_;simp[List.getD,hp]
  rw[this];omega
 refine Zl.next (p:=(.Y [.bool true,.int .i64 (pos:Nat),.int .i32 ((Utf8.decode ⟨w.toArray⟩ pos).1:Nat)],s.z b (some (.Ym w (pos+(Utf8.decode ⟨w.toArray⟩ pos).2))))) ho hx ?_;rw[HH hg];show(XE pos w).bind _=_;rw[MF (d:=0) hp];show(bif Nat.blt (w.getD pos 0).toNat 128 then _ else _)=_;rw[show Nat.blt (w.getD pos 0).toNat 128=false by
  cases hb:Nat.blt (w.getD pos 0).toNat 128 with
  |false=>rfl
  |true=>exact absurd (Qc hb) (by omega)];rfl
theorem MV {n bd:Nat} {lg:List Nat} {hl:Hl} {t:TypeId} {x:Operand} {w:List UInt8} (m:Nat) (ho:o.op= .range t x) (hu:Wb E t=some .string) (hx:Cg x l=some (.aG w)) (hm:n+1=m):Zl E o fr l (Xc n bd lg hl) (.J n 0) (Xc m bd lg ((n,some (.Ym w 0))::hl)):=by
 subst hm;exact OU ho hu hx
end
def Cq {α:Type} (enc:α->List AV) (k:Nat) (l:List α):AV:= .Ck (l.flatMap enc) l.length k true
theorem Hd {α:Type} {enc:α->List AV} {k:Nat} (h:∀a,(enc a).length=k):∀l:List α,(l.flatMap enc).length=l.length*k
 | []=>(Nat.zero_mul k).symm
 |a::l=>by rw[List.flatMap_cons,Qm,Hd h l,h a,List.length_cons,Nat.succ_mul,Nat.add_comm]
theorem He {α:Type} {enc:α->List AV} {k:Nat} (h:∀a,(enc a).length=k):∀ {l:List α} {i:Nat} (hi:i<l.length),(l.flatMap enc).drop (i*k)=enc l[i]++(l.drop (i+1)).flatMap enc
 |a::l,0,_=>by rw[Nat.zero_mul,List.drop_zero];rfl
 |a::l,i+1,hi=>by
  have ih:=He h (l:=l) (i:=i) (by simpa using hi);rw[List.flatMap_cons,show(i+1)*k=(enc a).length+i*k by rw[h a,Nat.succ_mul,Nat.add_comm],List.drop_length_add_append,ih];rfl
theorem Af {α:Type} {enc:α->List AV} {k:Nat} (h:∀a,(enc a).length=k+1) {l:List α} {i:Nat} (hi:i<l.length):OK (k+1) i (Cq enc (k+1) l)=some (.XD (enc l[i]++(l.drop (i+1)).flatMap enc)):=by
 unfold Cq OK;simp only[show Nat.blt i l.length=true from Qd hi,cond_true];have C5:i*(k+1)<(l.flatMap enc).length:=by rw[Hd h];exact Nat.mul_lt_mul_of_pos_right hi (Nat.succ_pos k)
 have hd:=He h hi;have h1:XE (i*(k+1)) (l.flatMap enc)=some ((l.flatMap enc).drop (i*(k+1))):=by
  have:=Dw ((l.flatMap enc).take (i*(k+1))) ((l.flatMap enc).drop (i*(k+1)));rwa[List.take_append_drop,List.length_take,Nat.min_eq_left (by omega)]at this
 rw[h1,hd,Qe];cases he:enc l[i]with
 |nil=>have:=h l[i];rw[he]at this;cases this
 |cons c cs=>rfl
theorem bK.at2 {E:c_} {s:St} {v:AV} {l:List (List UInt8)} (h:bK s v l) {i:Nat} (hi:i<l.length) {t:TypeId} (h1:j' E t=some false) (h2:an E t=some 1):
 (∃rest,OK (0+1) i v=some (.XD (.aG l[i]::rest)))\/∃b off,OK (0+1) i v=some (.J b off)/\Wq E t s (.J b off)=some (.aG l[i]):=by
 obtain⟨p,hp,hl⟩:=h.at hi h1 h2;rcases h with⟨rfl,rfl⟩|⟨cl,rfl⟩|⟨b,off,cap,cs,e,part,rfl,hb,hg,hc⟩
 .simp at hi
 .refine .inl ⟨(l.map AV.aG).drop (i+1),?_⟩;unfold OK;simp only[show Nat.blt i l.length=true from Qd hi,cond_true];rw[show i*(0+1)=i by omega];have h':i<(l.map AV.aG).length:=by rw[Qn];exact hi
  have h1:=MF (d:=AV.cU) h';rw[h1,List.getD,Qi h',Option.getD_some,List.getElem_map];rfl
 .grind [OK]
section
variable {E : c_} {fr : Fr} {l : Sl} {o : Oper} {all rest : List Oper} {i : Nat} {js : List Nat} {nl : WG} {K : Sl -> St -> Prop} {st : St} {od : Option Nat}
theorem Cz.append {KN:PN} {c:Call} {t e:TypeId} {ts:List TypeId} {x y:Operand} {sz VZ n:Nat} {z a b v:AV} {new:List AV} {s2:St} (ho:o.op= .call c) (hc:c.callee= .builtin .append) (ht:c.argTypes.toList=t::ts) (ha:c.args.toList=[x,y])
 (hu:Wb E t=some (.slice e)) (X2:an E e=some sz) (cQ:i_ E e=some VZ) (hz:h_ E e=some z) (hk:(!(Nat.beq (Xu z.g) sz)||Nat.beq sz 0|| !(ZY E ts.head?))=false) (h0:Xw E ts.head?=false)
 (hx:Cg x (CW (b_ o.op.operands.toList) l)=some a) (hy:Cg y (CW (b_ o.op.operands.toList) l)=some b) (hn:CY (st.B st.b) sz b=some (new,n)) (hr:CP (st.B st.b) e sz VZ new n a=some (v,s2))
 (ZL:st.a<=s2.a) (CU:∀b∈s2.d,b<st.a/\Xe (CX all i) b nl=true) (eP:fB (CX all i) js=true) (cS:(nl.all fun p=>Nat.testBit (CX all i) p.1)=true)
 (hg:Wf all l o) (hd:o.dst=od) (C5:Wz fr.nt od=true)
 (h:Cz E KN all rest (i+1) fr (WX od v l) (st.A s2) (i::js) (XG i (XG i nl (Y3 st.a (s2.a-st.a))) s2.d) K):Cz E KN all (o::rest) i fr l st js nl K:=
 R6 (x:=Ci E x) (f:=fun T s=>(Ci E x T).bind fun a=>(Ci E y T).bind fun b=>(CY s sz b).bind fun p=>CP s e sz VZ p.1 p.2 a) (by
  rw[ho];show Wo E o.type c=_;unfold Wo;rw[hc];simp only;rw[ht,ha];show aU E t ts.head? x y=_;unfold aU;rw[hu];simp only[X2,cQ,hz,hk,h0,cond_false]) (Zl.append ho hc ht ha hu X2 cQ hz hk h0 hx hy hn hr) ZL CU eP cS hg hd C5 h
end
theorem Oj {st:St} {e:TypeId} {VZ:Nat} {new:List AV} (hs:k7 new.length VZ=true) (hb:st.c=0):
 ∃v' s2,CP (st.B st.b) e 1 VZ new new.length .Ca=some (v',s2)/\st.a<=s2.a/\s2.a<=st.a+1/\s2.d=[]/\a_ (st.A s2) e 1 v' new new.length/\(∀c,CB c v'=true->c=st.a)/\
  (∀c,c<st.a->(st.A s2).b.g c=st.b.g c)/\(st.A s2).d=st.d/\(st.A s2).c=0:=by
 cases hn:new with
 |nil=>
  refine⟨.Ca,st.B st.b,rfl,Qj _,Nat.le_succ _,rfl,.inl ⟨rfl,rfl,rfl⟩,(fun c hc=>by cases hc),fun c hc=>?_,?_,hb⟩
  .show(WH _ (Y3 st.a (st.a-st.a)) st.b).g c=_;rw[Nat.sub_self];rfl
  .show below st.c [] st.d=_;rfl
 |cons a l=>
  rw[hn]at hs;have hm:((st.B st.b).g (.J (a::l) e true)).a=st.a+1:=rfl;refine⟨.Z st.a 0 (a::l).length 1 none,(st.B st.b).g (.J (a::l) e true),?_,Nat.le_succ _,Qj _,rfl,.inr ⟨st.a,rfl,Nat.lt_succ_self _,?_,by omega,by simp⟩,fun c hc=>(Qb hc).symm,fun c hc=>?_,rfl,hb⟩
  .unfold CP;rw[hs];rfl
  .rw[FM hm,if_pos (.inl rfl)];show(st.b.u st.a _).g st.a=_;rw[Ay,if_pos rfl]
  .rw[FM hm,if_neg (by
    rintro(h|h)
    .omega
    .cases h)]
theorem KC {s:St} {v:AV} {l:List (List UInt8)} (h:bK s v l):CY s 1 v=some (l.map .aG,l.length):=by
 rcases h with⟨rfl,rfl⟩|⟨cl,rfl⟩|⟨b,off,cap,cs,e,part,rfl,hb,hg,dC,gK,_⟩
 .rfl
 .show(pa (l.length*1) (l.map AV.aG)).bind _=_;have h1:=DI (l.map AV.aG);rw[Qn]at h1;rw[Nat.mul_one,h1];rfl
 .show(Ww (s.b.g b)).bind _=_;rw[hg];show(XE off cs).bind _=_;rw[Hk (by omega),Qe];have h1:=Dq ((cs.drop off).take l.length) ((cs.drop off).drop l.length);rw[List.take_append_drop,gK,Qn]at h1;rw[Nat.mul_one,h1];rfl
section
variable {E : c_} {fr : Fr} {l : Sl} {o : Oper} {all rest : List Oper} {i : Nat} {js : List Nat} {nl : WG} {K : Sl -> St -> Prop} {st : St} {od : Option Nat}
theorem AI {KN:PN} {t e:TypeId} {len sz:Nat} {parts:Array (Nat×Operand)} {z:AV} {ps:List (Nat×AV)} {cs:List AV} (ho:o.op= .buildSlice t (len+1) parts) (hu:Wb E t=some (.slice e)) (hs:an E e=some sz) (hz:h_ E e=some z)
 (hk:(Nat.beq (Xu z.g) sz&&Nat.ble ((len+1)*sz) 16777216&& !(Nat.beq sz 0))=true) (hq:hY parts.toList (CW (b_ o.op.operands.toList) l)=some ps) (hf:aP (fun i=>some (i*sz,sz)) ps (Xj z.g (len+1))=some cs)
 (hg:Wf all l o) (hd:o.dst=od) (C5:Wz fr.nt od=true)
 (h:Cz E KN all rest (i+1) fr (WX od (.Z st.a 0 (len+1) sz (some (len+1))) l) (st.g (.J cs e false)) js ((i,st.a)::nl) K):Cz E KN all (o::rest) i fr l st js nl K:=
 Hy (f:=fun T=>(bp E parts.toList T).bind fun ps=>ax e sz (len+1) (aP (fun i=>some (i*sz,sz)) ps (Xj z.g (len+1)))) (g:=fun b=> .Z b 0 (len+1) sz (some (len+1))) (by
  rw[ho];show YJ E t (len+1) parts.toList=_;unfold YJ;rw[hu];simp only[hs,hz,hk,cond_true]) (fun T hT=>by
  simp only[GK hT hq,Qe,hf];rfl) hg hd C5 h
end
theorem AH {Wk b:Nat}:∀ {nl:WG},(nl.all fun p=>Nat.testBit Wk p.1)=true->Xe Wk b nl=true
 | [],_=>rfl
 |(j,c)::nl,h=>by
  rw[List.all_cons,Qf]at h;exact V5 h.1 (AH h.2)
theorem A3 {n k:Nat} (h:n*(k+1)<=1099511627776) (hk:k+1<=1048576):k7 n (k+1)=true:=by
 have:n<=n*(k+1):=Nat.le_mul_of_pos_right _ (Nat.succ_pos k);unfold k7;rw[Qd h,Qd (show n<=1099511627776 by omega),Qd hk];rfl
theorem Tq {s:St} {e:TypeId} {v:AV} {l:List (List UInt8)} {n:Nat} (h:a_ s e 1 v (l.map .aG) n) (hn:n=l.length):bK s v l:=by
 subst hn;rcases h with⟨rfl,h0,hc⟩|⟨b,rfl,hb,hg,hl,h0⟩
 .exact .inl ⟨U,by simpa using hc⟩
 .exact .inr (.inr ⟨b,0,none,_,_,_,rfl,hb,hg,by rw[Qn];omega,by rw[List.drop_zero,List.take_of_length_le (by rw[Qn];exact Qj _)],fun c hc=>by cases hc⟩)
theorem IR {Wk i:Nat} {nl:WG} (hi:Nat.testBit Wk i=true) (h:(nl.all fun p=>Nat.testBit Wk p.1)=true):∀L:List Nat,((XG i nl L).all fun p=>Nat.testBit Wk p.1)=true
 | []=>h
 |b::L=>by
  show(Nat.testBit Wk i&&_)=true;rw[hi,IR hi h L];rfl
theorem IC {Wk i b:Nat} {nl:WG} (hi:Nat.testBit Wk i=true) (h:(nl.all fun p=>Nat.testBit Wk p.1)=true):(((i,b)::nl).all fun p=>Nat.testBit Wk p.1)=true:=by
 rw[List.all_cons,h,hi];rfl
section
variable {E : c_} {fr : Fr} {l : Sl} {s : St} {all rest : List Oper} {o : Oper}
theorem Fa {KP:AV->Sl->St->Prop} {K:Sl->St->Prop} {j e:Nat} {w b:Bool} {oj:Oper} (hg:o.guard=some (j,w)) (hj:l_ all j=some oj) (he:oj.dst=some e) (hl:d_ e l=some (.bool b)) (hb:b=w)
 (h:CA E KP all ({o with guard:=none}::rest) fr l s K):CA E KP all (o::rest) fr l s K:=by
 intro T hT;obtain⟨M,ex,l',T',s2,hk,af,hr⟩:=h T hT;refine⟨M,ex,l',T',s2,hk,af,fun n hn=>?_⟩;have hr:=hr n hn;have dV:(ZN E all {o with guard:=none} (Z2 o.dst (aW E all rest))).run (ev E n) fr T s=_:=hr;show(ZN E all o (Z2 o.dst (aW E all rest))).run (ev E n) fr T s=_;unfold ZN r7 at dV|-;rw[hg];simp only at dV|-;rw[Fh (g:=(j,w)) hj he (hT e _ hl)];have:(bif w then b else !b)=true:=by rw[hb];cases w<;>rfl
 rw[this];simp only[dh,cond_true];exact dV
theorem E9 {st:St} {ob:CG} {c:Nat}:(st.g ob).b.g c=if c=st.a then some ob else st.b.g c:=Ay ..
theorem Ax {st:St} {ob:CG}:(st.g ob).b.g st.a=some ob:=by rw[E9,if_pos rfl]
theorem Ap {st:St} {ob:CG} {c:Nat} (h:c<st.a):(st.g ob).b.g c=st.b.g c:=by rw[E9,if_neg (Nat.ne_of_lt h)]
theorem CL.z {st:St} {ob:CG} {own:Nat->Prop}:CL st (st.g ob) own:=
 ⟨Nat.le_succ _,rfl,fun _ h=> .inl h,fun _ hc _=>Ap hc⟩
def aR:Nat->List (List UInt8)->List XA
 |_,[]=>[]
 |k,w::l=>(.aG w,.bool true,k)::aR (k+1) l
theorem O1:∀(k:Nat) (l:List (List UInt8)) (w:List UInt8),aR k (l++[w])=aR k l++[(.aG w,.bool true,k+l.length)]
 |_,[],_=>rfl
 |k,a::l,w=>by
  show(AV.aG a,AV.bool true,k)::aR (k+1) (l++[w])=_;rw[O1 (k+1) l w];show _=(AV.aG a,AV.bool true,k)::(aR (k+1) l++[(.aG w,.bool true,k+(l.length+1))])
  rw[show k+1+l.length=k+(l.length+1) by omega]
theorem HS (w:List UInt8):∀(k:Nat) (l:List (List UInt8)),∃r,Yo (.J .string) (.aG w) (aR k l)=some r/\(r=none↔l.contains w=false)/\eX false (.bool false) r= .bool (l.contains w)
 |_,[]=>⟨none,rfl,⟨fun _=>rfl,fun _=>rfl⟩,rfl⟩
 |k,a::l=>by
  obtain⟨r,h1,h2,h3⟩:=HS w (k+1) l;by_cases ha:w=a
  .subst ha;refine⟨some (.aG w,.bool true,k),?_,?_,?_⟩
   .show(some (XY w w)).bind _=_;rw[Bc,decide_eq_true rfl,Qe,h1];rfl
   .simp
   .simp[eX]
  .refine⟨r,?_,?_,?_⟩
   .show(some (XY w a)).bind _=_;rw[Bc,decide_eq_false ha,Qe,h1];rfl
   .rw[h2];simp[ha]
   .rw[h3];simp[ha]
theorem O0 {st:St} {b:Nat} {l:List (List UInt8)} {w:List UInt8} {clock:Nat} (hg:st.b.g b=some (.Y (aR 0 l) clock)):ck (.J .string) st false (.bool false) (.bW b) (.aG w)=some (.bool (l.contains w)):=by
 obtain⟨r,h1,_,h3⟩:=HS w 0 l;show((eS (st.b.g b)).bind fun es=>(Yo _ _ es).bind fun r=>some (eX false (.bool false) r))=_;rw[hg];show(Yo _ _ (aR 0 l)).bind _=_;rw[h1,Qe,h3]
theorem Vw {st:St} {b:Nat} {l:List (List UInt8)} {w:List UInt8} (hg:st.b.g b=some (.Y (aR 0 l) l.length)):
 ∃ob,cm (.J .string) st (.aG w) (.bool true) (.bW b)=some (st.z b (some ob))/\(l.contains w=false->ob= .Y (aR 0 (l++[w])) (l++[w]).length):=by
 obtain⟨r,h1,h2,h3⟩:=HS w 0 l;cases r with
 |none=>
  refine⟨_,?_,fun _=>rfl⟩;show cY (.J .string) st b (.aG w) (.bool true) (st.b.g b)=_;rw[hg];show(Yo _ _ (aR 0 l)).bind _=_;rw[h1,Qe];show some (st.z b (some (.Y (aR 0 l++[(.aG w,.bool true,l.length)]) (l.length+1))))=_;rw[O1,Nat.zero_add,Qm];rfl
 |some e=>
  refine⟨.Y (pj (.J .string) (.aG w) (.bool true) (aR 0 l)) l.length,?_,fun h=>?_⟩
  .show cY (.J .string) st b (.aG w) (.bool true) (st.b.g b)=_;rw[hg];show(Yo _ _ (aR 0 l)).bind _=_;rw[h1];rfl
  .exact absurd (h2.2 h) (by simp)
end
section
variable {E : c_} {fr : Fr} {l : Sl} {s : St} {all rest : List Oper} {o : Oper} {K : Sl -> St -> Prop}
theorem Dy {KP:AV->Sl->St->Prop} {c:Call} {t f:Nat} {first captured args xs:List AV} {d:Nat} (hb:CV E f=true) (ho:o.op= .call c) (hc:c.callee= .value (.tmp t)) (hv:d_ t l=some (.an (.func f) first captured)) (ha:WC c.args.toList l=some args) (hg:o.guard=none) (hd:o.dst=some d)
 (C5:Nat.blt d fr.nt=true) (hx:first++args++captured=xs) (h:Wm E f xs s fun v s'=>CA E KP all rest fr ((d,v)::l) s' K):CA E KP all (o::rest) fr l s K:=by
 subst hx;refine VM (F:=Ci E (.tmp t)) (A:=CZ E c.args.toList) ?_ (fun T hT=>hT t _ hv) (fun T hT=>AO hT ha) hb hg hd C5 h;rw[ho];show Wo E o.type c=_;unfold Wo;rw[hc]
end
theorem AW {E:c_} {l:Sl} {o:Oper} {t e:TypeId} {x i:Operand} {sz:Nat} {z:Int} {ik:IntKind} {a p:AV} (ho:o.op= .indexAddr t x i) (hu:Wb E t=some (.slice e)) (hs:an E e=some (sz+1)) (hx:Cg x l=some a) (hi:Cg i l=some (.int ik z)) (hz:0<=z) (hp:OK (sz+1) z.toNat a=some p):X3 E o l p:=
 BK (k:=z.toNat) ho hu hs hx (by rw[hi,Int.toNat_of_nonneg hz]) hp
section
variable {E : c_} {fr : Fr} {l : Sl} {st : St} {o : Oper} {all rest : List Oper} {i : Nat} {js : List Nat} {nl : WG} {K : Sl -> St -> Prop} {od : Option Nat}
theorem Cz.look {KN:PN} {v:AV} (hq:XK (XL E o.type o.op)=true) (je:∀T,k8 (CW (b_ o.op.operands.toList) l) T->WQ (XL E o.type o.op) T= .Y)
 (ho:Zl E o fr (CW (b_ o.op.operands.toList) l) (st.B st.b) v (st.B st.b)) (cS:(nl.all fun p=>Nat.testBit (CX all i) p.1)=true) (hg:Wf all l o) (hd:o.dst=od) (C5:Wz fr.nt od=true)
 (h:Cz E KN all rest (i+1) fr (WX od v l) st (i::js) nl K):Cz E KN all (o::rest) i fr l st js nl K:=by
 refine IF hq (fun T news hn hT=>⟨.inl (Qh ..),?_⟩) (fun j hj=>Qg _ hj) hg hd C5 h;rw[je T hT];have:Ws (CX all i) news st.b .Y=st.b:=E8 cS hn;rw[this];exact IE (ho T hT)
end
theorem a_.tP {s:St} {e:TypeId} {sz VZ n m:Nat} {v:AV} {cs new:List AV} (h:a_ s e sz v cs n) (XV:new.length=m*sz) (X2:0<sz) (ao:k7 (n+m) VZ=true):
 ∃v' s',CP s e sz VZ new m v=some (v',s')/\a_ s' e sz v' (cs++new) (n+m)/\(∀c,CB c v'=true->CB c v=true\/c=s.a)/\s.a<=s'.a/\s'.a<=s.a+1/\s'.c=s.c/\(∀c∈s'.d,c∈s.d\/(c<s.c/\CB c v=true))/\
  ∀c,c<s.a->CB c v=false->s'.b.g c=s.b.g c:=by
 by_cases hm:m=0
 .subst hm;have:new=[]:=List.length_eq_zero_iff.1 (by rw[XV,Nat.zero_mul]);subst this;refine⟨v,s,?_,by rw[List.append_nil];exact h,fun c hc=> .inl hc,Qj _,Nat.le_succ _,rfl,fun c hc=> .inl hc,fun c _ _=>rfl⟩;rcases h with⟨rfl,_⟩|⟨b,rfl,_⟩<;>rfl
 have er:Nat.beq m 0=false:=by grind [Qb]
 rcases h with⟨rfl,rfl,rfl⟩|⟨b,rfl,hb,hg,hl,h0⟩
 .rw[Nat.zero_add]at ao|-;refine⟨.Z s.a 0 m sz none,s.g (.J new e true),?_,.inr ⟨s.a,rfl,Nat.lt_succ_self _,?_,by rw[List.nil_append,XV],hm⟩,fun c hc=> .inr (Qb hc).symm,Nat.le_succ _,Qj _,rfl,fun c hc=> .inl hc,fun c hc _=>?_⟩
  .grind [CP]
  .show(s.b.u s.a _).g s.a=_;rw[Ay,if_pos rfl,List.nil_append]
  .show(s.b.u s.a _).g c=_;rw[Ay,if_neg (by omega)]
 .have a9:jS sz n m none cs=false:=by
   show Nat.ble ((n+m)*sz) (Xu cs)=false;rw[DT,hl];have h1:(n+m)*sz=n*sz+m*sz:=Nat.add_mul ..;have h2:0<m*sz:=Nat.mul_pos (Nat.pos_of_ne_zero hm) X2;cases hb:Nat.ble ((n+m)*sz) (n*sz)with
   |false=>rfl
   |true=>have:=Qc hb;omega
  refine⟨.Z s.a 0 (n+m) sz none,(s.z b none).g (.J (cs++new) e true),?_,.inr ⟨s.a,rfl,Nat.lt_succ_self _,?_,by rw[Qm,hl,XV,Nat.add_mul],by omega⟩,fun c hc=> .inr (Qb hc).symm,Nat.le_succ _,Qj _,rfl,fun c hc=>?_,fun c hc ho=>?_⟩
  .unfold CP;simp only[er,cond_false,Nat.beq_refl,ao,Bool.and_self,cond_true,hg,aw,da];rw[show XE 0 cs=some cs from rfl];simp only[Qe,a9,cond_false,Bool.true_or,cond_true];rw[<-hl,DI];rfl
  .show((s.b.u b none).u s.a _).g s.a=_;rw[Ay,if_pos rfl]
  .rcases BP (s:=s) (b:=b) (o:=none) hc with h|⟨rfl,h⟩
   .exact .inl h
   .exact .inr ⟨h,Nat.beq_refl _⟩
  .show((s.b.u b none).u s.a _).g c=_;have se:c≠b:=fun h=>by subst h;rw[show CB c (.Z c 0 n sz none)=true from Nat.beq_refl c]at ho;cases ho
   rw[Ay,if_neg (by omega),Ay,if_neg se]
theorem a_.own {s:St} {e:TypeId} {sz n:Nat} {v:AV} {cs:List AV} (h:a_ s e sz v cs n) {c:Nat} (hc:CB c v=true):c<s.a:=by
 rcases h with⟨rfl,_⟩|⟨b,rfl,hb,_⟩
 .cases hc
 .have:=Qb (show Nat.beq b c=true from hc);omega
theorem a_.cells {s:St} {e:TypeId} {sz n:Nat} {v:AV} {cs:List AV} (h:a_ s e sz v cs n):cs.length=n*sz:=by
 rcases h with⟨_,rfl,rfl⟩|⟨b,_,_,_,hl,_⟩
 .rw[Nat.zero_mul];rfl
 .exact hl
theorem a_.len {s:St} {e:TypeId} {sz n:Nat} {v:AV} {cs:List AV} (h:a_ s e sz v cs n):aQ v=some (.int .i64 (n:Nat)):=by
 rcases h with⟨rfl,rfl,_⟩|⟨b,rfl,_⟩<;>rfl
theorem a_.at {s:St} {e:TypeId} {sz n:Nat} {v:AV} {cs:List AV} (h:a_ s e (sz+1) v cs n) {k:Nat} (hk:k<n):∃b,v= .Z b 0 n (sz+1) none/\b<s.a/\s.b.g b=some (.J cs e true)/\OK (sz+1) k v=some (.J b (k*(sz+1))):=by
 rcases h with⟨_,rfl,_⟩|⟨b,rfl,hb,hg,hl,h0⟩
 .omega
 .refine⟨b,U,hb,hg,?_⟩;show(bif Nat.blt k n then some (AV.J b (0+k*(sz+1)))else none)=_;rw[show Nat.blt k n=true from Qd hk,Nat.zero_add];rfl
theorem EN {cs:List AV} {n sz:Nat} (h:n≠0):bH cs n sz= .Ck cs n sz true:=by grind [bH,Qb]
theorem a_.ln {s:St} {e:TypeId} {sz n:Nat} {v:AV} {cs:List AV} (h:a_ s e sz v cs n) (hp:cs.all aL=true) (hc:cs.all (Cr 40)=true) (m:Nat):∃ks,C9 s 0 (m+2) v []=some (bH cs n sz,ks):=by
 rcases h with⟨rfl,rfl,rfl⟩|⟨b,rfl,hb,hg,hl,h0⟩
 .exact⟨[],U⟩
 .rw[EN h0];refine⟨[b],?_⟩;show(Ww (s.b.g b)).bind _=_;rw[hg];show(v_ cs 0 (n*sz)).bind _=_;rw[Hp (by omega),List.drop_zero,List.take_of_length_le (by omega)];show(C9.many (C9 s 0 (m+1)) cs []).bind _=_;rw[FR hp];show some (AV.Ck _ _ _ (cs.all (Cr 40)),_)=_;rw[hc]
theorem GM {v:AV}:∀ {cs:List AV} {k:Nat},k<cs.length->over [v] k cs=some (cs.set k v)
 | [],_,h=>absurd h (Nat.not_lt_zero _)
 |a::cs,0,_=>rfl
 |a::cs,k+1,h=>by
  have ih:=GM (v:=v) (cs:=cs) (k:=k) (Nat.lt_of_succ_lt_succ h);show ep a (over [v] k cs)=_;rw[ih];rfl
theorem a_.write {s:St} {e:TypeId} {n b:Nat} {cs:List AV} {w:AV} {k:Nat} (h:a_ s e 1 (.Z b 0 n 1 none) cs n):a_ (s.z b (some (.J (cs.set k w) e true))) e 1 (.Z b 0 n 1 none) (cs.set k w) n:=by
 rcases h with⟨h,_⟩|⟨b',h,hb,hg,hl,h0⟩
 .cases h
 .cases h;exact .inr ⟨b,U,hb,by rw[Ah,if_pos rfl],by rw[List.length_set];exact hl,h0⟩
theorem a_.one {st:St} {e:TypeId} {sz VZ n:Nat} {v:AV} {cs new:List AV} (h:a_ st e sz v cs n) (XV:new.length=sz) (X2:0<sz) (aq:k7 1 VZ=true) (ao:k7 (n+1) VZ=true) (hb:st.c=0):
 ∃v' s2,CP ((st.g (.J new e false)).B (st.g (.J new e false)).b) e sz VZ new 1 v=some (v',s2)/\st.a+1<=s2.a/\(∀b∈s2.d,b<st.a+1)/\
  a_ ((st.g (.J new e false)).A s2) e sz v' (cs++new) (n+1)/\(∀c,CB c v'=true->st.a<=c)/\st.a<=((st.g (.J new e false)).A s2).a/\
  (∀c,c<st.a->CB c v=false->((st.g (.J new e false)).A s2).b.g c=st.b.g c)/\((st.g (.J new e false)).A s2).d=st.d/\((st.g (.J new e false)).A s2).c=0:=by
 have h1:a_ (st.g (.J new e false)) e sz v cs n:=h.CQ (Nat.le_succ _) fun c hc=>Ap (h.own hc);obtain⟨v2,s3,uN,hn3,zM,hG3,ho3,uY,pY⟩:=h1.tL XV X2 aq ao;have hn3':s3.a=st.a+1+1:=hn3;refine⟨v2,s3,uN,by omega,zM,hG3,fun c hc=>?_,?_,fun c hc ho=>(uY c (Nat.lt_succ_of_lt hc) ho).trans (Ap hc),pY hb,hb⟩
 .rcases hG3 with⟨rfl,h,_⟩|⟨b,rfl,_⟩
  .cases hc
  .have e1:b=c:=Qb hc;have e2:b=st.a+1:=Qb ho3;omega
 .show st.a<=s3.a;omega
theorem Bt {s:St} {b sz:Nat} {new:List AV} {e:TypeId} {part:Bool} {cap:Option Nat} (hg:s.b.g b=some (.J new e part)) (XV:new.length=sz):CY s sz (.Z b 0 1 sz cap)=some (new,1):=by
 show(bif Nat.beq sz sz then(Ww (s.b.g b)).bind fun cs=>(XE 0 cs).bind fun l=>(pa (1*sz) l).bind fun l=>some (l,1)else none)=_;rw[Nat.beq_refl,hg];show(pa (1*sz) new).bind _=_;rw[Nat.one_mul,<-XV,DI];rfl
section
variable {E : c_} {fr : Fr} {l : Sl} {st : St} {o : Oper} {all rest : List Oper} {i : Nat} {js : List Nat} {nl : WG} {K : Sl -> St -> Prop} {od : Option Nat}
theorem Iv {KN:PN} {c:Call} {t e:TypeId} {ts:List TypeId} {x y:Operand} {sz VZ n:Nat} {z v:AV} {cs new:List AV} (ah:a_ st e sz v cs n) (hb:st.c=0) (XV:new.length=sz) (fj:0<sz) (aq:k7 1 VZ=true) (ao:k7 (n+1) VZ=true)
 (ho:o.op= .call c) (hc:c.callee= .builtin .append) (ht:c.argTypes.toList=t::ts) (ha:c.args.toList=[x,y])
 (hu:Wb E t=some (.slice e)) (X2:an E e=some sz) (cQ:i_ E e=some VZ) (hz:h_ E e=some z) (hk:(!(Nat.beq (Xu z.g) sz)||Nat.beq sz 0|| !(ZY E ts.head?))=false) (h0:Xw E ts.head?=false)
 (hx:Cg x (CW (b_ o.op.operands.toList) l)=some v) (hy:Cg y (CW (b_ o.op.operands.toList) l)=some (.Z st.a 0 1 sz (some 1)))
 (eP:fB (CX all i) js=true) (cS:(nl.all fun p=>Nat.testBit (CX all i) p.1)=true) (hg:Wf all l o) (hd:o.dst=od) (C5:Wz fr.nt od=true)
 (h:∀v2 XW dA,a_ XW e sz v2 (cs++new) (n+1)->(∀c,CB c v2=true->st.a<=c)->st.a<=XW.a->(∀c,c<st.a->CB c v=false->XW.b.g c=st.b.g c)->XW.d=st.d->XW.c=0->
  Cz E KN all rest (i+1) fr (WX od v2 l) XW (i::js) dA K):Cz E KN all (o::rest) i fr l (st.g (.J new e false)) js nl K:=by
 obtain⟨v2,s2,h1,h2,h3,h4,h5,h6,h7,h8,h9⟩:=ah.one (VZ:=VZ) XV fj aq ao hb;refine Cz.append ho hc ht ha hu X2 cQ hz hk h0 hx hy ?_ h1 h2 (fun b hb=>⟨h3 b hb,AH cS⟩) eP cS hg hd C5 (h _ _ _ h4 h5 h6 h7 h8 h9);exact Bt (e:=e) (part:=false) Ax XV
theorem Iw {KP:AV->Sl->St->Prop} {c:Call} {t e:TypeId} {ts:List TypeId} {x y:Operand} {sz VZ n d:Nat} {z v:AV} {cs new:List AV} (ah:a_ st e sz v cs n) (hb:st.c=0) (XV:new.length=sz) (fj:0<sz) (aq:k7 1 VZ=true) (ao:k7 (n+1) VZ=true)
 (ho:o.op= .call c) (hc:c.callee= .builtin .append) (ht:c.argTypes.toList=t::ts) (ha:c.args.toList=[x,y])
 (hu:Wb E t=some (.slice e)) (X2:an E e=some sz) (cQ:i_ E e=some VZ) (hz:h_ E e=some z) (hk:(!(Nat.beq (Xu z.g) sz)||Nat.beq sz 0|| !(ZY E ts.head?))=false) (h0:Xw E ts.head?=false)
 (hx:Cg x l=some v) (hy:Cg y l=some (.Z st.a 0 1 sz (some 1))) (hg:o.guard=none) (hd:o.dst=some d) (C5:Nat.blt d fr.nt=true)
 (h:∀v2 XW,a_ XW e sz v2 (cs++new) (n+1)->(∀c,CB c v2=true->st.a<=c)->st.a<=XW.a->(∀c,c<st.a->CB c v=false->XW.b.g c=st.b.g c)->(∀c∈XW.d,c∈st.d)->XW.c=0->
  CA E KP all rest fr ((d,v2)::l) XW K):CA E KP all (o::rest) fr l (st.g (.J new e false)) K:=by
 have hG:a_ (st.g (.J new e false)) e sz v cs n:=ah.CQ (Nat.le_succ _) fun c hc=>Ap (ah.own hc);obtain⟨v2,s2,h1,h2,h3,h4,h5,h6,h7⟩:=hG.append (VZ:=VZ) XV fj aq ao;have h4':s2.a=st.a+1+1:=h4;refine CA.op (Zl.append ho hc ht ha hu X2 cQ hz hk h0 hx hy ?_ h1) hg hd C5 (h v2 s2 h2 (fun c hc=>?_) (by omega) (fun c hc ho=>(h7 c (Nat.lt_succ_of_lt hc) ho).trans (Ap hc)) (fun c hc=>?_) (h5.trans hb))
 .exact Bt (e:=e) (part:=false) Ax XV
 .rcases h2 with⟨rfl,h,_⟩|⟨b,rfl,_⟩
  .cases hc
  .have e1:b=c:=Qb hc;have e2:b=st.a+1:=Qb h3;omega
 .rcases h6 c hc with h|⟨h,_⟩
  .exact h
  .have:(st.g (.J new e false)).c=0:=hb;omega
theorem ML {s:St} {cs:List AV} {m sz:Nat} (h:cs.length=m*sz):CY s sz (bH cs m sz)=some (cs,m):=by
 unfold bH;cases hb:Nat.beq m 0 with
 |true=>
  have:m=0:=Qb hb;subst this;have:cs=[]:=List.length_eq_zero_iff.1 (by rw[h,Nat.zero_mul]);subst this;rfl
 |false=>
  show(bif Nat.beq sz sz then(pa (m*sz) cs).bind fun l=>some (l,m)else none)=_;rw[Nat.beq_refl,<-h,DI];rfl
theorem MQ {KP:AV->Sl->St->Prop} {c:Call} {t e:TypeId} {ts:List TypeId} {x y:Operand} {sz VZ n m d:Nat} {z v:AV} {cs new:List AV} (ah:a_ st e sz v cs n) (hb:st.c=0) (XV:new.length=m*sz) (fj:0<sz) (ao:k7 (n+m) VZ=true)
 (ho:o.op= .call c) (hc:c.callee= .builtin .append) (ht:c.argTypes.toList=t::ts) (ha:c.args.toList=[x,y])
 (hu:Wb E t=some (.slice e)) (X2:an E e=some sz) (cQ:i_ E e=some VZ) (hz:h_ E e=some z) (hk:(!(Nat.beq (Xu z.g) sz)||Nat.beq sz 0|| !(ZY E ts.head?))=false) (h0:Xw E ts.head?=false)
 (hx:Cg x l=some v) (hy:Cg y l=some (bH new m sz)) (hg:o.guard=none) (hd:o.dst=some d) (C5:Nat.blt d fr.nt=true)
 (h:∀v2 XW,a_ XW e sz v2 (cs++new) (n+m)->(∀c,CB c v2=true->CB c v=true\/st.a<=c)->st.a<=XW.a->(∀c,c<st.a->CB c v=false->XW.b.g c=st.b.g c)->(∀c∈XW.d,c∈st.d)->XW.c=0->
  CA E KP all rest fr ((d,v2)::l) XW K):CA E KP all (o::rest) fr l st K:=by
 obtain⟨v2,s2,h1,h2,h3,h4,h5,h6,h7,h8⟩:=ah.tP (VZ:=VZ) XV fj ao;refine CA.op (Zl.append ho hc ht ha hu X2 cQ hz hk h0 hx hy (ML XV) h1) hg hd C5 (h v2 s2 h2 (fun c hc=>(h3 c hc).imp id fun h=>by omega) h4 h8 (fun c hc=>?_) (h6.trans hb));rcases h7 c hc with h|⟨h,_⟩
 .exact h
 .omega
end
theorem a_.ret2 {s:St} {e:TypeId} {sz n:Nat} {v:AV} {cs:List AV} (h:a_ s e sz v cs n) (hp:cs.all aL=true) (hc:cs.all (Cr 40)=true) (b:Bool):∃ks,C9 s 0 40 (.Y [v,.bool b]) []=some (.Y [bH cs n sz,.bool b],ks)/\CD 0 40 (.Y [bH cs n sz,.bool b])=true:=by
 obtain⟨ks,hf⟩:=h.ln hp hc 37;refine⟨ks,?_,?_⟩
 .show(C9.many (C9 s 0 39) [v,.bool b] []).bind _=_;unfold C9.many C9.many C9.many;rw[hf];rfl
 .unfold bH;cases Nat.beq n 0<;>rfl
theorem Ts {E:c_} {fr:Fr} {l:Sl} {s:St} {Q:Ex->Fr->Sl->St->Prop} {α:Type} {b:Code} (I:α->Sl×St) (F:α->Fr) (μ:α->Nat) (G:α->Prop) (a0:α) (hG:G a0) (Z6:fr=F a0) (hs:s=(I a0).2) (hl:∀p∈(I a0).1,d_ p.1 l=some p.2)
 (step:∀a,G a->Cu E b (F a) (I a).1 (I a).2 fun ex Yx l' s'=>match ex with
  | .J=>∃a',G a'/\μ a'<μ a/\Yx=F a'/\s'=(I a').2/\∀p∈(I a').1,d_ p.1 l'=some p.2
  |ex=>Q ex Yx l' s'):Cu E (.loop b) fr l s Q:=by
 have key:∀m a,μ a<=m->G a->∀l',(∀p∈(I a).1,d_ p.1 l'=some p.2)->Cu E (.loop b) (F a) l' (I a).2 Q:=by
  intro m;induction m with
  |zero=>
   intro a hm hg l' ZI;refine Cu.sub (A2 (Cu.mono (step a hg) fun ex cR l2 s2 h=>?_)) ZI;cases ex with
   |J=>obtain⟨a',_,C5,_⟩:=h;omega
   |_=>exact h
  |succ m ih=>
   intro a hm hg l' ZI;refine Cu.sub (A2 (Cu.mono (step a hg) fun ex cR l2 s2 h=>?_)) ZI;cases ex with
   |J=>grind
   |_=>exact h
 subst hs Z6;exact key _ a0 (Qj _) hG l hl
theorem KQ (a:AV):∀n,Xj [a] n=List.replicate n a
 |0=>rfl
 |n+1=>by
  show a::Xj [a] n=_;rw[KQ a n];rfl
theorem Ii {α:Type}:∀ {vs aI post:List α},aI.length=vs.length->cV vs (aI++post)=some (vs++post)
 | [],[],post,_=>rfl
 |v::vs,m::aI,post,h=>by
  have ih:=Ii (vs:=vs) (aI:=aI) (post:=post) (Nat.succ.inj h);show ep v (cV vs (aI++post))=_;rw[ih];rfl
theorem Mq {α:Type} {vs aI post:List α} (h:aI.length=vs.length):∀ {pre:List α},over vs pre.length (pre++(aI++post))=some (pre++(vs++post))
 | []=>Ii h
 |a::pre=>by
  have ih:=Mq h (post:=post) (pre:=pre);show ep a (over vs pre.length (pre++(aI++post)))=_;rw[ih];rfl
section
variable {E : c_} {fr : Fr} {l : Sl} {st s : St} {o : Oper} {all rest : List Oper} {i : Nat} {js : List Nat} {nl : WG} {K : Sl -> St -> Prop} {od : Option Nat}
theorem D8 {t e:TypeId} {x y:Operand} {sz VZ n:Nat} {k k2:IntKind} {z:AV} (ho:o.op= .makeSlice t x y) (hu:Wb E t=some (.slice e)) (hs:an E e=some sz) (hb:i_ E e=some VZ) (hz:h_ E e=some z) (hk:Nat.beq (Xu z.g) sz=true)
 (hx:Cg x l=some (.int k (n:Nat))) (hy:Cg y l=some (.int k2 (n:Nat))) (hn:n≠0) (ao:k7 n VZ=true):Zl E o fr l s (.Z s.a 0 n sz (some n)) (s.g (.J (Xj z.g n) e false)):=fun T hT=>
 EF (f:=fun T=>(Ci E x T).bind fun a=>(Ci E y T).bind fun b=>(Xb a).bind fun n=>(Xb b).bind fun m=>YI e sz VZ z.g n m) (ob:= .J (Xj z.g n) e false) (g:=fun b=> .Z b 0 n sz (some n)) (by
  rw[ho];show Zr E t x y=_;unfold Zr;rw[hu];simp only[hs,hb,hz,hk,cond_true]) (by
  have h1:Xb (.int k (n:Nat))=some n:=rfl;have h2:Xb (.int k2 (n:Nat))=some n:=rfl;have er:Nat.beq n 0=false:=by grind [Qb]
  simp only[Ae hT hx,Ae hT hy,Qe,h1,h2];unfold YI;rw[Qd (Qj n),ao,er];rfl)
theorem Dn {t e:TypeId} {x y:Operand} {sz VZ:Nat} {k k2:IntKind} {z:AV} (ho:o.op= .makeSlice t x y) (hu:Wb E t=some (.slice e)) (hs:an E e=some sz) (hb:i_ E e=some VZ) (hz:h_ E e=some z) (hk:Nat.beq (Xu z.g) sz=true)
 (hx:Cg x l=some (.int k 0)) (hy:Cg y l=some (.int k2 0)):X3 E o l .Ca:=
 VP (f:=fun T=>(Ci E x T).bind fun a=>(Ci E y T).bind fun b=>(Xb a).bind fun n=>(Xb b).bind fun m=>YI e sz VZ z.g n m) (by
  rw[ho];show Zr E t x y=_;unfold Zr;rw[hu];simp only[hs,hb,hz,hk,cond_true]) (fun T hT=>by
  simp only[Ae hT hx,Ae hT hy,Qe];rfl)
theorem Ki {KN:PN} {t e:TypeId} {x:Operand} {lo hi:Option Operand} {sz b:Nat} {vlo vhi:Option AV} {a v:AV} (ho:o.op= .slice t x lo hi none) (hu:Wb E t=some (.slice e)) (hs:an E e=some sz) (hx:Cg x (CW (b_ o.op.operands.toList) l)=some a) (qK:fA lo (CW (b_ o.op.operands.toList) l)=some vlo)
 (rG:fA hi (CW (b_ o.op.operands.toList) l)=some vhi) (hb:Z8 (some a)=some b) (hv:∀s':St,s'.b.g b=st.b.g b->Xp s' sz vlo vhi none a=some v) (hc:Xe (CX all i) b nl=true) (hg:Wf all l o) (hd:o.dst=od) (C5:Wz fr.nt od=true)
 (h:Cz E KN all rest (i+1) fr (WX od v l) st (i::js) nl K):Cz E KN all (o::rest) i fr l st js nl K:=
 VK (x:=Ci E x) (f:=fun T s=>(Ci E x T).bind fun a=>(XR E lo T).bind fun l=>(XR E hi T).bind fun h=>(XR E none T).bind fun m=>Xp s sz l h m a) (b:=b) (by
  rw[ho];show dK E t x lo hi none=_;unfold dK;rw[hu];simp only[hs]) (fun T hT=>Ae hT hx) hb (fun T hT=>by
  have hm:XR E none T=some none:=rfl;simp only[Ae hT hx,E3 hT qK,E3 hT rG,hm,Qe];exact hv _ (by show(Tr.u .J b (st.b.g b)).g b=_;rw[Ay,if_pos rfl])) hc hg hd C5 h
theorem SX {KN:PN} {c:Call} {t e:TypeId} {sz b:Nat} {ts:List TypeId} {x y:Operand} {a bv v:AV} {p:List AV×Nat} {ob:CG} (ho:o.op= .call c) (hc:c.callee= .builtin .copy) (ht:c.argTypes.toList=t::ts) (ha:c.args.toList=[x,y]) (hu:Wb E t=some (.slice e)) (hs:an E e=some sz)
 (hx:Cg x (CW (b_ o.op.operands.toList) l)=some a) (hy:Cg y (CW (b_ o.op.operands.toList) l)=some bv) (hp:CY (st.B st.b) sz bv=some p) (hv:F_ (st.B st.b) sz p a=some (v,(st.B st.b).z b (some ob))) (eN:b<st.a)
 (eP:fB (CX all i) js=true) (cS:(nl.all fun p=>Nat.testBit (CX all i) p.1)=true) (hg:Wf all l o) (hd:o.dst=od) (C5:Wz fr.nt od=true)
 (h:∀dA,Cz E KN all rest (i+1) fr (WX od v l) (st.A ((st.B st.b).z b (some ob))) (i::js) dA K):Cz E KN all (o::rest) i fr l st js nl K:=by
 refine R6 (x:=Ci E x) (f:=fun T s=>(Ci E x T).bind fun a=>(Ci E y T).bind fun b=>(CY s sz b).bind fun p=>F_ s sz p a) ?_ (MW ho hc ht ha hu hs hx hy hp hv) (Qj _) (fun c hc=>?_) eP cS hg hd C5 (h _)
 .rw[ho];show Wo E o.type c=_;unfold Wo;rw[hc];simp only;rw[ht,ha];show lD E t x y=_;unfold lD;rw[hu];simp only[hs]
 .rcases BP hc with hc|⟨rfl,_⟩
  .cases hc
  .exact⟨eN,AH cS⟩
end
theorem S8 {st:St} {b:Nat} {ob:CG} (hb:b<st.a):(∀c,(st.A ((st.B st.b).z b (some ob))).b.g c=if c=b then some ob else st.b.g c)/\(st.A ((st.B st.b).z b (some ob))).a=st.a/\(st.A ((st.B st.b).z b (some ob))).c=st.c/\
 (∀c∈(st.A ((st.B st.b).z b (some ob))).d,c∈st.d\/(c=b/\c<st.c)):=by
 have hl:((st.B st.b).z b (some ob)).d=[b]:=by
  show(bif Nat.blt b st.a then [b]else [])=_;rw[show Nat.blt b st.a=true from Qd hb];rfl
 refine⟨fun c=>?_,rfl,rfl,fun c hc=>?_⟩
 .show(WH _ (Y3 st.a (st.a-st.a)) (WH _ ((st.B st.b).z b (some ob)).d st.b)).g c=_;rw[Nat.sub_self,hl];show((st.b.u b (((st.B st.b).z b (some ob)).b.g b))).g c=_;rw[Ay,Ah,if_pos rfl]
 .have tO:c∈below st.c ((st.B st.b).z b (some ob)).d st.d:=hc;rw[hl]at tO;rcases Ds tO with h|⟨h,h2⟩
  .exact .inl h
  .grind
section
variable {E : c_} {l : Sl} {o : Oper}
theorem MS {t yt:TypeId} {x y:Operand} {k j:IntKind} {a b:Int} {v:AV} (ho:o.op= .binOp .shr t x y yt) (hu:Wb E t=some (.int k)) (hx:Cg x l=some (.int k a)) (hy:Cg y l=some (.int j b)) (hv:lz k a b=some v):X3 E o l v:=
 A5 (f:=fun T=>(Ci E x T).bind fun a=>(Ci E y T).bind fun b=>jR lz a b) (by
  rw[ho];show iC E .shr t x y=_;unfold iC;rw[hu];rfl) fun _ hT=>by simp only[Ae hT hx,Ae hT hy,Qe,jR,hv]
theorem OT {src dst:TypeId} {x:Operand} {j kx:IntKind} {n:Int} (ho:o.op= .convert src dst x) (hs:Wb E src=some (.int j)) (hd:Wb E dst=some (.int .u64)) (hx:Cg x l=some (.int kx n)) (h:0<=n/\n<18446744073709551616):X3 E o l (.int .u64 n):=by
 have:=Kl (E:=E) (l:=l) ho hs hd hx;unfold Zf at this;rwa[Go.IntWalk.u64_in n ⟨h.1,by omega⟩]at this
end
theorem QB {n:Int} (h0:0<=n) (h1:n<18446744073709551616):Zf .u64 n= .int .u64 n:=by
 unfold Zf;rw[Go.IntWalk.u64_in n ⟨h0,by omega⟩]
theorem MM {n:Nat} (h:n<4294967296):eV (fun _ x y=>x&&&y) .u64 (n:Nat) 4294967295= .int .u64 (n:Nat):=by
 unfold eV;have e:(BitVec.ofInt IntKind.u64.bits (n:Int)&&&BitVec.ofInt IntKind.u64.bits 4294967295).toNat=n:=by
  show(BitVec.ofInt 64 (n:Int)&&&BitVec.ofInt 64 4294967295).toNat=n;rw[BitVec.toNat_and];have h1:(BitVec.ofInt 64 (n:Int)).toNat=n:=by
   rw[BitVec.toNat_ofInt];omega
  have h2:(BitVec.ofInt 64 4294967295).toNat=2^32-1:=by decide
  rw[h1,h2,Nat.and_two_pow_sub_one_eq_mod];omega
 rw[e];exact QB (by omega) (by omega)
theorem IW {n:Nat} (h:n<4294967296):lz .u64 (n:Nat) 32=some (.int .u64 0):=by
 unfold lz;rw[if_neg (by omega)];show some (AV.int .u64 ((n:Int).fdiv (2^32)))=_;rw[Int.fdiv_eq_ediv_of_nonneg _ (by omega)];have:(n:Int)/2^32=0:=by omega
 rw[this]
theorem RS {s:St} {b n k:Nat} {cs:List AV} {e:TypeId} {part:Bool} (hg:s.b.g b=some (.J cs e part)) (hk:k<n):Xp s 1 (some (.int .i64 (k:Nat))) none none (.Z b 0 n 1 (some n))=some (.Z b k (n-k) 1 (some (n-k))):=by
 show(Ww (s.b.g b)).bind _=_;rw[hg];show((WB 0 n (some (.int .i64 (k:Nat)))).bind fun l=>A_ 1 b 0 (n-l) (some n) n l)=_;have h1:WB 0 n (some (.int .i64 (k:Nat)))=some k:=by
  show(bif Nat.ble k n then some k else none)=_;rw[Qd (by omega)];rfl
 rw[h1];show some (bif Nat.beq n k then _ else _)=_;have h2:Nat.beq n k=false:=by grind [Qb]
 rw[h2,cond_false,Nat.mul_one,Nat.zero_add]
theorem xJ {s:St} {b n k:Nat} {cs:List AV} {e:TypeId} {part:Bool} (hg:s.b.g b=some (.J cs e part)) (hk:k<=n) (hn:n≠0):Xp s 1 none (some (.int .i64 (k:Nat))) none (.Z b 0 n 1 (some n))=some (.Z b 0 k 1 (some n)):=by
 show(Ww (s.b.g b)).bind _=_;rw[hg];show((WB n n (some (.int .i64 (k:Nat)))).bind fun h=>(WB 0 h none).bind fun l=>A_ 1 b 0 (h-l) (some n) n l)=_;have h1:WB n n (some (.int .i64 (k:Nat)))=some k:=by
  show(bif Nat.ble k n then some k else none)=_;rw[Qd hk];rfl
 rw[h1];show some (bif Nat.beq n 0 then _ else _)=_;have h2:Nat.beq n 0=false:=by grind [Qb]
 rw[h2];rfl
theorem G2 {s:St} {b off k:Nat} {cap:Option Nat} {pre aI post:List AV} {e:TypeId} {part:Bool} (hg:s.b.g b=some (.J (pre++(aI++post)) e part)) (ho:off=pre.length) (hk:k=aI.length):CY s 1 (.Z b off k 1 cap)=some (aI,k):=by
 subst ho hk;show(Ww (s.b.g b)).bind _=_;rw[hg];show((XE pre.length (pre++(aI++post))).bind fun l=>(pa (aI.length*1) l).bind fun l=>some (l,aI.length))=_;rw[Dw];show(pa (aI.length*1) (aI++post)).bind _=_;rw[Nat.mul_one,Dq];rfl
theorem V0 {s:St} {b off len m:Nat} {cap:Option Nat} {src pre aI post:List AV} {e:TypeId} {part:Bool} (hg:s.b.g b=some (.J (pre++(aI++post)) e part)) (ho:off=pre.length) (hm:m=Nat.min src.length len) (sf:aI.length=m):
 F_ s 1 (src,src.length) (.Z b off len 1 cap)=some (.int .i64 (m:Nat),s.z b (some (.J (pre++(src.take m++post)) e part))):=by
 subst ho;show((pa (Nat.min src.length len*1) src).bind fun l=>(aT s b pre.length l).bind fun s'=>some (AV.int .i64 ((Nat.min src.length len:Nat):Int),s'))=_;have h1:pa (Nat.min src.length len*1) src=some (src.take m):=by
  rw[Nat.mul_one,<-hm];have hle:m<=src.length:=by rw[hm];exact Nat.min_le_left _ _
  have:=Dq (src.take m) (src.drop m);rw[List.take_append_drop,List.length_take,Nat.min_eq_left hle]at this;exact this
 rw[h1,<-hm];show((fH s b pre.length (src.take m) (s.b.g b)).bind _)=_;rw[hg];show((eT s b e part (over (src.take m) pre.length (pre++(aI++post)))).bind _)=_;rw[Mq (by rw[List.length_take,sf,hm];exact(Nat.min_eq_left (Nat.min_le_left _ _)).symm)];rfl
theorem UB {E:c_} {f:FuncId} {v:AV} {s st:St} (hf:E.g f=0) (hl:st.d=[]) (hu:CD s.a 40 v=false):k9 E f s v st=some (.O v (s.G st)):=by grind [Zs,k9,qT]
section
variable {E : c_} {fr : Fr} {l : Sl} {s st : St} {o : Oper} {all rest : List Oper} {i : Nat} {js : List Nat} {nl : WG} {K : Sl -> St -> Prop} {od : Option Nat}
theorem xK {c:Call} {t b:Nat} {args:List AV} {P:Bool->St->Prop} (ho:o.op= .call c) (hc:c.callee= .value (.tmp t)) (hf:d_ t l=some (.an (.yield b) [] [])) (ha:WC c.args.toList l=some args) (h:C_ E b args s P):
 ∀T,k8 l T->∃v s',hQ E o fr T s (.bool v) s'/\P v s':=by
 intro T hT;have XB:XL E o.type o.op= .Z1 (Ci E (.tmp t)) (CZ E c.args.toList):=by
  rw[ho];show Wo E o.type c=_;unfold Wo;rw[hc]
 obtain⟨lp,TA,lA,hlp,hp,hA,h⟩:=h;obtain⟨N,ex,fr1,l1,T1,s1,⟨hex,tD,hlp1,XM,cy⟩,hT1,hr1⟩:=h TA hA;subst hex;obtain⟨M,oH,cR,l2,T2,s2,⟨pT,tE,hlp2,hq⟩,uu,mR⟩:=cy T1 hT1;have key:∀n,max N M+1<=n->∀k:qo,(Xf E (XL E o.type o.op) k).run (ev E n) fr T s=X4 fr T s (k.run (ev E n) fr T) (fO b oH s2 (some (.O tE))):=by
  intro n hn k;obtain⟨m,rfl⟩:∃m,n=m+1:=⟨n-1,by omega⟩
  rw[XB];show X4 fr T s (k.run (ev E (m+1)) fr T) ((Ci E (.tmp t) T).bind fun g=>(CZ E c.args.toList T).bind fun args=>Xz E (ev E (m+1)) args s g)=_;have hft:Ci E (.tmp t) T=some (.an (.yield b) [] []):=hT t _ hf;rw[hft,AO hT ha];simp only[Qe,Xz,lO,kT,hlp,hp];rw[DV,hr1 m (by omega)];simp only[aj,hlp1,fP,XM];rw[DV,mR m (by omega)];simp only[iT,pT,hlp2]
 cases oH with
 |J=>exact⟨true,_,⟨max N M+1,fun n hn k=>by rw[key n hn k];rfl⟩,hq⟩
 |Y=>exact⟨false,_,⟨max N M+1,fun n hn k=>by rw[key n hn k];rfl⟩,hq⟩
 |Z id=>exact⟨false,_,⟨max N M+1,fun n hn k=>by rw[key n hn k];rfl⟩,hq⟩
 |O v=>exact hq.elim
theorem runs_to {c:Call} {t f:Nat} {first captured args xs:List AV} {R:AV->St->Prop} (hb:CV E f=true) (ho:o.op= .call c) (hc:c.callee= .value (.tmp t)) (hv:d_ t l=some (.an (.func f) first captured)) (ha:WC c.args.toList l=some args)
 (hx:first++args++captured=xs) (h:Wm E f xs s R):∀T,k8 l T->∃v s',hQ E o fr T s v s'/\R v s':=by
 intro T hT;subst hx;have XB:XL E o.type o.op= .Z1 (Ci E (.tmp t)) (CZ E c.args.toList):=by
  rw[ho];show Wo E o.type c=_;unfold Wo;rw[hc]
 obtain⟨N,cr,hr,hm⟩:=h;have key:∀n,N<=n->((Ci E (.tmp t) T).bind fun g=>(CZ E c.args.toList T).bind fun args=>Xz E (ev E n) args s g)=some cr:=fun n hn=>by
  have hft:Ci E (.tmp t) T=some (.an (.func f) first captured):=hT t _ hv;rw[hft,AO hT ha];simp only[Qe,Xz,hb,cond_true];exact hr n hn
 cases cr with
 |J v=>exact⟨v,s,⟨N,fun n hn k=>by
  rw[XB];show X4 fr T s (k.run (ev E n) fr T) ((Ci E (.tmp t) T).bind fun g=>(CZ E c.args.toList T).bind fun args=>Xz E (ev E n) args s g)=_;rw[key n hn];rfl⟩,hm⟩
 |O v s'=>exact⟨v,s',⟨N,fun n hn k=>by
  rw[XB];show X4 fr T s (k.run (ev E n) fr T) ((Ci E (.tmp t) T).bind fun g=>(CZ E c.args.toList T).bind fun args=>Xz E (ev E n) args s g)=_;rw[key n hn];rfl⟩,hm⟩
 |Y _ _=>exact hm.elim
theorem OI {KN:PN} (hq:XK (XL E o.type o.op)=true) (je:∀T,WQ (XL E o.type o.op) T= .Y) (eP:fB (CX all i) js=true) (cS:(nl.all fun p=>Nat.testBit (CX all i) p.1)=true) (hg:Wf all l o) (hd:o.dst=od) (C5:Wz fr.nt od=true)
 (h:∀T,k8 (CW (b_ o.op.operands.toList) l) T->∃v s2,hQ E o fr T (st.B st.b) v s2/\st.a<=s2.a/\(∀b∈s2.d,b<st.a)/\∀dA,Cz E KN all rest (i+1) fr (WX od v l) (st.A s2) (i::js) dA K):Cz E KN all (o::rest) i fr l st js nl K:=by
 intro T0 T news looked hT aK bJ bS;obtain⟨v,s2,⟨N,hN⟩,ZL,CU,h⟩:=h _ (hT.CW (b_ o.op.operands.toList));let dd:j0:=Zk E all i o
 let q:bn:=⟨T,st,news,looked⟩
 let TP:=XN T (b_ o.op.operands.toList) .J
 let re:=dP dd q (.Y,v,s2)
 have ZD:dd.a=CX all i:=rfl;obtain⟨M,ex,l',T',s',hk,hr⟩:=h (XG i (XG i nl (Y3 st.a (s2.a-st.a))) s2.d) T0 (dZ od v T) (XG i (XG i news (Y3 st.a (s2.a-st.a))) s2.d) ((i,.Y,re)::looked) (hT.WX od v)
  (fun p hp=>BY (fun p hp=>BY aK hp) hp) (fun p hp=>by
  rcases Qk.1 hp with rfl|hp
  .exact .inl (Qh ..)
  .exact(bJ p hp).imp (Qg _) id) bS.cons
 refine⟨max N M,ex,l',T',s',hk,fun n hn=>?_⟩;have bG:XS E (ev E n) fr dd q TP=some (.Y,v,s2):=by
  unfold XS;have zL:XK dd.so=true:=hq;rw[zL];simp only[cond_true];have ht:WQ dd.so TP= .Y:=je TP;rw[ht];have XM:=hN n (by omega) K0;have hH:Ws (CX all i) news st.b .Y=st.b:=E8 cS aK;show Zo .Y ((Xf E (XL E o.type o.op) K0).run (ev E n) fr TP (st.B (Ws dd.a news st.b .Y)))=_;rw[ZD,hH,XM];rfl
 have su:∀L:List Nat,(∀b∈L,b<st.a)->WR dd.a st.a s2.a s2.b q L=true:=by
  intro L;induction L with
  |nil=>intro _;rfl
  |cons b L ih=>
   intro hL;unfold WR;have h1:Nat.blt b st.a=true:=Qd (hL b (Qh ..));have h2:Yj dd.a b q.b=false:=Bi (AH cS) aK;have h3:ae dd.a b s2.a (s2.b.g b) q.c=true:=JI eP bJ;rw[h1,h2,h3,ih fun c hc=>hL c (Qg _ hc)];rfl
 have Zx:Wt fr.nt dd q (.Y,v,s2)=some ⟨dZ od v T,st.A s2,XG i (XG i news (Y3 st.a (s2.a-st.a))) s2.d,(i,.Y,re)::looked⟩:=by
  unfold Wt;have h1:Nat.ble q.a.a s2.a=true:=Qd ZL;have h2:WR dd.a q.a.a s2.a s2.b q s2.d=true:=su s2.d CU;have h3:dd.o.dst=od:=hd;simp only[h1,h2,h3,Bool.and_self,cond_true,HD C5,Qe];rfl
 exact Dr (I' hT hg bG) Zx (hr n (by omega))
theorem Ht {c:Call} {t:Nat} (ho:o.op= .call c) (hc:c.callee= .value (.tmp t)):XK (XL E o.type o.op)=true/\∀T,WQ (XL E o.type o.op) T= .Y:=by
 have XB:XL E o.type o.op= .Z1 (Ci E (.tmp t)) (CZ E c.args.toList):=by
  rw[ho];show Wo E o.type c=_;unfold Wo;rw[hc]
 rw[XB];exact⟨rfl,fun _=>rfl⟩
theorem Qy {KN:PN} {c:Call} {t b:Nat} {args:List AV} {P:Bool->St->Prop} (ho:o.op= .call c) (hc:c.callee= .value (.tmp t)) (hf:Am.d_ t (CW (b_ o.op.operands.toList) l)=some (.an (.yield b) [] [])) (ha:WC c.args.toList (CW (b_ o.op.operands.toList) l)=some args) (h:C_ E b args (st.B st.b) P)
 (eP:fB (CX all i) js=true) (cS:(nl.all fun p=>Nat.testBit (CX all i) p.1)=true) (hg:Wf all l o) (hd:o.dst=od) (C5:Wz fr.nt od=true)
 (hk:∀v s2,P v s2->st.a<=s2.a/\(∀b∈s2.d,b<st.a)/\∀dA,Cz E KN all rest (i+1) fr (WX od (.bool v) l) (st.A s2) (i::js) dA K):Cz E KN all (o::rest) i fr l st js nl K:=
 OI (Ht ho hc).1 (Ht ho hc).2 eP cS hg hd C5 fun T hT=>
  let⟨v,s2,h1,h2⟩:=xK ho hc hf ha h T hT
  ⟨.bool v,s2,h1,hk v s2 h2⟩
theorem VJ {KN:PN} {c:Call} {t f:Nat} {first captured args xs:List AV} {R:AV->St->Prop} (hb:CV E f=true) (ho:o.op= .call c) (hc:c.callee= .value (.tmp t)) (hv:Am.d_ t (CW (b_ o.op.operands.toList) l)=some (.an (.func f) first captured)) (ha:WC c.args.toList (CW (b_ o.op.operands.toList) l)=some args)
 (hx:first++args++captured=xs) (h:Wm E f xs (st.B st.b) R)
 (eP:fB (CX all i) js=true) (cS:(nl.all fun p=>Nat.testBit (CX all i) p.1)=true) (hg:Wf all l o) (hd:o.dst=od) (C5:Wz fr.nt od=true)
 (hk:∀v s2,R v s2->st.a<=s2.a/\(∀b∈s2.d,b<st.a)/\∀dA,Cz E KN all rest (i+1) fr (WX od v l) (st.A s2) (i::js) dA K):Cz E KN all (o::rest) i fr l st js nl K:=
 OI (Ht ho hc).1 (Ht ho hc).2 eP cS hg hd C5 fun T hT=>
  let⟨v,s2,h1,h2⟩:=runs_to hb ho hc hv ha hx h T hT
  ⟨v,s2,h1,hk v s2 h2⟩
end
theorem GR {st s2:St} (hn:st.a<=s2.a) (Yc:∀c,c<st.a->c∉s2.d->s2.b.g c=st.b.g c):∀c,c<s2.a->(st.A s2).b.g c=s2.b.g c:=by
 intro c hc;show(WH s2.b (Y3 st.a (s2.a-st.a)) (WH s2.b s2.d st.b)).g c=_;rw[B5,B5];by_cases h1:c∈Y3 st.a (s2.a-st.a)
 .rw[if_pos h1]
 .grind [I6]
theorem EI:∀ {rs:List Nat} {s:St},rs.Nodup->(∀r∈rs,s.b.g r=some (.Z true))->∃s',ZE (rs.map fun r=> {a:= .J r,args:=[]}) s=some s'/\s'.a=s.a/\s'.c=s.c/\(s.c=0->s'.d=s.d)/\∀c,c∉rs->s'.b.g c=s.b.g c
 | [],s,_,_=>⟨s,rfl,rfl,rfl,fun _=>rfl,fun _ _=>rfl⟩
 |r::rs,s,Zw,h=>by
  have hr:=h r (Qh ..);obtain⟨hr1,mR⟩:=List.nodup_cons.1 Zw;obtain⟨s',h1,h2,h3,h4,h5⟩:=EI (rs:=rs) (s:=s.z r (some (.Z false))) mR (fun q hq=>by
   rw[Ah,if_neg (show¬q=r from fun e=>hr1 (e▸hq))];exact h q (Qg _ hq))
  refine⟨s',?_,h2,h3,fun hb=>(h4 hb).trans (Bv hb),fun c hc=>?_⟩
  .show(match s.b.g r with
    |some (.Z true)=>ZE (rs.map _) (s.z r (some (.Z false)))
    |_=>none)=_
   rw[hr];exact h1
  .rw[h5 c (fun h=>hc (Qg _ h)),Ah,if_neg (show¬c=r from fun e=>hc (e▸Qh ..))]
theorem BV {n c:Nat}:∀ {L l:List Nat},c∈L->c<n->c∈below n L l
 |b::L,l,h,hn=>by
  show c∈(bif Nat.blt b n then b::below n L l else below n L l);rcases Qk.1 h with rfl|h
  .rw[show Nat.blt c n=true from Qd hn];exact Qh ..
  .cases Nat.blt b n with
   |true=>exact Qg _ (BV h hn)
   |false=>exact BV h hn
theorem LS {E:c_} {f:FuncId} {fn:Func} {c:Code} {args:List AV} {v:AV} {rs:List ResultVar} {fr:Fr} {l0:Sl} (hz:E.g f=1) (hm:E.d f args=none) (hf:E.a.g f=some fn) (hc:fn.body=some c) (hr:fn.results.toList=rs)
 (Z6:n_ fn.ntmps args none=fr) (hl:YW 0 args []=l0)
 (h:Cu E c fr l0 (Xc 0 0 [] []) fun ex fr l st=>(ex= .Y\/ex= .J)/\∃Yk,ZE fr.defers st=some Yk/\Yk.d=[]/\Yk.c=0/\∃vs w ks,CK E Yk l rs=some vs/\C9 Yk 0 40 (Zi vs) []=some (w,ks)/\CD 0 40 w=true/\w=v):Co E f args S0 v:=
 Ic hm hf hc hr Z6 hl (Cu.mono (s:=S0.u) h fun ex fr l st ⟨h1,Yk,h2,h3,h4,vs,w,ks,h5,h6,h7,h8⟩=>⟨h1,Yk,h2,vs,h5,by rw[<-h8];exact Rb hz h3 h4 h6 h7⟩)
theorem SD {E:c_} {f:FuncId} {v:AV} {s st:St} (hf:E.g f=1) (hl:st.d=[]) (hk:C9 st s.a 40 v []=some (v,[])) (hu:CD s.a 40 v=false):k9 E f s v st=some (.O v (s.G st)):=by grind [Zs,q_,k9,qT,Wa]
theorem LH (L l:List Nat):below 0 L l=l:=by
 induction L generalizing l with
 |nil=>rfl
 |cons b L ih=>exact ih l
theorem AZ {s:St} {b c:Nat} {o:Option CG} (h:c∈s.d):c∈(s.z b o).d:=by
 show c∈(bif Nat.blt b s.c then Yn b s.d else s.d);cases Nat.blt b s.c with
 |false=>exact h
 |true=>
  rw[cond_true];cases hl:s.d with
  |nil=>rw[hl]at h;cases h
  |cons d l=>
   rw[hl]at h;show c∈(bif Nat.beq b d then d::l else b::d::l);cases Nat.beq b d with
   |true=>exact h
   |false=>exact Qg _ h
def G' (s s':St):Prop:=∀d,d<s.c->d∉s'.d->s'.b.g d=s.b.g d
theorem G'.put {s s':St} (h:G' s s') (hb:s'.c=s.c) (b:Nat) (o:Option CG):G' s (s'.z b o):=fun d hd Xo=>by
 rw[Ah];split
 .grind [AL]
 .exact h d hd fun hm=>Xo (AZ hm)
theorem G'.refl {s:St}:G' s s:=fun _ _ _=>rfl
theorem dT {p:Prop} [Decidable p] (h:decide p=true):p:=of_decide_eq_true h
theorem dF {p:Prop} [Decidable p] (h:decide p=false):¬p:=of_decide_eq_false h
theorem LL {α:Type}:(∀a b:List α,(a++b).length=a.length+b.length)/\(∀(a:α) (b:List α),(a::b).length=b.length+1)/\([]:List α).length=0/\(∀(i:Nat) (b:List α),(b.take i).length=min i b.length)/\∀(i:Nat) (b:List α),(b.drop i).length=b.length-i:=
 ⟨fun _ _=>Qm,fun _ _=>rfl,rfl,fun _ _=>List.length_take,fun _ _=>List.length_drop⟩
theorem t2 {α β:Type} {a a':α} {b b':β} (h:(a,b)=(a',b')):a=a'/\b=b':=by cases h;exact⟨rfl,rfl⟩
section
variable {E : c_} {fr : Fr} {l : Sl} {s : St} {all rest : List Oper} {o : Oper} {K : Sl -> St -> Prop} {Q : Ex -> Fr -> Sl -> St -> Prop} {v : AV} {s' : St} {d : Nat}
theorem Ld {KP:AV->Sl->St->Prop} (h:K l s):CA E KP all [] fr l s K:=CA.done h
theorem Lo {KP:AV->Sl->St->Prop} (ho:Zl E o fr l s v s') (hg:(o.guard,o.dst,Nat.blt d fr.nt)=(none,some d,true)) (h:CA E KP all rest fr ((d,v)::l) s' K):CA E KP all (o::rest) fr l s K:=
 CA.op ho (t2 hg).1 (t2 (t2 hg).2).1 (t2 (t2 hg).2).2 h
theorem Lq {KP:AV->Sl->St->Prop} (ho:X3 E o l v) (hg:(o.guard,o.dst,Nat.blt d fr.nt)=(none,some d,true)) (h:CA E KP all rest fr ((d,v)::l) s K):CA E KP all (o::rest) fr l s K:=
 Lo (VU ho) hg h
theorem qa {KP:AV->Sl->St->Prop} {x:Operand} (hg:(o.op,Cg x l,o.guard,o.dst,Nat.blt d fr.nt)=(.assign x,some v,none,some d,true)) (h:CA E KP all rest fr ((d,v)::l) s K):CA E KP all (o::rest) fr l s K:=
 Lq (X3.assign (t2 hg).1 (t2 (t2 hg).2).1) (t2 (t2 hg).2).2 h
theorem qm {KP:AV->Sl->St->Prop} {x:Operand} (hg:(o.op,Cg x l,o.guard,o.dst,Nat.blt d fr.nt)=(.move x,some v,none,some d,true)) (h:CA E KP all rest fr ((d,v)::l) s K):CA E KP all (o::rest) fr l s K:=
 Lq (RA (t2 hg).1 (t2 (t2 hg).2).1) (t2 (t2 hg).2).2 h
theorem o2 {op:BinOp} {t yt:TypeId} {x y:Operand} {k:IntKind} {a b:Int} {f:IntKind->Int->Int->Option AV} (hu:Wb E t=some (.int k)) (ho:(o.op,pf op)=(.binOp op t x y yt,some f))
 (hx:(Cg x l,Cg y l,f k a b)=(some (.int k a),some (.int k b),some v)):X3 E o l v:=
 D6 (t2 ho).1 hu (t2 ho).2 (t2 hx).1 (t2 (t2 hx).2).1 (t2 (t2 hx).2).2
theorem of {t:TypeId} {x:Operand} {i off n:Nat} {agg:Bool} {b k:Nat} (hf:Z7 E t i=some (off,n+1,agg)) (ho:(o.op,Cg x l)=(.fieldAddr t x i,some (.J b k))):X3 E o l (.J b (k+off)):=
 H3 (t2 ho).1 hf (t2 ho).2
theorem oT {c x y:Operand} {b:Bool} (ho:(o.op,Cg c l)=(.pick c x y,some (.bool b))) (hb:b=true) (hx:Cg x l=some v):X3 E o l v:=OO (t2 ho).1 (t2 ho).2 hb hx
theorem oF {c x y:Operand} {b:Bool} (ho:(o.op,Cg c l)=(.pick c x y,some (.bool b))) (hb:b=false) (hx:Cg y l=some v):X3 E o l v:=OP (t2 ho).1 (t2 ho).2 hb hx
theorem on {t:TypeId} {x:Operand} {b:Bool} (ho:(o.op,Cg x l)=(.unOp .not t x,some (.bool b))):X3 E o l (.bool (!b)):=VO (t2 ho).1 (t2 ho).2
variable {j e : Nat} {w b : Bool} {oj : Oper}
theorem Lk {KP:AV->Sl->St->Prop} (hg:(o.guard,l_ all j,oj.dst,d_ e l,o.dst,Nat.blt d fr.nt)=(some (j,w),some oj,some e,some (.bool b),some d,true)) (hb:b= !w) (h:CA E KP all rest fr ((d,.Y [])::l) s K):CA E KP all (o::rest) fr l s K:=
 have h1:=t2 hg;have h2:=t2 h1.2;have h3:=t2 h2.2;have h4:=t2 h3.2;have h5:=t2 h4.2
 CA.skip h1.1 h2.1 h3.1 h4.1 hb h5.1 h5.2 h
theorem Lg {KP:AV->Sl->St->Prop} (hg:(o.guard,l_ all j,oj.dst,d_ e l,o.dst,Nat.blt d fr.nt)=(some (j,w),some oj,some e,some (.bool b),some d,true)) (hb:b=w) (ho:Zl E o fr l s v s') (h:CA E KP all rest fr ((d,v)::l) s' K):CA E KP all (o::rest) fr l s K:=
 have h1:=t2 hg;have h2:=t2 h1.2;have h3:=t2 h2.2;have h4:=t2 h3.2;have h5:=t2 h4.2
 CA.go h1.1 h2.1 h3.1 h4.1 hb ho h5.1 h5.2 h
theorem Lh {KP:AV->Sl->St->Prop} (hg:(o.guard,l_ all j,oj.dst,d_ e l,o.dst,Nat.blt d fr.nt)=(some (j,w),some oj,some e,some (.bool b),some d,true)) (hb:b=w) (ho:X3 E o l v) (h:CA E KP all rest fr ((d,v)::l) s K):CA E KP all (o::rest) fr l s K:=
 Lg hg hb (VU ho) h
theorem Lb {KP:AV->Sl->St->Prop} (hg:(o.guard,l_ all j,oj.dst,d_ e l)=(some (j,w),some oj,some e,some (.bool b))) (h1:b=true->CA E KP all (o::rest) fr l s K) (h0:b=false->CA E KP all (o::rest) fr l s K):CA E KP all (o::rest) fr l s K:=
 have h2:=t2 hg;have h3:=t2 h2.2;have h4:=t2 h3.2
 VN h2.1 h3.1 h4.1 h4.2 h1 h0
theorem Es {k:Nat} {ops:Array Oper} {b:Code} (h:CA E (fun v l s=>Q (.O v) fr l s) ops.toList ops.toList fr l s fun l s=>Cu E b fr l s Q):Cu E (.seq (.region k ops false) b) fr l s Q:=G5 h
theorem Ec {x:Operand} {a b:Code} {t:Bool} (hx:Cg x l=some (.bool t)) (h1:t=true->Cu E a fr l s Q) (h0:t=false->Cu E b fr l s Q):Cu E (.cond x a b) fr l s Q:=H4 hx h1 h0
theorem Er {t:Nat} {rs:List ResultVar} {w v v':AV} {ks:List Nat} (hg:(fr.defers,s.d,s.c,rs,d_ t l,C9 s 0 40 v [],CD 0 40 w)=([],[],0,[.tmp t],some v,some (w,ks),true)) (hw:w=v'):
 (Ex.Y= .Y\/Ex.Y= .J)/\fr.defers=[]/\s.d=[]/\s.c=0/\∃vs w ks,CK E s l rs=some vs/\C9 s 0 40 (Zi vs) []=some (w,ks)/\CD 0 40 w=true/\w=v':=by
 have h1:=t2 hg;have h2:=t2 h1.2;have h3:=t2 h2.2;have h4:=t2 h3.2;have h5:=t2 h4.2;have h6:=t2 h5.2;refine⟨.inl U,h1.1,h2.1,h3.1,[v],w,ks,?_,h6.1,h6.2,hw⟩;rw[h4.1];exact Ac h5.1 rfl
end
section
variable {E : c_} {fr : Fr} {l : Sl} {o : Oper} {n m bd : Nat} {lg : List Nat} {hl : Hl}
theorem l1 {t:TypeId} {a:Operand} {k b off:Nat} {v:AV} {cs:List AV} {e:TypeId} {part:Bool} (h1:j' E t=some false) (h2:an E t=some k)
 (ho:(o.op,Cg a l,cz b hl,cs[off]?)=(.load t a,some (.J b off),some (.J cs e part),some v)):Zl E o fr l (Xc n bd lg hl) v (Xc n bd lg hl):=
 have h:=t2 ho;have h':=t2 h.2;have h'':=t2 h'.2
 LP h.1 h1 h2 h'.1 h''.1 h''.2
end
section
variable {E : c_} {fr : Fr} {l : Sl} {st : St} {o : Oper} {all rest : List Oper} {i : Nat} {js : List Nat} {nl : WG} {K : Sl -> St -> Prop} {od : Option Nat} {v : AV} {j e : Nat} {w b : Bool} {oj : Oper}
theorem Nq {KN:PN} (ho:X3 E o (CW (b_ o.op.operands.toList) l) v) (hg:(o.guard,o.dst,Wz fr.nt od)=(none,od,true)) (h:Cz E KN all rest (i+1) fr (WX od v l) st js nl K):Cz E KN all (o::rest) i fr l st js nl K:=
 Kj ho (.inl (t2 hg).1) (t2 (t2 hg).2).1 (t2 (t2 hg).2).2 h
theorem Ng {KN:PN} (hg:(o.guard,l_ all j,oj.dst,d_ e l,o.dst,Wz fr.nt od)=(some (j,w),some oj,some e,some (.bool b),od,true)) (hb:b=w) (ho:X3 E o (CW (b_ o.op.operands.toList) l) v) (h:Cz E KN all rest (i+1) fr (WX od v l) st js nl K):Cz E KN all (o::rest) i fr l st js nl K:=
 have h1:=t2 hg;have h2:=t2 h1.2;have h3:=t2 h2.2;have h4:=t2 h3.2;have h5:=t2 h4.2
 Kj ho (AF h1.1 h2.1 h3.1 h4.1 hb) h5.1 h5.2 h
theorem Nk {KN:PN} (hg:(o.guard,l_ all j,oj.dst,d_ e l,o.dst,Wz fr.nt od)=(some (j,w),some oj,some e,some (.bool b),od,true)) (hb:b= !w) (h:Cz E KN all rest (i+1) fr (WX od (.Y []) l) st js nl K):Cz E KN all (o::rest) i fr l st js nl K:=
 have h1:=t2 hg;have h2:=t2 h1.2;have h3:=t2 h2.2;have h4:=t2 h3.2;have h5:=t2 h4.2
 Cz.skip h1.1 h2.1 h3.1 h4.1 hb h5.1 h5.2 h
end
section
variable {E : c_} {fr : Fr} {l : Sl} {st : St} {o : Oper} {all rest : List Oper} {i : Nat} {js : List Nat} {nl : WG} {K : Sl -> St -> Prop} {od : Option Nat}
end
end Am
