/- The abstract machine: more rules; contracts; heaps as lists; strings and builders; lists that grow; short names. -/
import Derived.Test.YtfhimfcbphepeaaGreatDoorAmF
import Derived.ChangeReads
import Derived.ChangeArms
set_option linter.unusedSectionVars false
set_option linter.unusedVariables false
set_option linter.unusedSimpArgs false
namespace Am
open Go
section
variable (E : Env)
abbrev Rd:=Nat×Nat×(Nat->Option Cw->Prop)
structure PN where
 WR:AV->St->Prop
 rl:List Rd
def zR (KN:PN) (i:Nat) (looked:ZV):Prop:=(∀e∈KN.rl,e.1<i)/\(∀p∈looked,p.1<i)/\∀p∈looked,∀e∈KN.rl,p.1=e.1->p.2.1= .block e.2.1/\∀n o,e.2.2 n o->p.2.2 n o=true
theorem zR.cons {KN:PN} {i:Nat} {looked:ZV} {dH:Touch} {re:Nat->Option Cw->Bool} (h:zR KN i looked):zR KN (i+1) ((i,dH,re)::looked):=
 ⟨fun e he=>Nat.lt_succ_of_lt (h.1 e he),fun p hp=>by
  rcases Qk.1 hp with rfl|hp
  .exact Nat.lt_succ_self _
  .exact Nat.lt_succ_of_lt (h.2.1 p hp),fun p hp e he x=>by
  rcases Qk.1 hp with rfl|hp
  .have:=h.1 e he;have x:i=e.1:=x;omega
  .exact h.2.2 p hp e he x⟩
def AtN (KN:PN) (K:Sl->St->Prop) (all:List Oper) (T0:Tr AV) (ex:Ex) (l:Sl) (T:Tr AV) (s:St):Prop:=match ex with
 | .normal=>K l s/\Has l T
 | .panic v=>KN.WR v s/\T=YP all T0
 |_=>False
def CK (KN:PN) (all rest:List Oper) (i:Nat) (fr:Fr) (l:Sl) (st:St) (js:List Nat) (nl:Wu) (K:Sl->St->Prop):Prop:=
 ∀(T0 T:Tr AV) (news:Wu) (looked:ZV),Has l T->(∀p∈news,p∈nl)->(∀p∈looked,p.1∈js\/p.2.1= .nothing)->zR KN i looked->
  ∃N ex l' T' s',AtN KN K all T0 ex l' T' s'/\∀n,N<=n->Zg E all (ev E n) fr T0 (Yu E (Wg all) rest i) ⟨T,st,news,looked⟩= .one ⟨ex,fr,T',s'⟩
end
def Xp (d:Option Nat) (v:AV) (l:Sl):Sl:=match d with
 |some d=>(d,v)::l
 |none=>l
noncomputable def CZ (all:List Oper) (i:Nat):Nat:=(nth (Wg all) i).getD 0
section
variable {E : Env} {fr : Fr} {l : Sl} {st : St} {o : Oper} {all rest : List Oper} {i : Nat} {js : List Nat} {nl : Wu} {K : Sl -> St -> Prop} {od : Option Nat}
theorem Has.Xp {T:Tr AV} (h:Has l T) (d:Option Nat) (v:AV):Has (Am.Xp d v l) (ix d v T):=by
 cases d with
 |none=>exact h
 |some d=>exact h.put d v
theorem Mf {nt:Nat} {v:AV} {T:Tr AV} (Co:WB nt od=true):yw od nt v T=some (ix od v T):=by
 cases od with
 |none=>rfl
 |some d=>
  show(bif Nat.blt d nt then some (Tr.dz (some v) (pathOf d) T)else none)=_;have:Nat.blt d nt=true:=Co;rw[this];rfl
theorem Hx {nt:Nat} {d:jL} {q:aW} {dH:Touch} {v:AV} {H:Tr Cw} (hd:d.o.dst=od) (Co:WB nt od=true):
 W0 nt d q (dH,v,q.st.sub H)=some ⟨ix od v q.T,q.st,q.news,(d.i,dH,hZ d q (dH,v,q.st.sub H))::q.looked⟩:=by
 unfold W0;have h1:Nat.ble q.st.next (q.st.sub H).next=true:=vK _;have h2:(q.st.sub H).next-q.st.next=0:=Nat.sub_self _;have h3:(q.st.sub H).log=[]:=rfl;simp only[h1,h2,h3,hd,Mf Co,XN,Bool.and_self,cond_true,Qe,YO,W8,Y4,below];rfl
theorem BT {KN:PN} (h:K l st):CK E KN all [] i fr l st js nl K:=fun T0 T news looked hT _ _ _=>⟨0,.normal,l,T,st,⟨h,hT⟩,fun _ _=>rfl⟩
def kS (ops:List Oper) (l:Sl):Sl:=l.filter fun p=>ops.all fun o=> !jm p.1 o
theorem HF:∀ {ops:List Oper} {T:Tr AV} {k:Nat},(ops.all fun o=> !jm k o)=true->(YP ops T).get k=T.get k
 | [],_,_,_=>rfl
 |o::ops,T,k,h=>by
  rw[List.all_cons,Qf]at h;unfold YP;unfold jm at h;cases hd:o.dst with
  |none=>exact HF h.2
  |some d=>
   rw[hd]at h;show(YP ops (T.set d none)).get k=_;rw[HF h.2,Ay,if_neg];intro e;subst e;simp at h
theorem Has.clear {ops:List Oper} {T:Tr AV} (h:Has l T):Has (kS ops l) (YP ops T):=by
 intro k v hk;have key:∀ {l:Sl},look k (kS ops l)=some v->(ops.all fun o=> !jm k o)=true/\look k l=some v:=by
  intro l;induction l with
  |nil=>intro h;cases h
  |cons p l ih=>grind [kS,look,Qb]
 obtain⟨h1,h2⟩:=key hk;rw[HF h1];exact h k v h2
theorem Eo {Q:Ex->Fr->Sl->St->Prop} {k:Nat} {ops:Array Oper} (X2:Xb ops.toList=true) (h:CK E ⟨fun v s=>Q (.panic v) fr (kS ops.toList l) s,[]⟩ ops.toList ops.toList 0 fr l st [] [] (Q .normal fr)):Cz E (.region k ops true) fr l st Q:=by
 intro T hT;obtain⟨N,ex,l',T',s',hk,hr⟩:=h T T [] [] hT (fun p hp=>by cases hp) (fun p hp=>by cases hp) ⟨fun e he=>(by cases he),fun p hp=>(by cases hp),fun p hp=>by cases hp⟩;have C8:∀n,N<=n->(XO E (.region k ops true)).run (ev E n) fr T st= .one ⟨ex,fr,T',s'⟩:=by grind [n7,nz,XO,ev]
 cases ex with
 |normal=>exact⟨N,.normal,fr,l',T',s',hk.1,hk.2,C8⟩
 |panic v=>exact⟨N,.panic v,fr,_,T',s',hk.1,by rw[hk.2];exact hT.clear,C8⟩
 |exit _=>exact hk.elim
 |ret=>exact hk.elim
theorem Ag {Q:Ex->Fr->Sl->St->Prop} {k:Nat} {ops:Array Oper} {b:Code} (X2:Xb ops.toList=true) (h:CK E ⟨fun v s=>Q (.panic v) fr (kS ops.toList l) s,[]⟩ ops.toList ops.toList 0 fr l st [] [] fun l s=>Cz E b fr l s Q):Cz E (.seq (.region k ops true) b) fr l st Q:=
 DK (Eo X2 h)
theorem DQ {ev:Ev} {T0:Tr AV} {q q':aW} {r:Touch×AV×St} {out:Out} (h1:WO E all ev fr (YU E all i o) q=some r) (h2:W0 fr.nt (YU E all i o) q r=some q')
 (h:Zg E all ev fr T0 (Yu E (Wg all) rest (i+1)) q'=out):Zg E all ev fr T0 (Yu E (Wg all) (o::rest) i) q=out:=by
 show(match WO E all ev fr (YU E all i o) q with
  |some r=>match W0 fr.nt (YU E all i o) q r with
   |some q'=>Zg E all ev fr T0 (Yu E (Wg all) rest (i+1)) q'
   |none=> .stuck
  |none=>kE E all ev fr T0 (YU E all i o) (Yu E (Wg all) rest (i+1)) q (cR E all ev fr (YU E all i o) q))=_
 rw[h1];simp only[h2];exact h
theorem runN {n:Nat} {T:Tr AV} {news:Wu} {looked:ZV} {r:Touch×AV×St} (hT:Has l T) (hg:CY all l o) (h:Yj E (ev E n) fr (YU E all i o) ⟨T,st,news,looked⟩ (XF T (tmpsOf o.op.operands.toList) .nil)=some r):
 WO E all (ev E n) fr (YU E all i o) ⟨T,st,news,looked⟩=some r:=by
 unfold WO;rcases hg with hg|⟨g,hg,hw⟩
 .grind [YU]
 .grind [YU,WN]
theorem I2 {KN:PN} {v:AV} {js':List Nat} (hq:Yb (Xz E o.type o.op)=true)
 (ho:∀(T:Tr AV) (news:Wu),(∀p∈news,p∈nl)->Has (CQ (tmpsOf o.op.operands.toList) l) T->
  (i∈js'\/Xh (Xz E o.type o.op) T= .nothing)/\Alone E o fr T v (st.sub (Wv (CZ all i) news st.heap (Xh (Xz E o.type o.op) T))))
 (g9:∀j∈js,j∈js') (hg:CY all l o) (hd:o.dst=od) (Co:WB fr.nt od=true) (h:CK E KN all rest (i+1) fr (Xp od v l) st js' nl K):CK E KN all (o::rest) i fr l st js nl K:=by
 intro T0 T news looked hT bM fX iY;obtain⟨hj,N,hN⟩:=ho _ news bM (hT.CQ (tmpsOf o.op.operands.toList));let dd:jL:=YU E all i o
 let q:aW:=⟨T,st,news,looked⟩
 let TP:=XF T (tmpsOf o.op.operands.toList) .nil
 let dH:=Xh (Xz E o.type o.op) TP
 let H:=Wv dd.Wf news st.heap dH
 let re:=hZ dd q (dH,v,st.sub H)
 obtain⟨M,ex,l',T',s',hk,hr⟩:=h T0 (ix od v T) news ((i,dH,re)::looked) (hT.Xp od v) bM (fun p hp=>by
  rcases Qk.1 hp with rfl|hp
  .exact hj
  .exact(fX p hp).imp (g9 _) id) iY.cons
 refine⟨max N M,ex,l',T',s',hk,fun n hn=>?_⟩;have eZ:Yj E (ev E n) fr dd q TP=some (dH,v,st.sub H):=by
  unfold Yj;have:Yb dd.so=true:=hq;rw[this];simp only[cond_true];show ZB dH ((Xd E (Xz E o.type o.op) K0).run (ev E n) fr TP (st.sub H))=_;have h1:(Xd E (Xz E o.type o.op) K0).run (ev E n) fr TP (st.sub H)= .one ⟨.normal,fr,aL v,st.sub H⟩:=hN n (by omega);rw[h1];rfl
 have hp:=Hx (nt:=fr.nt) (d:=dd) (q:=q) (dH:=dH) (v:=v) (H:=H) (od:=od) hd Co;exact DQ (runN hT hg eZ) hp (hr n (by omega))
theorem CK.off {KN:PN} {g:Nat×Bool} (hg:o.guard=some g) (hw:∀T,Has l T->WN all g T=some false) (hd:o.dst=od) (Co:WB fr.nt od=true)
 (h:CK E KN all rest (i+1) fr (Xp od (.tuple []) l) st js nl K):CK E KN all (o::rest) i fr l st js nl K:=by
 intro T0 T news looked hT bM fX iY;let dd:jL:=YU E all i o
 let q:aW:=⟨T,st,news,looked⟩
 let re:=hZ dd q (.nothing,.tuple [],st.sub .nil)
 obtain⟨M,ex,l',T',s',hk,hr⟩:=h T0 (ix od (.tuple []) T) news ((i,.nothing,re)::looked) (hT.Xp od _) bM (fun p hp=>by
  rcases Qk.1 hp with rfl|hp
  .exact .inr U
  .exact fX p hp) iY.cons
 refine⟨M,ex,l',T',s',hk,fun n hn=>?_⟩;have C8:WO E all (ev E n) fr dd q=some (.nothing,.tuple [],st.sub .nil):=by
  unfold WO;have:dd.o.guard=some g:=hg;rw[this];show(WN all g T).bind _=_;rw[hw T hT];rfl
 have hp:=Hx (nt:=fr.nt) (d:=dd) (q:=q) (dH:= .nothing) (v:= .tuple []) (H:= .nil) (od:=od) hd Co;exact DQ C8 hp (hr n (by omega))
theorem VF {KN:PN} {j e:Nat} {w b:Bool} {oj:Oper} (hg:o.guard=some (j,w)) (hj:nth all j=some oj) (he:oj.dst=some e) (hl:look e l=some (.bool b)) (hb:b= !w)
 (hd:o.dst=od) (Co:WB fr.nt od=true) (h:CK E KN all rest (i+1) fr (Xp od (.tuple []) l) st js nl K):CK E KN all (o::rest) i fr l st js nl K:=
 CK.off hg (fun T hT=>by rw[EL (g:=(j,w)) hj he (hT e _ hl),hb];cases w<;>rfl) hd Co h
theorem SE {KN:PN} {j e:Nat} {w:Bool} {oj:Oper} (hg:o.guard=some (j,w)) (hj:nth all j=some oj) (he:oj.dst=some e) (hl:look e l=some (.tuple []))
 (hd:o.dst=od) (Co:WB fr.nt od=true) (h:CK E KN all rest (i+1) fr (Xp od (.tuple []) l) st js nl K):CK E KN all (o::rest) i fr l st js nl K:=
 CK.off hg (fun T hT=>by
  unfold WN aK;simp only[hj,Qe,he];show cN w (T.get e)=_;rw[hT e _ hl];rfl) hd Co h
theorem ML {KN:PN} {v:AV} (ho:X9 E o (CQ (tmpsOf o.op.operands.toList) l) v) (hg:CY all l o) (hd:o.dst=od) (Co:WB fr.nt od=true) (h:CK E KN all rest (i+1) fr (Xp od v l) st js nl K):CK E KN all (o::rest) i fr l st js nl K:=
 I2 ho.1 (fun T _ _ hT=>⟨.inr (ho.2 T hT).1,I1 ⟨0,fun n _ k=>(ho.2 T hT).2 (ev E n) fr _ k⟩⟩) (fun _ h=>h) hg hd Co h
theorem CK.aG {KN:PN} {v:AV} (ho:OpA E o fr (CQ (tmpsOf o.op.operands.toList) l) v) (hg:CY all l o) (hd:o.dst=od) (Co:WB fr.nt od=true) (h:CK E KN all rest (i+1) fr (Xp od v l) st (i::js) nl K):CK E KN all (o::rest) i fr l st js nl K:=
 I2 ho.1 (fun T _ _ hT=>⟨.inl (Qh ..),I1 (by
  obtain⟨N,hN⟩:=ho.2 T hT;exact⟨N,fun n hn k=>hN n hn _ k⟩)⟩) (fun _ h=>Qg _ h) hg hd Co h
def WC (Wf b:Nat) (nl:Wu):Bool:=nl.all fun p=> !(Nat.beq p.2 b)||Nat.testBit Wf p.1
theorem By {Wf b:Nat} (h:WC Wf b nl=true):∀ {news:Wu},(∀p∈news,p∈nl)->Yn Wf b news=false
 | [],_=>rfl
 |p::news,hn=>by
  unfold Yn;have h1:=List.all_eq_true.1 h p (hn p (Qh ..));rw[By h (fun q hq=>hn q (Qg _ hq))];cases hb:Nat.beq p.2 b with
  |false=>rfl
  |true=>grind
theorem MK {KN:PN} {x:Tr AV->Option AV} {f:Tr AV->St->Option AV} {v p:AV} {b:Nat} (Yc:Xz E o.type o.op= .read x f) (hx:∀T,Has (CQ (tmpsOf o.op.operands.toList) l) T->x T=some p) (hp:ZA (some p)=some b)
 (hv:∀T,Has (CQ (tmpsOf o.op.operands.toList) l) T->f T (st.sub (Tr.set .nil b (st.heap.get b)))=some v) (hc:WC (CZ all i) b nl=true) (hg:CY all l o) (hd:o.dst=od) (Co:WB fr.nt od=true)
 (h:CK E KN all rest (i+1) fr (Xp od v l) st (i::js) nl K):CK E KN all (o::rest) i fr l st js nl K:=by
 refine I2 (by rw[Yc];rfl) (fun T news bM hT=>⟨.inl (Qh ..),?_⟩) (fun _ h=>Qg _ h) hg hd Co h;rw[Yc];have:Xh (.read x f) T= .block b:=by
  show dZ (ZA (x T))=_;rw[hx T hT,hp];rfl
 rw[this];have hs:Wv (CZ all i) news st.heap (.block b)=Tr.set .nil b (st.heap.get b):=by
  show(bif Yn (CZ all i) b news then _ else _)=_;rw[By hc bM];rfl
 rw[hs];exact I1 ⟨0,fun n _ k=>by
  rw[Yc];show X0 (fun v=>k.run (ev E n) fr T v _) (f T _)=_;rw[hv T hT];rfl⟩
theorem HW {n b off:Nat} {s s':St} (hs:s'.heap.get b=s.heap.get b):YE s' n (.ptr b off)=YE s n (.ptr b off):=by
 unfold YE;simp only[hs]
theorem Jf {t:TypeId} {b off:Nat} {s s':St} (hs:s'.heap.get b=s.heap.get b):Wy E t s' (.ptr b off)=Wy E t s (.ptr b off):=by
 unfold Wy;cases isAgg E t with
 |none=>rfl
 |some g=>
  cases sizeOf E t with
  |none=>cases g<;>rfl
  |some n=>
   cases g
   .show(YE s' 1 _).bind _=(YE s 1 _).bind _;rw[HW hs]
   .show(YE s' n _).bind _=(YE s n _).bind _;rw[HW hs]
theorem B5 {KN:PN} {t:TypeId} {a:Operand} {v:AV} {b off:Nat} (ho:o.op= .load t a) (ha:Ch a (CQ (tmpsOf o.op.operands.toList) l)=some (.ptr b off))
 (hv:Wy E t st (.ptr b off)=some v) (hc:WC (CZ all i) b nl=true) (hg:CY all l o) (hd:o.dst=od) (Co:WB fr.nt od=true) (h:CK E KN all rest (i+1) fr (Xp od v l) st (i::js) nl K):CK E KN all (o::rest) i fr l st js nl K:=
 MK (x:=Cg E a) (f:=fun T s=>(Cg E a T).bind (Wy E t s)) (b:=b) (by rw[ho];rfl) (fun T hT=>Ae hT ha) rfl (fun T hT=>by
  rw[Ae hT ha];exact(Jf (by show(Tr.set .nil b (st.heap.get b)).get b=_;rw[Ay,if_pos rfl])).trans hv) hc hg hd Co h
theorem OG {KN:PN} {f:Tr AV->Option Mk} {ob:Cw} {g:Nat->AV} (Yc:Xz E o.type o.op= .make f) (hv:∀T,Has (CQ (tmpsOf o.op.operands.toList) l) T->f T=some (.obj ob g)) (hg:CY all l o) (hd:o.dst=od) (Co:WB fr.nt od=true)
 (h:CK E KN all rest (i+1) fr (Xp od (g st.next) l) (st.alloc ob) js ((i,st.next)::nl) K):CK E KN all (o::rest) i fr l st js nl K:=by
 intro T0 T news looked hT bM fX iY;let dd:jL:=YU E all i o
 let q:aW:=⟨T,st,news,looked⟩
 let TP:=XF T (tmpsOf o.op.operands.toList) .nil
 let s2:St:=(st.sub .nil).alloc ob
 let re:=hZ dd q (.nothing,g st.next,s2)
 obtain⟨M,ex,l',T',s',hk,hr⟩:=h T0 (ix od (g st.next) T) ((i,st.next)::news) ((i,.nothing,re)::looked) (hT.Xp od _) (fun p hp=>by
  rcases Qk.1 hp with rfl|hp
  .exact Qh ..
  .exact Qg _ (bM p hp)) (fun p hp=>by
  rcases Qk.1 hp with rfl|hp
  .exact .inr U
  .exact fX p hp) iY.cons
 refine⟨M,ex,l',T',s',hk,fun n hn=>?_⟩;have eZ:Yj E (ev E n) fr dd q TP=some (.nothing,g st.next,s2):=by
  unfold Yj;have ZW:dd.so= .make f:=Yc;have hqs:Yb dd.so=true:=by rw[ZW];rfl
  rw[hqs];simp only[cond_true];have lJ:Xh dd.so TP= .nothing:=by rw[ZW];rfl
  rw[lJ];have WT:(Xd E (Xz E o.type o.op) K0).run (ev E n) fr TP (st.sub .nil)=K0.run (ev E n) fr TP (g (st.sub .nil).next) ((st.sub .nil).alloc ob):=by
   rw[Yc];show mc _ _ (f TP)=_;rw[hv TP (hT.CQ (tmpsOf o.op.operands.toList))];rfl
  show ZB .nothing ((Xd E (Xz E o.type o.op) K0).run (ev E n) fr TP (st.sub .nil))=_;rw[WT];rfl
 have eh:W0 fr.nt dd q (.nothing,g st.next,s2)=some ⟨ix od (g st.next) T,st.alloc ob,(i,st.next)::news,(i,.nothing,re)::looked⟩:=by
  unfold W0;have h1:Nat.ble q.st.next s2.next=true:=Qd (Nat.le_succ _);have h3:dd.o.dst=od:=hd;have h4:YO q.st.next (s2.next-q.st.next)=[st.next]:=by
   show YO st.next (st.next+1-st.next)=_;rw[Nat.add_sub_cancel_left];rfl
  have h5:s2.heap.get st.next=some ob:=by
   show(Tr.set .nil st.next (some ob)).get st.next=_;rw[Ay,if_pos rfl]
  have h6:s2.log=[]:=rfl;simp only[h1,h6,XN,h3,Bool.and_self,cond_true,Mf Co,Qe,h4,Y4,W8,h5,below];rfl
 exact DQ (runN hT hg eZ) eh (hr n (by omega))
theorem EP {i:Nat} {p:Nat×Nat}:∀ {L:List Nat} {news:Wu},(∀p∈news,p∈nl)->p∈Y4 i news L->p∈Y4 i nl L
 | [],_,hn,h=>hn _ h
 |b::L,news,hn,h=>by
  rcases Qk.1 h with rfl|h
  .exact Qh ..
  .exact Qg _ (EP hn h)
def fy (Wf:Nat) (js:List Nat):Bool:=js.all fun j=>Nat.testBit Wf j
theorem NW {Wf b n:Nat} {ob:Option Cw} (g9:fy Wf js=true):∀ {L:ZV},(∀p∈L,p.1∈js\/p.2.1= .nothing)->aM Wf b n ob L=true
 | [],_=>rfl
 |p::L,hL=>by
  unfold aM;have ih:=NW (b:=b) (n:=n) (ob:=ob) g9 fun q hq=>hL q (Qg _ hq);rcases hL p (Qh ..)with h1|h1
  .have:Nat.testBit Wf p.1=true:=List.all_eq_true.1 g9 _ h1;rw[this];exact ih
  .grind [fg]
theorem JJ {KN:PN} {x:Tr AV->Option AV} {f:Tr AV->St->Option (AV×St)} {v:AV} {s2:St} {one:Bool} {dH:Touch} {H:Tr Cw} (Yc:Xz E o.type o.op= .act one x f)
 (lJ:∀T,Has (CQ (tmpsOf o.op.operands.toList) l) T->Xh (.act one x f) T=dH) (hH:∀news:Wu,(∀p∈news,p∈nl)->Wv (CZ all i) news st.heap dH=H)
 (ho:Zl E o fr (CQ (tmpsOf o.op.operands.toList) l) (st.sub H) v s2)
 (aC:st.next<=s2.next) (Wk:∀b∈s2.log,b<st.next/\WC (CZ all i) b nl=true) (g9:fy (CZ all i) js=true)
 (hg:CY all l o) (hd:o.dst=od) (Co:WB fr.nt od=true)
 (h:CK E KN all rest (i+1) fr (Xp od v l) (st.merged s2) (i::js) (Y4 i (Y4 i nl (YO st.next (s2.next-st.next))) s2.log) K):CK E KN all (o::rest) i fr l st js nl K:=by
 intro T0 T news looked hT bM fX iY;obtain⟨N,hN⟩:=ho _ (hT.CQ (tmpsOf o.op.operands.toList));let dd:jL:=YU E all i o
 let q:aW:=⟨T,st,news,looked⟩
 let TP:=XF T (tmpsOf o.op.operands.toList) .nil
 let re:=hZ dd q (dH,v,s2)
 have ZX:dd.Wf=CZ all i:=rfl;obtain⟨M,ex,l',T',s',hk,hr⟩:=h T0 (ix od v T) (Y4 i (Y4 i news (YO st.next (s2.next-st.next))) s2.log) ((i,dH,re)::looked) (hT.Xp od v)
  (fun p hp=>EP (fun p hp=>EP bM hp) hp) (fun p hp=>by
  rcases Qk.1 hp with rfl|hp
  .exact .inl (Qh ..)
  .exact(fX p hp).imp (Qg _) id) iY.cons
 refine⟨max N M,ex,l',T',s',hk,fun n hn=>?_⟩;have eZ:Yj E (ev E n) fr dd q TP=some (dH,v,s2):=by
  unfold Yj;have ZW:dd.so= .act one x f:=Yc;have hqs:Yb dd.so=true:=by rw[ZW];rfl
  rw[hqs];simp only[cond_true];have ht:Xh dd.so TP=dH:=by rw[ZW];exact lJ _ (hT.CQ _)
  rw[ht];have WT:=hN n (by omega) K0;show ZB dH ((Xd E (Xz E o.type o.op) K0).run (ev E n) fr TP (st.sub (Wv dd.Wf news st.heap dH)))=_;rw[ZX,hH news bM,WT];rfl
 have hmay:∀L:List Nat,(∀b∈L,b<st.next/\WC (CZ all i) b nl=true)->XN dd.Wf st.next s2.next s2.heap q L=true:=by
  intro L;induction L with
  |nil=>intro _;rfl
  |cons b L ih=>grind [Nat.blt_eq,XN,Qh,By,NW,Qg]
 have eh:W0 fr.nt dd q (dH,v,s2)=some ⟨ix od v T,st.merged s2,Y4 i (Y4 i news (YO st.next (s2.next-st.next))) s2.log,(i,dH,re)::looked⟩:=by
  unfold W0;have h1:Nat.ble q.st.next s2.next=true:=Qd aC;have h2:XN dd.Wf q.st.next s2.next s2.heap q s2.log=true:=hmay s2.log Wk;have h3:dd.o.dst=od:=hd;simp only[h1,h2,h3,Bool.and_self,cond_true,Mf Co,Qe];rfl
 exact DQ (runN hT hg eZ) eh (hr n (by omega))
theorem HA {Wf:Nat} (h:(nl.all fun p=>Nat.testBit Wf p.1)=true) {news:Wu} {hp:Tr Cw} (hn:∀p∈news,p∈nl):cO Wf news hp=hp:=
 NS fun p hp=>List.all_eq_true.1 h p (hn p hp)
theorem Rk {KN:PN} {x:Tr AV->Option AV} {f:Tr AV->St->Option (AV×St)} {v:AV} {s2:St} (Yc:Xz E o.type o.op= .act false x f) (ho:Zl E o fr (CQ (tmpsOf o.op.operands.toList) l) (st.sub st.heap) v s2)
 (aC:st.next<=s2.next) (Wk:∀b∈s2.log,b<st.next/\WC (CZ all i) b nl=true) (g9:fy (CZ all i) js=true) (dx:(nl.all fun p=>Nat.testBit (CZ all i) p.1)=true)
 (hg:CY all l o) (hd:o.dst=od) (Co:WB fr.nt od=true)
 (h:CK E KN all rest (i+1) fr (Xp od v l) (st.merged s2) (i::js) (Y4 i (Y4 i nl (YO st.next (s2.next-st.next))) s2.log) K):CK E KN all (o::rest) i fr l st js nl K:=
 JJ (dH:= .all) Yc (fun _ _=>rfl) (fun _ hn=>HA dx hn) ho aC Wk g9 hg hd Co h
end
section
variable {E : Env} {fr : Fr} {l : Sl} {s : St} {o : Oper}
theorem PM {t:TypeId} {x:Operand} {v:AV} (ho:o.op= .makeInterface t x) (hi:Ye E t=some false) (hx:Ch x l=some v):X9 E o l (.iface t v):=
 AE (f:=fun T=>(Cg E x T).bind fun v=>some (.iface t v)) (by
  rw[ho];show aI E t x=_;unfold aI;rw[hi]) fun T hT=>by simp only[Ae hT hx,Qe]
def vN (neg:Bool):BinOp:=bif neg then .neq else .eql
theorem VA {neg:Bool} {t:TypeId} {x y:Operand} (h1:∀k,CN E t≠some (.int k)) (h2:CN E t≠some .string):kg E (vN neg) t x y=eqC E neg t x y:=by
 unfold kg;split
 .next k h=>exact absurd h (h1 k)
 .next h=>exact absurd h h2
 .cases neg<;>rfl
theorem vO {t:TypeId} (h:Ye E t=some true):∃ms,CN E t=some (.interface ms):=by
 unfold Ye at h;split at h
 .next ms hm=>exact⟨ms,hm⟩
 .cases h
 .cases h
theorem Rq {neg:Bool} {t yt:TypeId} {x y:Operand} {a b v:AV} (ho:o.op= .binOp (vN neg) t x y yt) (hu:Ye E t=some true) (hx:Ch x l=some a) (hy:Ch y l=some b)
 (hv:Zf neg (gM E (isConst x||isConst y) a b)=some v):X9 E o l v:=by
 obtain⟨ms,hu⟩:=vO hu;exact AE (f:=fun T=>(Cg E x T).bind fun a=>(Cg E y T).bind fun b=>Zf neg (gM E (isConst x||isConst y) a b)) (by
  rw[ho];show kg E (vN neg) t x y=_;rw[VA (by rw[hu];intro k h;cases h) (by rw[hu];intro h;cases h)];unfold eqC;rw[hu];rfl) fun T hT=>by simp only[Ae hT hx,Ae hT hy,Qe,hv]
theorem X9.sub {t yt:TypeId} {x y:Operand} {a b:Int} (ho:o.op= .binOp .sub t x y yt) (hu:CN E t=some (.int .i64)) (hx:Ch x l=some (.int .i64 a)) (hy:Ch y l=some (.int .i64 b))
 (h: -9223372036854775808<=a-b/\a-b<9223372036854775808):X9 E o l (.int .i64 (a-b)):=FP ho hu rfl hx hy (by rw[Gq h.1 h.2])
theorem DJ {t yt:TypeId} {x y:Operand} {a b:Nat} (ho:o.op= .binOp .sub t x y yt) (hu:CN E t=some (.int .i64)) (hx:Ch x l=some (.int .i64 (a:Nat))) (hy:Ch y l=some (.int .i64 (b:Nat)))
 (h:b<=a/\a<9223372036854775808):X9 E o l (.int .i64 ((a-b:Nat):Int)):=by
 have:=X9.sub (o:=o) (E:=E) (l:=l) ho hu hx hy (by omega);rwa[show(a:Int)-(b:Int)=((a-b:Nat):Int) by omega]at this
theorem X9.mul {t yt:TypeId} {x y:Operand} {a b:Int} (ho:o.op= .binOp .mul t x y yt) (hu:CN E t=some (.int .i64)) (hx:Ch x l=some (.int .i64 a)) (hy:Ch y l=some (.int .i64 b))
 (h: -9223372036854775808<=a*b/\a*b<9223372036854775808):X9 E o l (.int .i64 (a*b)):=FP ho hu rfl hx hy (by rw[Gq h.1 h.2])
theorem Iy {α:Type}:∀ {a:Nat} {l:List α},a<=l.length->XK a l=some (l.drop a)
 |0,_,_=>rfl
 |_+1,[],h=>by simp at h
 |a+1,_::l,h=>Iy (a:=a) (l:=l) (by simpa using h)
theorem PX {α:Type}:∀ {n:Nat} {l:List α},n<=l.length->takeN n l=some (l.take n)
 |0,l,_=>by simp;rfl
 |_+1,[],h=>by simp at h
 |n+1,b::l,h=>by
  show fi b (takeN n l)=_;rw[PX (n:=n) (l:=l) (by simpa using h)];rfl
theorem K3 {t:TypeId} {x:Operand} {i off n:Nat} {agg:Bool} {cs:List AV} (ho:o.op= .fieldAddr t x i) (hf:Zd E t i=some (off,n+1,agg)) (hx:Ch x l=some (.Wl cs)) (hn:off<=cs.length):X9 E o l (.Wl (cs.drop off)):=
 AE (f:=fun T=>(Cg E x T).bind (Ze off)) (by
  rw[ho];show YN E t x i=_;unfold YN;rw[hf]) fun T hT=>by simp only[Ae hT hx,Qe,Ze,Iy hn]
theorem JM {src dst:TypeId} {x:Operand} {j k kx:IntKind} {n:Int} (ho:o.op= .convert src dst x) (hs:CN E src=some (.int j)) (hd:CN E dst=some (.int k)) (hx:Ch x l=some (.int kx n)):X9 E o l (dj k n):=
 AE (f:=fun T=>(Cg E x T).bind (kh k)) (by
  rw[ho];show bV E src dst x=_;unfold bV;rw[hs,hd]) fun T hT=>by simp only[Ae hT hx,Qe,kh]
theorem SM {x:Operand} {t ty:TypeId} {ok:Bool} {z a v:AV} (ho:o.op= .typeAssert x ty t ok) (hi:Ye E t=some false) (hz:zeroOf E t=some z) (hx:Ch x l=some a) (hv:eK t ok z a=some v):X9 E o l v:=
 AE (f:=fun T=>(Cg E x T).bind (eK t ok z)) (by
  rw[ho];show gV E x t ok=_;unfold gV;unfold Ye at hi;rw[hz];cases hu:CN E t with
  |none=>rw[hu]at hi;cases hi
  |some d=>
   rw[hu]at hi;cases d<;>first|rfl|cases hi) fun T hT=>by simp only[Ae hT hx,Qe,hv]
theorem JO {t k e:TypeId} (ho:o.op= .makeMap t none) (hu:CN E t=some (.map k e)):Zl E o fr l s (.map s.next) (s.alloc (.map [] 0)):=fun T _=>
 Fx (f:=fun _=>some (.obj (.map [] 0) .map)) (by
  rw[ho];show dV E t none=_;unfold dV;rw[hu]) rfl
theorem LI {t k e:TypeId} {kd:Kd} {m x y:Operand} {p a b:AV} {s':St} (ho:o.op= .mapUpdate t m x y\/o.op= .insert t m x y) (hu:CN E t=some (.map k e)) (hk:bQ E k=some kd) (hm:Ch m l=some p) (hx:Ch x l=some a) (hy:Ch y l=some b)
 (hs:Z9 kd s a b p=some s'):Zl E o fr l s (.tuple []) s':=fun T hT=>
 Hm (b:=true) (x:=Cg E m) (f:=fun T s=>(Cg E m T).bind fun a=>(Cg E x T).bind fun b=>(Cg E y T).bind fun c=>dO (Z9 kd s b c a)) (by
  have:Xz E o.type o.op=bp E t m x y:=by rcases ho with ho|ho<;>rw[ho]<;>rfl
  rw[this];unfold bp;rw[hu];simp only[hk]) (by simp only[Ae hT hm,Ae hT hx,Ae hT hy,Qe,hs,dO])
theorem MP {src dst e:TypeId} {x:Operand} {w:List UInt8} (ho:o.op= .convert src dst x) (hs:CN E src=some .string) (hd:CN E dst=some (.slice e)) (hb:isByte E e=true) (hx:Ch x l=some (.str w)):
 Zl E o fr l s (.slice s.next 0 (WL w) 1 none) (s.alloc (.cells (byteCells w) e true)):=fun T hT=>
 Fx (f:=fun T=>(Cg E x T).bind (bS e)) (g:=fun i=> .slice i 0 (WL w) 1 none) (by
  rw[ho];show bV E src dst x=_;unfold bV;rw[hs,hd];simp only[hb,cond_true]) (by simp only[Ae hT hx,Qe,bS])
variable {st : St} {all rest : List Oper} {i : Nat} {js : List Nat} {nl : Wu} {K : Sl -> St -> Prop} {od : Option Nat}
end
noncomputable def fY {α:Type} (enc:α->List AV) (res:α->AV) (args:List AV):Option AV:=by
 classical exact if h:∃a,enc a=args then some (res h.choose)else none
theorem R0 {α:Type} {enc:α->List AV} {res:α->AV} (hw:∀a b,enc a=enc b->res a=res b) (a:α):fY enc res (enc a)=some (res a):=by
 have h:∃b,enc b=enc a:=⟨a,rfl⟩
 unfold fY;rw[dif_pos h,hw _ _ h.choose_spec]
theorem Pd {α:Type} {enc:α->List AV} {res:α->AV} {args:List AV} {v:AV} (h:fY enc res args=some v):∃a,enc a=args/\res a=v:=by
 unfold fY at h;split at h
 .next he=>cases h;exact⟨_,he.choose_spec,rfl⟩
 .cases h
theorem Pe {α:Type} {enc:α->List AV} {res:α->AV} {args:List AV} (h:∀a,enc a≠args):fY enc res args=none:=by
 unfold fY;rw[dif_neg];rintro⟨a,ha⟩;exact h a ha
noncomputable def W7 {α:Type} (K:FuncId->List AV->Option AV) (f:FuncId) (enc:α->List AV) (res:α->AV):FuncId->List AV->Option AV:=fun g args=>bif Nat.beq g f then fY enc res args else K g args
theorem An {α:Type} {K:FuncId->List AV->Option AV} {f:FuncId} {enc:α->List AV} {res:α->AV} (hw:∀a b,enc a=enc b->res a=res b) (a:α):W7 K f enc res f (enc a)=some (res a):=by
 unfold W7;rw[Nat.beq_refl];exact R0 hw a
theorem OE {α:Type} {K:FuncId->List AV->Option AV} {f:FuncId} {enc:α->List AV} {res:α->AV} {args:List AV} (h:∀a,enc a≠args):W7 K f enc res f args=none:=by
 unfold W7;rw[Nat.beq_refl];exact Pe h
abbrev Hl:=List (Nat×Option Cw)
def aP:Nat->Hl->Option Cw
 |_,[]=>none
 |k,p::l=>bif Nat.beq k p.1 then p.2 else aP k l
noncomputable def mkH:Hl->Tr Cw
 | []=> .nil
 |p::l=>(mkH l).set p.1 p.2
noncomputable def Xj (n bd:Nat) (lg:List Nat) (hl:Hl):St:= {next:=n,bound:=bd,log:=lg,heap:=mkH hl}
theorem UJ (k:Nat):∀hl:Hl,(mkH hl).get k=aP k hl
 | []=>AM k
 |p::l=>by
  show((mkH l).set p.1 p.2).get k=bif Nat.beq k p.1 then p.2 else aP k l;rw[Ay,UJ k l];cases hb:Nat.beq k p.1 with
  |true=>rw[if_pos (Qb hb)];rfl
  |false=>rw[if_neg (Nat.ne_of_beq_eq_false hb)];rfl
theorem AD {n bd:Nat} {lg:List Nat} {hl:Hl} (k:Nat):(Xj n bd lg hl).heap.get k=aP k hl:=UJ k hl
def logB (b bd:Nat) (lg:List Nat):List Nat:=bif Nat.blt b bd then XL b lg else lg
section
variable {E : Env} {fr : Fr} {l : Sl} {o : Oper} {n m bd : Nat} {lg : List Nat} {hl : Hl}
theorem SS {t:TypeId} {z:AV} (m:Nat) (ho:o.op= .alloc t) (hz:zeroOf E t=some z) (hm:n+1=m):Zl E o fr l (Xj n bd lg hl) (.ptr n 0) (Xj m bd lg ((n,some (.cells z.cells t false))::hl)):=by
 subst hm;exact Zl.alloc ho hz
theorem Zl.boxS {t:TypeId} {x:Operand} {v:AV} (m:Nat) (ho:o.op= .box t x) (hx:Ch x l=some v) (hv:v.isTuple=false) (hm:n+1=m):Zl E o fr l (Xj n bd lg hl) (.ptr n 0) (Xj m bd lg ((n,some (.cells v.cells t false))::hl)):=by
 subst hm;exact AO ho hx hv
theorem SP {t:TypeId} {a x:Operand} {k b off:Nat} {v:AV} {cs XU:List AV} {e:TypeId} {part:Bool} (ho:o.op= .store t a x) (hn:sizeOf E t=some k) (ha:Ch a l=some (.ptr b off)) (hx:Ch x l=some v)
 (hg:aP b hl=some (.cells cs e part)) (hk:v.cells.length=k) (ht:v.isTuple=false) (hc:over v.cells off cs=some XU):Zl E o fr l (Xj n bd lg hl) (.tuple []) (Xj n bd (logB b bd lg) ((b,some (.cells XU e part))::hl)):=
 BD ho hn ha hx (Ds ((AD b).trans hg) hk ht hc)
theorem LJ {t:TypeId} {a:Operand} {k b off:Nat} {v:AV} {cs:List AV} {e:TypeId} {part:Bool} (ho:o.op= .load t a) (h1:isAgg E t=some false) (h2:sizeOf E t=some k) (ha:Ch a l=some (.ptr b off))
 (hg:aP b hl=some (.cells cs e part)) (hv:cs[off]?=some v):Zl E o fr l (Xj n bd lg hl) v (Xj n bd lg hl):=
 B9 ho ha (AI h1 h2 ((AD b).trans hg) hv)
theorem SR {t:TypeId} {a:Operand} {k b off:Nat} {cs:List AV} {e:TypeId} {part:Bool} (ho:o.op= .load t a) (h1:isAgg E t=some true) (h2:sizeOf E t=some k) (ha:Ch a l=some (.ptr b off))
 (hg:aP b hl=some (.cells cs e part)) (hk:off+k<=cs.length):Zl E o fr l (Xj n bd lg hl) (.agg ((cs.drop off).take k)) (Xj n bd lg hl):=
 B9 ho ha (BM h1 h2 ((AD b).trans hg) hk)
theorem Bi {t e:TypeId} {len sz:Nat} {parts:Array (Nat×Operand)} {z:AV} {ps:List (Nat×AV)} {cs:List AV} (m:Nat) (ho:o.op= .buildSlice t (len+1) parts) (hu:CN E t=some (.slice e)) (hs:sizeOf E e=some sz) (hz:zeroOf E e=some z)
 (hk:(Nat.beq (WL z.cells) sz&&Nat.ble ((len+1)*sz) 16777216&& !(Nat.beq sz 0))=true) (hq:fV parts.toList l=some ps) (hf:ai (fun i=>some (i*sz,sz)) ps (Yk z.cells (len+1))=some cs) (hm:n+1=m):
 Zl E o fr l (Xj n bd lg hl) (.slice n 0 (len+1) sz (some (len+1))) (Xj m bd lg ((n,some (.cells cs e false))::hl)):=by
 subst hm;exact AC ho hu hs hz hk hq hf
theorem OT {t k e:TypeId} (m:Nat) (ho:o.op= .makeMap t none) (hu:CN E t=some (.map k e)) (hm:n+1=m):Zl E o fr l (Xj n bd lg hl) (.map n) (Xj m bd lg ((n,some (.map [] 0))::hl)):=by
 subst hm;exact JO ho hu
theorem K5 {src dst e:TypeId} {x:Operand} {w:List UInt8} (m:Nat) (ho:o.op= .convert src dst x) (hs:CN E src=some .string) (hd:CN E dst=some (.slice e)) (hb:isByte E e=true) (hx:Ch x l=some (.str w)) (hm:n+1=m):
 Zl E o fr l (Xj n bd lg hl) (.slice n 0 w.length 1 none) (Xj m bd lg ((n,some (.cells (byteCells w) e true))::hl)):=by
 subst hm;rw[<-Bl];exact MP ho hs hd hb hx
theorem AK {t yt:TypeId} {x y:Operand} {a b:List UInt8} (ho:o.op= .binOp .add t x y yt) (hu:CN E t=some .string) (hx:Ch x l=some (.str a)) (hy:Ch y l=some (.str b)) (h:a.length+b.length<=4294967296):X9 E o l (.str (a++b)):=
 A2 ho hu rfl hx hy (by
  simp only[Bl];rw[Qd h];rfl)
theorem Q8 {f:FuncId} {v w:AV} {ks:List Nat} {st:St} (hf:E.j0 f=1) (Wk:st.log=[]) (hb:st.bound=0) (h:Cs st 0 40 v []=some (w,ks)) (hu:Cr 0 40 w=true):leave E f S0 v st=some (.same w):=by
 unfold leave frozen;rw[hf,Wk];simp only;show((Wm 0 v st).bind _)=_;unfold Wm;rw[h];simp only[Qe,YF];have hk:(kill st ks).log=[]:=(GP (s:=st) (ks:=ks) fun b _=>by rw[hb];exact Qm _).trans Wk;rw[hk];show some (bif Cr 0 40 w then _ else _)=_;rw[hu];rfl
theorem Fz {f:FuncId} {fn:Func} {c:Code} {args:List AV} {v:AV} {rs:List ResultVar} {fr:Fr} {l0:Sl} (hz:E.j0 f=1) (hm:E.Y3 f args=none) (hf:E.fns.get f=some fn) (hc:fn.body=some c) (hr:fn.results.toList=rs)
 (aU:frame fn.ntmps args none=fr) (hl:ZS 0 args []=l0)
 (h:Cz E c fr l0 (Xj 0 0 [] []) fun ex fr l st=>(ex= .ret\/ex= .normal)/\fr.defers=[]/\st.log=[]/\st.bound=0/\∃vs w ks,CI E st l rs=some vs/\Cs st 0 40 (ck vs) []=some (w,ks)/\Cr 0 40 w=true/\w=v):Cc E f args S0 v:=
 HR hm hf hc hr aU hl (Cz.mono (s:=S0.enter) h fun ex fr l st ⟨h1,h2,h3,h4,vs,w,ks,h5,h6,h7,h8⟩=>⟨h1,st,by rw[h2];rfl,vs,h5,by rw[<-h8];exact Q8 hz h3 h4 h6 h7⟩)
theorem AJ {a t k b:Nat} {rs:List ResultVar} {vs cs:List AV} {e:TypeId} {part:Bool} (hp:look a l=some (.ptr b 0)) (h1:isAgg E t=some true) (h2:sizeOf E t=some k) (hg:aP b hl=some (.cells cs e part)) (hk:k<=cs.length)
 (h:CI E (Xj n bd lg hl) l rs=some vs):CI E (Xj n bd lg hl) l (.cell a t::rs)=some (.agg (cs.take k)::vs):=by
 have hv:Wy E t (Xj n bd lg hl) (.ptr b 0)=some (.agg ((cs.drop 0).take k)):=BM h1 h2 ((AD b).trans hg) (by omega);unfold CI;rw[hp];simp only[Qe,hv,h];rfl
theorem Nu {a t k b:Nat} {rs:List ResultVar} {vs cs:List AV} {v:AV} {e:TypeId} {part:Bool} (hp:look a l=some (.ptr b 0)) (h1:isAgg E t=some false) (h2:sizeOf E t=some k) (hg:aP b hl=some (.cells cs e part)) (hk:cs[0]?=some v)
 (h:CI E (Xj n bd lg hl) l rs=some vs):CI E (Xj n bd lg hl) l (.cell a t::rs)=some (v::vs):=by
 have hv:Wy E t (Xj n bd lg hl) (.ptr b 0)=some v:=AI h1 h2 ((AD b).trans hg) hk;unfold CI;rw[hp];simp only[Qe,hv,h]
variable {all rest : List Oper} {i : Nat} {js : List Nat} {nl : Wu} {K : Sl -> St -> Prop} {od : Option Nat}
theorem EE {KN:PN} {t:TypeId} {a:Operand} {k b off:Nat} {v:AV} {cs:List AV} {e:TypeId} {part:Bool} (ho:o.op= .load t a) (h1:isAgg E t=some false) (h2:sizeOf E t=some k) (ha:Ch a (CQ (tmpsOf o.op.operands.toList) l)=some (.ptr b off))
 (hg:aP b hl=some (.cells cs e part)) (hv:cs[off]?=some v) (hc:WC (CZ all i) b nl=true) (nS:CY all l o) (hd:o.dst=od) (Co:WB fr.nt od=true)
 (h:CK E KN all rest (i+1) fr (Xp od v l) (Xj n bd lg hl) (i::js) nl K):CK E KN all (o::rest) i fr l (Xj n bd lg hl) js nl K:=
 B5 ho ha (AI h1 h2 ((AD b).trans hg) hv) hc nS hd Co h
theorem JI {KN:PN} {t:TypeId} {a:Operand} {k b off:Nat} {cs:List AV} {e:TypeId} {part:Bool} (ho:o.op= .load t a) (h1:isAgg E t=some true) (h2:sizeOf E t=some k) (ha:Ch a (CQ (tmpsOf o.op.operands.toList) l)=some (.ptr b off))
 (hg:aP b hl=some (.cells cs e part)) (hk:off+k<=cs.length) (hc:WC (CZ all i) b nl=true) (nS:CY all l o) (hd:o.dst=od) (Co:WB fr.nt od=true)
 (h:CK E KN all rest (i+1) fr (Xp od (.agg ((cs.drop off).take k)) l) (Xj n bd lg hl) (i::js) nl K):CK E KN all (o::rest) i fr l (Xj n bd lg hl) js nl K:=
 B5 ho ha (BM h1 h2 ((AD b).trans hg) hk) hc nS hd Co h
end
theorem JN {E:Env} {o:Oper} {l:Sl} {src dst:TypeId} {x:Operand} {j kx:IntKind} {n:Int} (ho:o.op= .convert src dst x) (hs:CN E src=some (.int j)) (hd:CN E dst=some (.int .i64)) (hx:Ch x l=some (.int kx n)) (h: -9223372036854775808<=n/\n<9223372036854775808):X9 E o l (.int .i64 n):=by
 have:=JM (E:=E) (l:=l) ho hs hd hx;rwa[Gq h.1 h.2]at this
theorem HO {E:Env} {fr:Fr} {l:Sl} {s:St} {Q:Ex->Fr->Sl->St->Prop} {x:Operand} {a b:Code} {t:Bool} (hx:Ch x l=some (.bool t)) (ht:t=true) (h:Cz E a fr l s Q):Cz E (.cond x a b) fr l s Q:=
 Hq hx (fun _=>h) fun h0=>by rw[ht]at h0;cases h0
theorem HP {E:Env} {fr:Fr} {l:Sl} {s:St} {Q:Ex->Fr->Sl->St->Prop} {x:Operand} {a b:Code} {t:Bool} (hx:Ch x l=some (.bool t)) (ht:t=false) (h:Cz E b fr l s Q):Cz E (.cond x a b) fr l s Q:=
 Hq hx (fun h0=>by rw[ht]at h0;cases h0) fun _=>h
theorem A8 {b:Bool} {x y:Prop} (hb:b=true) (h:x):cond b x y:=by subst hb;exact h
theorem nT {p:Prop} [Decidable p] (h:(!decide p)=true):¬p:=by simpa using h
theorem nF {p:Prop} [Decidable p] (h:(!decide p)=false):p:=by simpa using h
theorem bT {a b:List UInt8} (h:Cp a b=true):a=b:=of_decide_eq_true (AB.symm.trans h)
theorem bF {a b:List UInt8} (h:Cp a b=false):a≠b:=of_decide_eq_false (AB.symm.trans h)
theorem bnT {a b:List UInt8} (h:(!Cp a b)=true):a≠b:=bF (by simpa using h)
theorem bnF {a b:List UInt8} (h:(!Cp a b)=false):a=b:=bT (by simpa using h)
theorem tb {b:Bool} (h:(!b)=true):b=false:=by simpa using h
theorem tc {b:Bool} (h:(!b)=false):b=true:=by simpa using h
section
variable (E : Env)
def Xw (f:FuncId) (rs:List ResultVar) (s0:St) (R:AV->St->Prop) (ex:Ex) (fr:Fr) (l:Sl) (st:St):Prop:=
 (ex= .ret\/ex= .normal)/\∃ZD,Zm fr.defers st=some ZD/\∃vs,CI E ZD l rs=some vs/\∃cr,leave E f s0 (ck vs) ZD=some cr/\match cr with
  | .same v=>R v s0
  | .val v s'=>R v s'
  | .WR _ _=>False
def CE (f:FuncId) (args:List AV) (s:St) (R RP:AV->St->Prop):Prop:=
 ∃N cr,(∀n,N<=n->WA E (ev E n) f args s=some cr)/\match cr with
  | .same v=>R v s
  | .val v s'=>R v s'
  | .WR v s'=>RP v s'
def vP (f:FuncId) (rs:List ResultVar) (s0:St) (R RP:AV->St->Prop) (ex:Ex) (fr:Fr) (l:Sl) (st:St):Prop:=match ex with
 | .panic v=>fr.defers=[]/\RP v (s0.back st)
 |ex=>Xw E f rs s0 R ex fr l st
end
section
variable {E : Env} {fr Yf : Fr} {l l' : Sl} {o : Oper} {n m bd : Nat} {lg jS : List Nat} {hl ZC : Hl} {all rest : List Oper} {K : Sl -> St -> Prop} {f : FuncId} {rs : List ResultVar} {R : AV -> St -> Prop} {ex : Ex}
theorem JG {s:St} {args:List AV} {RP:AV->St->Prop} (h:VZ E f args s R):CE E f args s R RP:=by
 obtain⟨N,cr,h1,h2⟩:=h;refine⟨N,cr,h1,?_⟩;cases cr with
 |same v=>exact h2
 |val v s'=>exact h2
 |WR v s'=>exact h2.elim
theorem CE.mono {s:St} {args:List AV} {RP R' RP':AV->St->Prop} (h:CE E f args s R RP) (h1:∀v s,R v s->R' v s) (h2:∀v s,RP v s->RP' v s):CE E f args s R' RP':=by
 obtain⟨N,cr,h0,h⟩:=h;refine⟨N,cr,h0,?_⟩;cases cr with
 |same v=>exact h1 _ _ h
 |val v s'=>exact h1 _ _ h
 |WR v s'=>exact h2 _ _ h
theorem CE.gen {s:St} {fn:Func} {c:Code} {args:List AV} {RP:AV->St->Prop} {rH:Fr} {l0:Sl} (hm:E.Y3 f args=none) (hf:E.fns.get f=some fn) (hc:fn.body=some c) (hr:fn.results.toList=rs)
 (aU:frame fn.ntmps args none=rH) (hl:ZS 0 args []=l0) (h:Cz E c rH l0 s.enter (vP E f rs s R RP)):CE E f args s R RP:=by
 subst aU hl hr;obtain⟨N,ex,Yf,l',T',s',hq,ZQ,dD⟩:=h _ (D4 args 0 (Has.nil .nil));have key:∀ {m:Option AV} {ZD:St} {cr:CR},fK ex=some m->(∀n,unwind E (ev E n) Yf.defers m s'=some (m,ZD))->endWith E f fn s T' m ZD=some cr->∀n,N+1<=n->WA E (ev E n) f args s=some cr:=by
  intro m ZD cr iZ hu he n hn;obtain⟨k,rfl⟩:∃k,n=k+1:=⟨n-1,by omega⟩
  unfold WA;rw[hm];simp only[hf,hc,Qe];rw[Fk,dD k (by omega)];show ZI E (ev E (k+1)) f fn s ⟨ex,Yf,T',s'⟩=_;unfold ZI;simp only[iZ,Qe,hu,he]
 have val:Xw E f fn.results.toList s R ex Yf l' s'->CE E f args s R RP:=fun⟨hex,ZD,hu,vs,WQ,cr,hlv,hR⟩=>
  JG ⟨N+1,cr,key (by rcases hex with h|h<;>rw[h]<;>rfl) (fun n=>F0 hu) (by simp only[endWith,BX ZQ WQ,Qe,hlv]),hR⟩
 cases ex with
 |panic v=>
  obtain⟨hd,hp⟩:=hq;exact⟨N+1,.WR v (s.back s'),key U (fun n=>by rw[hd];rfl) U,hp⟩
 |normal=>exact val hq
 |ret=>exact val hq
 |exit i=>exact val hq
theorem CE.inl {fn:Func} {cb:Code} {args:List AV} {rH:Fr} {l0:Sl} {RP:AV->St->Prop} (hm:E.Y3 f args=none) (hf:E.fns.get f=some fn) (nH:fn.body=some cb) (hr:fn.results.toList=rs) (aU:frame fn.ntmps args none=rH) (eV:ZS 0 args []=l0)
 (h:Cz E cb rH l0 (Xj n n [] hl) (vP E f rs (Xj n bd lg hl) R RP)):CE E f args (Xj n bd lg hl) R RP:=
 CE.gen hm hf nH hr aU eV h
theorem Al {s0 st:St} {RP:AV->St->Prop} (h:Xw E f rs s0 R .ret fr l st):vP E f rs s0 R RP .ret fr l st:=h
theorem Rl {KP:AV->Sl->St->Prop} {s:St} {d:Nat} (hg:o.guard=none) (hd:o.dst=some d) (Co:Nat.blt d fr.nt=true)
 (h:∀T,Has l T->(∃v s',jc E o fr T s v s'/\CB E KP all rest fr ((d,v)::l) s' K)\/∃v s',KP v l s'/\∃N,∀n,N<=n->∀k:oM,(Xd E (Xz E o.type o.op) k).run (ev E n) fr T s= .one ⟨.panic v,fr,T,s'⟩):CB E KP all (o::rest) fr l s K:=by
 intro T hT;rcases h T hT with⟨v,s',ho,h⟩|⟨v,s',hk,N,hN⟩
 .obtain⟨N,ho⟩:=ho;obtain⟨M,ex,l',T',s2,hk,ZQ,hr⟩:=h _ (hT.put d v);refine⟨max N M,ex,l',T',s2,hk,ZQ,fun n hn=>?_⟩;show(Zv E all o (YS o.dst (al E all rest))).run (ev E n) fr T s=_;unfold Zv guarded;rw[hg];simp only;rw[ho n (by omega),BA _ _ (by rw[hd];exact Co),hd];exact hr n (by omega)
 .refine⟨N,.panic v,l,T,s',hk,hT,fun n hn=>?_⟩;show(Zv E all o (YS o.dst (al E all rest))).run (ev E n) fr T s=_;unfold Zv guarded;rw[hg];exact hN n hn _
theorem CB.raise {KP:AV->Sl->St->Prop} {s:St} {x:Operand} {t:TypeId} {v:AV} (ho:o.op= .panic x) (hx:Ch x l=some (.iface t v)) (hg:o.guard=none) (h:KP (.iface t v) l s):CB E KP all (o::rest) fr l s K:=by
 intro T hT;refine⟨0,.panic (.iface t v),l,T,s,h,hT,fun n _=>?_⟩;show(Zv E all o (YS o.dst (al E all rest))).run (ev E n) fr T s=_;unfold Zv guarded;rw[hg,ho];show X0 (fun v=> .one ⟨.panic v,fr,T,s⟩) ((Cg E x T).bind mZ)=_;rw[Ae hT hx];rfl
theorem VI {KP:AV->Sl->St->Prop} {s:St} {d:Nat} {F:Tr AV->St->Option (FuncId×List AV)} {g:FuncId} {args:List AV} (Yc:Xz E o.type o.op= .call F) (hF:∀T,Has l T->F T s=some (g,args)) (hg:o.guard=none) (hd:o.dst=some d) (Co:Nat.blt d fr.nt=true)
 (h:CE E g args s (fun v s'=>CB E KP all rest fr ((d,v)::l) s' K) fun v s'=>KP v l s'):CB E KP all (o::rest) fr l s K:=by
 obtain⟨N,cr,hr,hm⟩:=h;refine Rl hg hd Co fun T hT=>?_;have key:∀n,N<=n->∀k:oM,(Xd E (Xz E o.type o.op) k).run (ev E n) fr T s=Xy fr T s (k.run (ev E n) fr T) (some cr):=fun n hn k=>by grind [Xd,Xz,ev]
 cases cr with
 |same v=>exact .inl ⟨v,s,⟨N,key⟩,hm⟩
 |val v s'=>exact .inl ⟨v,s',⟨N,key⟩,hm⟩
 |WR v s'=>exact .inr ⟨v,s',hm,N,key⟩
theorem SJ {KP:AV->Sl->St->Prop} {s:St} {d:Nat} {F:Tr AV->Option AV} {A:Tr AV->Option (List AV)} {g:FuncId} {first captured args:List AV} (Yc:Xz E o.type o.op= .ah F A) (hF:∀T,Has l T->F T=some (.func (.func g) first captured)) (hA:∀T,Has l T->A T=some args) (hb:C7 E g=true)
 (hg:o.guard=none) (hd:o.dst=some d) (Co:Nat.blt d fr.nt=true) (h:CE E g (first++args++captured) s (fun v s'=>CB E KP all rest fr ((d,v)::l) s' K) fun v s'=>KP v l s'):CB E KP all (o::rest) fr l s K:=by
 obtain⟨N,cr,hr,hm⟩:=h;refine Rl hg hd Co fun T hT=>?_;have key:∀n,N<=n->∀k:oM,(Xd E (Xz E o.type o.op) k).run (ev E n) fr T s=Xy fr T s (k.run (ev E n) fr T) (some cr):=fun n hn k=>by grind [Yi,Xd,Xz,ev]
 cases cr with
 |same v=>exact .inl ⟨v,s,⟨N,key⟩,hm⟩
 |val v s'=>exact .inl ⟨v,s',⟨N,key⟩,hm⟩
 |WR v s'=>exact .inr ⟨v,s',hm,N,key⟩
theorem Af {KP:AV->Sl->St->Prop} {s:St} {c:Call} {args:List AV} {d:Nat} (ho:o.op= .call c) (hc:c.callee= .value (.func f)) (hb:C7 E f=true) (ha:WV c.args.toList l=some args) (hg:o.guard=none) (hd:o.dst=some d)
 (Co:Nat.blt d fr.nt=true) (h:CE E f args s (fun v s'=>CB E KP all rest fr ((d,v)::l) s' K) fun v s'=>KP v l s'):CB E KP all (o::rest) fr l s K:=
 VI (F:=fun T _=>(CO E c.args.toList T).bind fun args=>some (f,args)) (by
  rw[ho];show Wz E o.type c=_;unfold Wz;rw[hc];simp only[hb,cond_true]) (fun T hT=>by rw[AX hT ha];rfl) hg hd Co h
theorem Bo {KP:AV->Sl->St->Prop} {s:St} {c:Call} {t:Nat} {first captured args xs:List AV} {d:Nat} (hb:C7 E f=true) (ho:o.op= .call c) (hc:c.callee= .value (.tmp t)) (hv:look t l=some (.func (.func f) first captured)) (ha:WV c.args.toList l=some args) (hg:o.guard=none) (hd:o.dst=some d)
 (Co:Nat.blt d fr.nt=true) (hx:first++args++captured=xs) (h:CE E f xs s (fun v s'=>CB E KP all rest fr ((d,v)::l) s' K) fun v s'=>KP v l s'):CB E KP all (o::rest) fr l s K:=by
 subst hx;refine SJ (F:=Cg E (.tmp t)) (A:=CO E c.args.toList) ?_ (fun T hT=>hT t _ hv) (fun T hT=>AX hT ha) hb hg hd Co h;rw[ho];show Wz E o.type c=_;unfold Wz;rw[hc]
theorem CE.unit {s:St} {fn:Func} {c:Code} {args:List AV} {RP:AV->St->Prop} {rH:Fr} {l0:Sl} (hm:E.Y3 f args=none) (hf:E.fns.get f=some fn) (hc:fn.body=some c) (hr:fn.results.toList=[])
 (aU:frame fn.ntmps args none=rH) (hl:ZS 0 args []=l0) (h:Cz E c rH l0 s.enter fun ex fr _ st=>match ex with
  | .panic v=>fr.defers=[]/\RP v (s.back st)
  |ex=>(ex= .ret\/ex= .normal)/\fr.defers=[]/\(st.log=[]->R (.tuple []) s)/\R (.tuple []) (s.back st)):CE E f args s R RP:=by
 refine CE.gen hm hf hc hr aU hl (Cz.mono h fun ex fr l st hq=>?_);have hfz:frozen E f s (.tuple []) st=some (.tuple [],st):=E6 (fun _ _=>rfl) (fun _ e=>by cases e);have val:(ex= .ret\/ex= .normal)/\fr.defers=[]/\(st.log=[]->R (.tuple []) s)/\R (.tuple []) (s.back st)->Xw E f [] s R ex fr l st:=fun⟨hex,hd,hR0,hR1⟩=>by
  refine⟨hex,st,by rw[hd];rfl,[],U,YF s (.tuple []) st st.log,?_,?_⟩
  .unfold leave;show(frozen E f s (.tuple []) st).bind _=_;rw[hfz];rfl
  .unfold YF;cases Wk:st.log with
   |nil=>exact hR0 Wk
   |cons a b=>exact hR1
 cases ex with
 |panic v=>exact hq
 |normal=>exact val hq
 |ret=>exact val hq
 |exit i=>exact val hq
theorem AT {KP:AV->Sl->St->Prop} {c:Call} {args:List AV} {d:Nat} {fn:Func} {cb:Code} {rH:Fr} {l0:Sl} (hf:E.fns.get f=some fn) (hb:C7 E f=true) (ho:o.op= .call c) (hc:c.callee= .value (.func f)) (ha:WV c.args.toList l=some args) (hg:o.guard=none) (hd:o.dst=some d) (Co:Nat.blt d fr.nt=true)
 (hm:E.Y3 f args=none) (nH:fn.body=some cb) (hr:fn.results.toList=rs) (aU:frame fn.ntmps args none=rH) (eV:ZS 0 args []=l0)
 (h:Cz E cb rH l0 (Xj n n [] hl) (vP E f rs (Xj n bd lg hl) (fun v s'=>CB E KP all rest fr ((d,v)::l) s' K) fun v s'=>KP v l s')):CB E KP all (o::rest) fr l (Xj n bd lg hl) K:=
 Af ho hc hb ha hg hd Co (CE.inl hm hf nH hr aU eV h)
theorem VJ {KP:AV->Sl->St->Prop} {s:St} {d:Nat} {F:Tr AV->Option AV} {A:Tr AV->Option (List AV)} {g:FuncId} {first captured args:List AV} (Yc:Xz E o.type o.op= .ah F A) (hF:∀T,Has l T->F T=some (.func (.func g) first captured)) (hA:∀T,Has l T->A T=some args) (hb:C7 E g=true)
 (hg:o.guard=none) (hd:o.dst=some d) (Co:Nat.blt d fr.nt=true) (h:VZ E g (first++args++captured) s fun v s'=>CB E KP all rest fr ((d,v)::l) s' K):CB E KP all (o::rest) fr l s K:=by
 obtain⟨N,cr,hr,hm⟩:=h;refine MN (fun T hT=>?_) hg hd Co;have key:∀n,N<=n->((F T).bind fun g=>(A T).bind fun args=>Yi E (ev E n) args s g)=some cr:=fun n hn=>by
  rw[hF T hT,hA T hT];simp only[Qe,Yi,hb,cond_true];exact hr n hn
 cases cr with
 |same v=>exact⟨v,s,⟨N,fun n hn k=>by
  rw[Yc];show Xy fr T s (k.run (ev E n) fr T) ((F T).bind fun g=>(A T).bind fun args=>Yi E (ev E n) args s g)=_;rw[key n hn];rfl⟩,hm⟩
 |val v s'=>exact⟨v,s',⟨N,fun n hn k=>by
  rw[Yc];show Xy fr T s (k.run (ev E n) fr T) ((F T).bind fun g=>(A T).bind fun args=>Yi E (ev E n) args s g)=_;rw[key n hn];rfl⟩,hm⟩
 |WR _ _=>exact hm.elim
theorem Xw.same {vs:List AV} {w:AV} {ks:List Nat} (hd:Yf.defers=[]) (hr:CI E (Xj m n [] ZC) l' rs=some vs) (hz:E.j0 f=1) (hf:Cs (Xj m n [] ZC) n 40 (ck vs) []=some (w,ks)) (gD:ks.all (fun b=>Nat.ble n b)=true) (hu:Cr n 40 w=true)
 (h:R w (Xj n bd lg hl)):Xw E f rs (Xj n bd lg hl) R .ret Yf l' (Xj m n [] ZC):=by
 refine⟨.inl U,Xj m n [] ZC,by rw[hd];rfl,vs,hr,.same w,?_,h⟩;unfold leave frozen;rw[hz];show((Wm n (ck vs) (Xj m n [] ZC)).bind _)=_;unfold Wm;rw[hf];simp only[Qe,YF];have hk:(kill (Xj m n [] ZC) ks).log=[]:=GP (s:=Xj m n [] ZC) (ks:=ks) fun b hb=>Qc (List.all_eq_true.1 gD b hb);rw[hk];show some (bif Cr n 40 w then _ else _)=_;rw[hu];rfl
def py:List Nat->Hl->Hl
 | [],hl=>hl
 |b::ks,hl=>py ks ((b,none)::hl)
theorem QC : ∀ {ks : List Nat} {hl : Hl}, ks.all (fun b => Nat.ble n b) = true -> kill (Xj m n [] hl) ks = Xj m n [] (py ks hl)
  | [], _, _ => rfl
  | b :: ks, hl, h => by
    rw [List.all_cons, Qf] at h;have hb : Nat.blt b n = false := by
      have := Qc h.1;cases hc : Nat.blt b n with
      | false => rfl
      | true => have h2 : b < n := Qc hc
                omega
    show kill ((Xj m n [] hl).put b none) ks = _;have : (Xj m n [] hl).put b none = Xj m n [] ((b, none) :: hl) := by
      show St.mk m n (bif Nat.blt b n then _ else _) _ = _;rw [hb]; rfl
    rw [this, QC h.2]; rfl
theorem Xw.new {vs:List AV} {w:AV} {ks:List Nat} (hd:Yf.defers=[]) (hr:CI E (Xj m n [] ZC) l' rs=some vs) (hz:E.j0 f=1) (hf:Cs (Xj m n [] ZC) n 40 (ck vs) []=some (w,ks)) (gD:ks.all (fun b=>Nat.ble n b)=true) (hu:Cr n 40 w=false)
 (h:R w (Xj m bd lg (py ks ZC))):Xw E f rs (Xj n bd lg hl) R .ret Yf l' (Xj m n [] ZC):=by
 refine⟨.inl U,Xj m n [] ZC,by rw[hd];rfl,vs,hr,.val w (Xj m bd lg (py ks ZC)),?_,h⟩;unfold leave frozen;rw[hz];show((Wm n (ck vs) (Xj m n [] ZC)).bind _)=_;unfold Wm;rw[hf];simp only[Qe,YF];rw[QC gD];show some (bif Cr n 40 w then _ else CR.val w ((Xj n bd lg hl).back (Xj m n [] (py ks ZC))))=_;rw[hu];rfl
theorem Ab {a b:Bool} (h:a=b):ck [AV.bool a]=AV.bool b:=by rw[h];rfl
end
section
variable {E : Env} {fr : Fr} {l : Sl} {s : St} {o : Oper}
theorem Zl.look {f:Tr AV->St->Option AV} {v:AV} (Yc:Xz E o.type o.op= .look f) (hv:∀T,Has l T->f T s=some v):Zl E o fr l s v s:=fun T hT=>⟨0,fun n _ k=>by
 rw[Yc];show X0 (fun v=>k.run (ev E n) fr T v s) (f T s)=_;rw[hv T hT];rfl⟩
theorem X9.same {x:Operand} {v:AV} (Yc:Xz E o.type o.op= .pure (Cg E x)) (hx:Ch x l=some v):X9 E o l v:=AE Yc fun _ hT=>Ae hT hx
theorem JL {x:Operand} {g:AV->Option AV} {a v:AV} (Yc:Xz E o.type o.op= .pure fun T=>(Cg E x T).bind g) (hx:Ch x l=some a) (hv:g a=some v):X9 E o l v:=AE Yc fun T hT=>by rw[Ae hT hx];exact hv
theorem OS {x:Operand} {g:St->AV->Option AV} {a v:AV} (Yc:Xz E o.type o.op= .read (Cg E x) fun T s=>(Cg E x T).bind (g s)) (hx:Ch x l=some a) (hv:g s a=some v):Zl E o fr l s v s:=fun T hT=>
 Fw Yc (by rw[Ae hT hx];exact hv)
theorem VO {f:Tr AV->Option Mk} {v:AV} (Yc:Xz E o.type o.op= .make f) (hv:∀T,Has l T->f T=some (.val v)):X9 E o l v:=by
 refine⟨by rw[Yc];rfl,fun T hT=>⟨by rw[Yc];rfl,fun ev fr s k=>?_⟩⟩;rw[Yc];show mc s (k.run ev fr T) (f T)=_;rw[hv T hT];rfl
theorem Il {x:Operand} {a v:AV} (ho:o.op= .nilCheck x) (hx:Ch x l=some a) (hv:oJ a=some v):X9 E o l v:=JL (g:=oJ) (by rw[ho];rfl) hx hv
theorem VQ {c:Call} {t e:TypeId} {ts:List TypeId} {x:Operand} {a v:AV} (ho:o.op= .call c) (hc:c.callee= .builtin .cap) (ht:c.argTypes.toList=t::ts) (ha:c.args.toList=[x]) (hu:CN E t=some (.slice e)) (hx:Ch x l=some a) (hv:su a=some v):X9 E o l v:=
 JL (g:=su) (by
  rw[ho];show Wz E o.type c=_;unfold Wz;rw[hc];simp only;rw[ht,ha];show tN E t x=_;unfold tN;rw[hu]) hx hv
theorem JP {neg:Bool} {t yt e:TypeId} {k:Nat} {x y:Operand} {a b v:AV} (ho:o.op= .binOp (vN neg) t x y yt) (hu:CN E t=some (.pointer e)) (hs:sizeOf E e=some (k+1)) (hx:Ch x l=some a) (hy:Ch y l=some b)
 (hv:Zf neg (dP s a b)=some v):Zl E o fr l s v s:=
 Zl.look (f:=fun T s=>(Cg E x T).bind fun a=>(Cg E y T).bind fun b=>Zf neg (dP s a b)) (by
  rw[ho];show kg E (vN neg) t x y=_;rw[VA (by rw[hu];intro k h;cases h) (by rw[hu];intro h;cases h)];unfold eqC;rw[hu];simp only[hs]) fun T hT=>by simp only[Ae hT hx,Ae hT hy,Qe,hv]
theorem OP {src dst t:TypeId} {k:Nat} {x:Operand} {a v:AV} (ho:o.op= .convert src dst x) (hs:CN E src=some (.pointer t)) (hd:CN E dst=some .unsafePointer) (hz:sizeOf E t=some (k+1)) (hx:Ch x l=some a) (hv:Am.bU s a=some v):Zl E o fr l s v s:=
 OS (g:=fun s=>Am.bU s) (by
  rw[ho];show bV E src dst x=_;unfold bV;rw[hs,hd];simp only[hz]) hx hv
theorem K4 {src dst u:TypeId} {k:Nat} {x:Operand} {a v:AV} (ho:o.op= .convert src dst x) (hs:CN E src=some .unsafePointer) (hd:CN E dst=some (.pointer u)) (hz:sizeOf E u=some (k+1)) (hx:Ch x l=some a) (hv:Am.Z2 E s u a=some v):Zl E o fr l s v s:=
 OS (g:=fun s=>Am.Z2 E s u) (by
  rw[ho];show bV E src dst x=_;unfold bV;rw[hs,hd];simp only[hz]) hx hv
theorem Zl.copy {c:Call} {t e:TypeId} {sz:Nat} {ts:List TypeId} {x y:Operand} {a b v:AV} {p:List AV×Nat} {s':St} (ho:o.op= .call c) (hc:c.callee= .builtin .copy) (ht:c.argTypes.toList=t::ts) (ha:c.args.toList=[x,y]) (hu:CN E t=some (.slice e)) (hs:sizeOf E e=some sz)
 (hx:Ch x l=some a) (hy:Ch y l=some b) (hp:WJ s sz b=some p) (hv:copyV s sz p a=some (v,s')):Zl E o fr l s v s':=fun T hT=>
 Hm (b:=false) (x:=Cg E x) (f:=fun T s=>(Cg E x T).bind fun a=>(Cg E y T).bind fun b=>(WJ s sz b).bind fun p=>copyV s sz p a) (by
  rw[ho];show Wz E o.type c=_;unfold Wz;rw[hc];simp only;rw[ht,ha];show oG E t x y=_;unfold oG;rw[hu];simp only[hs]) (by simp only[Ae hT hx,Ae hT hy,Qe,hp,hv])
theorem SQ {t e:TypeId} {x:Operand} {lo hi:Option Operand} {sz:Nat} {vlo vhi:Option AV} {a v:AV} (ho:o.op= .slice t x lo hi none) (hu:CN E t=some (.slice e)) (hs:sizeOf E e=some sz) (hx:Ch x l=some a) (sw:kQ lo l=some vlo) (qZ:kQ hi l=some vhi)
 (hv:Xm s sz vlo vhi none a=some v):Zl E o fr l s v s:=fun T hT=>
 Fw (x:=Cg E x) (f:=fun T s=>(Cg E x T).bind fun a=>(XC E lo T).bind fun l=>(XC E hi T).bind fun h=>(XC E none T).bind fun m=>Xm s sz l h m a) (by
  rw[ho];show fF E t x lo hi none=_;unfold fF;rw[hu];simp only[hs]) (by
  have hm:XC E none T=some none:=rfl;simp only[Ae hT hx,GD hT sw,GD hT qZ,hm,Qe,hv])
end
theorem BS:∀w:List UInt8,(byteCells w).length=w.length
 | []=>rfl
 |_::w=>by show(byteCells w).length+1=_;rw[BS w];rfl
theorem Hj:∀a b:List UInt8,byteCells (a++b)=byteCells a++byteCells b
 | [],_=>rfl
 |c::a,b=>by show _::byteCells (a++b)=_::(byteCells a++byteCells b);rw[Hj a b]
theorem Ei:∀w:List UInt8,Xg (byteCells w)=some w
 | []=>rfl
 |c::w=>by
  show(Xg (byteCells w)).bind _=_;rw[Ei w];show some (UInt8.ofNat (c.toNat:Int).toNat::w)=_;rw[Int.toNat_natCast,UInt8.ofNat_toNat]
theorem Sa {b c:Nat}:∀ {lg:List Nat},c∈XL b lg->c∈lg\/c=b
 | [],h=> .inr (Qn.1 h)
 |d::lg,h=>by
  change c∈(bif Nat.beq b d then d::lg else b::d::lg)at h;cases hb:Nat.beq b d with
  |true=>rw[hb]at h;exact .inl h
  |false=>grind
theorem AR {s:St} {b c:Nat} {o:Option Cw} (h:c∈(s.put b o).log):c∈s.log\/(c=b/\c<s.bound):=by
 have h':c∈(bif Nat.blt b s.bound then XL b s.log else s.log):=h;cases hb:Nat.blt b s.bound with
 |false=>rw[hb]at h';exact .inl h'
 |true=>
  rw[hb]at h';rcases Sa h' with h|h
  .exact .inl h
  .simp_all
theorem Dv {n c:Nat}:∀ {L l:List Nat},c∈below n L l->c∈l\/(c∈L/\c<n)
 | [],_,h=> .inl h
 |b::L,l,h=>by
  unfold below at h;cases hb:Nat.blt b n with
  |true=>
   rw[hb]at h;rcases Qk.1 h with h|h
   .simp_all
   .exact(Dv h).imp id fun⟨h1,h2⟩=>⟨Qg _ h1,h2⟩
  |false=>
   rw[hb]at h;exact(Dv h).imp id fun⟨h1,h2⟩=>⟨Qg _ h1,h2⟩
theorem Uq {b:Nat} {lg:List Nat}:XL b lg≠ []:=by
 cases lg with
 |nil=>exact fun h=>by cases h
 |cons c lg=>
  show(bif Nat.beq b c then c::lg else b::c::lg)≠ [];cases Nat.beq b c<;>simp
theorem Hy {s:St} {b:Nat} {o:Option Cw} (h:b<s.bound):(s.put b o).log≠ []:=by
 show(bif Nat.blt b s.bound then XL b s.log else s.log)≠ [];rw[show Nat.blt b s.bound=true from Qd h];exact Uq
def cD (s:St) (e:TypeId) (v:AV) (w:List UInt8):Prop:=
 (v= .Ca/\w=[])\/(∃b,v= .slice b 0 0 1 (some 0)/\w=[]/\b<s.next/\s.heap.get b=some (.cells [] e true))\/
  ∃b,v= .slice b 0 w.length 1 none/\w≠ []/\b<s.next/\s.heap.get b=some (.cells (byteCells w) e true)
theorem cD.Wd {s s':St} {e:TypeId} {v:AV} {w:List UInt8} (h:cD s e v w) (hn:s.next<=s'.next) (hh:∀c,C6 c v=true->s'.heap.get c=s.heap.get c):cD s' e v w:=by
 rcases h with h|⟨b,rfl,hw,hb,hg⟩|⟨b,rfl,hw,hb,hg⟩
 .exact .inl h
 .exact .inr (.inl ⟨b,U,hw,by omega,(hh b (Nat.beq_refl b)).trans hg⟩)
 .exact .inr (.inr ⟨b,U,hw,by omega,(hh b (Nat.beq_refl b)).trans hg⟩)
theorem cD.own {s:St} {e:TypeId} {v:AV} {w:List UInt8} (h:cD s e v w) {c:Nat} (hc:C6 c v=true):c<s.next:=by
 rcases h with⟨rfl,_⟩|⟨b,rfl,_,hb,_⟩|⟨b,rfl,_,hb,_⟩
 .cases hc
 .have:=Qb (show Nat.beq b c=true from hc);omega
 .have:=Qb (show Nat.beq b c=true from hc);omega
theorem cD.append {s:St} {e:TypeId} {v:AV} {w x:List UInt8} (h:cD s e v w) (XT:w.length+x.length<=1099511627776):
 ∃v' s',CA s e 1 1 (byteCells x) x.length v=some (v',s')/\cD s' e v' (w++x)/\s.next<=s'.next/\s'.bound=s.bound/\(∀c,C6 c v'=true->C6 c v=true\/c=s.next)/\
  (∀c∈s'.log,c∈s.log\/(c<s.bound/\C6 c v=true))/\∀c,c<s.next->C6 c v=false->s'.heap.get c=s.heap.get c:=by
 cases x with
 |nil=>
  refine⟨v,s,?_,?_,Qj _,rfl,fun c hc=> .inl hc,fun _ h=> .inl h,fun _ _ _=>rfl⟩
  .rcases h with⟨rfl,_⟩|⟨b,rfl,_⟩|⟨b,rfl,_⟩<;>rfl
  .rw[List.append_nil];exact h
 |cons x0 x=>
  have hk:Nat.beq (x0::x).length 0=false:=rfl;have hle:(x0::x).length=x.length+1:=rfl;have qC:∀n:Nat,n<=1099511627776->small n 1=true:=fun n hn=>by
   unfold small;rw[Nat.mul_one,Qd hn];rfl
  have hlen:(byteCells (x0::x)).length=(x0::x).length:=BS _;rcases h with⟨rfl,rfl⟩|⟨b,rfl,rfl,hb,hg⟩|⟨b,rfl,hw,hb,hg⟩
  .refine⟨.slice s.next 0 (x0::x).length 1 none,s.alloc (.cells (byteCells (x0::x)) e true),?_,.inr (.inr ⟨s.next,U,by simp,Nat.lt_succ_self _,by show(s.heap.set s.next _).get s.next=_;rw[Ay,if_pos rfl];rfl⟩),Nat.le_succ _,U,
    fun c hc=> .inr (Qb (show Nat.beq s.next c=true from hc)).symm,fun _ h=> .inl h,fun c hc _=>by show(s.heap.set s.next _).get c=_;rw[Ay,if_neg (by omega)]⟩
   unfold CA;simp only[hk,qC _ (show(x0::x).length<=_ by simpa using XT),cond_false,cond_true]
  .have YY:fj 1 0 (x0::x).length (some 0) ([]:List AV)=false:=by
    show Nat.ble (0+(x.length+1)) 0=false;rw[Nat.zero_add];rfl
   refine⟨.slice s.next 0 (x0::x).length 1 none,(s.put b none).alloc (.cells (byteCells (x0::x)) e true),?_,.inr (.inr ⟨s.next,U,by simp,Nat.lt_succ_self _,by show((s.heap.set b none).set s.next _).get s.next=_;rw[Ay,if_pos rfl];rfl⟩),Nat.le_succ _,U,
    fun c hc=> .inr (Qb (show Nat.beq s.next c=true from hc)).symm,fun c hc=>(AR (s:=s) (b:=b) (o:=none) hc).imp id fun⟨h1,h2⟩=>⟨h2,by rw[h1];exact Nat.beq_refl b⟩,fun c hc hn=>?_⟩
   .have hd:XK 0 ([]:List AV)=some []:=rfl;have ht:takeN (0*1) ([]:List AV)=some []:=rfl;unfold CA;simp only[hk,Nat.beq_refl,qC _ (show(x0::x).length<=_ by simpa using XT),hg,cond_false,cond_true,Bool.and_self,YJ,ZG,hd,YY,Qe,Bool.true_or,ht,XE,dk,List.nil_append,Nat.zero_add]
   .have nH:c≠b:=fun h=>by
     rw[h,show C6 b (.slice b 0 0 1 (some 0))=true from Nat.beq_refl b]at hn;cases hn
    show((s.heap.set b none).set s.next _).get c=_;rw[Ay,if_neg (by omega),Ay,if_neg nH]
  .have hwl:0<w.length:=by cases w with|nil=>exact absurd rfl hw|cons _ _=>simp
   have nV:=BS w;have YY:fj 1 w.length (x0::x).length none (byteCells w)=false:=by
    show Nat.ble ((w.length+(x.length+1))*1) (WL (byteCells w))=false;rw[Bl,nV,Nat.mul_one];cases hc:Nat.ble (w.length+(x.length+1)) w.length with
    |false=>rfl
    |true=>have:=Qc hc;omega
   refine⟨.slice s.next 0 (w.length+(x0::x).length) 1 none,(s.put b none).alloc (.cells (byteCells w++byteCells (x0::x)) e true),?_,
    .inr (.inr ⟨s.next,by rw[Ql],by simp,Nat.lt_succ_self _,by show((s.heap.set b none).set s.next _).get s.next=_;rw[Ay,if_pos rfl,Hj]⟩),Nat.le_succ _,rfl,
    fun c hc=> .inr (Qb (show Nat.beq s.next c=true from hc)).symm,fun c hc=>(AR (s:=s) (b:=b) (o:=none) hc).imp id fun⟨h1,h2⟩=>⟨h2,by rw[h1];exact Nat.beq_refl b⟩,fun c hc hn=>?_⟩
   .have hd:XK 0 (byteCells w)=some (byteCells w):=rfl;have ht:takeN (w.length*1) (byteCells w)=some (byteCells w):=by rw[Nat.mul_one,PX (by omega),List.take_of_length_le (by omega)]
    unfold CA;simp only[hk,Nat.beq_refl,qC _ XT,hg,cond_false,cond_true,Bool.and_self,YJ,ZG,hd,YY,Qe,Bool.true_or,ht,XE,dk]
   .have nH:c≠b:=fun h=>by
     rw[h,show C6 b (.slice b 0 w.length 1 none)=true from Nat.beq_refl b]at hn;cases hn
    show((s.heap.set b none).set s.next _).get c=_;rw[Ay,if_neg (by omega),Ay,if_neg nH]
theorem cD.text {E:Env} {s:St} {e:TypeId} {v:AV} {w:List UInt8} (h:cD s e v w) (hb:isByte E e=true):∃d s',tR v=some d/\eL s E e w.length d=some (.str w,s')/\s'.next=s.next/\s'.bound=s.bound/\(∀c∈s'.log,c∈s.log\/(c<s.bound/\C6 c v=true))/\
 (∀c,C6 c v=false->s'.heap.get c=s.heap.get c)/\dq v=some (.int .i64 (w.length:Nat)):=by
 rcases h with⟨rfl,rfl⟩|⟨b,rfl,rfl,fh,hg⟩|⟨b,rfl,hw,fh,hg⟩
 .exact⟨.bE,s,rfl,rfl,rfl,rfl,fun _ h=> .inl h,fun _ _=>rfl,rfl⟩
 .exact⟨.bE,s,rfl,rfl,rfl,rfl,fun _ h=> .inl h,fun _ _=>rfl,rfl⟩
 .obtain⟨k,hk⟩:∃k,w.length=k+1:=by cases w with|nil=>exact absurd rfl hw|cons _ t=>exact⟨t.length,rfl⟩
  refine⟨.ptr b 0,s.put b none,by rw[hk];rfl,?_,rfl,rfl,fun c hc=>(AR (s:=s) (b:=b) (o:=none) hc).imp id fun⟨h1,h2⟩=>⟨h2,by rw[h1];exact Nat.beq_refl b⟩,fun c hc=>?_,rfl⟩
  .have hz:Nat.beq w.length 0=false:=by rw[hk];rfl
   show(bif Nat.beq w.length 0 then _ else dU s E e b 0 w.length (s.heap.get b))=_;rw[hz,hg];show(bif Nat.beq e e&&isByte E e then(cut (byteCells w) 0 w.length).bind _ else _)=_;rw[Nat.beq_refl,hb,Hf (by rw[BS];omega),List.drop_zero,List.take_of_length_le (by rw[BS];exact Qj _)];simp only[Bool.and_self,cond_true,Qe,Ei]
  .have nH:c≠b:=fun h=>by
    rw[h,show C6 b (.slice b 0 w.length 1 none)=true from Nat.beq_refl b]at hc;cases hc
   show(s.heap.set b none).get c=_;rw[Ay,if_neg nH]
theorem Bc {E:Env} {f:FuncId} {v:AV} {s st:St} (hf:E.j0 f=1) (hl:st.log≠ []):leave E f s v st=some (.val v (s.back st)):=by grind [YF,leave,frozen]
theorem Aw {s:St} {b c:Nat} {o:Option Cw}:(s.put b o).heap.get c=if c=b then o else s.heap.get c:=Ay ..
structure XB (s s':St) (own:Nat->Prop):Prop where
 next:s.next<=s'.next
 bound:s'.bound=s.bound
 log:∀c∈s'.log,c∈s.log\/(c<s.bound/\own c)
 heap:∀c,c<s.next->¬own c->s'.heap.get c=s.heap.get c
theorem XB.trans {s s1 s2:St} {o1 o2 own:Nat->Prop} (h:XB s s1 o1) (h2:XB s1 s2 o2) (e1:∀c,o1 c->own c) (e2:∀c,o2 c->own c\/s.next<=c) (hb:s.bound<=s.next):XB s s2 own:=
 ⟨Nat.le_trans h.next h2.next,h2.bound.trans h.bound,fun c hc=>by
  rcases h2.log c hc with hc|⟨hc,ho⟩
  .exact(h.log c hc).imp id fun⟨a,b⟩=>⟨a,e1 _ b⟩
  .rw[h.bound]at hc;rcases e2 c ho with ho|ho
   .exact .inr ⟨hc,ho⟩
   .omega,fun c hc ho=>by
  have h1:¬o2 c:=fun h=>by
   rcases e2 c h with h|h
   .exact ho h
   .omega
  exact(h2.heap c (Nat.lt_of_lt_of_le hc h.next) h1).trans (h.heap c hc fun h=>ho (e1 c h))⟩
theorem XB.back {s st:St} {own:Nat->Prop} (h:XB s.enter st own):XB s (s.back st) own:=
 ⟨h.next,rfl,fun c hc=>by
  rcases Dv (show c∈below s.bound st.log s.log from hc)with hc|⟨hc,Co⟩
  .exact .inl hc
  .rcases h.log c hc with h|⟨_,ho⟩
   .cases h
   .exact .inr ⟨Co,ho⟩,h.heap⟩
theorem XB.put {s:St} {b:Nat} {o:Option Cw}:XB s (s.put b o) (fun c=>c=b):=
 ⟨Qj _,rfl,fun c hc=>(AR hc).imp id fun⟨h1,h2⟩=>⟨h2,h1⟩,fun c _ ho=>by rw[Aw,if_neg ho]⟩
theorem Q3 {c:Nat}:∀ {n b:Nat},c∈YO b n->b<=c
 |0,_,h=>by cases h
 |n+1,b,h=>by
  rcases Qk.1 h with rfl|h
  .exact Qj _
  .have:=Q3 h;omega
theorem XB.merged {st s2:St} {own:Nat->Prop} (h:XB (st.sub st.heap) s2 own):XB st (st.merged s2) own:=
 ⟨h.next,rfl,fun c hc=>by
  rcases Dv (show c∈below st.bound s2.log st.log from hc)with hc|⟨hc,Co⟩
  .exact .inl hc
  .rcases h.log c hc with h1|⟨_,h1⟩
   .cases h1
   .exact .inr ⟨Co,h1⟩,fun c hc ho=>by
  show(W8 s2.heap (YO st.next (s2.next-st.next)) (W8 s2.heap s2.log st.heap)).get c=_;rw[Bz,if_neg (fun hm=>by have:=Q3 hm;omega),Bz];have:=h.heap c hc ho;by_cases hl:c∈s2.log
  .rw[if_pos hl];exact this
  .rw[if_neg hl]⟩
theorem Rp {E:Env} {l:Sl} {o:Oper} {c:Call} {t e:TypeId} {ts:List TypeId} {x:Operand} {a v:AV} (ho:o.op= .call c) (hc:c.callee= .builtin .len) (ht:c.argTypes.toList=t::ts) (ha:c.args.toList=[x]) (hu:CN E t=some (.slice e)) (hx:Ch x l=some a) (hv:Am.dq a=some v):X9 E o l v:=
 JL (g:=Am.dq) (by
  rw[ho];show Wz E o.type c=_;unfold Wz;rw[hc];simp only;rw[ht,ha];show mS E t x=_;unfold mS;rw[hu]) hx hv
theorem XB.refl {s:St} {own:Nat->Prop}:XB s s own:=⟨Qj _,rfl,fun _ h=> .inl h,fun _ _ _=>rfl⟩
theorem AL {E:Env} {f:FuncId} {v:AV} {s st:St} {R:AV->St->Prop} (hf:E.j0 f=1) (hk:∀n w,Cs w n 40 v []=some (v,[])) (hu:∀m,Cr m 40 v=true) (h1:st.log=[]->R v s) (h2:st.log≠ []->R v (s.back st)):
 ∃cr,leave E f s v st=some cr/\match cr with
  | .same v=>R v s
  | .val v s'=>R v s'
  | .WR _ _=>False:=by
 by_cases hl:st.log=[]
 .exact⟨_,KU hk hu hl,h1 hl⟩
 .exact⟨_,Bc hf hl,h2 hl⟩
theorem Ra {Wf b c j:Nat} {nl:Wu} (h:b≠c) (hn:WC Wf b nl=true):WC Wf b ((j,c)::nl)=true:=by
 unfold WC at hn|-;rw[List.all_cons,hn,Bool.and_true];cases hb:Nat.beq c b with
 |false=>rfl
 |true=>exact absurd (Qb hb).symm h
theorem O7 {Wf b c j:Nat} {nl:Wu} (h:Nat.testBit Wf j=true) (hn:WC Wf b nl=true):WC Wf b ((j,c)::nl)=true:=by simp_all [List.all_cons,Bool.and_true,Bool.or_true,WC]
theorem IZ {b:Nat}:∀ {lg:List Nat},b∈XL b lg
 | []=>Qn.2 rfl
 |c::lg=>by
  show b∈(bif Nat.beq b c then c::lg else b::c::lg);cases hb:Nat.beq b c with
  |true=>rw[Qb hb];exact Qh ..
  |false=>exact Qh ..
theorem Bk {s:St} {b:Nat} {o:Option Cw} (h:b<s.bound):b∈(s.put b o).log:=by
 show b∈(bif Nat.blt b s.bound then XL b s.log else s.log);rw[show Nat.blt b s.bound=true from Qd h];exact IZ
theorem Rh {n c:Nat}:∀ {L l:List Nat},c∈L->c<n->below n L l≠ []
 |b::L,l,hc,h=>by
  unfold below;cases hb:Nat.blt b n with
  |true=>simp
  |false=>
   rcases Qk.1 hc with rfl|hc
   .rw[show Nat.blt c n=true from Qd h]at hb;cases hb
   .exact Rh hc h
theorem VB {s st:St} {b:Nat} (hb:b∈st.log) (h:b<s.bound):(s.back st).log≠ []:=Rh hb h
theorem K1 {E:Env} {l:Sl} {o:Oper} {t e:TypeId} {x i:Operand} {sz k:Nat} {ik:IntKind} {a p:AV} (ho:o.op= .indexAddr t x i) (hu:CN E t=some (.slice e)) (hs:sizeOf E e=some (sz+1)) (hx:Ch x l=some a) (hi:Ch i l=some (.int ik (k:Nat))) (hv:CC (sz+1) k a=some p):X9 E o l p:=
 AE (f:=fun T=>(Cg E i T).bind fun iv=>(Xi iv).bind fun k=>(Cg E x T).bind (CC (sz+1) k)) (by
  rw[ho];show XZ E t x i=_;unfold XZ;rw[hu];simp only[hs]) fun T hT=>by
  have h1:Xi (.int ik (k:Nat))=some k:=rfl;simp only[Ae hT hx,Ae hT hi,Qe,h1,hv]
def YV (s:St) (v:AV) (l:List (List UInt8)):Prop:=
 (v= .Ca/\l=[])\/(∃cl,v= .Cf (l.map .str) l.length 1 cl)\/
  ∃b off cap cs e part,v= .slice b off l.length 1 cap/\b<s.next/\s.heap.get b=some (.cells cs e part)/\off+l.length<=cs.length/\(cs.drop off).take l.length=l.map .str/\(∀c,cap=some c->l.length<=c)
theorem YV.Wd {s s':St} {v:AV} {l:List (List UInt8)} (h:YV s v l) (hn:s.next<=s'.next) (hh:∀c,C6 c v=true->s'.heap.get c=s.heap.get c):YV s' v l:=by
 rcases h with h|h|⟨b,off,cap,cs,e,part,rfl,hb,hg,h1,h2,h3⟩
 .exact .inl h
 .exact .inr (.inl h)
 .exact .inr (.inr ⟨b,off,cap,cs,e,part,U,by omega,(hh b (Nat.beq_refl b)).trans hg,h1,h2,h3⟩)
theorem YV.own {s:St} {v:AV} {l:List (List UInt8)} (h:YV s v l) {c:Nat} (hc:C6 c v=true):c<s.next:=by
 rcases h with⟨rfl,_⟩|⟨_,rfl⟩|⟨b,off,cap,cs,e,part,rfl,hb,_⟩
 .cases hc
 .cases hc
 .have:=Qb (show Nat.beq b c=true from hc);omega
theorem YV.len {s:St} {v:AV} {l:List (List UInt8)} (h:YV s v l):dq v=some (.int .i64 (l.length:Nat)):=by
 rcases h with⟨rfl,rfl⟩|⟨_,rfl⟩|⟨b,off,cap,cs,e,part,rfl,_⟩<;>rfl
theorem YV.at {E:Env} {s:St} {v:AV} {l:List (List UInt8)} (h:YV s v l) {i:Nat} (hi:i<l.length) {t:TypeId} (h1:isAgg E t=some false) (h2:sizeOf E t=some 1):∃p,CC (0+1) i v=some p/\Wy E t s p=some (.str l[i]):=by
 have Co:Nat.blt i l.length=true:=Qd hi;have hdrop:(l.map AV.str).drop i= .str l[i]::(l.map AV.str).drop (i+1):=by grind [List.drop_eq_getElem_cons]
 rcases h with⟨rfl,rfl⟩|⟨_,rfl⟩|⟨b,off,cap,cs,e,part,rfl,hb,hg,mi,yj,_⟩
 .simp at hi
 .refine⟨.Wl (.str l[i]::(l.map AV.str).drop (i+1)),?_,?_⟩
  .show(bif Nat.blt i l.length then(XK (i*(0+1)) (l.map AV.str)).bind lT else none)=_;rw[Co,Nat.zero_add,Nat.mul_one,Iy (by rw[List.length_map];omega),hdrop];rfl
  .unfold Wy;simp only[h1,h2];rfl
 .refine⟨.ptr b (off+i*(0+1)),?_,?_⟩
  .show(bif Nat.blt i l.length then some (AV.ptr b (off+i*(0+1)))else none)=_;rw[Co];rfl
  .refine AI h1 h2 hg ?_;have:((cs.drop off).take l.length)[i]?=some (.str l[i]):=by grind
   rw[List.getElem?_take_of_lt hi,List.getElem?_drop]at this;rw[Nat.zero_add,Nat.mul_one];exact this
theorem YV.tail {s:St} {v:AV} {a b:List UInt8} {l:List (List UInt8)} (h:YV s v (a::b::l)):∃v',Xm s 1 (some (.int .i64 ((1:Nat):Int))) none none v=some v'/\YV s v' (b::l)/\(∀c,C6 c v'=true->C6 c v=true):=by
 rcases h with⟨_,h⟩|⟨cl,rfl⟩|⟨bk,off,cap,cs,e,part,rfl,hb,hg,mi,yj,ZK⟩
 .cases h
 .refine⟨.Cf ((b::l).map .str) (b::l).length 1 cl,?_,.inr (.inl ⟨cl,rfl⟩),fun c hc=>by cases hc⟩;have fM:WM (a::b::l).length (a::b::l).length none=some (l.length+2):=rfl;have gw:WM 0 (l.length+2) (some (.int .i64 ((1:Nat):Int)))=some 1:=Au (by omega);unfold Xm;simp only[Nat.beq_refl,cond_true,cf,jE,fM,gw,Qe];rw[Hf (by simp only[List.length_map,List.length_cons];omega)];simp only[Qe,List.map_cons];rw[show((AV.str a::AV.str b::l.map AV.str).drop (1*1))=AV.str b::l.map AV.str from rfl,List.take_of_length_le (by simp)];rfl
 .have hlen:(a::b::l).length=l.length+2:=rfl;have htl:(cs.drop (off+1)).take (b::l).length=(b::l).map .str:=by
   have h2:(cs.drop off).take ((b::l).length+1)= .str a::(b::l).map .str:=yj;have h3:=congrArg (List.drop 1) h2;rw[List.drop_take,List.drop_drop]at h3;simpa[Nat.add_comm]using h3
  refine⟨.slice bk (off+1*1) (b::l).length 1 (cap.map (· -1)),?_,.inr (.inr ⟨bk,off+1,cap.map (· -1),cs,e,part,rfl,hb,hg,by rw[hlen]at mi;show off+1+(l.length+1)<=_;omega,htl,?_⟩),fun c hc=>hc⟩
  .unfold Xm;have Wt:Wp (s.heap.get bk)=some cs:=by rw[hg];rfl
   simp only[Nat.beq_refl,cond_true,Wt,Qe,eI];have hm:(a::b::l).length<=bH 1 off (a::b::l).length cap cs:=by
    cases cap with
    |some c=>exact ZK c rfl
    |none=>
     rw[show bH 1 off (a::b::l).length none cs=(WL cs-off)/1 from rfl,Bl,Nat.div_one];omega
   have fM:WM (a::b::l).length (bH 1 off (a::b::l).length cap cs) none=some (l.length+2):=rfl;have gw:WM 0 (l.length+2) (some (.int .i64 ((1:Nat):Int)))=some 1:=Au (by omega);simp only[fM,gw,Qe];unfold sliceFrom;cases cap with
   |some c=>
    have hc:=ZK c rfl;have:Nat.beq c 1=false:=by
     cases hb:Nat.beq c 1 with
     |false=>rfl
     |true=>have:=Qb hb;rw[hlen]at hc;omega
    simp only[this,cond_false];rfl
   |none=>
    have:Nat.blt 1 (bH 1 off (a::b::l).length none cs)=true:=Qd (by rw[hlen]at hm|-;omega);simp only[this,cond_true];rfl
  .intro c hc;cases cap with
   |none=>cases hc
   |some d=>
    have:=ZK d rfl;rw[hlen]at this;simp only[Option.map_some,Option.some.injEq]at hc;show l.length+1<=c;omega
def rI (sep:List UInt8):List (List UInt8)->List UInt8
 | []=>[]
 |a::l=>a++l.flatMap (sep++·)
theorem Cz.cut {E:Env} {fr:Fr} {l:Sl} {s:St} {Q:Ex->Fr->Sl->St->Prop} {a b:Code} (l2:Sl) (s2:St) (h1:Cz E a fr l s fun ex Yf l' s'=>ex= .normal/\Yf=fr/\s'=s2/\∀p∈l2,look p.1 l'=some p.2) (h2:Cz E b fr l2 s2 Q):Cz E (.seq a b) fr l s Q:=
 DK (h1.mono fun ex Yf l' s' ⟨e1,e2,e3,e4⟩=>by
  subst e1 e2 e3;exact Cz.sub h2 e4)
theorem Hp {E:Env} {fr:Fr} {l:Sl} {s:St} {Q:Ex->Fr->Sl->St->Prop} {a b:Code} {α:Type} (I:α->Sl×St) (G:α->Prop) (h1:Cz E a fr l s fun ex Yf l' s'=>ex= .normal/\Yf=fr/\∃x,G x/\s'=(I x).2/\∀p∈(I x).1,look p.1 l'=some p.2)
 (h2:∀x,G x->Cz E b fr (I x).1 (I x).2 Q):Cz E (.seq a b) fr l s Q:=
 DK (h1.mono fun ex Yf l' s' ⟨e1,e2,x,hx,e3,e4⟩=>by
  subst e1 e2 e3;exact Cz.sub (h2 x hx) e4)
def SubL:Sl->Sl->Prop
 | [],_=>True
 |p::r,l=>look p.1 l=some p.2/\SubL r l
theorem Ah {l:Sl}:∀ {l':Sl},SubL l' l->∀p∈l',look p.1 l=some p.2
 | [],_,_,h=>by cases h
 |q::r,h,p,hp=>by
  rcases Qk.1 hp with rfl|hp
  .exact h.1
  .exact Ah h.2 p hp
theorem Rn {E:Env} {l:Sl} {o:Oper} {t yt:TypeId} {x y:Operand} {a b:Nat} (ho:o.op= .binOp .mul t x y yt) (hu:CN E t=some (.int .i64)) (hx:Ch x l=some (.int .i64 (a:Nat))) (hy:Ch y l=some (.int .i64 (b:Nat)))
 (h:a*b<9223372036854775808):X9 E o l (.int .i64 ((a*b:Nat):Int)):=by
 have:=X9.mul (E:=E) (l:=l) ho hu hx hy (by rw[<-Int.natCast_mul];omega);rwa[<-Int.natCast_mul]at this
theorem X9.quoN {E:Env} {l:Sl} {o:Oper} {t yt:TypeId} {x y:Operand} {a b:Nat} (ho:o.op= .binOp .quo t x y yt) (hu:CN E t=some (.int .i64)) (hx:Ch x l=some (.int .i64 (a:Nat))) (hy:Ch y l=some (.int .i64 (b:Nat)))
 (h:0<b/\a<9223372036854775808):X9 E o l (.int .i64 ((a/b:Nat):Int)):=
 FP ho hu rfl hx hy (by
  show yq .i64 _ _=_;have hle:a/b<=a:=Nat.div_le_self a b;unfold yq;rw[if_neg (by omega),<-Int.ofNat_tdiv];generalize a/b=q at hle|-;rw[Gq (by omega) (by omega)])
theorem VM {E:Env} {l:Sl} {o:Oper} {x y:Operand} {f:AV->AV->Option AV} {a b v:AV} (Yc:Xz E o.type o.op=Am.YA E f x y) (hx:Ch x l=some a) (hy:Ch y l=some b) (hv:f a b=some v):X9 E o l v:=
 AE (f:=fun T=>(Cg E x T).bind fun a=>(Cg E y T).bind fun b=>f a b) Yc fun T hT=>by simp only[Ae hT hx,Ae hT hy,Qe,hv]
def tw (p:Int->Bool) (w:List UInt8):Nat:=(w.takeWhile fun b=>p b.toNat).length
theorem Et (p:Int->Bool) (w:List UInt8):tw p w<=w.length:=(List.takeWhile_sublist _).length_le
theorem EM {p:Int->Bool}:∀ {w:List UInt8} {k:Nat},k<=tw p w->k<w.length->(p (w.getD k 0).toNat=true↔k<tw p w)
 |b::w,0,_,_=>by grind [tw,List.takeWhile_cons]
 |b::w,k+1,hk,hw=>by
  cases h:p b.toNat with
  |false=>simp[tw,List.takeWhile_cons,h]at hk
  |true=>
   have e:tw p (b::w)=tw p w+1:=by simp[tw,List.takeWhile_cons,h]
   rw[e]at hk|-;have:=EM (p:=p) (w:=w) (k:=k) (by omega) (by simpa using hw);rw[List.getD_cons_succ,this];omega
theorem Ez {s:St} {c:Nat} {o:Option Cw} (h:s.bound=0):(s.put c o).log=s.log:=by
 show(bif Nat.blt c s.bound then _ else s.log)=_;rw[h];rfl
theorem A5 {E:Env} {s:St} {l:Sl} {a t k b:Nat} {rs:List ResultVar} {vs cs:List AV} {e:TypeId} {part:Bool} (hp:look a l=some (.ptr b 0)) (h1:isAgg E t=some true) (h2:sizeOf E t=some k) (hg:s.heap.get b=some (.cells cs e part)) (hk:k<=cs.length)
 (h:CI E s l rs=some vs):CI E s l (.cell a t::rs)=some (.agg (cs.take k)::vs):=by
 have hv:Wy E t s (.ptr b 0)=some (.agg ((cs.drop 0).take k)):=BM h1 h2 hg (by omega);unfold CI;rw[hp];simp only[Qe,hv,h];rfl
theorem DS {E:Env} {s:St} {l:Sl} {a t k b:Nat} {rs:List ResultVar} {vs cs:List AV} {v:AV} {e:TypeId} {part:Bool} (hp:look a l=some (.ptr b 0)) (h1:isAgg E t=some false) (h2:sizeOf E t=some k) (hg:s.heap.get b=some (.cells cs e part)) (hk:cs[0]?=some v)
 (h:CI E s l rs=some vs):CI E s l (.cell a t::rs)=some (v::vs):=by
 have hv:Wy E t s (.ptr b 0)=some v:=AI h1 h2 hg hk;unfold CI;rw[hp];simp only[Qe,hv,h]
inductive Data (P:Program):TypeId->List AV->Prop
 |bool {t:TypeId} (h:P.underlying t=some .bool) (b:Bool):Data P t [.bool b]
 |int {t:TypeId} {k:IntKind} {n:Int} (h:P.underlying t=some (.int k)) (hw:(Lit.int k n).wf=true):Data P t [.int k n]
 |str {t:TypeId} (h:P.underlying t=some .string) {w:List UInt8} (hw:w.length<=maxLen):Data P t [.str w]
 |sl {t e:TypeId} (h:P.underlying t=some (.slice e)) {ls:List (List AV)} (hn:ls.length<=maxLen) (hl:∀l∈ls,l.length=P.cellsOf e) (hd:∀l∈ls,Data P e l):Data P t [.Cf ls.flatten ls.length (P.cellsOf e) true]
 |st {t:TypeId} {fs:Array Field} (h:P.underlying t=some (.struct fs)) {ls:List (List AV)} (hl:ls.length=fs.toList.length) (hd:∀(i:Nat) f l,fs.toList[i]?=some f->ls[i]?=some l->Data P f.type l):Data P t ls.flatten
def kT (P:Program):Nat->List Field->Option Nat
 |off,[]=>some off
 |off,f::fs=>bif Nat.beq f.offset off then kT P (off+P.cellsOf f.type) fs else none
def vQ (P:Program) (ts:List TypeId) (t:TypeId):Bool:=
 match P.underlying t with
 |some .bool|some (.int _)|some .string=>true
 |some (.slice e)=>ts.contains e
 |some (.struct fs)=>(fs.toList.all fun f=>ts.contains f.type)&&(match kT P 0 fs.toList with|some n=>Nat.beq n (P.cellsOf t)|none=>false)
 |_=>false
def rJ (P:Program) (ts:List TypeId):Bool:=ts.all (vQ P ts)
theorem Q5 {α β γ:Type} {f:α->Option β} {Q:α->γ->Prop}:∀ {l:List α} {r:List β},l.mapM f=some r->(∀x y,x∈l->f x=some y->∃z,Q x z)->∃zs:List γ,zs.length=l.length/\∀(i:Nat) x z,l[i]?=some x->zs[i]?=some z->Q x z
 | [],_,_,_=>⟨[],rfl,fun i x z h=>by simp at h⟩
 |a::l,r,h,hq=>by
  simp only[List.mapM_cons]at h;obtain⟨y,hy,h⟩:=Qa.1 h;obtain⟨ys,qn,h⟩:=Qa.1 h;obtain⟨z,hz⟩:=hq a y (Qh ..) hy;obtain⟨zs,hl,hzs⟩:=Q5 qn fun x y hx=>hq x y (Qg _ hx);refine⟨z::zs,by simp[hl],fun i x z' h1 h2=>?_⟩;cases i with
  |zero=>simp at h1 h2;subst h1 h2;exact hz
  |succ i=>exact hzs i x z' (by simpa using h1) (by simpa using h2)
theorem J5 {α γ:Type} {Q:α->γ->Prop}:∀ {l:List α},(∀x∈l,∃z,Q x z)->∃zs:List γ,zs.length=l.length/\∀(i:Nat) x z,l[i]?=some x->zs[i]?=some z->Q x z
 | [],_=>⟨[],rfl,fun i x z h=>by simp at h⟩
 |a::l,hq=>by
  obtain⟨z,hz⟩:=hq a (Qh ..);obtain⟨zs,hl,hzs⟩:=J5 fun x hx=>hq x (Qg _ hx);refine⟨z::zs,by simp[hl],fun i x z' h1 h2=>?_⟩;cases i with
  |zero=>simp at h1 h2;subst h1 h2;exact hz
  |succ i=>exact hzs i x z' (by simpa using h1) (by simpa using h2)
theorem vR {α:Type} {ms a b:List α} {off:Nat} (h1:Y6 ms off a) (h2:Y6 ms (off+a.length) b):Y6 ms off (a++b):=by
 obtain⟨p,q,e,hp⟩:=h1;obtain⟨p2,q2,e2,yU⟩:=h2;refine⟨p,q2,?_,hp⟩;have:p2=p++a:=by grind [Ql,List.append_assoc,List.append_inj]
 rw[e2,this];simp[List.append_assoc]
theorem vS {α:Type} {ms:List α} {off:Nat} (h:off<=ms.length):Y6 ms off ([]:List α):=⟨ms.take off,ms.drop off,by simp,by simp[h]⟩
section
variable {H : Type} {enc : TypeId × Value -> H} {P : Program} {W : World}
theorem MG {a:Addr} {k:Nat} {cs:List Value} (h:W.cells? 0 a k=some cs) (hk:0<k):∃ms,(Cx.memory W).M a.block=some ms/\a.spot=none/\Y6 ms a.off cs/\cs.length=k:=by
 unfold World.cells? at h;rw[if_pos (Qm _)]at h;have Za:∀(l:List Nat) (r:List Value),l.mapM (fun i=>W.cell? (a.add i))=some r->r.length=l.length/\∀(i x:Nat),l[i]?=some x->W.cell? (a.add x)=r[i]?:=by
  intro l;induction l with
  |nil=>intro r h;simp at h;subst h;exact⟨rfl,fun i x h=>by simp at h⟩
  |cons b l ih=>grind [Qa]
 obtain⟨hl,hc⟩:=Za _ _ h;rw[List.length_range]at hl;have vT:∀i,i<k->W.cell? (a.add i)=cs[i]?:=fun i hi=>hc i i (by simp[hi]);have h0:=vT 0 hk;rw[Qi (by omega)]at h0;unfold World.cell? at h0;cases hb:W.heap[(a.add 0).block]? with
 |none=>rw[hb]at h0;cases h0
 |some o=>
  rw[hb]at h0;cases o with
  |cells c e fr=>
   simp only at h0;have hsp:a.spot=none:=by
    cases hs:a.spot with
    |none=>rfl
    |some s=>
     rw[show(a.add 0).spot=a.spot from rfl,hs]at h0;simp at h0
   obtain⟨Ci,off,sp⟩:=a;obtain rfl:sp=none:=hsp;have ZL:W.heap[Ci]?=some (.cells c e fr):=hb;refine⟨c.toList,by simp only[Cx.memory];rw[ZL],U,?_,hl⟩;have hcell:∀i,i<k->c.toList[off+i]?=cs[i]?:=fun i hi=>by
    rw[<-vT i hi,Bm];unfold World.cell?;rw[ZL];simp
   have hlen:off+k<=c.toList.length:=by
    have h1:=hcell (k-1) (by omega);rw[Qi (l:=cs) (by omega)]at h1;have:=(List.getElem?_eq_some_iff.1 h1).1;omega
   refine⟨c.toList.take off,c.toList.drop (off+k),?_,by show _=off;rw[List.length_take];omega⟩;have:cs=(c.toList.drop off).take k:=by
    apply List.ext_getElem?;intro i;rcases Nat.lt_or_ge i k with hi|hi
    .grind
    .grind
   rw[this,List.append_assoc,<-List.drop_drop,List.take_append_drop,List.take_append_drop]
  |_=>simp at h0
theorem Ic {ms:List Value} {k:Nat}:∀(css:List (List Value)) (off:Nat),(∀l∈css,l.length=k)->(∀(i:Nat) l,css[i]?=some l->Y6 ms (off+i*k) l)->off<=ms.length->Y6 ms off css.flatten
 | [],off,_,_,h=>vS h
 |l::css,off,hl,h,ho=>by
  have h0:=h 0 l rfl;rw[Nat.zero_mul,Nat.add_zero]at h0;have fX:=hl l (Qh ..);rw[List.flatten_cons];refine vR h0 (Ic css _ (fun x hx=>hl x (Qg _ hx)) (fun i x hx=>?_) ?_)
  .have:=h (i+1) x (by simpa using hx);rwa[fX,show off+k+i*k=off+(i+1)*k by rw[Nat.succ_mul];omega]
  .obtain⟨p,q,e,hp⟩:=h0;rw[e,Ql,Ql];omega
theorem Wc.flatten {C:Cx}:∀ {as:List (List AV)} {xs:List (List Value)},as.length=xs.length->(∀(i:Nat) a x,as[i]?=some a->xs[i]?=some x->Wc C a x)->Wc C as.flatten xs.flatten
 | [],[],_,_=> .nil
 |a::as,x::xs,hl,h=>by
  rw[List.flatten_cons,List.flatten_cons];exact(h 0 a x U U).append (Wc.flatten (by simpa using hl) fun i b y h1 h2=>h (i+1) b y (by simpa using h1) (by simpa using h2))
theorem Hi {as:List (List AV)} (h:∀a∈as,Cells a):Cells as.flatten:=fun v hv=>by
 obtain⟨a,ha,uw⟩:=List.mem_flatten.1 hv;exact h a ha v uw
theorem NN {cs:List Value}:∀ {fs:List Field} {off n:Nat},kT P off fs=some n->n=cs.length->off<=cs.length->(fs.map fun f=>(cs.drop f.offset).take (P.cellsOf f.type)).flatten=cs.drop off
 | [],off,n,h,hn,_=>by
  cases h;rw[List.map_nil,List.flatten_nil,hn,List.drop_length]
 |f::fs,off,n,h,hn,ho=>by
  unfold kT at h;cases hb:Nat.beq f.offset off with
  |false=>rw[hb]at h;cases h
  |true=>
   rw[hb,cond_true]at h;have he:f.offset=off:=Qb hb;have hle:∀(fs:List Field) (o n:Nat),kT P o fs=some n->o<=n:=by
    intro fs;induction fs with
    |nil=>intro o n h;cases h;exact Qj _
    |cons g fs ih=>grind [kT]
   have:=hle _ _ _ h;rw[List.map_cons,List.flatten_cons,NN h hn (by omega),he,<-List.drop_drop,List.take_append_drop]
variable {sp : Nat -> Bool} {held : Bool} {ts : List TypeId}
theorem MD (fO:rJ P ts=true):∀(n:Nat) (t:TypeId) (cs:List Value) (x:DataW H×List MemPlace),t∈ts->DataW.trod enc P W 0 sp held n t cs=some x->
 ∃vU,Wc (Cx.memory W).bare vU cs/\Cells vU/\Data P t vU
 |0,_,_,_,_,h=>by cases h
 |n+1,t,cs,x,ht,h=>by
  have hd:vQ P ts t=true:=List.all_eq_true.1 fO t ht;unfold vQ at hd;split at hd
  .next hu=>
   obtain⟨b,rfl,-⟩:=DataW.trod_bool hu h;exact⟨[.bool b],.cons (.bool _) .nil,by intro v hv;simp at hv;subst hv;rfl,.bool hu b⟩
  .next k hu=>
   obtain⟨z,rfl,-,hw⟩:=DataW.trod_int hu h;exact⟨[.int k z],.cons (.int _ _) .nil,by intro v hv;simp at hv;subst hv;rfl,.int hu hw⟩
  .next hu=>
   obtain⟨s,rfl,-,hs⟩:=DataW.trod_string hu h;exact⟨[.str s.data.toList],.cons (.str U) .nil,by intro v hv;simp at hv;subst hv;rfl,.str hu (by simpa using hs)⟩
  .next e hu=>
   have he:e∈ts:=by simpa using hd
   rw[DataW.trod_step]at h;unfold DataW.trodStep at h;rw[hu]at h;split at h<;>first|(cases h;done)|(next heq=>cases heq;done)|(next heq _=>cases heq;done)|skip
   .exact⟨[.Cf [] 0 (P.cellsOf e) true],.cons (.W1 none (Nat.zero_mul _) (Qm _)) .nil,by intro v hv;simp at hv;subst hv;rfl,Data.sl (ls:=[]) hu (Qm _) (by intro l hl;cases hl) (by intro l hl;cases hl)⟩
   .next e' a len cap heq=>
    cases heq;simp only at h;split at h
    .next hg=>
     obtain⟨elems,hel,-⟩:=Qa.1 h;obtain⟨zs,uo,hz⟩:=Q5 (γ:=List Value×List AV) (Q:=fun i z=>W.cells? 0 (a.add (i*P.cellsOf e)) (P.cellsOf e)=some z.1/\Wc (Cx.memory W).bare z.2 z.1/\Cells z.2/\Data P e z.2) hel fun i y _ hy=>by
      obtain⟨c0,zJ,hr⟩:=Qa.1 hy;obtain⟨vU,h1,h2,h3⟩:=MD fO n e c0 y he hr;exact⟨(c0,vU),zJ,h1,h2,h3⟩
     rw[List.length_range]at uo;have hzi:∀(i:Nat) z,zs[i]?=some z->i<len/\W.cells? 0 (a.add (i*P.cellsOf e)) (P.cellsOf e)=some z.1/\Wc (Cx.memory W).bare z.2 z.1/\Cells z.2/\Data P e z.2:=fun i z hi=>by
      have Co:=(List.getElem?_eq_some_iff.1 hi).1;exact⟨by omega,hz i i z (by rw[List.getElem?_range (by omega)]) hi⟩
     have X7:∀(i:Nat) z,zs[i]?=some z->z.1.length=P.cellsOf e:=fun i z hi=>by
      have hc:=(hzi i z hi).2.1;by_cases hk:0<P.cellsOf e
      .exact(MG hc hk).choose_spec.2.2.2
      .have h0:P.cellsOf e=0:=by omega
       rw[h0]at hc|-;unfold World.cells? at hc;rw[if_pos (Qm _)]at hc;simp at hc;rw[hc];rfl
     have hvl:∀(i:Nat) z,zs[i]?=some z->z.2.length=P.cellsOf e:=fun i z hi=>by rw[<-X7 i z hi,(hzi i z hi).2.2.1.length]
     have qu:Data P t [.Cf (zs.map (·.2)).flatten (zs.map (·.2)).length (P.cellsOf e) true]:= .sl hu (by rw[List.length_map];omega) (fun l hl=>by
      obtain⟨z,pT,rfl⟩:=List.mem_map.1 hl;obtain⟨i,hi⟩:=List.mem_iff_getElem?.1 pT;exact hvl i z hi) (fun l hl=>by
      obtain⟨z,pT,rfl⟩:=List.mem_map.1 hl;obtain⟨i,hi⟩:=List.mem_iff_getElem?.1 pT;exact(hzi i z hi).2.2.2.2)
     have oU:Cells (zs.map (·.2)).flatten:=Hi fun l hl=>by
      obtain⟨z,pT,rfl⟩:=List.mem_map.1 hl;obtain⟨i,hi⟩:=List.mem_iff_getElem?.1 pT;exact(hzi i z hi).2.2.2.1
     refine⟨_,.cons ?_ .nil,by intro v hv;simp at hv;subst hv;rfl,qu⟩;rw[List.length_map,uo];have hlen:(zs.map (·.2)).flatten.length=len*P.cellsOf e:=by
      have:∀(l:List (List Value×List AV)),(∀z∈l,z.2.length=P.cellsOf e)->(l.map (·.2)).flatten.length=l.length*P.cellsOf e:=by
       intro l;induction l with
       |nil=>intro _;simp
       |cons b l ih=>grind
      rw[this zs fun z pT=>by
       obtain⟨i,hi⟩:=List.mem_iff_getElem?.1 pT;exact hvl i z hi,uo]
     by_cases h0:len*P.cellsOf e=0
     .rw[List.eq_nil_of_length_eq_zero (hlen.trans h0)];exact .W1 _ h0 hg.2.1
     .have hk:0<P.cellsOf e:=Nat.pos_of_ne_zero fun h=>h0 (by rw[h,Nat.mul_zero]);have eV:0<len:=Nat.pos_of_ne_zero fun h=>h0 (by rw[h,Nat.zero_mul]);obtain⟨z0,hz0⟩:∃z,zs[0]?=some z:=⟨_,Qi (by omega)⟩
      have zJ:=(hzi 0 z0 hz0).2.1;rw[Nat.zero_mul,show a.add 0=a from rfl]at zJ;obtain⟨ms,hM,hsp,hat0,_⟩:=MG zJ hk;obtain⟨Ci,off,spot⟩:=a;obtain rfl:spot=none:=hsp;have hats:∀(i:Nat) l,(zs.map (·.1))[i]?=some l->Y6 ms (off+i*P.cellsOf e) l:=fun i l hi=>by
       rw[List.getElem?_map]at hi;obtain⟨z,pT,rfl⟩:=Option.map_eq_some_iff.1 hi;have hc:=(hzi i z pT).2.1;rw[Bm]at hc;obtain⟨ms',hM',_,j4,_⟩:=MG hc hk;rw[show(⟨Ci,off+i*P.cellsOf e,none⟩:Addr).block=Ci from rfl,hM]at hM';cases hM';exact j4
      refine .Cf (vs:=(zs.map (·.1)).flatten) (ms:=ms) hlen hM ?_ ?_ ?_ oU hg.2.1
      .refine Ic _ _ (fun l hl=>?_) hats ?_
       .grind [List.mem_iff_getElem?]
       .obtain⟨p,q,e1,hp⟩:=hat0;rw[e1,Ql,Ql];have:p.length=off:=hp;omega
      .refine Wc.flatten (by simp) fun i b y h1 h2=>?_;rw[List.getElem?_map]at h1 h2;obtain⟨z,pT,rfl⟩:=Option.map_eq_some_iff.1 h1;rw[pT]at h2;cases h2;exact(hzi i z pT).2.2.1
      .intro _;refine Wc.flatten (by simp) fun i b y h1 h2=>?_;rw[List.getElem?_map]at h1 h2;obtain⟨z,pT,rfl⟩:=Option.map_eq_some_iff.1 h1;rw[pT]at h2;cases h2;exact(hzi i z pT).2.2.1
    .cases h
  .next fs hu=>
   obtain⟨xs,m,hm,-,hlen,oW,hx⟩:=DataW.trod_struct hu h;obtain rfl:n=m:=by omega
   rw[Qf]at hd;obtain⟨zs,uo,hz⟩:=J5 (γ:=List AV) (Q:=fun(f:Field) z=>Wc (Cx.memory W).bare z ((cs.drop f.offset).take (P.cellsOf f.type))/\Cells z/\Data P f.type z) (l:=fs.toList) fun f hf=>by
    have hft:f.type∈ts:=by grind
    obtain⟨i,hi⟩:=List.mem_iff_getElem?.1 hf;have hi':fs[i]?=some f:=by simpa using hi
    have Co:i<xs.length:=by grind
    have:=hx i f hi';rw[Qi Co]at this;exact MD fO n f.type _ _ hft this
   cases hl:kT P 0 fs.toList with
   |none=>rw[hl]at hd;cases hd.2
   |some m=>
    rw[hl]at hd;have hm:m=P.cellsOf t:=Qb hd.2;have hp:=NN (cs:=cs) hl (by omega) (Qm _);rw[List.drop_zero]at hp;refine⟨zs.flatten,?_,Hi fun z pT=>?_,.st hu uo fun i f l hf yj=>(hz i f l hf yj).2.2⟩
    .grind [Wc.flatten,Option.map_eq_some_iff]
    .grind [List.mem_iff_getElem?,List.getElem?_eq_some_iff,Qi]
  .cases hd
theorem SD (fO:rJ P ts=true) {t:TypeId} {fs:Array Field} {v:Value} {d:DataW H} {ps:List MemPlace} {r:Reach} {b0:Nat} (ht:ts.contains t=true) (hu:P.underlying t=some (.struct fs)) (hv:Value.okWide P W r b0 t v) (h:DataW.Trod enc P W 0 sp held t v d ps):
 ∃vU,VR (Cx.memory W) (.agg vU) v/\Data P t vU:=by
 unfold Value.okWide at hv;rw[hu]at hv;obtain⟨cs,rfl,-,-⟩:=hv;obtain⟨n,hn⟩:=h;obtain⟨vU,h1,h2,h3⟩:=MD fO n t _ _ (by simpa using ht) hn;exact⟨vU,.agg (h1.mono (Ext.n8 _)) h2,h3⟩
theorem VC (fO:rJ P ts=true) {t e:TypeId} {v:Value} {d:DataW H} {ps:List MemPlace} {r:Reach} {b0:Nat} (ht:ts.contains t=true) (hu:P.underlying t=some (.slice e)) (hv:Value.okWide P W r b0 t v) (h:DataW.Trod enc P W 0 sp held t v d ps):
 ∃av,VR (Cx.memory W) av v/\Data P t [av]:=by
 unfold Value.okWide Cell.okWide Cell.ok at hv;rw[hu]at hv;obtain⟨n,hn⟩:=h;obtain⟨vU,h1,h2,h3⟩:=MD fO n t _ _ (by simpa using ht) hn;have ud:v.cells.toList=[v]:=by
  cases v<;>first|rfl|(simp at hv)
 rw[ud]at h1;cases h1 with
 |cons ha hb=>
  cases hb;exact⟨_,ha.mono (Ext.n8 _),h3⟩
end
section
variable {E : Env} {fr : Fr} {l : Sl} {s : St} {o : Oper}
end
def CM {α:Type} (enc:α->List AV) (k:Nat) (l:List α):AV:= .Cf (l.flatMap enc) l.length k true
theorem QN {α:Type} {enc:α->List AV} {k:Nat} (h:∀a,(enc a).length=k):∀l:List α,(l.flatMap enc).length=l.length*k
 | []=>(Nat.zero_mul k).symm
 |a::l=>by rw[List.flatMap_cons,Ql,QN h l,h a,List.length_cons,Nat.succ_mul,Nat.add_comm]
theorem NY {α:Type} {enc:α->List AV} {k:Nat} (h:∀a,(enc a).length=k):∀ {l:List α} {i:Nat} (hi:i<l.length),(l.flatMap enc).drop (i*k)=enc l[i]++(l.drop (i+1)).flatMap enc
 |a::l,0,_=>by rw[Nat.zero_mul,List.drop_zero];rfl
 |a::l,i+1,hi=>by
  have ih:=NY h (l:=l) (i:=i) (by simpa using hi);rw[List.flatMap_cons,show(i+1)*k=(enc a).length+i*k by rw[h a,Nat.succ_mul,Nat.add_comm],List.drop_length_add_append,ih];rfl
theorem A9 {α:Type} {enc:α->List AV} {k:Nat} (h:∀a,(enc a).length=k+1) {l:List α} {i:Nat} (hi:i<l.length):CC (k+1) i (CM enc (k+1) l)=some (.Wl (enc l[i]++(l.drop (i+1)).flatMap enc)):=by
 unfold CM CC;simp only[show Nat.blt i l.length=true from Qd hi,cond_true];have Co:i*(k+1)<(l.flatMap enc).length:=by rw[QN h];exact Nat.mul_lt_mul_of_pos_right hi (Nat.succ_pos k)
 have hd:=NY h hi;have h1:XK (i*(k+1)) (l.flatMap enc)=some ((l.flatMap enc).drop (i*(k+1))):=by
  have:=If ((l.flatMap enc).take (i*(k+1))) ((l.flatMap enc).drop (i*(k+1)));rwa[List.take_append_drop,List.length_take,Nat.min_eq_left (by omega)]at this
 rw[h1,hd,Qe];cases he:enc l[i]with
 |nil=>have:=h l[i];rw[he]at this;cases this
 |cons c cs=>rfl
section
variable {E : Env} {fr : Fr} {l : Sl} {o : Oper} {all rest : List Oper} {i : Nat} {js : List Nat} {nl : Wu} {K : Sl -> St -> Prop} {st : St} {od : Option Nat}
theorem CK.append {KN:PN} {c:Call} {t e:TypeId} {ts:List TypeId} {x y:Operand} {sz VY n:Nat} {z a b v:AV} {new:List AV} {s2:St} (ho:o.op= .call c) (hc:c.callee= .builtin .append) (ht:c.argTypes.toList=t::ts) (ha:c.args.toList=[x,y])
 (hu:CN E t=some (.slice e)) (Xn:sizeOf E e=some sz) (ei:bytesOf E e=some VY) (hz:zeroOf E e=some z) (hk:(!(Nat.beq (WL z.cells) sz)||Nat.beq sz 0|| !(bK E ts.head?))=false) (h0:X5 E ts.head?=false)
 (hx:Ch x (CQ (tmpsOf o.op.operands.toList) l)=some a) (hy:Ch y (CQ (tmpsOf o.op.operands.toList) l)=some b) (hn:WJ (st.sub st.heap) sz b=some (new,n)) (hr:CA (st.sub st.heap) e sz VY new n a=some (v,s2))
 (aC:st.next<=s2.next) (Wk:∀b∈s2.log,b<st.next/\WC (CZ all i) b nl=true) (g9:fy (CZ all i) js=true) (dx:(nl.all fun p=>Nat.testBit (CZ all i) p.1)=true)
 (hg:CY all l o) (hd:o.dst=od) (Co:WB fr.nt od=true)
 (h:CK E KN all rest (i+1) fr (Xp od v l) (st.merged s2) (i::js) (Y4 i (Y4 i nl (YO st.next (s2.next-st.next))) s2.log) K):CK E KN all (o::rest) i fr l st js nl K:=
 Rk (x:=Cg E x) (f:=fun T s=>(Cg E x T).bind fun a=>(Cg E y T).bind fun b=>(WJ s sz b).bind fun p=>CA s e sz VY p.1 p.2 a) (by
  rw[ho];show Wz E o.type c=_;unfold Wz;rw[hc];simp only;rw[ht,ha];show cM E t ts.head? x y=_;unfold cM;rw[hu];simp only[Xn,ei,hz,hk,h0,cond_false]) (Zl.append ho hc ht ha hu Xn ei hz hk h0 hx hy hn hr) aC Wk g9 dx hg hd Co h
end
section
variable {E : Env} {fr : Fr} {l : Sl} {o : Oper} {all rest : List Oper} {i : Nat} {js : List Nat} {nl : Wu} {K : Sl -> St -> Prop} {st : St} {od : Option Nat}
theorem Bh {KN:PN} {t e:TypeId} {len sz:Nat} {parts:Array (Nat×Operand)} {z:AV} {ps:List (Nat×AV)} {cs:List AV} (ho:o.op= .buildSlice t (len+1) parts) (hu:CN E t=some (.slice e)) (hs:sizeOf E e=some sz) (hz:zeroOf E e=some z)
 (hk:(Nat.beq (WL z.cells) sz&&Nat.ble ((len+1)*sz) 16777216&& !(Nat.beq sz 0))=true) (hq:fV parts.toList (CQ (tmpsOf o.op.operands.toList) l)=some ps) (hf:ai (fun i=>some (i*sz,sz)) ps (Yk z.cells (len+1))=some cs)
 (hg:CY all l o) (hd:o.dst=od) (Co:WB fr.nt od=true)
 (h:CK E KN all rest (i+1) fr (Xp od (.slice st.next 0 (len+1) sz (some (len+1))) l) (st.alloc (.cells cs e false)) js ((i,st.next)::nl) K):CK E KN all (o::rest) i fr l st js nl K:=
 OG (f:=fun T=>(aD E parts.toList T).bind fun ps=>ZH e sz (len+1) (ai (fun i=>some (i*sz,sz)) ps (Yk z.cells (len+1)))) (g:=fun b=> .slice b 0 (len+1) sz (some (len+1))) (by
  rw[ho];show Ys E t (len+1) parts.toList=_;unfold Ys;rw[hu];simp only[hs,hz,hk,cond_true]) (fun T hT=>by
  simp only[G9 hT hq,Qe,hf];rfl) hg hd Co h
end
theorem Dy {Wf b:Nat}:∀ {nl:Wu},(nl.all fun p=>Nat.testBit Wf p.1)=true->WC Wf b nl=true
 | [],_=>rfl
 |(j,c)::nl,h=>by
  rw[List.all_cons,Qf]at h;exact O7 h.1 (Dy h.2)
theorem AH {n k:Nat} (h:n*(k+1)<=1099511627776) (hk:k+1<=1048576):small n (k+1)=true:=by
 have:n<=n*(k+1):=Nat.le_mul_of_pos_right _ (Nat.succ_pos k);unfold small;rw[Qd h,Qd (show n<=1099511627776 by omega),Qd hk];rfl
theorem Grown.strs {s:St} {e:TypeId} {v:AV} {l:List (List UInt8)} {n:Nat} (h:Grown s e 1 v (l.map .str) n) (hn:n=l.length):YV s v l:=by
 subst hn;rcases h with⟨rfl,h0,hc⟩|⟨b,rfl,hb,hg,hl,h0⟩
 .exact .inl ⟨U,by simpa using hc⟩
 .exact .inr (.inr ⟨b,0,none,_,_,_,rfl,hb,hg,by rw[List.length_map];omega,by rw[List.drop_zero,List.take_of_length_le (by rw[List.length_map];exact Qj _)],fun c hc=>by cases hc⟩)
section
variable {E : Env} {fr : Fr} {l : Sl} {s : St} {all rest : List Oper} {o : Oper}
theorem Gn {KP:AV->Sl->St->Prop} {K:Sl->St->Prop} {j e:Nat} {w b:Bool} {oj:Oper} (hg:o.guard=some (j,w)) (hj:nth all j=some oj) (he:oj.dst=some e) (hl:look e l=some (.bool b)) (hb:b=w)
 (h:CB E KP all ({o with guard:=none}::rest) fr l s K):CB E KP all (o::rest) fr l s K:=by
 intro T hT;obtain⟨M,ex,l',T',s2,hk,ZQ,hr⟩:=h T hT;refine⟨M,ex,l',T',s2,hk,ZQ,fun n hn=>?_⟩;have hr:=hr n hn;have dD:(Zv E all {o with guard:=none} (YS o.dst (al E all rest))).run (ev E n) fr T s=_:=hr;show(Zv E all o (YS o.dst (al E all rest))).run (ev E n) fr T s=_;unfold Zv guarded at dD|-;rw[hg];simp only at dD|-;rw[EL (g:=(j,w)) hj he (hT e _ hl)];have:(bif w then b else !b)=true:=by rw[hb];cases w<;>rfl
 rw[this];simp only[cp,cond_true];exact dD
theorem KY {st:St} {ob:Cw} {c:Nat}:(st.alloc ob).heap.get c=if c=st.next then some ob else st.heap.get c:=Ay ..
theorem A4 {st:St} {ob:Cw}:(st.alloc ob).heap.get st.next=some ob:=by rw[KY,if_pos rfl]
theorem Ao {st:St} {ob:Cw} {c:Nat} (h:c<st.next):(st.alloc ob).heap.get c=st.heap.get c:=by rw[KY,if_neg (Nat.ne_of_lt h)]
theorem XB.alloc {st:St} {ob:Cw} {own:Nat->Prop}:XB st (st.alloc ob) own:=
 ⟨Nat.le_succ _,rfl,fun _ h=> .inl h,fun _ hc _=>Ao hc⟩
end
section
variable {E : Env} {fr : Fr} {l : Sl} {s : St} {all rest : List Oper} {o : Oper} {K : Sl -> St -> Prop}
theorem Fv {KP:AV->Sl->St->Prop} {c:Call} {t f:Nat} {first captured args xs:List AV} {d:Nat} (hb:C7 E f=true) (ho:o.op= .call c) (hc:c.callee= .value (.tmp t)) (hv:look t l=some (.func (.func f) first captured)) (ha:WV c.args.toList l=some args) (hg:o.guard=none) (hd:o.dst=some d)
 (Co:Nat.blt d fr.nt=true) (hx:first++args++captured=xs) (h:VZ E f xs s fun v s'=>CB E KP all rest fr ((d,v)::l) s' K):CB E KP all (o::rest) fr l s K:=by
 subst hx;refine VJ (F:=Cg E (.tmp t)) (A:=CO E c.args.toList) ?_ (fun T hT=>hT t _ hv) (fun T hT=>AX hT ha) hb hg hd Co h;rw[ho];show Wz E o.type c=_;unfold Wz;rw[hc]
end
section
variable {E : Env} {fr : Fr} {l : Sl} {st : St} {o : Oper} {all rest : List Oper} {i : Nat} {js : List Nat} {nl : Wu} {K : Sl -> St -> Prop} {od : Option Nat}
theorem VG {KN:PN} {v:AV} (hq:Yb (Xz E o.type o.op)=true) (lJ:∀T,Has (CQ (tmpsOf o.op.operands.toList) l) T->Xh (Xz E o.type o.op) T= .all)
 (ho:Zl E o fr (CQ (tmpsOf o.op.operands.toList) l) (st.sub st.heap) v (st.sub st.heap)) (dx:(nl.all fun p=>Nat.testBit (CZ all i) p.1)=true) (hg:CY all l o) (hd:o.dst=od) (Co:WB fr.nt od=true)
 (h:CK E KN all rest (i+1) fr (Xp od v l) st (i::js) nl K):CK E KN all (o::rest) i fr l st js nl K:=by
 refine I2 hq (fun T news hn hT=>⟨.inl (Qh ..),?_⟩) (fun j hj=>Qg _ hj) hg hd Co h;rw[lJ T hT];have:Wv (CZ all i) news st.heap .all=st.heap:=HA dx hn;rw[this];exact I1 (ho T hT)
end
theorem Grown.zS {s:St} {e:TypeId} {sz VY n m:Nat} {v:AV} {cs new:List AV} (h:Grown s e sz v cs n) (ZN:new.length=m*sz) (Xn:0<sz) (XT:small (n+m) VY=true):
 ∃v' s',CA s e sz VY new m v=some (v',s')/\Grown s' e sz v' (cs++new) (n+m)/\(∀c,C6 c v'=true->C6 c v=true\/c=s.next)/\s.next<=s'.next/\s'.next<=s.next+1/\s'.bound=s.bound/\(∀c∈s'.log,c∈s.log\/(c<s.bound/\C6 c v=true))/\
  ∀c,c<s.next->C6 c v=false->s'.heap.get c=s.heap.get c:=by
 by_cases hm:m=0
 .subst hm;have:new=[]:=List.length_eq_zero_iff.1 (by rw[ZN,Nat.zero_mul]);subst this;refine⟨v,s,?_,by rw[List.append_nil];exact h,fun c hc=> .inl hc,Qj _,Nat.le_succ _,rfl,fun c hc=> .inl hc,fun c _ _=>rfl⟩;rcases h with⟨rfl,_⟩|⟨b,rfl,_⟩<;>rfl
 have au:Nat.beq m 0=false:=by grind [Qb]
 rcases h with⟨rfl,rfl,rfl⟩|⟨b,rfl,hb,hg,hl,h0⟩
 .rw[Nat.zero_add]at XT|-;refine⟨.slice s.next 0 m sz none,s.alloc (.cells new e true),?_,.inr ⟨s.next,rfl,Nat.lt_succ_self _,?_,by rw[List.nil_append,ZN],hm⟩,fun c hc=> .inr (Qb hc).symm,Nat.le_succ _,Qj _,rfl,fun c hc=> .inl hc,fun c hc _=>?_⟩
  .grind [CA]
  .show(s.heap.set s.next _).get s.next=_;rw[Ay,if_pos rfl,List.nil_append]
  .show(s.heap.set s.next _).get c=_;rw[Ay,if_neg (by omega)]
 .have YY:fj sz n m none cs=false:=by
   show Nat.ble ((n+m)*sz) (WL cs)=false;rw[Bl,hl];have h1:(n+m)*sz=n*sz+m*sz:=Nat.add_mul ..;have h2:0<m*sz:=Nat.mul_pos (Nat.pos_of_ne_zero hm) Xn;cases hb:Nat.ble ((n+m)*sz) (n*sz)with
   |false=>rfl
   |true=>have:=Qc hb;omega
  refine⟨.slice s.next 0 (n+m) sz none,(s.put b none).alloc (.cells (cs++new) e true),?_,.inr ⟨s.next,rfl,Nat.lt_succ_self _,?_,by rw[Ql,hl,ZN,Nat.add_mul],by omega⟩,fun c hc=> .inr (Qb hc).symm,Nat.le_succ _,Qj _,rfl,fun c hc=>?_,fun c hc ho=>?_⟩
  .unfold CA;simp only[au,cond_false,Nat.beq_refl,XT,Bool.and_self,cond_true,hg,YJ,ZG];rw[show XK 0 cs=some cs from rfl];simp only[Qe,YY,cond_false,Bool.true_or,cond_true];rw[<-hl,EO];rfl
  .show((s.heap.set b none).set s.next _).get s.next=_;rw[Ay,if_pos rfl]
  .rcases AR (s:=s) (b:=b) (o:=none) hc with h|⟨rfl,h⟩
   .exact .inl h
   .exact .inr ⟨h,Nat.beq_refl _⟩
  .show((s.heap.set b none).set s.next _).get c=_;have nH:c≠b:=fun h=>by subst h;rw[show C6 c (.slice c 0 n sz none)=true from Nat.beq_refl c]at ho;cases ho
   rw[Ay,if_neg (by omega),Ay,if_neg nH]
theorem Grown.own {s:St} {e:TypeId} {sz n:Nat} {v:AV} {cs:List AV} (h:Grown s e sz v cs n) {c:Nat} (hc:C6 c v=true):c<s.next:=by
 rcases h with⟨rfl,_⟩|⟨b,rfl,hb,_⟩
 .cases hc
 .have:=Qb (show Nat.beq b c=true from hc);omega
theorem Grown.len {s:St} {e:TypeId} {sz n:Nat} {v:AV} {cs:List AV} (h:Grown s e sz v cs n):dq v=some (.int .i64 (n:Nat)):=by
 rcases h with⟨rfl,rfl,_⟩|⟨b,rfl,_⟩<;>rfl
theorem IT {cs:List AV} {n sz:Nat} (h:n≠0):CJ cs n sz= .Cf cs n sz true:=by grind [CJ,Qb]
theorem Grown.j0 {s:St} {e:TypeId} {sz n:Nat} {v:AV} {cs:List AV} (h:Grown s e sz v cs n) (hp:cs.all er=true) (hc:cs.all (Cj 40)=true) (m:Nat):∃ks,Cs s 0 (m+2) v []=some (CJ cs n sz,ks):=by
 rcases h with⟨rfl,rfl,rfl⟩|⟨b,rfl,hb,hg,hl,h0⟩
 .exact⟨[],U⟩
 .rw[IT h0];refine⟨[b],?_⟩;show(Wp (s.heap.get b)).bind _=_;rw[hg];show(cut cs 0 (n*sz)).bind _=_;rw[Hf (by omega),List.drop_zero,List.take_of_length_le (by omega)];show(Cs.many (Cs s 0 (m+1)) cs []).bind _=_;rw[QK hp];show some (AV.Cf _ _ _ (cs.all (Cj 40)),_)=_;rw[hc]
theorem Grown.one {st:St} {e:TypeId} {sz VY n:Nat} {v:AV} {cs new:List AV} (h:Grown st e sz v cs n) (ZN:new.length=sz) (Xn:0<sz) (Z5:small 1 VY=true) (XT:small (n+1) VY=true) (hb:st.bound=0):
 ∃v' s2,CA ((st.alloc (.cells new e false)).sub (st.alloc (.cells new e false)).heap) e sz VY new 1 v=some (v',s2)/\st.next+1<=s2.next/\(∀b∈s2.log,b<st.next+1)/\
  Grown ((st.alloc (.cells new e false)).merged s2) e sz v' (cs++new) (n+1)/\(∀c,C6 c v'=true->st.next<=c)/\st.next<=((st.alloc (.cells new e false)).merged s2).next/\
  (∀c,c<st.next->C6 c v=false->((st.alloc (.cells new e false)).merged s2).heap.get c=st.heap.get c)/\((st.alloc (.cells new e false)).merged s2).log=st.log/\((st.alloc (.cells new e false)).merged s2).bound=0:=by
 have h1:Grown (st.alloc (.cells new e false)) e sz v cs n:=h.Wd (Nat.le_succ _) fun c hc=>Ao (h.own hc);obtain⟨v2,s3,ha2,vD,hl3,hG3,ho3,hk3,hlg3⟩:=h1.zQ ZN Xn Z5 XT;have hn3':s3.next=st.next+1+1:=vD;refine⟨v2,s3,ha2,by omega,hl3,hG3,fun c hc=>?_,?_,fun c hc ho=>(hk3 c (Nat.lt_succ_of_lt hc) ho).trans (Ao hc),hlg3 hb,hb⟩
 .rcases hG3 with⟨rfl,h,_⟩|⟨b,rfl,_⟩
  .cases hc
  .have e1:b=c:=Qb hc;have e2:b=st.next+1:=Qb ho3;omega
 .show st.next<=s3.next;omega
theorem DG {s:St} {b sz:Nat} {new:List AV} {e:TypeId} {part:Bool} {cap:Option Nat} (hg:s.heap.get b=some (.cells new e part)) (ZN:new.length=sz):WJ s sz (.slice b 0 1 sz cap)=some (new,1):=by
 show(bif Nat.beq sz sz then(Wp (s.heap.get b)).bind fun cs=>(XK 0 cs).bind fun l=>(takeN (1*sz) l).bind fun l=>some (l,1)else none)=_;rw[Nat.beq_refl,hg];show(takeN (1*sz) new).bind _=_;rw[Nat.one_mul,<-ZN,EO];rfl
section
variable {E : Env} {fr : Fr} {l : Sl} {st : St} {o : Oper} {all rest : List Oper} {i : Nat} {js : List Nat} {nl : Wu} {K : Sl -> St -> Prop} {od : Option Nat}
theorem OH {KN:PN} {c:Call} {t e:TypeId} {ts:List TypeId} {x y:Operand} {sz VY n:Nat} {z v:AV} {cs new:List AV} (aV:Grown st e sz v cs n) (hb:st.bound=0) (ZN:new.length=sz) (l8:0<sz) (Z5:small 1 VY=true) (XT:small (n+1) VY=true)
 (ho:o.op= .call c) (hc:c.callee= .builtin .append) (ht:c.argTypes.toList=t::ts) (ha:c.args.toList=[x,y])
 (hu:CN E t=some (.slice e)) (Xn:sizeOf E e=some sz) (ei:bytesOf E e=some VY) (hz:zeroOf E e=some z) (hk:(!(Nat.beq (WL z.cells) sz)||Nat.beq sz 0|| !(bK E ts.head?))=false) (h0:X5 E ts.head?=false)
 (hx:Ch x (CQ (tmpsOf o.op.operands.toList) l)=some v) (hy:Ch y (CQ (tmpsOf o.op.operands.toList) l)=some (.slice st.next 0 1 sz (some 1)))
 (g9:fy (CZ all i) js=true) (dx:(nl.all fun p=>Nat.testBit (CZ all i) p.1)=true) (hg:CY all l o) (hd:o.dst=od) (Co:WB fr.nt od=true)
 (h:∀v2 bN iD,Grown bN e sz v2 (cs++new) (n+1)->(∀c,C6 c v2=true->st.next<=c)->st.next<=bN.next->(∀c,c<st.next->C6 c v=false->bN.heap.get c=st.heap.get c)->bN.log=st.log->bN.bound=0->
  CK E KN all rest (i+1) fr (Xp od v2 l) bN (i::js) iD K):CK E KN all (o::rest) i fr l (st.alloc (.cells new e false)) js nl K:=by
 obtain⟨v2,s2,h1,h2,h3,h4,h5,h6,h7,h8,h9⟩:=aV.one (VY:=VY) ZN l8 Z5 XT hb;refine CK.append ho hc ht ha hu Xn ei hz hk h0 hx hy ?_ h1 h2 (fun b hb=>⟨h3 b hb,Dy dx⟩) g9 dx hg hd Co (h _ _ _ h4 h5 h6 h7 h8 h9);exact DG (e:=e) (part:=false) A4 ZN
theorem MI {s:St} {cs:List AV} {m sz:Nat} (h:cs.length=m*sz):WJ s sz (CJ cs m sz)=some (cs,m):=by
 unfold CJ;cases hb:Nat.beq m 0 with
 |true=>
  have:m=0:=Qb hb;subst this;have:cs=[]:=List.length_eq_zero_iff.1 (by rw[h,Nat.zero_mul]);subst this;rfl
 |false=>
  show(bif Nat.beq sz sz then(takeN (m*sz) cs).bind fun l=>some (l,m)else none)=_;rw[Nat.beq_refl,<-h,EO];rfl
end
section
variable {E : Env} {fr : Fr} {l : Sl} {st s : St} {o : Oper} {all rest : List Oper} {i : Nat} {js : List Nat} {nl : Wu} {K : Sl -> St -> Prop} {od : Option Nat}
end
section
variable {E : Env} {l : Sl} {o : Oper}
end
section
variable {E : Env} {fr : Fr} {l : Sl} {s st : St} {o : Oper} {all rest : List Oper} {i : Nat} {js : List Nat} {nl : Wu} {K : Sl -> St -> Prop} {od : Option Nat}
end
theorem Uk {st s2:St} (hn:st.next<=s2.next) (ZE:∀c,c<st.next->c∉s2.log->s2.heap.get c=st.heap.get c):∀c,c<s2.next->(st.merged s2).heap.get c=s2.heap.get c:=by
 intro c hc;show(W8 s2.heap (YO st.next (s2.next-st.next)) (W8 s2.heap s2.log st.heap)).get c=_;rw[Bz,Bz];by_cases h1:c∈YO st.next (s2.next-st.next)
 .rw[if_pos h1]
 .grind [Iv]
theorem Ep:∀ {rs:List Nat} {s:St},rs.Nodup->(∀r∈rs,s.heap.get r=some (.defs true))->∃s',Zm (rs.map fun r=> {target:= .collected r,args:=[]}) s=some s'/\s'.next=s.next/\s'.bound=s.bound/\(s.bound=0->s'.log=s.log)/\∀c,c∉rs->s'.heap.get c=s.heap.get c
 | [],s,_,_=>⟨s,rfl,rfl,rfl,fun _=>rfl,fun _ _=>rfl⟩
 |r::rs,s,aB,h=>by
  have hr:=h r (Qh ..);obtain⟨hr1,qz⟩:=List.nodup_cons.1 aB;obtain⟨s',h1,h2,h3,h4,h5⟩:=Ep (rs:=rs) (s:=s.put r (some (.defs false))) qz (fun q hq=>by
   rw[Aw,if_neg (show¬q=r from fun e=>hr1 (e▸hq))];exact h q (Qg _ hq))
  refine⟨s',?_,h2,h3,fun hb=>(h4 hb).trans (Ez hb),fun c hc=>?_⟩
  .show(match s.heap.get r with
    |some (.defs true)=>Zm (rs.map _) (s.put r (some (.defs false)))
    |_=>none)=_
   rw[hr];exact h1
  .rw[h5 c (fun h=>hc (Qg _ h)),Aw,if_neg (show¬c=r from fun e=>hc (e▸Qh ..))]
theorem EY {n c:Nat}:∀ {L l:List Nat},c∈L->c<n->c∈below n L l
 |b::L,l,h,hn=>by
  show c∈(bif Nat.blt b n then b::below n L l else below n L l);rcases Qk.1 h with rfl|h
  .rw[show Nat.blt c n=true from Qd hn];exact Qh ..
  .cases Nat.blt b n with
   |true=>exact Qg _ (EY h hn)
   |false=>exact EY h hn
theorem HQ {E:Env} {f:FuncId} {fn:Func} {c:Code} {args:List AV} {v:AV} {rs:List ResultVar} {fr:Fr} {l0:Sl} (hz:E.j0 f=1) (hm:E.Y3 f args=none) (hf:E.fns.get f=some fn) (hc:fn.body=some c) (hr:fn.results.toList=rs)
 (aU:frame fn.ntmps args none=fr) (hl:ZS 0 args []=l0)
 (h:Cz E c fr l0 (Xj 0 0 [] []) fun ex fr l st=>(ex= .ret\/ex= .normal)/\∃ZD,Zm fr.defers st=some ZD/\ZD.log=[]/\ZD.bound=0/\∃vs w ks,CI E ZD l rs=some vs/\Cs ZD 0 40 (ck vs) []=some (w,ks)/\Cr 0 40 w=true/\w=v):Cc E f args S0 v:=
 HR hm hf hc hr aU hl (Cz.mono (s:=S0.enter) h fun ex fr l st ⟨h1,ZD,h2,h3,h4,vs,w,ks,h5,h6,h7,h8⟩=>⟨h1,ZD,h2,vs,h5,by rw[<-h8];exact Q8 hz h3 h4 h6 h7⟩)
theorem Si {E:Env} {f:FuncId} {v:AV} {s st:St} (hf:E.j0 f=1) (hl:st.log=[]) (hk:Cs st s.next 40 v []=some (v,[])) (hu:Cr s.next 40 v=false):leave E f s v st=some (.val v (s.back st)):=by grind [YF,kill,leave,frozen,Wm]
theorem AN {s:St} {b c:Nat} {o:Option Cw} (h:c∈s.log):c∈(s.put b o).log:=by
 show c∈(bif Nat.blt b s.bound then XL b s.log else s.log);cases Nat.blt b s.bound with
 |false=>exact h
 |true=>
  rw[cond_true];cases hl:s.log with
  |nil=>rw[hl]at h;cases h
  |cons d l=>
   rw[hl]at h;show c∈(bif Nat.beq b d then d::l else b::d::l);cases Nat.beq b d with
   |true=>exact h
   |false=>exact Qg _ h
theorem dT {p:Prop} [Decidable p] (h:decide p=true):p:=of_decide_eq_true h
theorem dF {p:Prop} [Decidable p] (h:decide p=false):¬p:=of_decide_eq_false h
theorem LL {α:Type}:(∀a b:List α,(a++b).length=a.length+b.length)/\(∀(a:α) (b:List α),(a::b).length=b.length+1)/\([]:List α).length=0/\(∀(i:Nat) (b:List α),(b.take i).length=min i b.length)/\∀(i:Nat) (b:List α),(b.drop i).length=b.length-i:=
 ⟨fun _ _=>Ql,fun _ _=>rfl,rfl,fun _ _=>List.length_take,fun _ _=>List.length_drop⟩
theorem t2 {α β:Type} {a a':α} {b b':β} (h:(a,b)=(a',b')):a=a'/\b=b':=by cases h;exact⟨rfl,rfl⟩
section
variable {E : Env} {fr : Fr} {l : Sl} {s : St} {all rest : List Oper} {o : Oper} {K : Sl -> St -> Prop} {Q : Ex -> Fr -> Sl -> St -> Prop} {v : AV} {s' : St} {d : Nat}
theorem Ld {KP:AV->Sl->St->Prop} (h:K l s):CB E KP all [] fr l s K:=Fu h
theorem Lo {KP:AV->Sl->St->Prop} (ho:Zl E o fr l s v s') (hg:(o.guard,o.dst,Nat.blt d fr.nt)=(none,some d,true)) (h:CB E KP all rest fr ((d,v)::l) s' K):CB E KP all (o::rest) fr l s K:=
 CB.op ho (t2 hg).1 (t2 (t2 hg).2).1 (t2 (t2 hg).2).2 h
theorem Lq {KP:AV->Sl->St->Prop} (ho:X9 E o l v) (hg:(o.guard,o.dst,Nat.blt d fr.nt)=(none,some d,true)) (h:CB E KP all rest fr ((d,v)::l) s K):CB E KP all (o::rest) fr l s K:=
 Lo (VT ho) hg h
theorem qa {KP:AV->Sl->St->Prop} {x:Operand} (hg:(o.op,Ch x l,o.guard,o.dst,Nat.blt d fr.nt)=(.assign x,some v,none,some d,true)) (h:CB E KP all rest fr ((d,v)::l) s K):CB E KP all (o::rest) fr l s K:=
 Lq (X9.assign (t2 hg).1 (t2 (t2 hg).2).1) (t2 (t2 hg).2).2 h
theorem qm {KP:AV->Sl->St->Prop} {x:Operand} (hg:(o.op,Ch x l,o.guard,o.dst,Nat.blt d fr.nt)=(.move x,some v,none,some d,true)) (h:CB E KP all rest fr ((d,v)::l) s K):CB E KP all (o::rest) fr l s K:=
 Lq (Ro (t2 hg).1 (t2 (t2 hg).2).1) (t2 (t2 hg).2).2 h
theorem o2 {op:BinOp} {t yt:TypeId} {x y:Operand} {k:IntKind} {a b:Int} {f:IntKind->Int->Int->Option AV} (hu:CN E t=some (.int k)) (ho:(o.op,mN op)=(.binOp op t x y yt,some f))
 (hx:(Ch x l,Ch y l,f k a b)=(some (.int k a),some (.int k b),some v)):X9 E o l v:=
 FP (t2 ho).1 hu (t2 ho).2 (t2 hx).1 (t2 (t2 hx).2).1 (t2 (t2 hx).2).2
theorem of {t:TypeId} {x:Operand} {i off n:Nat} {agg:Bool} {b k:Nat} (hf:Zd E t i=some (off,n+1,agg)) (ho:(o.op,Ch x l)=(.fieldAddr t x i,some (.ptr b k))):X9 E o l (.ptr b (k+off)):=
 Hn (t2 ho).1 hf (t2 ho).2
theorem oT {c x y:Operand} {b:Bool} (ho:(o.op,Ch c l)=(.pick c x y,some (.bool b))) (hb:b=true) (hx:Ch x l=some v):X9 E o l v:=OJ (t2 ho).1 (t2 ho).2 hb hx
theorem oF {c x y:Operand} {b:Bool} (ho:(o.op,Ch c l)=(.pick c x y,some (.bool b))) (hb:b=false) (hx:Ch y l=some v):X9 E o l v:=OL (t2 ho).1 (t2 ho).2 hb hx
theorem on {t:TypeId} {x:Operand} {b:Bool} (ho:(o.op,Ch x l)=(.unOp .not t x,some (.bool b))):X9 E o l (.bool (!b)):=VN (t2 ho).1 (t2 ho).2
variable {j e : Nat} {w b : Bool} {oj : Oper}
theorem Lk {KP:AV->Sl->St->Prop} (hg:(o.guard,nth all j,oj.dst,look e l,o.dst,Nat.blt d fr.nt)=(some (j,w),some oj,some e,some (.bool b),some d,true)) (hb:b= !w) (h:CB E KP all rest fr ((d,.tuple [])::l) s K):CB E KP all (o::rest) fr l s K:=
 have h1:=t2 hg;have h2:=t2 h1.2;have h3:=t2 h2.2;have h4:=t2 h3.2;have h5:=t2 h4.2
 JK h1.1 h2.1 h3.1 h4.1 hb h5.1 h5.2 h
theorem Lg {KP:AV->Sl->St->Prop} (hg:(o.guard,nth all j,oj.dst,look e l,o.dst,Nat.blt d fr.nt)=(some (j,w),some oj,some e,some (.bool b),some d,true)) (hb:b=w) (ho:Zl E o fr l s v s') (h:CB E KP all rest fr ((d,v)::l) s' K):CB E KP all (o::rest) fr l s K:=
 have h1:=t2 hg;have h2:=t2 h1.2;have h3:=t2 h2.2;have h4:=t2 h3.2;have h5:=t2 h4.2
 MO h1.1 h2.1 h3.1 h4.1 hb ho h5.1 h5.2 h
theorem Lh {KP:AV->Sl->St->Prop} (hg:(o.guard,nth all j,oj.dst,look e l,o.dst,Nat.blt d fr.nt)=(some (j,w),some oj,some e,some (.bool b),some d,true)) (hb:b=w) (ho:X9 E o l v) (h:CB E KP all rest fr ((d,v)::l) s K):CB E KP all (o::rest) fr l s K:=
 Lg hg hb (VT ho) h
theorem Lb {KP:AV->Sl->St->Prop} (hg:(o.guard,nth all j,oj.dst,look e l)=(some (j,w),some oj,some e,some (.bool b))) (h1:b=true->CB E KP all (o::rest) fr l s K) (h0:b=false->CB E KP all (o::rest) fr l s K):CB E KP all (o::rest) fr l s K:=
 have h2:=t2 hg;have h3:=t2 h2.2;have h4:=t2 h3.2
 VK h2.1 h3.1 h4.1 h4.2 h1 h0
theorem Es {k:Nat} {ops:Array Oper} {b:Code} (h:CB E (fun v l s=>Q (.panic v) fr l s) ops.toList ops.toList fr l s fun l s=>Cz E b fr l s Q):Cz E (.seq (.region k ops false) b) fr l s Q:=Gp h
theorem Ec {x:Operand} {a b:Code} {t:Bool} (hx:Ch x l=some (.bool t)) (h1:t=true->Cz E a fr l s Q) (h0:t=false->Cz E b fr l s Q):Cz E (.cond x a b) fr l s Q:=Hq hx h1 h0
theorem Er {t:Nat} {rs:List ResultVar} {w v v':AV} {ks:List Nat} (hg:(fr.defers,s.log,s.bound,rs,look t l,Cs s 0 40 v [],Cr 0 40 w)=([],[],0,[.tmp t],some v,some (w,ks),true)) (hw:w=v'):
 (Ex.ret= .ret\/Ex.ret= .normal)/\fr.defers=[]/\s.log=[]/\s.bound=0/\∃vs w ks,CI E s l rs=some vs/\Cs s 0 40 (ck vs) []=some (w,ks)/\Cr 0 40 w=true/\w=v':=by
 have h1:=t2 hg;have h2:=t2 h1.2;have h3:=t2 h2.2;have h4:=t2 h3.2;have h5:=t2 h4.2;have h6:=t2 h5.2;refine⟨.inl U,h1.1,h2.1,h3.1,[v],w,ks,?_,h6.1,h6.2,hw⟩;rw[h4.1];exact Aa h5.1 rfl
end
section
variable {E : Env} {fr : Fr} {l : Sl} {o : Oper} {n m bd : Nat} {lg : List Nat} {hl : Hl}
theorem l1 {t:TypeId} {a:Operand} {k b off:Nat} {v:AV} {cs:List AV} {e:TypeId} {part:Bool} (h1:isAgg E t=some false) (h2:sizeOf E t=some k)
 (ho:(o.op,Ch a l,aP b hl,cs[off]?)=(.load t a,some (.ptr b off),some (.cells cs e part),some v)):Zl E o fr l (Xj n bd lg hl) v (Xj n bd lg hl):=
 have h:=t2 ho;have h':=t2 h.2;have h'':=t2 h'.2
 LJ h.1 h1 h2 h'.1 h''.1 h''.2
end
section
variable {E : Env} {fr : Fr} {l : Sl} {st : St} {o : Oper} {all rest : List Oper} {i : Nat} {js : List Nat} {nl : Wu} {K : Sl -> St -> Prop} {od : Option Nat} {v : AV} {j e : Nat} {w b : Bool} {oj : Oper}
theorem Nq {KN:PN} (ho:X9 E o (CQ (tmpsOf o.op.operands.toList) l) v) (hg:(o.guard,o.dst,WB fr.nt od)=(none,od,true)) (h:CK E KN all rest (i+1) fr (Xp od v l) st js nl K):CK E KN all (o::rest) i fr l st js nl K:=
 ML ho (.inl (t2 hg).1) (t2 (t2 hg).2).1 (t2 (t2 hg).2).2 h
end
section
variable {E : Env} {fr : Fr} {l : Sl} {st : St} {o : Oper} {all rest : List Oper} {i : Nat} {js : List Nat} {nl : Wu} {K : Sl -> St -> Prop} {od : Option Nat}
end
end Am
